import PyProof.Rows.All
import Wide.All
import OpenK.AllK
import Wide.FinOn
import HandS.ForMost
import HandS.ForExc
import HandS.ExcValue
import HandS.IsInst
import HandS.Walk
import HandS.Wide
import HandS.TupLe
import HandS.TupAny
import PyProof.StrBlock2
import HandS.CallSlots
import HandS.SortInts
import HandS.ExcIs
import HandS.TryOnly
import HandS.Zip
import KE.GoesEnum
import HandS.Style
import HandS.SetFor
import HandS.More
import HandS.Defaults
import HandS.Head0
import HandS.Head1
import HandS.Head2
import HandS.HeadEnd
import HandS.HeadHook1
import HandS.HeadHook2
import KE.KStateDown
import Lean
import PySem.Challenge.RW_dueanywhere_k29_due_days_walked
set_option Elab.async false
set_option linter.all false
set_option maxRecDepth 100000
set_option maxHeartbeats 4000000
namespace Pl
open PySem

/-- plain data: nothing in it is ever changed again. scr: the script's own list. exc: an error object, its class (by number), its field -/
inductive P where
  | non | bl (b : Bool) | int (i : Int) | str (s : Str) | tup (xs : List P) | lst (xs : List P) | exc (c : Nat) (fs : List P)
  | scr (xs : List P)
  | any                                           -- a value of which nothing is known
  deriving Inhabited
/-- what a slot holds: plain data, or a list (a dict) of one's own that may be changed -/
inductive D where
  | p (x : P) | l (xs : List D) | d (ks : List L2.Key) (xs : List P)
  deriving Inhabited

mutual
def frz : D → P
  | .p x => x
  | .l xs => .lst (frzL xs)
  | .d _ _ => .any
def frzL : List D → List P
  | [] => []
  | d :: ds => frz d :: frzL ds
end

abbrev Env := List (Option D)
/-- what comes out: a value, an error (with the slots as they stand then), or nothing that is known -/
inductive Out (α : Type) where
  | ok (a : α) (ρ : Env) | exc (c : Nat) (fs : List P) (ρ : Env) | bad
/-- what a call brings: its value, and the first parameter as it stands at its end (if it may be changed) -/
inductive Ret where
  | ok (d : D) (out : Option D) | exc (c : Nat) (fs : List P) | bad

/-- classes for isinstance -/
inductive Ty where
  | int | bool | str | list | tuple | verr | cls (c : Nat)
  deriving DecidableEq

/-- targets -/
inductive Pat where
  | v (i : Nat) | t (ps : List Pat)

/-- built-in functions -/
inductive Bi where
  | len | abs | max2 | min2 | int | divmod | list | tuple | sum | all | any | maxL | minL | sorted
  deriving DecidableEq

inductive Ex where
  | lit (x : P)
  | var (i : Nat)
  | glob (g : Nat)
  | bin (op : Operator) (a b : Ex)
  | neg (a : Ex)
  | not (a : Ex)
  | cmp (op : CmpOp) (a b : Ex)
  | chain (o1 o2 : CmpOp) (a b c : Ex)
  | and (es : List Ex)
  | or (es : List Ex)
  | ife (c a b : Ex)
  | tup (es : List Ex)
  | lst (es : List Ex)
  | idx (a i : Ex)
  | idx2 (s : Nat) (i j : Ex)
  | slc (a : Ex) (lo hi : Option Ex)
  | call (f : Nat) (es : List Ex) (ks : List Nat) (kes : List Ex)
  | bi (b : Bi) (es : List Ex)
  | isi (e : Ex) (ts : List Ty) (par : Bool) (nc : Nat)
  | mkx (c : Nat) (e : Ex)
  | comp (elt : Ex) (pt : Pat) (own : List Nat) (it : Ex) (cs : List Ex)
  -- what is walked (at a for, a comprehension)
  | rng1 (a : Ex) | rng2 (a b : Ex) | enum (a : Ex) | zip (a b : Ex) | rng3 (a b c : Ex)
  | view (e : Ex)                                 -- e itself, all lists of one's own being looked at as plain data; its value is no object
  | cnt (s : Nat) (b : Ex)                        -- x.count(b)
  | dnil                                          -- {}
  | keys (s : Nat)                                -- list(x), x a dict of one's own
  | opq                                           -- any text: nothing is known of it

/-- an except suite: return isinstance(e, C) and ..; return a constant -/
inductive Su where
  | retIs (i : Nat) (ts : List Ty)
  | retC (x : P)
  | keep (i j : Nat)                              -- y = e, e in slot i, y in slot j
inductive Sm where
  | asg (pt : Pat) (e : Ex)
  | par (is : List Nat) (es : List Ex)
  | asgL (i : Nat) (e : Ex)                       -- x = [.. for ..], stored within the comprehension's frame
  | set (s : Nat) (i e : Ex)                      -- x[i] = e
  | set2 (s : Nat) (i j e : Ex)                   -- x[i][j] = e
  | dset (s : Nat) (i e : Ex)                     -- x[i] = e, x a dict
  | aug (i : Nat) (op : Operator) (e : Ex)
  | app (s : Nat) (e : Ex)                        -- x.append(e)
  | expr (e : Ex)
  | ife (c : Ex) (a b : List Sm)
  | for_ (pt : Pat) (it : Ex) (b : List Sm)
  | while_ (c : Ex) (b : List Sm)
  | ret (e : Ex)
  | retV (i : Nat)                                -- return x: the slot is given away
  | raise (c : Nat) (msg : Str)
  | raiseF (c : Nat) (e : Ex)
  | try_ (b : List Sm) (c nc : Nat) (su : Su)             -- except C [as x]; nc: the number of classes
  | pass | brk | cont
  | opq                                           -- any statement: nothing is known of it
  | frz (i : Nat)                                 -- nothing in the text: from here on the slot's list is not changed

def mulOk (i j : Int) : Bool := decide (i.natAbs < 2 ^ 64) || decide (j.natAbs < 2 ^ 64) || decide (i.natAbs.log2 + j.natAbs.log2 < 1000000)
def divOk (j : Int) : Bool := decide (0 < j) && (decide (j < 2 ^ 64) || decide (j.natAbs.log2 < 9000))
def powOk (a n : Int) : Bool := decide (0 ≤ n) && decide ((Builtin.Int.intBits a : Int) * n ≤ 2 ^ 27)

def mulSOk (s : Str) (k : Int) : Bool := decide (0 ≤ k) && decide (k ≤ 1000) && decide (s.length ≤ 1000)
def binop : Operator → P → P → Option D
  | .Add, .int i, .int j => some (.p (.int (i + j)))
  | .Sub, .int i, .int j => some (.p (.int (i - j)))
  | .Mult, .int i, .int j => if mulOk i j then some (.p (.int (i * j))) else none
  | .FloorDiv, .int i, .int j => if divOk j then some (.p (.int (i / j))) else none
  | .Mod, .int i, .int j => if decide (0 < j) then some (.p (.int (i % j))) else none
  | .Pow, .int i, .int j => if powOk i j then some (.p (.int (i ^ j.toNat))) else none
  | .Add, .lst xs, .lst ys => if xs.length + ys.length ≤ 16777216 then some (.l ((xs ++ ys).map .p)) else none
  | .Add, .tup xs, .tup ys => if xs.length + ys.length ≤ 16777216 then some (.p (.tup (xs ++ ys))) else none
  | .Mult, .lst xs, .int k => if decide (-(2 ^ 63) ≤ k) && decide (k < 2 ^ 63) && decide (xs.length * k.toNat ≤ 16777216) then some (.l ((List.replicate k.toNat xs).flatten.map .p)) else none
  | .Mult, .str s, .int k => if mulSOk s k then some (.p (.str (Txt.mul s k))) else none
  | _, _, _ => none

mutual
def P.toPy : P → Option PyData
  | .non => some .none
  | .bl b => some (.bool b)
  | .int i => some (.int i)
  | .str s => some (.str s)
  | .tup xs => (P.toPyL xs).map .tuple
  | .lst xs => (P.toPyL xs).map .list
  | .exc _ _ => none
  | .scr _ => none
  | .any => none
def P.toPyL : List P → Option (List PyData)
  | [] => some []
  | x :: xs => (P.toPy x).bind fun d => (P.toPyL xs).map (d :: ·)
end
def eqP (x y : P) : Option Bool := x.toPy.bind fun d => y.toPy.bind fun e => if SeqAt.shaped d && SeqAt.shaped e then some (PyData.eqv d e) else none

def isNon : P → Bool
  | .non => true
  | _ => false
def isNonO : P → Option Bool
  | .any => none
  | .non => some true
  | _ => some false
def P.flat : P → Bool
  | .non => true | .bl _ => true | .int _ => true | .str _ => true | _ => false
def P.toV : P → L2.V
  | .non => .non | .bl b => .bl b | .int i => .int i | .str s => .str s | _ => .non

def inP (x : P) (xs : List P) : Option Bool := if x.flat && xs.all P.flat then some (L2.inV x.toV (xs.map P.toV)) else none
/-- .. of any depth -/
def inD (x : P) (xs : List P) : Option Bool := x.toPy.bind fun d => (P.toPyL xs).bind fun ds => if SeqAt.shaped d && SeqAt.shaped (.list ds) then some (ds.any fun z => PyData.eqv z d) else none
def inA (x : P) (xs : List P) : Option Bool := match x with
  | .tup _ => inD x xs
  | .lst _ => inD x xs
  | _ => inP x xs

def cmpop : CmpOp → P → P → Option Bool
  | .Lt, .int i, .int j => some (decide (i < j))
  | .LtE, .int i, .int j => some (decide (i ≤ j))
  | .Gt, .int i, .int j => some (decide (j < i))
  | .GtE, .int i, .int j => some (decide (j ≤ i))
  | .Eq, .int i, .int j => some (decide (i = j))
  | .NotEq, .int i, .int j => some (!decide (i = j))
  | .Eq, x, y => eqP x y
  | .NotEq, x, y => (eqP x y).map (!·)
  | .Is, x, .non => isNonO x
  | .IsNot, x, .non => (isNonO x).map (!·)
  | .Is, .bl a, .bl b => some (decide (a = b))
  | .IsNot, .bl a, .bl b => some (!decide (a = b))
  | .In, x, .lst xs => inA x xs
  | .In, x, .tup xs => inA x xs
  | .NotIn, x, .lst xs => (inA x xs).map (!·)
  | .NotIn, x, .tup xs => (inA x xs).map (!·)
  | _, _, _ => none

def idxP : P → P → Option P
  | .tup xs, .int i => L2.atI xs i
  | .lst xs, .int i => L2.atI xs i
  | .scr xs, .int i => L2.atI xs i
  | _, _ => none

/-- the part lo:hi -/
def cutP (xs : List P) (lo hi : Option Int) : List P := List.take (HT.sIx xs.length xs.length hi - HT.sIx xs.length 0 lo) (List.drop (HT.sIx xs.length 0 lo) xs)
def sliceP : P → Option Int → Option Int → Option D
  | .lst xs, lo, hi => some (.l ((cutP xs lo hi).map .p))
  | .scr xs, lo, hi => some (.l ((cutP xs lo hi).map .p))
  | .tup xs, lo, hi => some (.p (.tup (cutP xs lo hi)))
  | _, _, _ => none

def ints? : List P → Option (List Int)
  | [] => some []
  | .int i :: xs => (ints? xs).map (i :: ·)
  | _ :: _ => none
def bools? : List P → Option (List Bool)
  | [] => some []
  | .bl b :: xs => (bools? xs).map (b :: ·)
  | _ :: _ => none
def maxI : Int → List Int → Int
  | m, [] => m
  | m, x :: xs => maxI (if x > m then x else m) xs
def minI : Int → List Int → Int
  | m, [] => m
  | m, x :: xs => minI (if x < m then x else m) xs

/-- in order -/
def insI (x : Int) : List Int → List Int
  | [] => [x]
  | y :: ys => if x ≤ y then x :: y :: ys else y :: insI x ys
def sortI : List Int → List Int
  | [] => []
  | x :: xs => insI x (sortI xs)
def biop : Bi → List P → Option D
  | .len, [.lst xs] => some (.p (.int xs.length))
  | .len, [.tup xs] => some (.p (.int xs.length))
  | .len, [.scr xs] => some (.p (.int xs.length))
  | .abs, [.int i] => some (.p (.int (if i < 0 then -i else i)))
  | .max2, [.int i, .int j] => some (.p (.int (if j > i then j else i)))
  | .min2, [.int i, .int j] => some (.p (.int (if j < i then j else i)))
  | .int, [.int i] => some (.p (.int i))
  | .int, [.bl k] => some (.p (.int (if k then 1 else 0)))
  | .divmod, [.int i, .int j] => if decide (0 < j) && decide (j < 1073741824) then some (.p (.tup [.int (i / j), .int (i % j)])) else none
  | .list, [.lst xs] => some (.l (xs.map .p))
  | .list, [.tup xs] => some (.l (xs.map .p))
  | .tuple, [.lst xs] => some (.p (.tup xs))
  | .tuple, [.tup xs] => some (.p (.tup xs))
  | .sum, [.lst xs] => (ints? xs).map fun ns => .p (.int ns.sum)
  | .all, [.lst xs] => (bools? xs).map fun bs => .p (.bl (bs.all id))
  | .any, [.lst xs] => (bools? xs).map fun bs => .p (.bl (bs.any id))
  | .maxL, [.lst xs] => (ints? xs).bind fun ns => match ns with | [] => none | n :: r => some (.p (.int (maxI n r)))
  | .sorted, [.lst xs] => (ints? xs).map fun ns => .l ((sortI ns).map fun n => .p (.int n))
  | .minL, [.lst xs] => (ints? xs).bind fun ns => match ns with | [] => none | n :: r => some (.p (.int (minI n r)))
  | _, _ => none

/-- of which classes a thing is; class 0 is the base of all own error classes -/
def isTy : Ty → P → Bool
  | .int, .int _ => true
  | .int, .bl _ => true
  | .bool, .bl _ => true
  | .str, .str _ => true
  | .list, .lst _ => true
  | .list, .scr _ => true
  | .tuple, .tup _ => true
  | .verr, .exc _ _ => true
  | .cls c, .exc k _ => decide (c = 0) || decide (c = k)
  | _, _ => false

mutual
def bindPat : Pat → P → Env → Option Env
  | .v i, x, ρ => some (ρ.set i (some (.p x)))
  | .t ps, .tup xs, ρ => bindPats ps xs ρ
  | .t ps, .lst xs, ρ => bindPats ps xs ρ
  | .t _, _, _ => none
def bindPats : List Pat → List P → Env → Option Env
  | [], [], ρ => some ρ
  | p :: ps, x :: xs, ρ => (bindPat p x ρ).bind fun ρ1 => bindPats ps xs ρ1
  | _, _, _ => none
end

def getD (ρ : Env) (i : Nat) : Option D := (ρ[i]?).bind id
def getP (ρ : Env) (i : Nat) : Option P := (getD ρ i).bind fun d => match d with
  | .p x => some x
  | _ => none


/-- a def of the text: its parameters' number, whether the first one is changed, its slots, its body -/
structure Fn where
  np : Nat
  mt : Bool
  ns : Nat
  body : List Sm

def wipeE (ρ : Env) : List Nat → Env
  | [] => ρ
  | i :: is => (wipeE ρ is).set i none
/-- the comprehension's own slots as they were ahead of it -/
def backE (ρ0 ρ : Env) : List Nat → Env
  | [] => ρ
  | i :: is => backE ρ0 (ρ.set i ((ρ0[i]?).bind id)) is
/-- no list of one's own stands there -/
def noOwn (ρ : Env) : List Nat → Bool
  | [] => true
  | i :: is => (match getD ρ i with | some (.l _) => false | some (.d _ _) => false | _ => true) && noOwn ρ is
def nodupN : List Nat → Bool
  | [] => true
  | x :: xs => !xs.contains x && nodupN xs
mutual
/-- the target's slots are among these -/
def Pat.within (own : List Nat) : Pat → Bool
  | .v i => own.contains i
  | .t ps => Pat.withinL own ps
def Pat.withinL (own : List Nat) : List Pat → Bool
  | [] => true
  | p :: ps => p.within own && Pat.withinL own ps
end

def Ex.isVar : Ex → Option Nat
  | .var i => some i
  | _ => none
/-- an index that changes nothing -/
def atomI (ρ : Env) : Ex → Option Int
  | .lit (.int i) => some i
  | .var s => (getP ρ s).bind fun x => match x with | .int i => some i | _ => none
  | _ => none
def flatD : D → Option P
  | .p x => some x
  | .l ds => (flatL ds).map .lst
  | .d _ _ => none
where flatL : List D → Option (List P)
  | [] => some []
  | .p x :: ds => (flatL ds).map (x :: ·)
  | _ :: _ => none

/-- positional arguments, then each further parameter's by its keyword -/
def arrange {α : Type} (np : Nat) (xs : List α) (ks : List Nat) (ys : List α) : Option (List α) :=
  (go (np - xs.length) xs.length).map (xs ++ ·)
where go : Nat → Nat → Option (List α)
  | 0, _ => some []
  | n + 1, k => match (ks.zip ys).lookup k with
    | some d => (go n (k + 1)).map (d :: ·)
    | none => none

def bnd {α β : Type} (o : Out α) (f : α → Env → Out β) : Out β := match o with
  | .ok a ρ => f a ρ
  | .exc c fs ρ => .exc c fs ρ
  | .bad => .bad
/-- .. the value taken as plain data -/
def bndF {β : Type} (o : Out D) (f : P → Env → Out β) : Out β := match o with
  | .ok a ρ => f (frz a) ρ
  | .exc c fs ρ => .exc c fs ρ
  | .bad => .bad
def fin {α : Type} (o : Option α) (ρ : Env) : Out α := match o with
  | some a => .ok a ρ
  | none => .bad

def pairsOf : List P → List P → List P
  | x :: xs, y :: ys => .tup [x, y] :: pairsOf xs ys
  | _, _ => []
def enumOf : Int → List P → List P
  | _, [] => []
  | k, x :: xs => .tup [.int k, x] :: enumOf (k + 1) xs
def rangeOf (lo : Int) : Nat → List P
  | 0 => []
  | n + 1 => .int lo :: rangeOf (lo + 1) n
def rangeDn (hi : Int) : Nat → List P
  | 0 => []
  | n + 1 => .int hi :: rangeDn (hi - 1) n
def cntP : P → P → Option D
  | .lst xs, .int k => (ints? xs).map fun ns => .p (.int (ns.count k : Nat))
  | _, _ => none
/-- the slots, all lists of one's own looked at as plain data -/
def viewE (ρ : Env) : Env := ρ.map fun o => o.map fun d => .p (frz d)
def inR (i : Int) : Bool := decide (-(2 ^ 62) ≤ i) && decide (i < 2 ^ 62)

/-- what an expression means: as a value, as a test, as a thing to be walked -/
structure Den where
  v : Env → Out D
  t : Env → Out Bool
  i : Env → Out (List P)
def tOfV (v : Env → Out D) (ρ : Env) : Out Bool := bndF (v ρ) fun x ρ1 => match x with
  | .bl b => .ok b ρ1
  | _ => .bad
def iOfV (v : Env → Out D) (ρ : Env) : Out (List P) := bndF (v ρ) fun x ρ1 => match x with
  | .lst xs => .ok xs ρ1
  | .tup xs => .ok xs ρ1
  | .scr xs => .ok xs ρ1
  | _ => .bad
def ofV (v : Env → Out D) : Den := ⟨v, tOfV v, iOfV v⟩
def ofVn (v : Env → Out D) : Den := ⟨v, fun _ => .bad, iOfV v⟩
def ofI (i : Env → Out (List P)) : Den := ⟨fun _ => .bad, fun _ => .bad, i⟩

/-- an operand: a name is only looked at, when the operation comes -/
def opd (a : Option Nat) (v : Env → Out D) (ρ : Env) : Out P := match a with
  | some s => match getD ρ s with
    | some _ => .ok .non ρ
    | none => .bad
  | none => bndF (v ρ) fun x ρ1 => .ok x ρ1
def res (a : Option Nat) (x : P) (ρ : Env) : Option P := match a with
  | some s => (getD ρ s).bind flatD
  | none => some x

def dVar (i : Nat) : Den := ofV fun ρ => fin ((getP ρ i).map .p) ρ
def dBin (op : Operator) (ia ib : Option Nat) (a b : Den) : Den := ofV fun ρ => bnd (opd ia a.v ρ) fun x ρ1 => bnd (opd ib b.v ρ1) fun y ρ2 =>
  fin ((res ia x ρ2).bind fun x => (res ib y ρ2).bind fun y => binop op x y) ρ2
def dCmp (op : CmpOp) (ia ib : Option Nat) (a b : Den) : Den := ofV fun ρ => bnd (opd ia a.v ρ) fun x ρ1 => bnd (opd ib b.v ρ1) fun y ρ2 =>
  fin ((res ia x ρ2).bind fun x => (res ib y ρ2).bind fun y => (cmpop op x y).map fun r => .p (.bl r)) ρ2
def dNeg (a : Den) : Den := ofV fun ρ => bndF (a.v ρ) fun x ρ1 => match x with
  | .int i => .ok (.p (.int (-i))) ρ1
  | _ => .bad
def dNot (a : Den) : Den where
  v := fun ρ => bndF (a.v ρ) fun x ρ1 => match x with
    | .bl b => .ok (.p (.bl (!b))) ρ1
    | _ => .bad
  t := fun ρ => bnd (a.t ρ) fun b ρ1 => .ok (!b) ρ1
  i := fun _ => .bad
def dAnd (a b : Den) : Den where
  v := fun ρ => bndF (a.v ρ) fun x ρ1 => match x with
    | .bl true => b.v ρ1
    | .bl false => .ok (.p (.bl false)) ρ1
    | _ => .bad
  t := fun ρ => bnd (a.t ρ) fun x ρ1 => match x with
    | true => b.t ρ1
    | false => .ok false ρ1
  i := fun _ => .bad
def dOr (a b : Den) : Den where
  v := fun ρ => bndF (a.v ρ) fun x ρ1 => match x with
    | .bl true => .ok (.p (.bl true)) ρ1
    | .bl false => b.v ρ1
    | _ => .bad
  t := fun ρ => bnd (a.t ρ) fun x ρ1 => match x with
    | true => .ok true ρ1
    | false => b.t ρ1
  i := fun _ => .bad
def dNone : Den := ⟨fun _ => .bad, fun _ => .bad, fun _ => .bad⟩
def dAndL : List Den → Den
  | [] => dNone
  | [a] => a
  | a :: b :: r => dAnd a (dAndL (b :: r))
def dOrL : List Den → Den
  | [] => dNone
  | [a] => a
  | a :: b :: r => dOr a (dOrL (b :: r))
def dChain (o1 o2 : CmpOp) (a b c : Den) : Den := ofV fun ρ => bndF (a.v ρ) fun x ρ1 => bndF (b.v ρ1) fun y ρ2 => match cmpop o1 x y with
  | some true => bndF (c.v ρ2) fun z ρ3 => fin ((cmpop o2 y z).map fun r => .p (.bl r)) ρ3
  | some false => .ok (.p (.bl false)) ρ2
  | none => .bad
def dIf (c a b : Den) : Den := ofVn fun ρ => bnd (c.t ρ) fun t ρ1 => match t with
  | true => a.v ρ1
  | false => b.v ρ1
def seqV : List Den → Env → Out (List D)
  | [], ρ => .ok [] ρ
  | e :: es, ρ => bnd (e.v ρ) fun d ρ1 => bnd (seqV es ρ1) fun ds ρ2 => .ok (d :: ds) ρ2
def szOk (n : Nat) : Bool := decide (n ≤ 16777216)
def dTup (es : List Den) : Den := ofV fun ρ => bnd (seqV es ρ) fun ds ρ1 => match szOk ds.length with
  | true => .ok (.p (.tup (frzL ds))) ρ1
  | false => .bad
def dLst (es : List Den) : Den := ofV fun ρ => bnd (seqV es ρ) fun ds ρ1 => match szOk ds.length with
  | true => .ok (.l ds) ρ1
  | false => .bad
def dIdx (ia : Option Nat) (a i : Den) : Den := ofV fun ρ => bnd (opd ia a.v ρ) fun x ρ1 => bndF (i.v ρ1) fun k ρ2 =>
  fin ((res ia x ρ2).bind fun x => (idxP x k).map .p) ρ2
def idxD : D → Int → Option D
  | .p x, i => (idxP x (.int i)).map .p
  | .l ds, i => L2.atI ds i
  | .d _ _, _ => none
def idx2P (ρ1 : Env) (s : Nat) (jx : Ex) (k : Int) : Option D := (getD ρ1 s).bind fun d => match d with
  | .l ds => (L2.atI ds k).bind fun e => match e with
    | .l es => (atomI ρ1 jx).bind fun m => (L2.atI es m).bind fun r => match r with
      | .p x => some (.p x)
      | _ => none
    | _ => none
  | _ => none
def dIdx2 (s : Nat) (i : Den) (jx : Ex) : Den := ofV fun ρ => match getD ρ s with
  | some _ => bndF (i.v ρ) fun k ρ1 => match k with
    | .int k => fin (idx2P ρ1 s jx k) ρ1
    | _ => .bad
  | none => .bad
def optI (o : Option Den) (ρ : Env) : Out (Option Int) := match o with
  | none => .ok none ρ
  | some e => bndF (e.v ρ) fun d ρ1 => match d with
    | .int i => .ok (some i) ρ1
    | _ => .bad
def dSlc (ia : Option Nat) (a : Den) (lo hi : Option Den) : Den := ofV fun ρ => bnd (opd ia a.v ρ) fun x ρ1 => bnd (optI lo ρ1) fun l ρ2 => bnd (optI hi ρ2) fun h ρ3 =>
  fin ((res ia x ρ3).bind fun x => sliceP x l h) ρ3
def pz (ds : List D) : List D := ds.map fun d => .p (frz d)
def callArgs (cf : Nat → List D → Ret) (f np : Nat) (d0 ds : List D) (ks : List Nat) (zs : List D) : Ret := match arrange np (d0 ++ pz ds) ks (pz zs) with
  | some as => cf f as
  | none => .bad
/-- the call's end; the slot s was given away -/
def retTo (s : Option Nat) (r : Ret) (ρ : Env) : Out D := match r with
  | .ok d out => .ok d (match s with | none => ρ | some s => ρ.set s out)
  | .exc c fs => .exc c fs (match s with | none => ρ | some s => ρ.set s none)
  | .bad => .bad
def dCall (cf : Nat → List D → Ret) (f : Nat) (fn : Fn) (i0 : Option Nat) (es : List Den) (ks : List Nat) (kes : List Den) : Den := ofV fun ρ => match fn.mt, i0, es with
  | false, _, es => bnd (seqV es ρ) fun ds ρ1 => bnd (seqV kes ρ1) fun zs ρ2 => retTo none (callArgs cf f fn.np [] ds ks zs) ρ2
  | true, some s, _ :: es => match getD ρ s with
    | some _ => bnd (seqV es ρ) fun ds ρ1 => bnd (seqV kes ρ1) fun zs ρ2 => match getD ρ2 s with
      | some d => retTo (some s) (callArgs cf f fn.np [d] ds ks zs) ρ2
      | none => .bad
    | none => .bad
  | true, none, e :: es => bnd (e.v ρ) fun d ρ0 => bnd (seqV es ρ0) fun ds ρ1 => bnd (seqV kes ρ1) fun zs ρ2 => retTo none (callArgs cf f fn.np [d] ds ks zs) ρ2
  | true, _, [] => .bad
def dBi1 (b : Bi) (ia : Option Nat) (a : Den) : Den := ofV fun ρ => bnd (opd ia a.v ρ) fun x ρ1 => fin ((res ia x ρ1).bind fun x => biop b [x]) ρ1
def dBi (b : Bi) (es : List Den) : Den := ofV fun ρ => bnd (seqV es ρ) fun ds ρ1 => fin (biop b (frzL ds)) ρ1
def P.isExc : P → Bool
  | .exc _ _ => true
  | .any => true
  | _ => false
def Ty.own : Ty → Bool
  | .verr => true
  | .cls _ => true
  | _ => false
/-- is x of one of the classes; nc: the number of own classes -/
def isiP (nc : Nat) (ts : List Ty) (x : P) : Option Bool := match x with
  | .exc k [] => if decide (k < nc) then some (ts.any fun t => isTy t (.exc k [])) else none
  | .exc _ _ => none
  | .any => none
  | x => if ts.any Ty.own then none else some (ts.any fun t => isTy t x)
def dIsi (nc : Nat) (ts : List Ty) (e : Den) : Den := ofV fun ρ => bndF (e.v ρ) fun x ρ1 => fin ((isiP nc ts x).map fun b => .p (.bl b)) ρ1
def dMkx (c : Nat) (e : Den) : Den := ofV fun ρ => bndF (e.v ρ) fun x ρ1 => match x with
  | .str _ => .ok (.p (.exc c [])) ρ1
  | _ => .bad
/-- the turns of a comprehension -/
def compGo (pt : Pat) (own : List Nat) (test : Env → Out Bool) (elt : Env → Out D) : List P → Env → List D → Out (List D)
  | [], ρ, acc => .ok acc ρ
  | x :: xs, ρ, acc => match bindPat pt x ρ with
    | none => .bad
    | some ρ1 => match test ρ1 with
      | .ok true ρ2 => match elt ρ2 with
        | .ok d ρ3 => match decide (acc.length < 16777216) with
          | true => compGo pt own test elt xs (wipeE ρ3 own) (acc ++ [d])
          | false => .bad
        | _ => .bad
      | .ok false ρ2 => compGo pt own test elt xs (wipeE ρ2 own) acc
      | _ => .bad
def testC : List Den → Env → Out Bool
  | [], ρ => .ok true ρ
  | [c], ρ => c.t ρ
  | _, _ => .bad
def dComp (pt : Pat) (own : List Nat) (it : Den) (cs : List Den) (elt : Den) : Den := ofV fun ρ => bnd (it.i ρ) fun xs ρ1 =>
  match noOwn ρ1 own && nodupN own && pt.within own with
  | true => match compGo pt own (testC cs) elt.v xs (wipeE ρ1 own) [] with
    | .ok ds ρ2 => .ok (.l ds) (backE ρ1 ρ2 own)
    | _ => .bad
  | false => .bad
def dRng1 (a : Den) : Den := ofI fun ρ => bndF (a.v ρ) fun x ρ1 => match x with
  | .int n => match inR n with
    | true => .ok (rangeOf 0 n.toNat) ρ1
    | false => .bad
  | _ => .bad
def dRng2 (a b : Den) : Den := ofI fun ρ => bndF (a.v ρ) fun x ρ1 => bndF (b.v ρ1) fun y ρ2 => match x, y with
  | .int i, .int j => match inR i && inR j with
    | true => .ok (rangeOf i (j - i).toNat) ρ2
    | false => .bad
  | _, _ => .bad
def dRng3 (a b c : Den) : Den := ofI fun ρ => bndF (a.v ρ) fun x ρ1 => bndF (b.v ρ1) fun y ρ2 => bndF (c.v ρ2) fun z ρ3 => match x, y, z with
  | .int i, .int j, .int k => match inR i && inR j && decide (k = -1) with
    | true => .ok (rangeDn i (i - j).toNat) ρ3
    | false => .bad
  | _, _, _ => .bad
def flatOut (o : Out D) (ρ : Env) : Out D := match o with
  | .ok (.p x) _ => match x.flat with
    | true => .ok (.p x) ρ
    | false => .bad
  | _ => .bad
def boolOut (o : Out Bool) (ρ : Env) : Out Bool := match o with
  | .ok b _ => .ok b ρ
  | _ => .bad
def dView (a : Den) : Den := ⟨fun ρ => flatOut (a.v (viewE ρ)) ρ, fun ρ => boolOut (a.t (viewE ρ)) ρ, fun _ => .bad⟩
def dCnt (s : Nat) (b : Den) : Den := ofV fun ρ => match (getD ρ s).bind flatD with
  | some (.lst _) => bndF (b.v ρ) fun y ρ1 => fin (((getD ρ1 s).bind flatD).bind fun x => cntP x y) ρ1
  | _ => .bad
def kP : L2.Key → P
  | .inl i => .int i
  | .inr s => .str s
def keyP : P → Option L2.Key
  | .int i => some (.inl i)
  | .str s => some (.inr s)
  | _ => none
/-- x[k] = v of a dict -/
def hasK (k : L2.Key) (ks : List L2.Key) : Bool := ks.any fun k1 => decide (k1 = k)
def putKs (k : L2.Key) (ks : List L2.Key) : List L2.Key := if hasK k ks = true then ks else ks ++ [k]
def putXs (k : L2.Key) (v : P) (ks : List L2.Key) (xs : List P) : List P := if hasK k ks = true then List.zipWith (fun k1 x => if k1 = k then v else x) ks xs else xs ++ [v]
def dDnil : Den := ofV fun ρ => .ok (.d [] []) ρ
def dKeys (s : Nat) : Den := ofV fun ρ => match getD ρ s with
  | some (.d ks _) => .ok (.l (ks.map fun k => .p (kP k))) ρ
  | _ => .bad
def dEnum (a : Den) : Den := ofI fun ρ => bnd (iOfV a.v ρ) fun xs ρ1 => .ok (enumOf 0 xs) ρ1
def dZip (a b : Den) : Den := ofI fun ρ => bndF (a.v ρ) fun x ρ1 => bndF (b.v ρ1) fun y ρ2 => match x, y with
  | .lst xs, .lst ys => .ok (pairsOf xs ys) ρ2
  | .tup xs, .tup ys => .ok (pairsOf xs ys) ρ2
  | _, _ => .bad

section
variable (fns : Nat → Fn) (globs : Nat → P) (cf : Nat → List D → Ret)
mutual
def ev : Ex → Den
  | .lit x => ofV fun ρ => .ok (.p x) ρ
  | .var i => dVar i
  | .glob g => ofV fun ρ => .ok (.p (globs g)) ρ
  | .bin op a b => dBin op a.isVar b.isVar (ev a) (ev b)
  | .neg a => dNeg (ev a)
  | .not a => dNot (ev a)
  | .cmp op a b => dCmp op a.isVar b.isVar (ev a) (ev b)
  | .chain o1 o2 a b c => dChain o1 o2 (ev a) (ev b) (ev c)
  | .and es => dAndL (evL es)
  | .or es => dOrL (evL es)
  | .ife c a b => dIf (ev c) (ev a) (ev b)
  | .tup es => dTup (evL es)
  | .lst es => dLst (evL es)
  | .idx a i => dIdx a.isVar (ev a) (ev i)
  | .idx2 s i j => dIdx2 s (ev i) j
  | .slc a lo hi => dSlc a.isVar (ev a) (evO lo) (evO hi)
  | .call f es ks kes => dCall cf f (fns f) (es.head?.bind Ex.isVar) (evL es) ks (evL kes)
  | .bi b es => match es with
    | [a] => dBi1 b a.isVar (ev a)
    | es => dBi b (evL es)
  | .isi e ts _ nc => dIsi nc ts (ev e)
  | .mkx c e => dMkx c (ev e)
  | .comp elt pt own it cs => dComp pt own (ev it) (evL cs) (ev elt)
  | .rng1 a => dRng1 (ev a)
  | .rng2 a b => dRng2 (ev a) (ev b)
  | .rng3 a b c => dRng3 (ev a) (ev b) (ev c)
  | .view e => dView (ev e)
  | .cnt s b => dCnt s (ev b)
  | .dnil => dDnil
  | .keys s => dKeys s
  | .enum a => dEnum (ev a)
  | .zip a b => dZip (ev a) (ev b)
  | .opq => dNone
def evL : List Ex → List Den
  | [] => []
  | e :: es => ev e :: evL es
def evO : Option Ex → Option Den
  | none => none
  | some e => some (ev e)
end
end

inductive SOut where
  | nx (ρ : Env) | rt (d : D) (ρ : Env) | bk (ρ : Env) | ct (ρ : Env) | exc (c : Nat) (fs : List P) (ρ : Env) | bad
def sbnd {α : Type} (o : Out α) (f : α → Env → SOut) : SOut := match o with
  | .ok a ρ => f a ρ
  | .exc c fs ρ => .exc c fs ρ
  | .bad => .bad
def sbndF (o : Out D) (f : P → Env → SOut) : SOut := match o with
  | .ok a ρ => f (frz a) ρ
  | .exc c fs ρ => .exc c fs ρ
  | .bad => .bad
def sfin (o : Option Env) : SOut := match o with
  | some ρ => .nx ρ
  | none => .bad
def SOut.andThen (o : SOut) (f : Env → SOut) : SOut := match o with
  | .nx ρ => f ρ
  | o => o
def forGo (pt : Pat) (body : Env → SOut) : List P → Env → SOut
  | [], ρ => .nx ρ
  | x :: xs, ρ => match bindPat pt x ρ with
    | none => .bad
    | some ρ1 => match body ρ1 with
      | .nx ρ2 => forGo pt body xs ρ2
      | .ct ρ2 => forGo pt body xs ρ2
      | .bk ρ2 => .nx ρ2
      | .rt d ρ2 => .rt d ρ2
      | .exc c fs ρ2 => .exc c fs ρ2
      | .bad => .bad
def whileGo (test : Env → Out Bool) (body : Env → SOut) : Nat → Env → SOut
  | 0, _ => .bad
  | n + 1, ρ => sbnd (test ρ) fun b ρ1 => match b with
    | false => .nx ρ1
    | true => match body ρ1 with
      | .nx ρ2 => whileGo test body n ρ2
      | .ct ρ2 => whileGo test body n ρ2
      | .bk ρ2 => .nx ρ2
      | .rt d ρ2 => .rt d ρ2
      | .exc c fs ρ2 => .exc c fs ρ2
      | .bad => .bad
/-- a target: a name takes the value as it stands, a tuple's names plain data -/
def asgD (pt : Pat) (d : D) (ρ : Env) : Option Env := match pt with
  | .v i => some (ρ.set i (some d))
  | pt => bindPat pt (frz d) ρ
def parD : List Nat → List D → Env → Option Env
  | [], [], ρ => some ρ
  | i :: is, d :: ds, ρ => parD is ds (ρ.set i (some d))
  | _, _, _ => none
def setL (ds : List D) (i : Int) (d : D) : Option (List D) := (L2.ixN ds.length i).map fun j => ds.set j d

def set2P (ρ2 : Env) (s : Nat) (jx : Ex) (k : Int) (x : P) : Option Env := (getD ρ2 s).bind fun d => match d with
  | .l ds => (L2.atI ds k).bind fun e => match e with
    | .l es => (atomI ρ2 jx).bind fun m => (setL es m (.p x)).bind fun es' => (setL ds k (.l es')).map fun ds' => ρ2.set s (some (.l ds'))
    | _ => none
  | _ => none
def augOp : Operator → Int → P → Option Int
  | .Add, a, .int b => some (a + b)
  | .Sub, a, .int b => some (a - b)
  | _, _, _ => none
def suRun (su : Su) (k : Nat) (fs : List P) (ρ : Env) : SOut := match su with
  | .retIs i ts => match fs, decide (i < ρ.length) with
    | [], true => .rt (.p (.bl (ts.all fun t => isTy t (.exc k [])))) (ρ.set i none)
    | _, _ => .bad
  | .retC x => .rt (.p x) ρ
  | .keep i j => match fs, decide (i < ρ.length) && decide (j < ρ.length) && decide (i ≠ j) with
    | [], true => .nx ((ρ.set j (some (.p (.exc k [])))).set i none)
    | _, _ => .bad
def tryGo (c nc : Nat) (su : Su) (o : SOut) : SOut := match o with
  | .exc k fs ρ1 => match decide (k < nc), decide (c = 0) || decide (c = k) with
    | true, true => suRun su k fs ρ1
    | true, false => .exc k fs ρ1
    | false, _ => .bad
  | o => o
section
variable (fns : Nat → Fn) (globs : Nat → P) (cf : Nat → List D → Ret) (wf : Nat)
mutual
def evS : Sm → Env → SOut
  | .asg pt e, ρ => sbnd ((ev fns globs cf e).v ρ) fun d ρ1 => sfin (asgD pt d ρ1)
  | .par is es, ρ => sbnd (seqV (evL fns globs cf es) ρ) fun ds ρ1 => sfin (parD is ds ρ1)
  | .asgL i e, ρ => sbnd ((ev fns globs cf e).v ρ) fun d ρ1 => .nx (ρ1.set i (some d))
  | .set s i e, ρ => sbnd ((ev fns globs cf e).v ρ) fun d ρ1 => match getD ρ1 s with
    | some _ => sbndF ((ev fns globs cf i).v ρ1) fun k ρ2 => match k, getD ρ2 s with
      | .int k, some (.l ds) => sfin ((setL ds k d).map fun ds' => ρ2.set s (some (.l ds')))
      | _, _ => .bad
    | none => .bad
  | .set2 s i j e, ρ => sbnd ((ev fns globs cf e).v ρ) fun d ρ1 => match d, getD ρ1 s with
    | .p x, some _ => sbndF ((ev fns globs cf i).v ρ1) fun k ρ2 => match k with
      | .int k => sfin (set2P ρ2 s j k x)
      | _ => .bad
    | _, _ => .bad
  | .dset s i e, ρ => sbnd ((ev fns globs cf e).v ρ) fun d ρ1 => match d, getD ρ1 s with
    | .p x, some _ => sbndF ((ev fns globs cf i).v ρ1) fun k ρ2 => match keyP k, getD ρ2 s with
      | some k, some (.d ks xs) => match decide (ks.length < 16777216) with
        | true => .nx (ρ2.set s (some (.d (putKs k ks) (putXs k x ks xs))))
        | false => .bad
      | _, _ => .bad
    | _, _ => .bad
  | .aug i op e, ρ => match getP ρ i with
    | some (.int a) => sbndF ((ev fns globs cf e).v ρ) fun y ρ1 => match augOp op a y with
      | some z => .nx (ρ1.set i (some (.p (.int z))))
      | none => .bad
    | _ => .bad
  | .app s e, ρ => match getD ρ s with
    | some (.l _) => sbnd ((ev fns globs cf e).v ρ) fun d ρ1 => match getD ρ1 s with
      | some (.l ds) => match decide (ds.length < 16777216) with
        | true => .nx (ρ1.set s (some (.l (ds ++ [d]))))
        | false => .bad
      | _ => .bad
    | _ => .bad
  | .expr e, ρ => sbnd ((ev fns globs cf e).v ρ) fun _ ρ1 => .nx ρ1
  | .ife c a b, ρ => sbnd ((ev fns globs cf c).t ρ) fun t ρ1 => match t with
    | true => evB a ρ1
    | false => evB b ρ1
  | .for_ pt it b, ρ => sbnd ((ev fns globs cf it).i ρ) fun xs ρ1 => forGo pt (evB b) xs ρ1
  | .while_ c b, ρ => whileGo (ev fns globs cf c).t (evB b) wf ρ
  | .ret e, ρ => sbnd ((ev fns globs cf e).v ρ) fun d ρ1 => .rt d ρ1
  | .retV i, ρ => match getD ρ i with
    | some d => .rt d (ρ.set i none)
    | none => .bad
  | .raise c _, ρ => .exc c [] ρ
  | .raiseF c e, ρ => sbnd ((ev fns globs cf e).v ρ) fun d ρ1 => .exc c [frz d] ρ1
  | .try_ b c nc su, ρ => tryGo c nc su (evB b ρ)
  | .pass, ρ => .nx ρ
  | .brk, ρ => .bk ρ
  | .cont, ρ => .ct ρ
  | .opq, _ => .bad
  | .frz i, ρ => match getD ρ i with
    | some d => .nx (ρ.set i (some (.p (frz d))))
    | none => .bad
def evB : List Sm → Env → SOut
  | [], ρ => .nx ρ
  | s :: ss, ρ => (evS s ρ).andThen (evB ss)
end
/-- a def's run -/
def runFn (fn : Fn) (as : List D) : Ret := match decide (as.length = fn.np) with
  | true => match evB fns globs cf wf fn.body (as.map some ++ List.replicate (fn.ns - as.length) none) with
    | .nx ρ => .ok (.p .non) (if fn.mt then getD ρ 0 else none)
    | .rt d ρ => .ok d (if fn.mt then getD ρ 0 else none)
    | .exc c fs _ => .exc c fs
    | _ => .bad
  | false => .bad
end
/-- calls, at most n deep -/
def callN (fns : Nat → Fn) (globs : Nat → P) (wf : Nat) : Nat → Nat → List D → Ret
  | 0, _, _ => .bad
  | n + 1, f, as => runFn fns globs (callN fns globs wf n) wf (fns f) as
end Pl

set_option Elab.async false
set_option linter.all false
set_option autoImplicit false
set_option maxRecDepth 100000
set_option maxHeartbeats 4000000
namespace Pl
open PySem L2

/-- H' holds what H holds -/
def Ex' (H H' : Hp) : Prop := ∀ a o, H a = some o → H' a = some o
theorem Ex'.refl (H : Hp) : Ex' H H := fun _ _ h => h
theorem Ex'.trans {H H1 H2 : Hp} (a : Ex' H H1) (b : Ex' H1 H2) : Ex' H H2 := fun x o h => b x o (a x o h)
theorem Ex'.sqL {K : PySem.W.Frag} {H H' : Hp} {a : Addr} {xs : List V} (e : Ex' H H') (h : SqL K H a xs) : SqL K H' a xs := by
  rcases h with (h | ⟨o, h⟩) | h
  · exact .inl (.inl (e _ _ h))
  · exact .inl (.inr ⟨o, e _ _ h⟩)
  · exact .inr h
theorem Ex'.sqT {K : PySem.W.Frag} {H H' : Hp} {a : Addr} {xs : List V} (e : Ex' H H') (h : SqT K H a xs) : SqT K H' a xs := by
  rcases h with (h | ⟨o, h⟩) | h
  · exact .inl (.inl (e _ _ h))
  · exact .inl (.inr ⟨o, e _ _ h⟩)
  · exact .inr h
theorem Ex'.none {H H' : Hp} {a : Addr} (e : Ex' H H') (h : H' a = Option.none) : H a = Option.none := by
  cases q : H a with
  | none => rfl
  | some o =>
    rw [e a o q] at h
    cases h
theorem Ex'.new {H : Hp} {p : Addr} {o : HO} (h : H p = Option.none) : Ex' H (upd H p o) := fun a u e => by
  rw [upd_ne (ne_of_none e h)]
  exact e

/-- an error object of this class, raised or not -/
def ExL (cls : Value) (a : Addr) (o : HO) : Prop := ∃ φ, o = .ext φ ∧ ∀ h : Heap, φ h → ∃ (oe : Obj) (vs : Array Value), h.get? a = some oe ∧ Zc cls none oe ∧ oe.data = .fields vs
theorem exL_new (cls : Value) (a : Addr) : ExL cls a (ExO cls a) := ⟨_, rfl, fun _ ⟨oe, vs, h1, h2, h3, _⟩ => ⟨oe, vs, h1, h2, h3⟩⟩
section
variable (K : PySem.W.Frag) (ad : Nat → Addr)
mutual
inductive Rp : Hp → V → P → Prop
  | non {F} : Rp F .non .non
  | bl {F} (b : Bool) : Rp F (.bl b) (.bl b)
  | int {F} (i : Int) : Rp F (.int i) (.int i)
  | str {F} (s : Str) : Rp F (.str s) (.str s)
  | tup {F} {a : Addr} {vs : List V} {xs : List P} : SqT K F a vs → RpL F vs xs → Rp F (.ref a) (.tup xs)
  | lst {F} {a : Addr} {vs : List V} {xs : List P} : F a = some (.lst vs) → RpL F vs xs → Rp F (.ref a) (.lst xs)
  | scr {F} {a : Addr} {vs : List V} {xs : List P} : SqL K F a vs → RpL F vs xs → Rp F (.ref a) (.scr xs)
  | exc {F} {a : Addr} {c : Nat} {o : HO} : F a = some o → ExL (.ref (ad c)) a o → Rp F (.ref a) (.exc c [])
  | any {F} (v : V) : Rp F v .any
inductive RpL : Hp → List V → List P → Prop
  | nil {F} : RpL F [] []
  | cons {F} {v : V} {x : P} {vs : List V} {xs : List P} : Rp F v x → RpL F vs xs → RpL F (v :: vs) (x :: xs)
end
mutual
inductive Rep : Hp → Hp → V → D → List Addr → Prop
  | p {F H} {v : V} {x : P} : Rp K ad F v x → Rep F H v (.p x) []
  | l {F H} {a : Addr} {vs : List V} {ds : List D} {A : List Addr} : H a = some (.lst vs) → RepL F H vs ds A → Rep F H (.ref a) (.l ds) (a :: A)
  | d {F H} {a : Addr} {kvs : List (Key × V)} {ks : List Key} {xs : List P} : H a = some (.dK kvs) → kvs.map (·.1) = ks → RpL K ad F (kvs.map (·.2)) xs → Rep F H (.ref a) (.d ks xs) [a]
inductive RepL : Hp → Hp → List V → List D → List Addr → Prop
  | nil {F H} : RepL F H [] [] []
  | cons {F H} {v : V} {d : D} {vs : List V} {ds : List D} {A B : List Addr} : Rep F H v d A → RepL F H vs ds B → RepL F H (v :: vs) (d :: ds) (A ++ B)
end
/-- the slots -/
inductive RE : Hp → Hp → List (Option V) → Env → List Addr → Prop
  | nil {F H} : RE F H [] [] []
  | skip {F H} {x : Option V} {σ : List (Option V)} {ρ : Env} {A : List Addr} : RE F H σ ρ A → RE F H (x :: σ) (none :: ρ) A
  | cons {F H} {v : V} {d : D} {σ : List (Option V)} {ρ : Env} {A B : List Addr} : Rep K ad F H v d A → RE F H σ ρ B → RE F H (some v :: σ) (some d :: ρ) (A ++ B)
end

/-- F: the part that is never changed again; A: the lists of one's own -/
structure Wf (F H : Hp) (A : List Addr) : Prop where
  sub : Ex' F H
  nd : A.Nodup
  dj : ∀ a ∈ A, F a = none
  al : ∀ a ∈ A, H a ≠ none
/-- from one state to another -/
structure Go (F H : Hp) (A : List Addr) (F' H' : Hp) (A' : List Addr) : Prop where
  wf : Wf F' H' A'
  ff : Ex' F F'
  fr : ∀ a o, H a = some o → a ∉ A → H' a = some o
  ow : ∀ a ∈ A', a ∈ A ∨ H a = none
  nf : ∀ a, F' a ≠ none → F a ≠ none ∨ a ∈ A ∨ H a = none

section
variable {F H F1 H1 F2 H2 : Hp} {A A1 A2 B T : List Addr}
theorem Wf.subl (w : Wf F H A) (h : B.Sublist A) : Wf F H B := ⟨w.sub, w.nd.sublist h, fun a ha => w.dj a (h.subset ha), fun a ha => w.al a (h.subset ha)⟩
theorem Wf.left (w : Wf F H (A ++ B)) : Wf F H A := w.subl (List.sublist_append_left _ _)
theorem Wf.right (w : Wf F H (A ++ B)) : Wf F H B := w.subl (List.sublist_append_right _ _)
theorem Wf.perm (w : Wf F H A) (h : A.Perm B) : Wf F H B := ⟨w.sub, h.nodup_iff.mp w.nd, fun a ha => w.dj a (h.mem_iff.mpr ha), fun a ha => w.al a (h.mem_iff.mpr ha)⟩
theorem Go.refl (w : Wf F H A) : Go F H A F H A := ⟨w, Ex'.refl _, fun _ _ h _ => h, fun _ h => .inl h, fun _ h => .inl h⟩
theorem Go.trans (g : Go F H A F1 H1 A1) (k : Go F1 H1 A1 F2 H2 A2) : Go F H A F2 H2 A2 where
  wf := k.wf
  ff := g.ff.trans k.ff
  fr := fun a o h n => k.fr a o (g.fr a o h n) fun z => by
    rcases g.ow a z with q | q
    · exact n q
    · rw [h] at q; cases q
  ow := fun a ha => by
    rcases k.ow a ha with q | q
    · exact g.ow a q
    · by_cases z : a ∈ A
      · exact .inl z
      · right
        cases e : H a with
        | none => rfl
        | some o => rw [g.fr a o e z] at q; cases q
  nf := fun a ha => by
    rcases k.nf a ha with q | q | q
    · exact g.nf a q
    · exact .inr (g.ow a q)
    · by_cases z : a ∈ A
      · exact .inr (.inl z)
      · right; right
        cases e : H a with
        | none => rfl
        | some o => rw [g.fr a o e z] at q; cases q
theorem Go.permR (g : Go F H A F1 H1 A1) (h : A1.Perm A2) : Go F H A F1 H1 A2 := ⟨g.wf.perm h, g.ff, g.fr, fun a ha => g.ow a (h.mem_iff.mpr ha), g.nf⟩
theorem Go.permL (g : Go F H A F1 H1 A1) (h : A.Perm A2) : Go F H A2 F1 H1 A1 := ⟨g.wf, g.ff, fun a o e n => g.fr a o e fun z => n (h.mem_iff.mp z), fun a ha => (g.ow a ha).imp h.mem_iff.mp id, fun a ha => (g.nf a ha).imp id (Or.imp h.mem_iff.mp id)⟩
theorem Go.drop (g : Go F H A F1 H1 A1) (h : A2.Sublist A1) : Go F H A F1 H1 A2 := ⟨g.wf.subl h, g.ff, g.fr, fun a ha => g.ow a (h.subset ha), g.nf⟩
theorem Go.dropR (g : Go F H A F1 H1 (A1 ++ B)) : Go F H A F1 H1 A1 := g.drop (List.sublist_append_left _ _)
/-- what is held besides stays -/
theorem Go.frame (g : Go F H A F1 H1 A1) (w : Wf F H (A ++ T)) : Go F H (A ++ T) F1 H1 (A1 ++ T) where
  wf := by
    have nd := List.nodup_append.mp w.nd
    have tA : ∀ t ∈ T, t ∉ A := fun t ht z => nd.2.2 t z t ht rfl
    refine ⟨g.wf.sub, List.nodup_append.mpr ⟨g.wf.nd, nd.2.1, fun a ha b hb e => ?_⟩, fun a ha => ?_, fun a ha => ?_⟩
    · subst e
      rcases g.ow a ha with q | q
      · exact tA a hb q
      · exact w.al a (List.mem_append.mpr (.inr hb)) q
    · rcases List.mem_append.mp ha with q | q
      · exact g.wf.dj a q
      · cases e : F1 a with
        | none => rfl
        | some o =>
          rcases g.nf a (by rw [e]; exact fun z => by cases z) with z | z | z
          · exact absurd (w.dj a (List.mem_append.mpr (.inr q))) z
          · exact absurd z (tA a q)
          · exact absurd z (w.al a (List.mem_append.mpr (.inr q)))
    · rcases List.mem_append.mp ha with q | q
      · exact g.wf.al a q
      · cases e : H a with
        | none => exact absurd e (w.al a (List.mem_append.mpr (.inr q)))
        | some o =>
          rw [g.fr a o e (tA a q)]
          exact fun z => by cases z
  ff := g.ff
  fr := fun a o e n => g.fr a o e fun z => n (List.mem_append.mpr (.inl z))
  ow := fun a ha => by
    rcases List.mem_append.mp ha with q | q
    · exact (g.ow a q).imp (fun z => List.mem_append.mpr (.inl z)) id
    · exact .inl (List.mem_append.mpr (.inr q))
  nf := fun a ha => (g.nf a ha).imp id (Or.imp (fun z => List.mem_append.mpr (.inl z)) id)
/-- the frame's lists stand as they stood -/
theorem Go.keep (g : Go F H A F1 H1 A1) (w : Wf F H (A ++ T)) : ∀ a ∈ T, H1 a = H a := fun a ha => by
  have nd := List.nodup_append.mp w.nd
  cases e : H a with
  | none => exact absurd e (w.al a (List.mem_append.mpr (.inr ha)))
  | some o => exact g.fr a o e fun z => nd.2.2 a z a ha rfl
end

section
variable {K : PySem.W.Frag} {ad : Nat → Addr}
mutual
theorem Rp.mono {F F' : Hp} (e : Ex' F F') : ∀ {v : V} {x : P}, Rp K ad F v x → Rp K ad F' v x
  | _, _, .non => .non
  | _, _, .bl b => .bl b
  | _, _, .int i => .int i
  | _, _, .str s => .str s
  | _, _, .tup h k => .tup (e.sqT h) (RpL.mono e k)
  | _, _, .lst h k => .lst (e _ _ h) (RpL.mono e k)
  | _, _, .scr h k => .scr (e.sqL h) (RpL.mono e k)
  | _, _, .exc h x => .exc (e _ _ h) x
  | _, _, .any v => .any v
theorem RpL.mono {F F' : Hp} (e : Ex' F F') : ∀ {vs : List V} {xs : List P}, RpL K ad F vs xs → RpL K ad F' vs xs
  | _, _, .nil => .nil
  | _, _, .cons h k => .cons (Rp.mono e h) (RpL.mono e k)
end
mutual
theorem Rep.mono {F F' H H' : Hp} (e : Ex' F F') : ∀ {v : V} {d : D} {A : List Addr}, Rep K ad F H v d A → (∀ a ∈ A, H' a = H a) → Rep K ad F' H' v d A
  | _, _, _, .p h, _ => .p (h.mono e)
  | _, _, _, .l h k, q => .l (by rw [q _ (List.mem_cons_self)]; exact h) (RepL.mono e k fun a ha => q a (List.mem_cons_of_mem _ ha))
  | _, _, _, .d h k r, q => .d (by rw [q _ (List.mem_cons_self)]; exact h) k (r.mono e)
theorem RepL.mono {F F' H H' : Hp} (e : Ex' F F') : ∀ {vs : List V} {ds : List D} {A : List Addr}, RepL K ad F H vs ds A → (∀ a ∈ A, H' a = H a) → RepL K ad F' H' vs ds A
  | _, _, _, .nil, _ => .nil
  | _, _, _, .cons h k, q => .cons (Rep.mono e h fun a ha => q a (List.mem_append.mpr (.inl ha))) (RepL.mono e k fun a ha => q a (List.mem_append.mpr (.inr ha)))
end
theorem RE.mono {F F' H H' : Hp} (e : Ex' F F') {σ : List (Option V)} {ρ : Env} {A : List Addr} (r : RE K ad F H σ ρ A) : (∀ a ∈ A, H' a = H a) → RE K ad F' H' σ ρ A := by
  induction r with
  | nil => exact fun _ => .nil
  | skip _ ih => exact fun q => .skip (ih q)
  | cons h _ ih => exact fun q => .cons (h.mono e fun a ha => q a (List.mem_append.mpr (.inl ha))) (ih fun a ha => q a (List.mem_append.mpr (.inr ha)))
mutual
/-- a list of one's own, seen as it stands -/
theorem Rep.view {F H : Hp} (e : Ex' F H) : ∀ {v : V} {d : D} {A : List Addr}, Rep K ad F H v d A → ∀ {F' : Hp}, Ex' F F' → (∀ a ∈ A, F' a = H a) → Rp K ad F' v (frz d)
  | _, _, _, .p h, _, e', _ => h.mono e'
  | _, _, _, .d h k r, F', e', q => .any _
  | _, _, _, .l h k, F', e', q => .lst ((q _ List.mem_cons_self).trans h) (RepL.view e k e' fun a ha => q a (List.mem_cons_of_mem _ ha))
theorem RepL.view {F H : Hp} (e : Ex' F H) : ∀ {vs : List V} {ds : List D} {A : List Addr}, RepL K ad F H vs ds A → ∀ {F' : Hp}, Ex' F F' → (∀ a ∈ A, F' a = H a) → RpL K ad F' vs (frzL ds)
  | _, _, _, .nil, _, _, _ => .nil
  | _, _, _, .cons h k, F', e', q => .cons (Rep.view e h e' fun a ha => q a (List.mem_append.mpr (.inl ha))) (RepL.view e k e' fun a ha => q a (List.mem_append.mpr (.inr ha)))
end
/-- the addresses B are never changed again -/
def froz (F H : Hp) (B : List Addr) : Hp := fun a => if a ∈ B then H a else F a
theorem Wf.froz {F H : Hp} {A B : List Addr} (w : Wf F H (A ++ B)) : Go F H (A ++ B) (froz F H B) H A := by
  have nd := List.nodup_append.mp w.nd
  refine ⟨⟨fun a o h => ?_, nd.1, fun a ha => ?_, fun a ha => w.al a (List.mem_append.mpr (.inl ha))⟩, fun a o h => ?_, fun a o h _ => h, fun a ha => .inl (List.mem_append.mpr (.inl ha)), fun a ha => ?_⟩
  · unfold Pl.froz at h
    split at h
    · exact h
    · exact w.sub a o h
  · unfold Pl.froz
    rw [if_neg fun z => nd.2.2 a ha a z rfl]
    exact w.dj a (List.mem_append.mpr (.inl ha))
  · unfold Pl.froz
    rw [if_neg fun z => by rw [w.dj a (List.mem_append.mpr (.inr z))] at h; cases h]
    exact h
  · unfold Pl.froz at ha
    split at ha
    · rename_i z; exact .inr (.inl (List.mem_append.mpr (.inr z)))
    · exact .inl ha
theorem Rep.froz {F H : Hp} {A B : List Addr} (w : Wf F H (A ++ B)) {v : V} {d : D} (r : Rep K ad F H v d B) : Rp K ad (froz F H B) v (frz d) :=
  r.view w.sub w.froz.ff fun a ha => by unfold Pl.froz; rw [if_pos ha]
theorem RepL.froz {F H : Hp} {A B : List Addr} (w : Wf F H (A ++ B)) {vs : List V} {ds : List D} (r : RepL K ad F H vs ds B) : RpL K ad (froz F H B) vs (frzL ds) :=
  r.view w.sub w.froz.ff fun a ha => by unfold Pl.froz; rw [if_pos ha]
/-- what is plain stays plain under a step; what is in the frame stays -/
theorem Go.rp {F H F1 H1 : Hp} {A A1 : List Addr} (g : Go F H A F1 H1 A1) {v : V} {x : P} (r : Rp K ad F v x) : Rp K ad F1 v x := r.mono g.ff
theorem Go.rep {F H F1 H1 : Hp} {A A1 T : List Addr} (g : Go F H A F1 H1 A1) (w : Wf F H (A ++ T)) {v : V} {d : D} (r : Rep K ad F H v d T) : Rep K ad F1 H1 v d T := r.mono g.ff (g.keep w)
theorem Go.re {F H F1 H1 : Hp} {A A1 T : List Addr} (g : Go F H A F1 H1 A1) (w : Wf F H (A ++ T)) {σ : List (Option V)} {ρ : Env} (r : RE K ad F H σ ρ T) : RE K ad F1 H1 σ ρ T := r.mono g.ff (g.keep w)

theorem Wf.newP {F H : Hp} {A : List Addr} (w : Wf F H A) {p : Addr} {o : HO} (h : H p = none) : Go F H A (upd F p o) (upd H p o) A := by
  have hF : F p = none := w.sub.none h
  have pA : ∀ a ∈ A, a ≠ p := fun a ha e => w.al a ha (by rw [e]; exact h)
  refine ⟨⟨fun a u e => ?_, w.nd, fun a ha => ?_, fun a ha => ?_⟩, Ex'.new hF, fun a u e _ => Ex'.new h a u e, fun a ha => .inl ha, fun a ha => ?_⟩
  · by_cases z : a = p
    · subst z; rw [upd_same] at e ⊢; exact e
    · rw [upd_ne z] at e ⊢; exact w.sub a u e
  · rw [upd_ne (pA a ha)]; exact w.dj a ha
  · rw [upd_ne (pA a ha)]; exact w.al a ha
  · by_cases z : a = p
    · subst z; exact .inr (.inr h)
    · rw [upd_ne z] at ha; exact .inl ha
theorem Wf.newL {F H : Hp} {A : List Addr} (w : Wf F H A) {p : Addr} {o : HO} (h : H p = none) : Go F H A F (upd H p o) (p :: A) := by
  have hF : F p = none := w.sub.none h
  have pA : ∀ a ∈ A, a ≠ p := fun a ha e => w.al a ha (by rw [e]; exact h)
  refine ⟨⟨fun a u e => Ex'.new h a u (w.sub a u e), List.nodup_cons.mpr ⟨fun z => pA p z rfl, w.nd⟩, fun a ha => ?_, fun a ha => ?_⟩, Ex'.refl _, fun a u e _ => Ex'.new h a u e, fun a ha => ?_, fun a ha => .inl ha⟩
  · rcases List.mem_cons.mp ha with z | z
    · rw [z]; exact hF
    · exact w.dj a z
  · rcases List.mem_cons.mp ha with z | z
    · rw [z, upd_same]; exact fun q => by cases q
    · rw [upd_ne (pA a z)]; exact w.al a z
  · rcases List.mem_cons.mp ha with z | z
    · rw [z]; exact .inr h
    · exact .inl z
/-- a list of one's own is changed -/
theorem Wf.put {F H : Hp} {A : List Addr} (w : Wf F H A) {p : Addr} {o : HO} (h : p ∈ A) : Go F H A F (upd H p o) A := by
  refine ⟨⟨fun a u e => ?_, w.nd, w.dj, fun a ha => ?_⟩, Ex'.refl _, fun a u e n => ?_, fun a ha => .inl ha, fun a ha => .inl ha⟩
  · rw [upd_ne fun z => by rw [z, w.dj p h] at e; cases e]
    exact w.sub a u e
  · by_cases z : a = p
    · rw [z, upd_same]; exact fun q => by cases q
    · rw [upd_ne z]; exact w.al a ha
  · rw [upd_ne fun z => n (by rw [z]; exact h)]
    exact e

theorem RE.get {F H : Hp} {σ : List (Option V)} {ρ : Env} {A : List Addr} (r : RE K ad F H σ ρ A) : ∀ {i : Nat} {d : D}, ρ[i]? = some (some d) →
    ∃ (v : V) (B R : List Addr), σ[i]? = some (some v) ∧ Rep K ad F H v d B ∧ A.Perm (B ++ R) ∧ (∀ x, RE K ad F H (σ.set i x) (ρ.set i none) R) ∧
      ∀ {F' H' : Hp} {v' : V} {d' : D} {B' : List Addr}, Rep K ad F' H' v' d' B' → Ex' F F' → (∀ a ∈ R, H' a = H a) → ∃ A', A'.Perm (B' ++ R) ∧ RE K ad F' H' (σ.set i (some v')) (ρ.set i (some d')) A' := by
  induction r with
  | nil => intro i d h; simp at h
  | @skip x σ ρ A r ih =>
    intro i d h
    cases i with
    | zero => simp at h
    | succ i =>
      obtain ⟨v, B, R, h1, h2, h3, h4, h5⟩ := ih (i := i) (d := d) (by simpa using h)
      refine ⟨v, B, R, by simpa using h1, h2, h3, fun x => .skip (h4 x), fun r' e q => ?_⟩
      obtain ⟨A', p, z⟩ := h5 r' e q
      exact ⟨A', p, .skip z⟩
  | @cons v d σ ρ A B hr r ih =>
    intro i d' h
    cases i with
    | zero =>
      simp at h
      subst h
      refine ⟨v, A, B, by simp, hr, List.Perm.refl _, fun x => .skip r, fun {F' H' v'' d'' B''} r' e q => ⟨B'' ++ B, List.Perm.refl _, .cons r' (r.mono e q)⟩⟩
    | succ i =>
      obtain ⟨v', B', R, h1, h2, h3, h4, h5⟩ := ih (i := i) (d := d') (by simpa using h)
      refine ⟨v', B', A ++ R, by simpa using h1, h2, ?_, fun x => .cons hr (h4 x), fun {F' H' v'' d'' B''} r' e q => ?_⟩
      · exact ((List.Perm.append_left A h3).trans (by rw [← List.append_assoc, ← List.append_assoc]; exact List.Perm.append_right R List.perm_append_comm))
      · have hr' := hr.mono e (H' := H') fun a ha => q a (List.mem_append.mpr (.inl ha))
        obtain ⟨A', p, z⟩ := h5 r' e (fun a ha => q a (List.mem_append.mpr (.inr ha)))
        exact ⟨A ++ A', (List.Perm.append_left A p).trans (by rw [← List.append_assoc, ← List.append_assoc]; exact List.Perm.append_right R List.perm_append_comm), .cons hr' z⟩
theorem RE.len {F H : Hp} {σ : List (Option V)} {ρ : Env} {A : List Addr} (r : RE K ad F H σ ρ A) : σ.length = ρ.length := by
  induction r with
  | nil => rfl
  | skip _ ih => simp [ih]
  | cons _ _ ih => simp [ih]
/-- a slot's value is dropped, whatever stood there -/
theorem RE.lose {F H : Hp} {σ : List (Option V)} {ρ : Env} {A : List Addr} (r : RE K ad F H σ ρ A) : ∀ (i : Nat) (x : Option V), ∃ A', A'.Sublist A ∧ RE K ad F H (σ.set i x) (ρ.set i none) A' := by
  induction r with
  | nil => intro i x; exact ⟨[], List.Sublist.refl _, by simpa using RE.nil⟩
  | @skip y σ ρ A r ih =>
    intro i x
    cases i with
    | zero => exact ⟨A, List.Sublist.refl _, .skip r⟩
    | succ i =>
      obtain ⟨A', h1, h2⟩ := ih i x
      exact ⟨A', h1, .skip h2⟩
  | @cons v d σ ρ A B hr r ih =>
    intro i x
    cases i with
    | zero => exact ⟨B, List.sublist_append_right _ _, .skip r⟩
    | succ i =>
      obtain ⟨A', h1, h2⟩ := ih i x
      exact ⟨A ++ A', List.Sublist.append (List.Sublist.refl _) h1, .cons hr h2⟩
/-- a slot takes a value; what stood there is dropped -/
theorem RE.put {F H : Hp} {σ : List (Option V)} {ρ : Env} {A : List Addr} (r : RE K ad F H σ ρ A) : ∀ (i : Nat) {v : V} {d : D} {B : List Addr}, Rep K ad F H v d B →
    ∃ A', RE K ad F H (σ.set i (some v)) (ρ.set i (some d)) A' ∧ ∃ A0, A0.Sublist A ∧ (A'.Perm (A0 ++ B) ∨ A' = A0) := by
  induction r with
  | nil => intro i v d B hr; exact ⟨[], by simpa using RE.nil, [], List.Sublist.refl _, .inr rfl⟩
  | @skip y σ ρ A r ih =>
    intro i v d B hr
    cases i with
    | zero => exact ⟨B ++ A, .cons hr r, A, List.Sublist.refl _, .inl List.perm_append_comm⟩
    | succ i =>
      obtain ⟨A', h1, A0, h2, h3⟩ := ih i hr
      exact ⟨A', .skip h1, A0, h2, h3⟩
  | @cons w e σ ρ A C hq r ih =>
    intro i v d B hr
    cases i with
    | zero => exact ⟨B ++ C, .cons hr r, C, List.sublist_append_right _ _, .inl List.perm_append_comm⟩
    | succ i =>
      obtain ⟨A', h1, A0, h2, h3⟩ := ih i hr
      refine ⟨A ++ A', .cons hq h1, A ++ A0, List.Sublist.append (List.Sublist.refl _) h2, ?_⟩
      rcases h3 with p | p
      · exact .inl (by rw [List.append_assoc]; exact List.Perm.append_left A p)
      · exact .inr (by rw [p])
end
end Pl

set_option Elab.async false
set_option linter.all false
set_option autoImplicit false
set_option maxRecDepth 100000
set_option maxHeartbeats 4000000
namespace Pl
open PySem PySem.Spec PyProof.Rows L2

def WV (X : Cx) (e : Expr) (σ : L2.St) (H : Hp) (Q : VK) : Prop := ∀ (pins : List (Addr × Obj)) (s : Shared), L2.Inv X pins σ H s → wpAny (model X.prog X.w) X.A (eval e X.env) (EP X pins σ Q) X.xe s
def WT (X : Cx) (e : Expr) (σ : L2.St) (H : Hp) (Q : Bool → Hp → Prop) : Prop := ∀ (pins : List (Addr × Obj)) (s : Shared), L2.Inv X pins σ H s → wpAny (model X.prog X.w) X.A (isTrue e X.env (eval e X.env)) (TP X pins σ Q) X.xe s
def WS (X : Cx) (st : Stmt) (D : Ends) (σ : L2.St) (H : Hp) : Prop := ∀ (pins : List (Addr × Obj)) (s : Shared), L2.Inv X pins σ H s → wpAny (model X.prog X.w) X.A (exec st X.env) (SP X pins D) X.xe s
def WB (X : Cx) (st : List Stmt) (D : Ends) (σ : L2.St) (H : Hp) : Prop := ∀ (pins : List (Addr × Obj)) (s : Shared), L2.Inv X pins σ H s → wpAny (model X.prog X.w) X.A (execs st X.env) (SP X pins D) X.xe s
theorem pw {X : Cx} {e : Expr} : PE X e (WV X e) := ⟨fun pins s _ _ _ I h => h pins s I⟩
theorem pwt {X : Cx} {e : Expr} : PT X e (WT X e) := ⟨fun pins s _ _ _ I h => h pins s I⟩
theorem pws {X : Cx} {st : Stmt} : PS X st (WS X st) := ⟨fun pins s _ _ _ I h => h pins s I⟩
theorem pwb {X : Cx} {st : List Stmt} : PSs X st (WB X st) := ⟨fun pins s _ _ _ I h => h pins s I⟩
theorem wv {X : Cx} {e : Expr} {t : TE} (h : PE X e t) {σ : L2.St} {H : Hp} {Q : VK} (q : t σ H Q) : WV X e σ H Q := fun pins s I => h.run pins s σ H Q I q
theorem wt {X : Cx} {e : Expr} {t : TT} (h : PT X e t) {σ : L2.St} {H : Hp} {Q : Bool → Hp → Prop} (q : t σ H Q) : WT X e σ H Q := fun pins s I => h.run pins s σ H Q I q
theorem ws {X : Cx} {st : Stmt} {t : TS} (h : PS X st t) {σ : L2.St} {H : Hp} {D : Ends} (q : t D σ H) : WS X st D σ H := fun pins s I => h.run pins s σ H D I q
theorem wb {X : Cx} {st : List Stmt} {t : TS} (h : PSs X st t) {σ : L2.St} {H : Hp} {D : Ends} (q : t D σ H) : WB X st D σ H := fun pins s I => h.run pins s σ H D I q
theorem WV.mono {X : Cx} {e : Expr} {σ : L2.St} {H : Hp} {Q Q' : VK} (h : WV X e σ H Q) (k : ∀ v H', Q v H' → Q' v H') : WV X e σ H Q' := fun pins s I => thn (h pins s I) fun u s' ⟨v, H', I', r, q⟩ => ⟨v, H', I', r, k v H' q⟩
theorem WT.mono {X : Cx} {e : Expr} {σ : L2.St} {H : Hp} {Q Q' : Bool → Hp → Prop} (h : WT X e σ H Q) (k : ∀ v H', Q v H' → Q' v H') : WT X e σ H Q' := fun pins s I => thn (h pins s I) fun u s' ⟨H', I', q⟩ => ⟨H', I', k _ H' q⟩

def Res {α : Type} (o : Out α) (k : α → Env → Prop) (x : Nat → List P → Env → Prop) : Prop := match o with
  | .ok a ρ => k a ρ
  | .exc c fs ρ => x c fs ρ
  | .bad => False
theorem Res.bnd {α β : Type} {o : Out α} {f : α → Env → Out β} {k : β → Env → Prop} {x : Nat → List P → Env → Prop} (h : Res (bnd o f) k x) : Res o (fun a ρ => Res (f a ρ) k x) x := by
  cases o <;> exact h
theorem Res.bndF {β : Type} {o : Out D} {f : P → Env → Out β} {k : β → Env → Prop} {x : Nat → List P → Env → Prop} (h : Res (bndF o f) k x) : Res o (fun a ρ => Res (f (frz a) ρ) k x) x := by
  cases o <;> exact h
theorem Res.mono {α : Type} {o : Out α} {k k' : α → Env → Prop} {x x' : Nat → List P → Env → Prop} (h : Res o k x) (hk : ∀ a ρ, k a ρ → k' a ρ) (hx : ∀ c fs ρ, x c fs ρ → x' c fs ρ) : Res o k' x' := by
  cases o with
  | ok a ρ => exact hk a ρ h
  | exc c fs ρ => exact hx c fs ρ h
  | bad => exact h
theorem Res.fin {α : Type} {o : Option α} {ρ : Env} {k : α → Env → Prop} {x : Nat → List P → Env → Prop} (h : Res (fin o ρ) k x) : ∃ a, o = some a ∧ k a ρ := by
  cases o with
  | none => exact h.elim
  | some a => exact ⟨a, rfl, h⟩

section
variable (K : PySem.W.Frag) (ad : Nat → Addr) (fld : Nat → Str)
/-- an error's own dict -/
def XR (F : Hp) (c : Nat) (fs : List P) (dd : Option Addr) : Prop :=
  (fs = [] ∧ dd = none) ∨ ∃ x a v, fs = [x] ∧ dd = some a ∧ F a = some (.xd [(fld c, v)]) ∧ Rp K ad F v x
/-- what is wanted behind a value, behind an error -/
def KV (F H : Hp) (A : List Addr) (σ : L2.St) (Q : VK) (d : D) (ρ' : Env) : Prop := ∀ v F' H' A' B, Go F H A F' H' (A' ++ B) → RE K ad F' H' σ ρ' A' → Rep K ad F' H' v d B → Q v H'
def KX (F H : Hp) (A : List Addr) (σ : L2.St) (W : WX) (c : Nat) (fs : List P) (ρ' : Env) : Prop := ∀ dd F' H' A', Go F H A F' H' A' → RE K ad F' H' σ ρ' A' → XR K ad fld F' c fs dd → W (.ref (ad c)) dd σ H'
def KT (F H : Hp) (A : List Addr) (σ : L2.St) (Q : Bool → Hp → Prop) (b : Bool) (ρ' : Env) : Prop := ∀ F' H' A', Go F H A F' H' A' → RE K ad F' H' σ ρ' A' → Q b H'
/-- the text e means m -/
def OkV (X : Cx) (W : WX) (e : Expr) (m : Env → Out D) : Prop := ∀ ρ F H σ A Q, Wf F H A → RE K ad F H σ ρ A → Res (m ρ) (KV K ad F H A σ Q) (KX K ad fld F H A σ W) → WV X e σ H Q
def OkT (X : Cx) (W : WX) (e : Expr) (m : Env → Out Bool) : Prop := ∀ ρ F H σ A Q, Wf F H A → RE K ad F H σ ρ A → Res (m ρ) (KT K ad F H A σ Q) (KX K ad fld F H A σ W) → WT X e σ H Q
end

section
variable {K : PySem.W.Frag} {ad : Nat → Addr} {fld : Nat → Str} {X : Cx} {W : WX}
theorem KX.go {F H F1 H1 : Hp} {A A1 : List Addr} {σ : L2.St} (g : Go F H A F1 H1 A1) {c : Nat} {fs : List P} {ρ : Env} (h : KX K ad fld F H A σ W c fs ρ) : KX K ad fld F1 H1 A1 σ W c fs ρ := fun dd F' H' A' g' re xr => h dd F' H' A' (g.trans g') re xr
/-- .. with something held besides, that is dropped -/
theorem KX.goT {F H F1 H1 : Hp} {A A1 T : List Addr} {σ : L2.St} (g : Go F H A F1 H1 (A1 ++ T)) {c : Nat} {fs : List P} {ρ : Env} (h : KX K ad fld F H A σ W c fs ρ) : KX K ad fld F1 H1 A1 σ W c fs ρ := fun dd F' H' A' g' re xr => h dd F' H' A' (g.trans (g'.frame g.wf)).dropR re xr

/-- readable now as plain data -/
def Rq (K : PySem.W.Frag) (ad : Nat → Addr) (F H : Hp) (v : V) (x : P) : Prop := Rp K ad F v x ∨ ∃ a vs xs, v = .ref a ∧ x = .lst xs ∧ H a = some (.lst vs) ∧ RpL K ad F vs xs
theorem flatL_ok {F H : Hp} : ∀ {vs : List V} {ds : List D} {A : List Addr} {xs : List P}, RepL K ad F H vs ds A → flatD.flatL ds = some xs → RpL K ad F vs xs
  | _, _, _, _, .nil, h => by
    cases h
    exact .nil
  | _, _, _, _, .cons (.p r) k, h => by
    obtain ⟨ys, e, rfl⟩ := Option.map_eq_some_iff.mp h
    exact .cons r (flatL_ok k e)
  | _, _, _, _, .cons (.l _ _) _, h => by cases h
  | _, _, _, _, .cons (.d _ _ _) _, h => by cases h
theorem flat_ok {F H : Hp} {v : V} {d : D} {A : List Addr} {x : P} (r : Rep K ad F H v d A) (h : flatD d = some x) : Rq K ad F H v x := by
  cases r with
  | p r =>
    cases h
    exact .inl r
  | @l a vs ds A e k =>
    obtain ⟨xs, e1, rfl⟩ := Option.map_eq_some_iff.mp h
    exact .inr ⟨a, vs, xs, rfl, rfl, e, flatL_ok k e1⟩
  | d _ _ _ => cases h
theorem Rq.mono {F H F' : Hp} {v : V} {x : P} (e : Ex' F F') (r : Rq K ad F H v x) : Rq K ad F' H v x := by
  rcases r with r | ⟨a, vs, xs, h1, h2, h3, h4⟩
  · exact .inl (r.mono e)
  · exact .inr ⟨a, vs, xs, h1, h2, h3, h4.mono e⟩
theorem getD_ok {ρ : Env} {i : Nat} {d : D} (h : getD ρ i = some d) : ρ[i]? = some (some d) := by
  unfold getD at h
  cases e : ρ[i]? with
  | none => rw [e] at h; cases h
  | some o =>
    rw [e] at h
    cases o with
    | none => cases h
    | some d' => rw [show d' = d from Option.some.inj h]
theorem getP_ok {ρ : Env} {i : Nat} {x : P} (h : getP ρ i = some x) : ρ[i]? = some (some (.p x)) := by
  unfold getP at h
  obtain ⟨d, e, q⟩ := Option.bind_eq_some_iff.mp h
  cases d with
  | p y =>
    rw [show y = x from Option.some.inj q] at e
    exact getD_ok e
  | l _ => cases q
  | d _ _ => cases q

/-- an operand, as the name says: it is only looked at -/
def OkO (K : PySem.W.Frag) (ad : Nat → Addr) (fld : Nat → Str) (X : Cx) (W : WX) (e : Expr) (ia : Option Nat) (m : Env → Out D) : Prop := match ia with
  | some s => PE X e (tVar s)
  | none => OkV K ad fld X W e m
/-- held until the operation comes: an operand's value -/
def Hold (K : PySem.W.Frag) (ad : Nat → Addr) (σ : L2.St) (ia : Option Nat) (x : P) (v : V) (F : Hp) : Prop := match ia with
  | some s => σ[s]? = some (some v)
  | none => Rp K ad F v x
theorem Hold.mono {σ : L2.St} {ia : Option Nat} {x : P} {v : V} {F F' : Hp} (e : Ex' F F') (h : Hold K ad σ ia x v F) : Hold K ad σ ia x v F' := by
  cases ia with
  | none => exact Rp.mono (K := K) (ad := ad) e h
  | some s => exact h
theorem Hold.res {σ : L2.St} {ia : Option Nat} {x y : P} {v : V} {F H : Hp} {ρ : Env} {A : List Addr} (re : RE K ad F H σ ρ A) (h : Hold K ad σ ia x v F) (e : res ia x ρ = some y) : Rq K ad F H v y := by
  cases ia with
  | none =>
    cases e
    exact .inl h
  | some s =>
    obtain ⟨d, h1, h2⟩ := Option.bind_eq_some_iff.mp e
    obtain ⟨v', B, R, h3, h4, _⟩ := re.get (getD_ok h1)
    have : v' = v := Option.some.inj (Option.some.inj (h3.symm.trans h))
    subst this
    exact flat_ok h4 h2
theorem OkO.run {e : Expr} {ia : Option Nat} {m : Env → Out D} (ok : OkO K ad fld X W e ia m) {ρ : Env} {F H : Hp} {σ : L2.St} {A : List Addr} {Q : VK} {k : P → Env → Prop} (w : Wf F H A) (re : RE K ad F H σ ρ A)
    (h : Res (opd ia m ρ) k (KX K ad fld F H A σ W)) (q : ∀ x ρ1, k x ρ1 → ∀ v F1 H1 A1, Go F H A F1 H1 A1 → RE K ad F1 H1 σ ρ1 A1 → Hold K ad σ ia x v F1 → Q v H1) : WV X e σ H Q := by
  cases ia with
  | some s =>
    have ok' : PE X e (tVar s) := ok
    have h' : Res (match getD ρ s with | some _ => Out.ok P.non ρ | none => Out.bad) k (KX K ad fld F H A σ W) := h
    cases e1 : getD ρ s with
    | none => rw [e1] at h'; exact h'.elim
    | some d =>
      rw [e1] at h'
      obtain ⟨v, B, R, h3, _⟩ := re.get (getD_ok e1)
      exact wv ok' ⟨v, h3, q _ _ h' v F H A (.refl w) re h3⟩
  | none =>
    have ok' : OkV K ad fld X W e m := ok
    have h' : Res (bndF (m ρ) fun x ρ1 => .ok x ρ1) k (KX K ad fld F H A σ W) := h
    refine ok' ρ F H σ A Q w re (h'.bndF.mono (fun d ρ1 hk => ?_) fun _ _ _ hx => hx)
    intro v F1 H1 A1 B g re1 r
    exact q _ _ hk v _ H1 A1 (g.trans g.wf.froz) (re1.mono g.wf.froz.ff fun _ _ => rfl) (r.froz g.wf)
end
end Pl

set_option Elab.async false
set_option linter.all false
set_option autoImplicit false
set_option maxRecDepth 100000
set_option maxHeartbeats 4000000
namespace Pl
open PySem PySem.Spec PyProof.Rows L2
section
variable {K : PySem.W.Frag} {ad : Nat → Addr} {fld : Nat → Str} {X : Cx} {W : WX}
variable {F H F1 H1 : Hp} {A A1 B : List Addr} {σ : L2.St} {Q : VK} {ρ : Env} {d : D} {v u : V} {x y : P} {vs : List V} {xs : List P} {ds : List D}

theorem KV.p (h : KV K ad F H A σ Q (.p x) ρ) (g : Go F H A F1 H1 A1) (re : RE K ad F1 H1 σ ρ A1) (r : Rp K ad F1 v x) : Q v H1 :=
  h v F1 H1 A1 [] (by rw [List.append_nil]; exact g) re (.p r)
theorem KV.newTup (h : KV K ad F H A σ Q (.p (.tup xs)) ρ) (g : Go F H A F1 H1 A1) (re : RE K ad F1 H1 σ ρ A1) (r : RpL K ad F1 vs xs) {p : Addr} (hp : H1 p = none) : Q (.ref p) (upd H1 p (.tup vs)) := by
  have g2 := g.wf.newP (o := .tup vs) hp
  exact h.p (g.trans g2) (re.mono g2.ff fun a ha => upd_ne fun z => g.wf.al a ha (by rw [z]; exact hp)) (.tup (.inl (.inl upd_same)) (r.mono g2.ff))
theorem rep_map_p : ∀ {vs : List V} {xs : List P}, RpL K ad F vs xs → RepL K ad F H vs (xs.map .p) []
  | _, _, .nil => .nil
  | _, _, .cons r k => .cons (A := []) (B := []) (.p r) (rep_map_p k)
theorem KV.newLstD (h : KV K ad F H A σ Q (.l ds) ρ) (g : Go F H A F1 H1 (A1 ++ B)) (re : RE K ad F1 H1 σ ρ A1) (r : RepL K ad F1 H1 vs ds B) {p : Addr} (hp : H1 p = none) : Q (.ref p) (upd H1 p (.lst vs)) := by
  have ne : ∀ a ∈ A1 ++ B, a ≠ p := fun a ha z => g.wf.al a ha (by rw [z]; exact hp)
  refine h (.ref p) F1 (upd H1 p (.lst vs)) A1 (p :: B) ((g.trans (g.wf.newL (o := .lst vs) hp)).permR List.perm_middle.symm) (re.mono (.refl _) fun a ha => upd_ne (ne a (List.mem_append.mpr (.inl ha)))) (.l upd_same (r.mono (.refl _) fun a ha => upd_ne (ne a (List.mem_append.mpr (.inr ha)))))
theorem KV.newLst (h : KV K ad F H A σ Q (.l (xs.map .p)) ρ) (g : Go F H A F1 H1 A1) (re : RE K ad F1 H1 σ ρ A1) (r : RpL K ad F1 vs xs) {p : Addr} (hp : H1 p = none) : Q (.ref p) (upd H1 p (.lst vs)) :=
  h.newLstD (B := []) (by rw [List.append_nil]; exact g) re (rep_map_p r) hp

theorem RpL.len : ∀ {vs : List V} {xs : List P}, RpL K ad F vs xs → vs.length = xs.length
  | _, _, .nil => rfl
  | _, _, .cons _ k => by simp [RpL.len k]
theorem RpL.append : ∀ {vs us : List V} {xs ys : List P}, RpL K ad F vs xs → RpL K ad F us ys → RpL K ad F (vs ++ us) (xs ++ ys)
  | _, _, _, _, .nil, k => k
  | _, _, _, _, .cons r k, l => .cons r (RpL.append k l)
theorem RpL.get : ∀ {vs : List V} {xs : List P} {i : Nat} {x : P}, RpL K ad F vs xs → xs[i]? = some x → ∃ v, vs[i]? = some v ∧ Rp K ad F v x
  | _, _, _, _, .nil, h => by simp at h
  | _, _, 0, _, .cons r k, h => by
    simp at h
    subst h
    exact ⟨_, by simp, r⟩
  | _, _, i + 1, _, .cons r k, h => by
    obtain ⟨v, h1, h2⟩ := RpL.get (i := i) k (by simpa using h)
    exact ⟨v, by simpa using h1, h2⟩
theorem RpL.take : ∀ {vs : List V} {xs : List P} (n : Nat), RpL K ad F vs xs → RpL K ad F (vs.take n) (xs.take n)
  | _, _, 0, _ => by
    rw [List.take_zero, List.take_zero]
    exact .nil
  | _, _, n + 1, .nil => .nil
  | _, _, n + 1, .cons r k => .cons r (RpL.take n k)
theorem RpL.drop : ∀ {vs : List V} {xs : List P} (n : Nat), RpL K ad F vs xs → RpL K ad F (vs.drop n) (xs.drop n)
  | _, _, 0, k => k
  | _, _, n + 1, .nil => .nil
  | _, _, n + 1, .cons r k => RpL.drop n k
theorem RpL.rep (n : Nat) (r : RpL K ad F vs xs) : RpL K ad F (List.replicate n vs).flatten (List.replicate n xs).flatten := by
  induction n with
  | zero => exact .nil
  | succ n ih =>
    rw [List.replicate_succ, List.replicate_succ, List.flatten_cons, List.flatten_cons]
    exact r.append ih
theorem Rq.int {i : Int} (r : Rq K ad F H v (.int i)) : v = .int i := by
  rcases r with r | ⟨_, _, _, _, h, _⟩
  · cases r; rfl
  · cases h
theorem Rq.bl {b : Bool} (r : Rq K ad F H v (.bl b)) : v = .bl b := by
  rcases r with r | ⟨_, _, _, _, h, _⟩
  · cases r; rfl
  · cases h
theorem Rq.str {s : Str} (r : Rq K ad F H v (.str s)) : v = .str s := by
  rcases r with r | ⟨_, _, _, _, h, _⟩
  · cases r; rfl
  · cases h
theorem Rq.non (r : Rq K ad F H v .non) : v = .non := by
  rcases r with r | ⟨_, _, _, _, h, _⟩
  · cases r; rfl
  · cases h
theorem Rq.lst (e : Ex' F H) (r : Rq K ad F H v (.lst xs)) : ∃ a vs, v = .ref a ∧ H a = some (.lst vs) ∧ RpL K ad F vs xs := by
  rcases r with r | ⟨a, vs, ys, h1, h2, h3, h4⟩
  · cases r with
    | lst h k => exact ⟨_, _, rfl, e _ _ h, k⟩
  · cases h2
    exact ⟨a, vs, h1, h3, h4⟩
theorem Rq.scr (e : Ex' F H) (r : Rq K ad F H v (.scr xs)) : ∃ a vs, v = .ref a ∧ SqL K H a vs ∧ RpL K ad F vs xs := by
  rcases r with r | ⟨a, vs, ys, h1, h2, h3, h4⟩
  · cases r with
    | scr h k => exact ⟨_, _, rfl, e.sqL h, k⟩
  · cases h2
theorem Rq.tup (e : Ex' F H) (r : Rq K ad F H v (.tup xs)) : ∃ a vs, v = .ref a ∧ SqT K H a vs ∧ RpL K ad F vs xs := by
  rcases r with r | ⟨a, vs, ys, h1, h2, h3, h4⟩
  · cases r with
    | tup h k => exact ⟨_, _, rfl, e.sqT h, k⟩
  · cases h2

theorem Rq.isRp (r : Rq K ad F H v (.tup xs)) : Rp K ad F v (.tup xs) := by
  rcases r with r | ⟨_, _, _, _, z, _⟩
  · exact r
  · cases z
theorem OpR.imp {f : Value → Value → Sem Value} {r r' : R2} (h : OpR X f r) (k : ∀ x y H Q, r' x y H Q → r x y H Q) : OpR X f r' := fun pins s σ H x y v u Q I rx ry q => h pins s σ H x y v u Q I rx ry (k _ _ _ _ q)
def rMulS : R2 := fun x y H Q => ∃ s k, x = .str s ∧ y = .int k ∧ MulOk s k ∧ Q (.str (Txt.mul s k)) H
theorem op_mulS : OpR X (binaryOp .Mult) rMulS := by
  intro pins s σ H x y v u Q I rx ry h
  obtain ⟨z, k, rfl, rfl, hm, q⟩ := h
  obtain ⟨t, rfl⟩ := rx
  obtain ⟨t2, rfl⟩ := ry
  exact SB.mul hm fun t' tk => ⟨.str _, H, I.tok tk, ⟨t', rfl⟩, q⟩
theorem mulS_ok {s : Str} {k : Int} (h : mulSOk s k = true) : MulOk s k := by
  unfold mulSOk at h
  rw [Bool.and_eq_true, Bool.and_eq_true] at h
  have h1 := of_decide_eq_true h.1.1
  have h2 := of_decide_eq_true h.1.2
  have h3 := of_decide_eq_true h.2
  have h4 : s.length * k.toNat ≤ 1000 * 1000 := Nat.mul_le_mul h3 (by omega)
  refine ⟨?_, fun h5 _ h6 => ?_, fun _ _ => ?_⟩
  · rw [decide_eq_false (by omega), decide_eq_false (by omega)]
    rfl
  · have h7 : (s.length : Int) * k ≤ 1000 * 1000 := Int.mul_le_mul (by omega) h2 h1 (by decide)
    have h8 : (s.length : Int) ≤ (2 ^ 63 - 1) / k := (Int.le_ediv_iff_mul_le (by omega)).mpr (by omega)
    omega
  · unfold Builtin.Str.tooLong
    exact decide_eq_false (by rw [sizeLine_eq]; omega)
/-- what an operator asks, as a predicate of the evaluator -/
def BinR (K : PySem.W.Frag) : Operator → R2
  | .Add => fun x y H Q => (rI0 (fun i j => .int (i + j)) x y H Q ∨ rCat x y H Q) ∨ rCatA K x y H Q
  | .Sub => rI0 fun i j => .int (i - j)
  | .Mult => fun x y H Q => ((rI CMul (fun i j => .int (i * j)) x y H Q ∨ rI CMulW (fun i j => .int (i * j)) x y H Q) ∨ rRep x y H Q) ∨ rMulS x y H Q
  | .FloorDiv => rI CDivW fun i j => .int (i / j)
  | .Mod => rI (fun _ j => 0 < j) fun i j => .int (i % j)
  | .Pow => rI (fun i j => powOk i j = true) fun i j => .int (i ^ j.toNat)
  | _ => fun _ _ _ _ => False
theorem op_powW : OpR X (binaryOp .Pow) (rI (fun i j => powOk i j = true) fun i j => .int (i ^ j.toNat)) := opI fun i j _ _ _ _ _ hc q => by
  unfold powOk at hc
  rw [Bool.and_eq_true] at hc
  exact pow_int (of_decide_eq_true hc.1) (of_decide_eq_true hc.2) q
theorem opBin (hK : X.K = K) (op : Operator) : OpR X (binaryOp op) (BinR K op) := by
  subst hK
  cases op
  case Add => exact (op_add.or op_cat).or op_catA
  case Sub => exact op_sub
  case Mult => exact ((op_mul.or op_mulW).or op_rep).or op_mulS
  case FloorDiv => exact op_fdivW
  case Mod => exact op_mod
  case Pow => exact op_powW
  all_goals exact fun _ _ _ _ _ _ _ _ _ _ _ _ h => h.elim
theorem log_small {j : Int} (h1 : 0 < j) (h2 : j < 2 ^ 64) : j.natAbs.log2 < 9000 := by
  have h3 : j.natAbs ≠ 0 := by omega
  have h4 : j.natAbs < 2 ^ 64 := by omega
  have := (Nat.log2_lt h3).mpr h4
  omega
/-- the operator does what the evaluator says -/
theorem bin_ok {op : Operator} (w : Wf F1 H1 A1) (g : Go F H A F1 H1 A1) (re : RE K ad F1 H1 σ ρ A1) (rx : Rq K ad F1 H1 v x) (ry : Rq K ad F1 H1 u y) (e : binop op x y = some d) (h : KV K ad F H A σ Q d ρ) : BinR K op v u H1 Q := by
  unfold binop at e
  split at e
  · cases e; rw [rx.int, ry.int]; exact .inl (.inl ⟨_, _, rfl, rfl, h.p g re (.int _)⟩)
  · cases e; rw [rx.int, ry.int]; exact ⟨_, _, rfl, rfl, h.p g re (.int _)⟩
  · split at e
    · rename_i hm
      cases e
      rw [rx.int, ry.int]
      unfold mulOk at hm
      rw [Bool.or_eq_true, Bool.or_eq_true] at hm
      rcases hm with (hm | hm) | hm
      · exact .inl (.inl (.inl ⟨_, _, rfl, rfl, .inl (by have := of_decide_eq_true hm; omega), h.p g re (.int _)⟩))
      · exact .inl (.inl (.inl ⟨_, _, rfl, rfl, .inr (by have := of_decide_eq_true hm; omega), h.p g re (.int _)⟩))
      · exact .inl (.inl (.inr ⟨_, _, rfl, rfl, by unfold CMulW; exact of_decide_eq_true hm, h.p g re (.int _)⟩))
    · cases e
  · split at e
    · rename_i hm
      cases e
      rw [rx.int, ry.int]
      unfold divOk at hm
      rw [Bool.and_eq_true, Bool.or_eq_true] at hm
      refine ⟨_, _, rfl, rfl, ⟨of_decide_eq_true hm.1, ?_⟩, h.p g re (.int _)⟩
      rcases hm.2 with q | q
      · have q1 := of_decide_eq_true hm.1
        have q2 := of_decide_eq_true q
        exact log_small q1 q2
      · exact of_decide_eq_true q
    · cases e
  · split at e
    · rename_i hm
      cases e
      rw [rx.int, ry.int]
      exact ⟨_, _, rfl, rfl, of_decide_eq_true hm, h.p g re (.int _)⟩
    · cases e
  · split at e
    · rename_i hm
      cases e
      rw [rx.int, ry.int]
      exact ⟨_, _, rfl, rfl, hm, h.p g re (.int _)⟩
    · cases e
  · split at e
    · rename_i hm
      cases e
      obtain ⟨a, vs, rfl, h1, h2⟩ := rx.lst w.sub
      obtain ⟨b, us, rfl, h3, h4⟩ := ry.lst w.sub
      refine .inl (.inr ⟨a, b, vs, us, rfl, rfl, h1, h3, by rw [h2.len, h4.len, sizeLine_eq]; exact hm, fun p hp => ?_⟩)
      exact h.newLst g re (h2.append h4) hp
    · cases e
  · split at e
    · rename_i hm
      cases e
      obtain ⟨a, vs, rfl, h1, h2⟩ := rx.tup w.sub
      obtain ⟨b, us, rfl, h3, h4⟩ := ry.tup w.sub
      refine .inr ⟨a, b, vs, us, rfl, rfl, h1, h3, by rw [h2.len, h4.len, sizeLine_eq]; exact hm, fun z => ?_, fun _ z => ?_, fun _ _ p hp => h.newTup g re (h2.append h4) hp⟩
      · subst z
        cases h2
        exact h.p g re ry.isRp
      · subst z
        cases h4
        rw [List.append_nil] at h
        exact h.p g re rx.isRp
    · cases e
  · split at e
    · rename_i hm
      cases e
      rw [Bool.and_eq_true, Bool.and_eq_true] at hm
      obtain ⟨a, vs, rfl, h1, h2⟩ := rx.lst w.sub
      rw [ry.int]
      refine .inl (.inr ⟨a, _, vs, rfl, rfl, h1, of_decide_eq_true hm.1.1, of_decide_eq_true hm.1.2, by rw [h2.len, sizeLine_eq]; exact of_decide_eq_true hm.2, fun p hp => ?_⟩)
      exact h.newLst g re (h2.rep _) hp
    · cases e
  · split at e
    · rename_i hm
      cases e
      rw [rx.str, ry.int]
      exact .inr ⟨_, _, rfl, rfl, mulS_ok hm, h.p g re (.str _)⟩
    · cases e
  · cases e

mutual
theorem Rp.dp {F H : Hp} (e : Ex' F H) : ∀ {v : V} {x : P} {d : PyData}, Rp K ad F v x → x.toPy = some d → Dp K H v d
  | _, _, _, .non, h => by cases h; exact .non
  | _, _, _, .bl b, h => by cases h; exact .bl b
  | _, _, _, .int i, h => by cases h; exact .int i
  | _, _, _, .str s, h => by cases h; exact .str s
  | _, _, _, .tup q k, h => by
    obtain ⟨ds, h1, rfl⟩ := Option.map_eq_some_iff.mp h
    exact .tup (e.sqT q) (RpL.dp e k h1)
  | _, _, _, .lst q k, h => by
    obtain ⟨ds, h1, rfl⟩ := Option.map_eq_some_iff.mp h
    exact .lst (.inl (.inl (e _ _ q))) (RpL.dp e k h1)
  | _, _, _, .scr _ _, h => by cases h
  | _, _, _, .exc _ _, h => by cases h
theorem RpL.dp {F H : Hp} (e : Ex' F H) : ∀ {vs : List V} {xs : List P} {ds : List PyData}, RpL K ad F vs xs → P.toPyL xs = some ds → DpAll K H vs ds
  | _, _, _, .nil, h => by cases h; exact .nil
  | _, _, _, .cons r k, h => by
    obtain ⟨d, h1, h2⟩ := Option.bind_eq_some_iff.mp h
    obtain ⟨ds, h3, rfl⟩ := Option.map_eq_some_iff.mp h2
    exact .cons (Rp.dp e r h1) (RpL.dp e k h3)
end
theorem Rq.dp (e : Ex' F H) {d : PyData} (r : Rq K ad F H v x) (h : x.toPy = some d) : Dp K H v d := by
  rcases r with r | ⟨a, vs, xs, rfl, rfl, h3, h4⟩
  · exact r.dp e h
  · obtain ⟨ds, h1, rfl⟩ := Option.map_eq_some_iff.mp h
    exact .lst (.inl (.inl h3)) (h4.dp e h1)
theorem Rq.flat (r : Rq K ad F H v x) (h : x.flat = true) : v = x.toV ∧ flatV v = true := by
  rcases r with r | ⟨a, vs, xs, rfl, rfl, _, _⟩
  · cases r <;> first | exact ⟨rfl, rfl⟩ | cases h
  · cases h
theorem RpL.flat : ∀ {vs : List V} {xs : List P}, RpL K ad F vs xs → xs.all P.flat = true → vs = xs.map P.toV ∧ vs.all flatV = true
  | _, _, .nil, _ => ⟨rfl, rfl⟩
  | _, _, .cons r k, h => by
    rw [List.all_cons, Bool.and_eq_true] at h
    obtain ⟨e1, f1⟩ := Rq.flat (H := F) (.inl r) h.1
    obtain ⟨e2, f2⟩ := RpL.flat k h.2
    exact ⟨by rw [List.map_cons, ← e1, ← e2], by rw [List.all_cons, f1, f2] <;> rfl⟩
theorem Rq.isN {b : Bool} (r : Rq K ad F H v x) (h : isNonO x = some b) : decide (v = .non) = b := by
  rcases r with r | ⟨a, vs, xs, rfl, rfl, _, _⟩
  · cases r <;> first | (cases h; done) | (cases h; rfl)
  · cases h; rfl
def rEqI : R2 := rI0 fun i j => .bl (decide (i = j))
def rNeI : R2 := rI0 fun i j => .bl (!decide (i = j))
theorem decV {i j : Int} : decide (V.int i = V.int j) = decide (i = j) := by
  by_cases h : i = j
  · rw [h, decide_eq_true rfl, decide_eq_true rfl]
  · rw [decide_eq_false h, decide_eq_false fun z => h (V.int.inj z)]
theorem op_eqI : OpR X (compareOp .Eq) rEqI := OpR.imp op_eq fun x y H Q ⟨i, j, e1, e2, q⟩ => by
  subst e1 e2
  exact ⟨rfl, by rw [decV]; exact q⟩
theorem op_neI : OpR X (compareOp .NotEq) rNeI := OpR.imp op_ne fun x y H Q ⟨i, j, e1, e2, q⟩ => by
  subst e1 e2
  exact ⟨rfl, by rw [decV]; exact q⟩
def rInA (K : PySem.W.Frag) (neg : Bool) : R2 := fun x y H Q => ∃ d ds, Dp K H x d ∧ (Dp K H y (.list ds) ∨ Dp K H y (.tuple ds)) ∧ SeqAt.shaped d = true ∧ SeqAt.shaped (.list ds) = true ∧ Q (.bl (if neg then !(ds.any fun z => PyData.eqv z d) else ds.any fun z => PyData.eqv z d)) H
def CmpR (K : PySem.W.Frag) : CmpOp → R2
  | .Lt => rI0 fun i j => .bl (decide (i < j))
  | .LtE => rI0 fun i j => .bl (decide (i ≤ j))
  | .Gt => rI0 fun i j => .bl (decide (j < i))
  | .GtE => rI0 fun i j => .bl (decide (j ≤ i))
  | .Eq => fun x y H Q => rEqI x y H Q ∨ rEqD K x y H Q
  | .NotEq => fun x y H Q => rNeI x y H Q ∨ rNeD K x y H Q
  | .Is => fun x y H Q => (y = .non ∧ Q (.bl (decide (x = .non))) H) ∨ ∃ a b, x = .bl a ∧ y = .bl b ∧ Q (.bl (decide (a = b))) H
  | .IsNot => fun x y H Q => (y = .non ∧ Q (.bl (!decide (x = .non))) H) ∨ ∃ a b, x = .bl a ∧ y = .bl b ∧ Q (.bl (!decide (a = b))) H
  | .In => fun x y H Q => rIn K false x y H Q ∨ rInA K false x y H Q
  | .NotIn => fun x y H Q => rIn K true x y H Q ∨ rInA K true x y H Q
theorem op_inA (hu : X.A.units + 65 < cLine) : OpR X (compareOp .In) (rInA X.K false) := by
  intro pins s σ H x y v u Q I rx ry h
  obtain ⟨d, ds, hd, he, sd, se, q⟩ := h
  obtain ⟨as, r1⟩ := Dp.reads I d x v hd rx
  rcases he with he | he
  · obtain ⟨bs, r2⟩ := Dp.reads I (.list ds) y u he ry
    exact SeqAt.in_list_reads r2 r1 (SeqAt.canLay_of_shaped se) (SeqAt.canLay_of_shaped sd) (room_in_shaped sd hu) ⟨.bl _, H, I, rfl, q⟩
  · obtain ⟨bs, r2⟩ := Dp.reads I (.tuple ds) y u he ry
    exact SeqAt.in_tuple_reads r2 r1 (SeqAt.canLay_of_shaped se) (SeqAt.canLay_of_shaped sd) (room_in_shaped sd hu) ⟨.bl _, H, I, rfl, q⟩
theorem op_notInA (hu : X.A.units + 65 < cLine) : OpR X (compareOp .NotIn) (rInA X.K true) := by
  intro pins s σ H x y v u Q I rx ry h
  obtain ⟨d, ds, hd, he, sd, se, q⟩ := h
  obtain ⟨as, r1⟩ := Dp.reads I d x v hd rx
  rcases he with he | he
  · obtain ⟨bs, r2⟩ := Dp.reads I (.list ds) y u he ry
    exact SeqAt.notIn_list_reads r2 r1 (SeqAt.canLay_of_shaped se) (SeqAt.canLay_of_shaped sd) (room_in_shaped sd hu) ⟨.bl _, H, I, rfl, q⟩
  · obtain ⟨bs, r2⟩ := Dp.reads I (.tuple ds) y u he ry
    exact SeqAt.notIn_tuple_reads r2 r1 (SeqAt.canLay_of_shaped se) (SeqAt.canLay_of_shaped sd) (room_in_shaped sd hu) ⟨.bl _, H, I, rfl, q⟩
theorem opCmp (hK : X.K = K) (hu : X.A.units + 65 < cLine) (op : CmpOp) : OpR X (compareOp op) (CmpR K op) := by
  subst hK
  cases op
  case Lt => exact op_lt
  case LtE => exact op_le
  case Gt => exact op_gt
  case GtE => exact op_ge
  case Eq => exact op_eqI.or (op_eqD (by omega))
  case NotEq => exact op_neI.or (op_neD (by omega))
  case Is => exact op_isN.or op_is_bl
  case IsNot => exact op_notN.or op_isnot_bl
  case In => exact op_in_seq.or (op_inA hu)
  case NotIn => exact op_notIn_seq.or (op_notInA hu)
theorem inP_ok {b : Bool} (w : Wf F1 H1 A1) (rx : Rq K ad F1 H1 v x) (ry : (∃ xs, y = .lst xs ∧ inP x xs = some b) ∨ ∃ xs, y = .tup xs ∧ inP x xs = some b) (rq : Rq K ad F1 H1 u y) {neg : Bool} (q : Q (.bl (if neg then !b else b)) H1) : rIn K neg v u H1 Q := by
  rcases ry with ⟨xs, rfl, h⟩ | ⟨xs, rfl, h⟩
  · obtain ⟨a, vs, rfl, h1, h2⟩ := rq.lst w.sub
    unfold inP at h
    split at h
    · rename_i hf
      rw [Bool.and_eq_true] at hf
      cases h
      obtain ⟨e1, f1⟩ := rx.flat hf.1
      obtain ⟨e2, f2⟩ := h2.flat hf.2
      exact ⟨a, vs, rfl, .inl (.inl (.inl h1)), f1, f2, by rw [e1, e2]; exact q⟩
    · cases h
  · obtain ⟨a, vs, rfl, h1, h2⟩ := rq.tup w.sub
    unfold inP at h
    split at h
    · rename_i hf
      rw [Bool.and_eq_true] at hf
      cases h
      obtain ⟨e1, f1⟩ := rx.flat hf.1
      obtain ⟨e2, f2⟩ := h2.flat hf.2
      exact ⟨a, vs, rfl, .inr h1, f1, f2, by rw [e1, e2]; exact q⟩
    · cases h
theorem inD_ok {b : Bool} (w : Wf F1 H1 A1) (rx : Rq K ad F1 H1 v x) (ry : y = .lst xs ∨ y = .tup xs) (h : inD x xs = some b) (rq : Rq K ad F1 H1 u y) {neg : Bool} (q : Q (.bl (if neg then !b else b)) H1) : rInA K neg v u H1 Q := by
  unfold inD at h
  obtain ⟨d, h1, h⟩ := Option.bind_eq_some_iff.mp h
  obtain ⟨ds, h2, h⟩ := Option.bind_eq_some_iff.mp h
  split at h
  · rename_i hs
    rw [Bool.and_eq_true] at hs
    cases h
    refine ⟨d, ds, rx.dp w.sub h1, ?_, hs.1, hs.2, q⟩
    rcases ry with rfl | rfl
    · exact .inl (rq.dp w.sub (show (P.toPyL xs).map PyData.list = some (.list ds) by rw [h2]; rfl))
    · exact .inr (rq.dp w.sub (show (P.toPyL xs).map PyData.tuple = some (.tuple ds) by rw [h2]; rfl))
  · cases h
theorem inA_ok {b : Bool} (w : Wf F1 H1 A1) (rx : Rq K ad F1 H1 v x) (ry : (∃ xs, y = .lst xs ∧ inA x xs = some b) ∨ ∃ xs, y = .tup xs ∧ inA x xs = some b) (rq : Rq K ad F1 H1 u y) {neg : Bool} (q : Q (.bl (if neg then !b else b)) H1) : rIn K neg v u H1 Q ∨ rInA K neg v u H1 Q := by
  have key : ∀ xs, (y = .lst xs ∨ y = .tup xs) → inA x xs = some b → rIn K neg v u H1 Q ∨ rInA K neg v u H1 Q := by
    intro xs hy h
    unfold inA at h
    split at h
    · exact .inr (inD_ok w rx hy h rq q)
    · exact .inr (inD_ok w rx hy h rq q)
    · refine .inl (inP_ok w rx ?_ rq q)
      rcases hy with rfl | rfl
      · exact .inl ⟨_, rfl, h⟩
      · exact .inr ⟨_, rfl, h⟩
  rcases ry with ⟨xs, hy, h⟩ | ⟨xs, hy, h⟩
  · exact key xs (.inl hy) h
  · exact key xs (.inr hy) h
theorem eqP_ok {b : Bool} (w : Wf F1 H1 A1) (rx : Rq K ad F1 H1 v x) (ry : Rq K ad F1 H1 u y) (e : eqP x y = some b) : ∃ d d', Dp K H1 v d ∧ Dp K H1 u d' ∧ SeqAt.shaped d = true ∧ SeqAt.shaped d' = true ∧ PyData.eqv d d' = b := by
  unfold eqP at e
  obtain ⟨d, h1, e⟩ := Option.bind_eq_some_iff.mp e
  obtain ⟨d', h2, e⟩ := Option.bind_eq_some_iff.mp e
  split at e
  · rename_i hs
    rw [Bool.and_eq_true] at hs
    exact ⟨d, d', rx.dp w.sub h1, ry.dp w.sub h2, hs.1, hs.2, Option.some.inj e⟩
  · cases e
theorem cmp_ok {op : CmpOp} {b : Bool} (w : Wf F1 H1 A1) (rx : Rq K ad F1 H1 v x) (ry : Rq K ad F1 H1 u y) (e : cmpop op x y = some b) (q : Q (.bl b) H1) : CmpR K op v u H1 Q := by
  unfold cmpop at e
  split at e
  · cases e; rw [rx.int, ry.int]; exact ⟨_, _, rfl, rfl, q⟩
  · cases e; rw [rx.int, ry.int]; exact ⟨_, _, rfl, rfl, q⟩
  · cases e; rw [rx.int, ry.int]; exact ⟨_, _, rfl, rfl, q⟩
  · cases e; rw [rx.int, ry.int]; exact ⟨_, _, rfl, rfl, q⟩
  · cases e; rw [rx.int, ry.int]; exact .inl ⟨_, _, rfl, rfl, q⟩
  · cases e; rw [rx.int, ry.int]; exact .inl ⟨_, _, rfl, rfl, q⟩
  · obtain ⟨d, d', h1, h2, h3, h4, rfl⟩ := eqP_ok w rx ry e
    exact .inr ⟨d, d', h1, h2, h3, h4, q⟩
  · obtain ⟨c, e', rfl⟩ := Option.map_eq_some_iff.mp e
    obtain ⟨d, d', h1, h2, h3, h4, rfl⟩ := eqP_ok w rx ry e'
    exact .inr ⟨d, d', h1, h2, h3, h4, q⟩
  · exact .inl ⟨ry.non, by rw [rx.isN e]; exact q⟩
  · obtain ⟨c, e', rfl⟩ := Option.map_eq_some_iff.mp e
    exact .inl ⟨ry.non, by rw [rx.isN e']; exact q⟩
  · cases e; exact .inr ⟨_, _, rx.bl, ry.bl, q⟩
  · cases e; exact .inr ⟨_, _, rx.bl, ry.bl, q⟩
  · exact inA_ok w rx (.inl ⟨_, rfl, e⟩) ry (neg := false) q
  · exact inA_ok w rx (.inr ⟨_, rfl, e⟩) ry (neg := false) q
  · obtain ⟨c, e', rfl⟩ := Option.map_eq_some_iff.mp e
    exact inA_ok w rx (.inl ⟨_, rfl, e'⟩) ry (neg := true) q
  · obtain ⟨c, e', rfl⟩ := Option.map_eq_some_iff.mp e
    exact inA_ok w rx (.inr ⟨_, rfl, e'⟩) ry (neg := true) q
  · cases e

theorem IxR.or {r r' : R2} (h : IxR X r) (h' : IxR X r') : IxR X (fun x y H Q => r x y H Q ∨ r' x y H Q) := fun value slice pins s σ H x y v u Q I rx ry q hs => by
  rcases q with q | q
  · exact h value slice pins s σ H x y v u Q I rx ry q hs
  · exact h' value slice pins s σ H x y v u Q I rx ry q hs
def IdxR (K : PySem.W.Frag) : R2 := fun x y H Q => rIxL K x y H Q ∨ rIxT K x y H Q
theorem ixAll (hK : X.K = K) : IxR X (IdxR K) := by
  subst hK
  exact IxR.or ix_list ix_tup
theorem atI_ok {i : Int} (r : RpL K ad F vs xs) (h : atI xs i = some x) : ∃ v, atI vs i = some v ∧ Rp K ad F v x := by
  unfold atI at h ⊢
  rw [r.len]
  obtain ⟨j, h1, h2⟩ := Option.bind_eq_some_iff.mp h
  obtain ⟨v, h3, h4⟩ := r.get h2
  exact ⟨v, by rw [h1]; exact h3, h4⟩
theorem idx_ok (w : Wf F1 H1 A1) (rx : Rq K ad F1 H1 v x) (ru : Rq K ad F1 H1 u y) {z : P} (e : idxP x y = some z) (q : ∀ v', Rp K ad F1 v' z → Q v' H1) : IdxR K v u H1 Q := by
  unfold idxP at e
  split at e
  · obtain ⟨a, vs, rfl, h1, h2⟩ := rx.tup w.sub
    obtain ⟨v', h3, h4⟩ := atI_ok h2 e
    rw [ru.int]
    exact .inr ⟨a, vs, _, v', rfl, rfl, h1, h3, q v' h4⟩
  · obtain ⟨a, vs, rfl, h1, h2⟩ := rx.lst w.sub
    obtain ⟨v', h3, h4⟩ := atI_ok h2 e
    rw [ru.int]
    exact .inl ⟨a, vs, _, v', rfl, rfl, .inl (.inl h1), h3, q v' h4⟩
  · obtain ⟨a, vs, rfl, h1, h2⟩ := rx.scr w.sub
    obtain ⟨v', h3, h4⟩ := atI_ok h2 e
    rw [ru.int]
    exact .inl ⟨a, vs, _, v', rfl, rfl, h1, h3, q v' h4⟩
  · cases e
def SlcR (K : PySem.W.Frag) : V → Option Int → Option Int → Hp → VK → Prop := fun x lo hi H Q => rSlL K x lo hi H Q ∨ rSlA K x lo hi H Q
theorem slAll (hK : X.K = K) : L2.SlR X (SlcR K) := by
  subst hK
  exact sl_list.or sl_tupA
theorem cut_ok (r : RpL K ad F vs xs) (lo hi : Option Int) : RpL K ad F (cutV vs lo hi) (cutP xs lo hi) := by
  unfold cutV cutP
  rw [r.len]
  exact (r.drop _).take _
theorem slc_ok {lo hi : Option Int} (w : Wf F1 H1 A1) (g : Go F H A F1 H1 A1) (re : RE K ad F1 H1 σ ρ A1) (rx : Rq K ad F1 H1 v x) (e : sliceP x lo hi = some d) (h : KV K ad F H A σ Q d ρ) : SlcR K v lo hi H1 Q := by
  unfold sliceP at e
  split at e
  · cases e
    obtain ⟨a, vs, rfl, h1, h2⟩ := rx.lst w.sub
    exact .inl ⟨a, vs, rfl, .inl (.inl h1), fun p hp => h.newLst g re (cut_ok h2 lo hi) hp⟩
  · cases e
    obtain ⟨a, vs, rfl, h1, h2⟩ := rx.scr w.sub
    exact .inl ⟨a, vs, rfl, h1, fun p hp => h.newLst g re (cut_ok h2 lo hi) hp⟩
  · cases e
    obtain ⟨a, vs, rfl, h1, h2⟩ := rx.tup w.sub
    refine .inr ⟨a, vs, rfl, h1, fun hw => ?_, fun _ p hp => h.newTup g re (cut_ok h2 lo hi) hp⟩
    rw [h2.len] at hw
    refine h.p g re ?_
    unfold cutP
    rw [hw.1, hw.2, List.drop_zero, Nat.sub_zero, List.take_length]
    exact rx.isRp
  · cases e

theorem CallR.or {f : Value} {r r' : List V → Hp → VK → Prop} (h : CallR X f r) (h' : CallR X f r') : CallR X f (fun xs H Q => r xs H Q ∨ r' xs H Q) := fun pins s σ H xs us Q I rv q => by
  rcases q with q | q
  · exact h pins s σ H xs us Q I rv q
  · exact h' pins s σ H xs us Q I rv q
def biVal : Bi → Value
  | .len => .builtin "len" | .abs => .builtin "abs" | .max2 => .builtin "max" | .min2 => .builtin "min" | .maxL => .builtin "max" | .minL => .builtin "min"
  | .int => .type "int" | .divmod => .builtin "divmod" | .list => .type "list" | .tuple => .type "tuple" | .sum => .builtin "sum" | .all => .builtin "all" | .any => .builtin "any"
  | .sorted => .builtin "sorted"
def biName : Bi → Str
  | .len => "len" | .abs => "abs" | .max2 => "max" | .min2 => "min" | .maxL => "max" | .minL => "min"
  | .int => "int" | .divmod => "divmod" | .list => "list" | .tuple => "tuple" | .sum => "sum" | .all => "all" | .any => "any"
  | .sorted => "sorted"
theorem bi_boot (b : Bi) : bootBuiltins (biName b) = some (biVal b) ∧ biName b ≠ "__name__" ∧ (biName b == ("__debug__" : Str)) = false := by
  cases b <;> exact ⟨by decide +kernel, by decide +kernel, by decide +kernel⟩
def BiR (K : PySem.W.Frag) : Bi → List V → Hp → VK → Prop
  | .len => fun xs H Q => ∃ p ys, xs = [V.ref p] ∧ (SqL K H p ys ∨ SqT K H p ys) ∧ Q (V.int ↑ys.length) H
  | .abs => fun xs H Q => ∃ i, xs = [.int i] ∧ Q (.int (if i < 0 then -i else i)) H
  | .max2 => fun xs H Q => ∃ i j, xs = [.int i, .int j] ∧ Q (.int (if j > i then j else i)) H
  | .min2 => fun xs H Q => ∃ i j, xs = [.int i, .int j] ∧ Q (.int (if j < i then j else i)) H
  | .int => fun xs H Q => (∃ i, xs = [.int i] ∧ Q (.int i) H) ∨ ∃ k, xs = [.bl k] ∧ Q (.int (if k then 1 else 0)) H
  | .divmod => fun xs H Q => ∃ i j, xs = [.int i, .int j] ∧ CDiv i j ∧ ∀ p, H p = none → Q (.ref p) (upd H p (.tup [.int (i / j), .int (i % j)]))
  | .list => fun xs H Q => ∃ p ys, xs = [V.ref p] ∧ (SqL K H p ys ∨ SqT K H p ys) ∧ ∀ (l : Addr), H l = none → Q (V.ref l) (upd H l (HO.lst ys))
  | .tuple => fun xs H Q => ∃ p ys, xs = [V.ref p] ∧ ((SqL K H p ys ∧ ∀ (l : Addr), H l = none → Q (V.ref l) (upd H l (HO.tup ys))) ∨ SqT K H p ys ∧ Q (V.ref p) H)
  | .sum => rSum K
  | .all => rAll K
  | .any => rAny K
  | .maxL => rMax K
  | .minL => rMin K
  | .sorted => rSortedI K
theorem biCall (hK : X.K = K) (hc : X.calm = true) (b : Bi) : CallR X (biVal b) (BiR K b) := by
  subst hK
  cases b
  case len => exact call_len_seq
  case abs => exact call_abs
  case max2 => exact call_max2 hc
  case min2 => exact call_min2 hc
  case int => exact call_int1
  case divmod => exact call_divmod
  case list => exact call_list_of
  case tuple => exact call_tuple_of
  case sum => exact cr_sum hc
  case all => exact cr_all hc
  case any => exact cr_any hc
  case maxL => exact cr_max hc
  case minL => exact cr_min hc
  case sorted => exact cr_sortedI
theorem ints_ok : ∀ {vs : List V} {xs : List P} {ns : List Int}, RpL K ad F vs xs → ints? xs = some ns → vs = ns.map V.int
  | _, _, _, .nil, h => by cases h; rfl
  | _, _, _, .cons r k, h => by
    cases r <;> first | (cases h; done) | skip
    rename_i i
    obtain ⟨ms, h1, rfl⟩ := Option.map_eq_some_iff.mp h
    rw [ints_ok k h1]
    rfl
theorem bools_ok : ∀ {vs : List V} {xs : List P} {ns : List Bool}, RpL K ad F vs xs → bools? xs = some ns → vs = ns.map V.bl
  | _, _, _, .nil, h => by cases h; rfl
  | _, _, _, .cons r k, h => by
    cases r <;> first | (cases h; done) | skip
    rename_i i
    obtain ⟨ms, h1, rfl⟩ := Option.map_eq_some_iff.mp h
    rw [bools_ok k h1]
    rfl
theorem maxI_ge : ∀ (ns : List Int) (m : Int), m ≤ maxI m ns ∧ ∀ y ∈ ns, y ≤ maxI m ns
  | [], m => ⟨Int.le_refl _, fun _ h => by cases h⟩
  | n :: ns, m => by
    obtain ⟨h1, h2⟩ := maxI_ge ns (if n > m then n else m)
    unfold maxI
    refine ⟨?_, fun y hy => ?_⟩
    · by_cases hn : n > m
      · rw [if_pos hn] at h1 ⊢; omega
      · rw [if_neg hn] at h1 ⊢; omega
    · rcases List.mem_cons.mp hy with rfl | hy
      · by_cases hn : y > m
        · rw [if_pos hn] at h1 ⊢; omega
        · rw [if_neg hn] at h1 ⊢; omega
      · exact h2 y hy
theorem maxI_mem : ∀ (ns : List Int) (m : Int), maxI m ns = m ∨ maxI m ns ∈ ns
  | [], m => .inl rfl
  | n :: ns, m => by
    unfold maxI
    rcases maxI_mem ns (if n > m then n else m) with h | h
    · split at h
      · right; rw [if_pos (by assumption), h]; exact List.mem_cons_self
      · left; rw [if_neg (by assumption), h]
    · exact .inr (List.mem_cons_of_mem _ h)
theorem minI_le : ∀ (ns : List Int) (m : Int), minI m ns ≤ m ∧ ∀ y ∈ ns, minI m ns ≤ y
  | [], m => ⟨Int.le_refl _, fun _ h => by cases h⟩
  | n :: ns, m => by
    obtain ⟨h1, h2⟩ := minI_le ns (if n < m then n else m)
    unfold minI
    refine ⟨?_, fun y hy => ?_⟩
    · by_cases hn : n < m
      · rw [if_pos hn] at h1 ⊢; omega
      · rw [if_neg hn] at h1 ⊢; omega
    · rcases List.mem_cons.mp hy with rfl | hy
      · by_cases hn : y < m
        · rw [if_pos hn] at h1 ⊢; omega
        · rw [if_neg hn] at h1 ⊢; omega
      · exact h2 y hy
theorem minI_mem : ∀ (ns : List Int) (m : Int), minI m ns = m ∨ minI m ns ∈ ns
  | [], m => .inl rfl
  | n :: ns, m => by
    unfold minI
    rcases minI_mem ns (if n < m then n else m) with h | h
    · split at h
      · right; rw [if_pos (by assumption), h]; exact List.mem_cons_self
      · left; rw [if_neg (by assumption), h]
    · exact .inr (List.mem_cons_of_mem _ h)
/-- readable values, one for each -/
inductive RqL (K : PySem.W.Frag) (ad : Nat → Addr) (F H : Hp) : List V → List P → Prop
  | nil : RqL K ad F H [] []
  | cons {v : V} {x : P} {vs : List V} {xs : List P} : Rq K ad F H v x → RqL K ad F H vs xs → RqL K ad F H (v :: vs) (x :: xs)
theorem rql_of : ∀ {vs : List V} {xs : List P}, RpL K ad F vs xs → RqL K ad F H vs xs
  | _, _, .nil => .nil
  | _, _, .cons r k => .cons (.inl r) (rql_of k)
theorem rpl_ints : ∀ ns : List Int, RpL K ad F (ns.map V.int) (ns.map P.int)
  | [] => .nil
  | n :: ns => .cons (.int n) (rpl_ints ns)
theorem insI_perm (x : Int) : ∀ ys : List Int, (insI x ys).Perm (x :: ys)
  | [] => List.Perm.refl _
  | y :: ys => by
    unfold insI
    split
    · exact List.Perm.refl _
    · exact (List.Perm.cons y (insI_perm x ys)).trans (List.Perm.swap x y ys)
theorem sortI_perm : ∀ xs : List Int, (sortI xs).Perm xs
  | [] => List.Perm.refl _
  | x :: xs => (insI_perm x (sortI xs)).trans (List.Perm.cons x (sortI_perm xs))
theorem insI_srt (x : Int) : ∀ {ys : List Int}, ys.Pairwise (· ≤ ·) → (insI x ys).Pairwise (· ≤ ·)
  | [], _ => by
    unfold insI
    exact List.pairwise_singleton _ _
  | y :: ys, h => by
    have h1 := List.pairwise_cons.mp h
    unfold insI
    split
    · rename_i hx
      refine List.pairwise_cons.mpr ⟨fun z hz => ?_, h⟩
      rcases List.mem_cons.mp hz with rfl | hz
      · exact hx
      · exact Int.le_trans hx (h1.1 z hz)
    · rename_i hx
      refine List.pairwise_cons.mpr ⟨fun z hz => ?_, insI_srt x h1.2⟩
      rcases List.mem_cons.mp ((insI_perm x ys).mem_iff.mp hz) with rfl | hz
      · omega
      · exact h1.1 z hz
theorem sortI_srt : ∀ xs : List Int, (sortI xs).Pairwise (· ≤ ·)
  | [] => List.Pairwise.nil
  | x :: xs => insI_srt x (sortI_srt xs)
theorem srt_eq : ∀ {xs ys : List Int}, xs.Perm ys → xs.Pairwise (· ≤ ·) → ys.Pairwise (· ≤ ·) → xs = ys
  | [], ys, p, _, _ => (List.nil_perm.mp p).symm
  | x :: xs, [], p, _, _ => absurd p.length_eq (by simp)
  | x :: xs, y :: ys, p, h1, h2 => by
    have a1 := List.pairwise_cons.mp h1
    have a2 := List.pairwise_cons.mp h2
    have e : x = y := by
      have m1 : x ∈ y :: ys := p.mem_iff.mp List.mem_cons_self
      have m2 : y ∈ x :: xs := p.mem_iff.mpr List.mem_cons_self
      rcases List.mem_cons.mp m1 with z | z
      · exact z
      · rcases List.mem_cons.mp m2 with z2 | z2
        · exact z2.symm
        · have := a1.1 y z2
          have := a2.1 x z
          omega
    subst e
    rw [srt_eq (List.perm_cons x |>.mp p) a1.2 a2.2]
theorem sortI_eq {ns ns' : List Int} (p : ns'.Perm ns) (s : ns'.Pairwise (· ≤ ·)) : ns' = sortI ns := srt_eq (p.trans (sortI_perm ns).symm) s (sortI_srt ns)
theorem bi_ok {b : Bi} (w : Wf F1 H1 A1) (g : Go F H A F1 H1 A1) (re : RE K ad F1 H1 σ ρ A1) (rx : RqL K ad F1 H1 vs xs) (e : biop b xs = some d) (h : KV K ad F H A σ Q d ρ) : BiR K b vs H1 Q := by
  unfold biop at e
  split at e
  · cases e; obtain _ | ⟨r, _ | _⟩ := rx; obtain ⟨a, us, rfl, h1, h2⟩ := r.lst w.sub
    exact ⟨a, us, rfl, .inl (.inl (.inl h1)), by rw [h2.len]; exact h.p g re (.int _)⟩
  · cases e; obtain _ | ⟨r, _ | _⟩ := rx; obtain ⟨a, us, rfl, h1, h2⟩ := r.tup w.sub
    exact ⟨a, us, rfl, .inr h1, by rw [h2.len]; exact h.p g re (.int _)⟩
  · cases e; obtain _ | ⟨r, _ | _⟩ := rx; obtain ⟨a, us, rfl, h1, h2⟩ := r.scr w.sub
    exact ⟨a, us, rfl, .inl h1, by rw [h2.len]; exact h.p g re (.int _)⟩
  · cases e; obtain _ | ⟨r, _ | _⟩ := rx; rw [r.int]; exact ⟨_, rfl, h.p g re (.int _)⟩
  · cases e; obtain _ | ⟨r, _ | ⟨r2, _ | _⟩⟩ := rx; rw [r.int, r2.int]; exact ⟨_, _, rfl, h.p g re (.int _)⟩
  · cases e; obtain _ | ⟨r, _ | ⟨r2, _ | _⟩⟩ := rx; rw [r.int, r2.int]; exact ⟨_, _, rfl, h.p g re (.int _)⟩
  · cases e; obtain _ | ⟨r, _ | _⟩ := rx; rw [r.int]; exact .inl ⟨_, rfl, h.p g re (.int _)⟩
  · cases e; obtain _ | ⟨r, _ | _⟩ := rx; rw [r.bl]; exact .inr ⟨_, rfl, h.p g re (.int _)⟩
  · split at e
    · rename_i hm
      cases e; obtain _ | ⟨r, _ | ⟨r2, _ | _⟩⟩ := rx; rw [r.int, r2.int]
      rw [Bool.and_eq_true] at hm
      exact ⟨_, _, rfl, ⟨of_decide_eq_true hm.1, of_decide_eq_true hm.2⟩, fun p hp => h.newTup g re (.cons (.int _) (.cons (.int _) .nil)) hp⟩
    · cases e
  · cases e; obtain _ | ⟨r, _ | _⟩ := rx; obtain ⟨a, us, rfl, h1, h2⟩ := r.lst w.sub
    exact ⟨a, us, rfl, .inl (.inl (.inl h1)), fun p hp => h.newLst g re h2 hp⟩
  · cases e; obtain _ | ⟨r, _ | _⟩ := rx; obtain ⟨a, us, rfl, h1, h2⟩ := r.tup w.sub
    exact ⟨a, us, rfl, .inr h1, fun p hp => h.newLst g re h2 hp⟩
  · cases e; obtain _ | ⟨r, _ | _⟩ := rx; obtain ⟨a, us, rfl, h1, h2⟩ := r.lst w.sub
    exact ⟨a, us, rfl, .inl ⟨.inl (.inl h1), fun p hp => h.newTup g re h2 hp⟩⟩
  · cases e; obtain _ | ⟨r, _ | _⟩ := rx
    have r' := r.isRp
    obtain ⟨a, us, rfl, h1, h2⟩ := r.tup w.sub
    exact ⟨a, us, rfl, .inr ⟨h1, h.p g re r'⟩⟩
  · obtain ⟨ns, e1, rfl⟩ := Option.map_eq_some_iff.mp e
    obtain _ | ⟨r, _ | _⟩ := rx; obtain ⟨a, us, rfl, h1, h2⟩ := r.lst w.sub
    rw [ints_ok h2 e1] at h1
    exact ⟨a, ns, rfl, .inl (.inl h1), h.p g re (.int _)⟩
  · obtain ⟨ns, e1, rfl⟩ := Option.map_eq_some_iff.mp e
    obtain _ | ⟨r, _ | _⟩ := rx; obtain ⟨a, us, rfl, h1, h2⟩ := r.lst w.sub
    rw [bools_ok h2 e1] at h1
    exact ⟨a, ns, rfl, .inl (.inl h1), h.p g re (.bl _)⟩
  · obtain ⟨ns, e1, rfl⟩ := Option.map_eq_some_iff.mp e
    obtain _ | ⟨r, _ | _⟩ := rx; obtain ⟨a, us, rfl, h1, h2⟩ := r.lst w.sub
    rw [bools_ok h2 e1] at h1
    exact ⟨a, ns, rfl, .inl (.inl h1), h.p g re (.bl _)⟩
  · obtain ⟨ns, e1, e⟩ := Option.bind_eq_some_iff.mp e
    obtain _ | ⟨r, _ | _⟩ := rx; obtain ⟨a, us, rfl, h1, h2⟩ := r.lst w.sub
    rw [ints_ok h2 e1] at h1
    cases ns with
    | nil => cases e
    | cons n ns =>
      cases e
      refine ⟨a, n :: ns, rfl, .inl (.inl h1), by simp, fun m hm hle => ?_⟩
      have hg := maxI_ge ns n
      have e2 : m = maxI n ns := by
        have l1 : maxI n ns ≤ m := by
          rcases maxI_mem ns n with z | z
          · rw [z]; exact hle n List.mem_cons_self
          · exact hle _ (List.mem_cons_of_mem _ z)
        have l2 : m ≤ maxI n ns := by
          rcases List.mem_cons.mp hm with z | z
          · rw [z]; exact hg.1
          · exact hg.2 m z
        omega
      rw [e2]
      exact h.p g re (.int _)
  · obtain ⟨ns, e1, rfl⟩ := Option.map_eq_some_iff.mp e
    obtain _ | ⟨r, _ | _⟩ := rx; obtain ⟨a, us, rfl, h1, h2⟩ := r.lst w.sub
    rw [ints_ok h2 e1] at h1
    refine ⟨a, ns, rfl, .inl (.inl h1), fun ns' p hp hs hn => ?_⟩
    rw [sortI_eq hp hs]
    have e3 : (sortI ns).map (fun n => D.p (.int n)) = ((sortI ns).map P.int).map D.p := by rw [List.map_map]; rfl
    rw [e3] at h
    exact KV.newLst h g re (rpl_ints _) hn
  · obtain ⟨ns, e1, e⟩ := Option.bind_eq_some_iff.mp e
    obtain _ | ⟨r, _ | _⟩ := rx; obtain ⟨a, us, rfl, h1, h2⟩ := r.lst w.sub
    rw [ints_ok h2 e1] at h1
    cases ns with
    | nil => cases e
    | cons n ns =>
      cases e
      refine ⟨a, n :: ns, rfl, .inl (.inl h1), by simp, fun m hm hle => ?_⟩
      have hg := minI_le ns n
      have e2 : m = minI n ns := by
        have l1 : m ≤ minI n ns := by
          rcases minI_mem ns n with z | z
          · rw [z]; exact hle n List.mem_cons_self
          · exact hle _ (List.mem_cons_of_mem _ z)
        have l2 : minI n ns ≤ m := by
          rcases List.mem_cons.mp hm with z | z
          · rw [z]; exact hg.1
          · exact hg.2 m z
        omega
      rw [e2]
      exact h.p g re (.int _)
  · cases e

def tyName : Ty → String
  | .int => "int" | .bool => "bool" | .str => "str" | .list => "list" | .tuple => "tuple" | _ => ""
def tyOfP : P → String
  | .non => "NoneType" | .bl _ => "bool" | .int _ => "int" | .str _ => "str" | .tup _ => "tuple" | .lst _ => "list" | .scr _ => "list" | .exc _ _ => "" | .any => ""
theorem kit_all (t : Ty) (x : P) (h1 : x.isExc = false) (h2 : t.own = false) : PySem.W.kitOne K (.type (tyOfP x)) (.type (tyName t)) = some (isTy t x) := by
  cases x <;> cases t <;> first | (cases h1; done) | (cases h2; done) | (refine kit_ty ?_; dsimp only [tyOfP, tyName, isTy]; decide +kernel)
theorem Rp.ty (e : Ex' F H) (r : Rp K ad F v x) (h1 : x.isExc = false) : TyX K H v (.type (tyOfP x)) := by
  cases r with
  | non => exact .base .non
  | bl b => exact .base (.bl b)
  | int i => exact .base (.int i)
  | str s => exact .base (.str s)
  | tup h k =>
    rcases e.sqT h with (q | ⟨o, q⟩) | ⟨o, its, n, q1, q2, _⟩
    · exact .base (.tup q)
    · exact .fTuple q
    · exact .kTuple q1 q2
  | lst h k => exact .base (.lst (e _ _ h))
  | scr h k =>
    rcases e.sqL h with (q | ⟨o, q⟩) | ⟨o, its, n, q1, q2, _⟩
    · exact .base (.lst q)
    · exact .base (.frz q)
    · exact .kList q1 q2
  | exc h x => cases h1
  | any v => cases h1
end
end Pl

set_option Elab.async false
set_option linter.all false
set_option autoImplicit false
set_option maxRecDepth 100000
set_option maxHeartbeats 4000000
namespace Pl
open PySem PySem.Spec PyProof.Rows L2
section
variable {K : PySem.W.Frag} {ad : Nat → Addr} {fld : Nat → Str} {X : Cx} {W : WX}
variable {a b c e : Expr} {pos : Pos} {ma mb mc : Env → Out D} {da db dc : Den}

/-- an expression's three meanings; a walked thing's is shown where it is walked -/
structure OkD (K : PySem.W.Frag) (ad : Nat → Addr) (fld : Nat → Str) (X : Cx) (W : WX) (e : Expr) (d : Den) : Prop where
  v : OkV K ad fld X W e d.v
  t : OkT K ad fld X W e d.t

/-- forms that stand by themselves: no star, no set, no slice -/
def hd : Expr → Bool
  | .Starred _ _ => false
  | .Set _ _ _ => false
  | .Slice _ _ _ _ => false
  | _ => true
theorem hd_star {es : List Expr} {env : PySem.Env} (h : hd e = true) : starEach (e :: es) env = (false, eval e env) :: starEach es env := by
  cases e <;> first | (cases h; done) | rfl
theorem hd_mark {op : CmpOp} (h : hd e = true) : behindInMarks op e = false := by
  cases e <;> first | (cases h; done) | rfl
theorem hd_ix (h : hd e = true) : PlainIx e := by
  intro o i
  cases e <;> first | (cases h; done) | rfl
theorem hd_fold {env : PySem.Env} (h : hd e = true) : ∀ x : Value, foldedSetIterable e env x = pure x := by
  intro x
  cases e <;> first | (cases h; done) | rfl
/-- forms whose truth is that of the value -/
def tv : Expr → Bool
  | .UnaryOp .Not _ _ => false
  | .BoolOp _ _ _ => false
  | .IfExp _ _ _ _ => false
  | .Compare _ _ _ _ => false
  | _ => true
theorem tv_ok {env : PySem.Env} (h : tv e = true) : ∀ whole : Sem Value, isTrue e env whole = (do let v ← whole; standAt e.pos; holding [v] (truthy v)) := by
  intro whole
  cases e <;> first | (cases h; done) | rfl | skip
  rename_i op x pos
  cases op <;> first | (cases h; done) | rfl

/-- a test by the value -/
theorem test_res {ρ : Env} {F H : Hp} {σ : L2.St} {A : List Addr} {Q : Bool → Hp → Prop} {x : Nat → List P → Env → Prop} (r : Res (tOfV ma ρ) (KT K ad F H A σ Q) x) : Res (ma ρ) (KV K ad F H A σ fun v H' => ∃ k, v = .bl k ∧ Q k H') x := by
  refine (Res.bndF r).mono (fun d ρ1 hk => ?_) fun _ _ _ hx => hx
  intro v F1 H1 A1 B g re1 rp
  have g2 := g.wf.froz
  have rz := rp.froz g.wf
  revert hk rz
  generalize frz d = y
  intro hk rz
  cases y <;> first | exact (show False from hk).elim | skip
  cases rz
  exact ⟨_, rfl, hk _ H1 A1 (g.trans g2) (re1.mono g2.ff fun _ _ => rfl)⟩
theorem OkV.test (h : OkV K ad fld X W e ma) (ht : PT X e (tB (WV X e))) : OkT K ad fld X W e (tOfV ma) := by
  intro ρ F H σ A Q w re r
  exact wt ht (h ρ F H σ A _ w re (test_res r))
theorem OkV.den (h : OkV K ad fld X W e ma) (ht : tv e = true) : OkD K ad fld X W e (ofV ma) := ⟨h, h.test (pt_val pw (tv_ok ht))⟩
theorem OkV.denN (h : OkV K ad fld X W e ma) : OkD K ad fld X W e (ofVn ma) := ⟨h, fun _ _ _ _ _ _ _ _ r => r.elim⟩

theorem okV_val {x : P} {v : V} (h : PE X e (tC v)) (r : ∀ F, Rp K ad F v x) : OkV K ad fld X W e (fun ρ => .ok (.p x) ρ) := by
  intro ρ F H σ A Q w re k
  exact wv h (KV.p k (.refl w) re (r F))
theorem okV_var {i : Nat} (h : PE X e (tVar i)) : OkV K ad fld X W e (dVar i).v := by
  intro ρ F H σ A Q w re k
  obtain ⟨d, e1, k⟩ := Res.fin k
  obtain ⟨x, e2, rfl⟩ := Option.map_eq_some_iff.mp e1
  obtain ⟨v, B, R, h3, h4, _⟩ := re.get (getP_ok e2)
  cases h4 with
  | p r => exact wv h ⟨v, h3, KV.p k (.refl w) re r⟩
def litV : P → V
  | .non => .non | .bl b => .bl b | .int i => .int i | .str s => .str s | _ => .non
def litC : P → Const → Bool
  | .non, .none => true
  | .bl b, .bool c => b == c
  | .int i, .int j => i == j
  | .str s, .str t => s == t
  | _, _ => false
theorem ok_lit {x : P} {k : Const} {j : Nat} (h : litC x k = true) : OkD K ad fld X W (.Constant k j pos) (ofV fun ρ => .ok (.p x) ρ) := by
  refine OkV.den ?_ rfl
  unfold litC at h
  split at h
  · exact okV_val pe_non fun _ => .non
  · rw [beq_iff_eq] at h; subst h; exact okV_val pe_bl fun _ => .bl _
  · rw [beq_iff_eq] at h; subst h; exact okV_val pe_int fun _ => .int _
  · rw [beq_iff_eq] at h; subst h; exact okV_val pe_str fun _ => .str _
  · cases h

theorem two_opd {ia ib : Option Nat} (oa : OkO K ad fld X W a ia ma) (ob : OkO K ad fld X W b ib mb) {ρ : Env} {F H : Hp} {σ : L2.St} {A : List Addr} {α : Type} {k : α → Env → Prop} {g : P → P → Env → Out α} {R : V → V → Hp → Prop} (w : Wf F H A) (re : RE K ad F H σ ρ A)
    (h : Res (bnd (opd ia ma ρ) fun x ρ1 => bnd (opd ib mb ρ1) fun y ρ2 => g x y ρ2) k (KX K ad fld F H A σ W))
    (q : ∀ x y ρ2, Res (g x y ρ2) k (KX K ad fld F H A σ W) → ∀ v u F2 H2 A2, Go F H A F2 H2 A2 → RE K ad F2 H2 σ ρ2 A2 → Hold K ad σ ia x v F2 → Hold K ad σ ib y u F2 → R v u H2) : WV X a σ H fun v H1 => WV X b σ H1 fun u H2 => R v u H2 := by
  refine oa.run w re h.bnd fun x ρ1 h1 v F1 H1 A1 g1 re1 hold1 => ?_
  refine ob.run (k := fun y ρ2 => Res (g x y ρ2) k (KX K ad fld F H A σ W)) g1.wf re1 (h1.bnd.mono (fun _ _ z => z) fun _ _ _ z => KX.go g1 z) fun y ρ2 h2 u F2 H2 A2 g2 re2 hold2 => ?_
  exact q x y ρ2 h2 v u F2 H2 A2 (g1.trans g2) re2 (hold1.mono g2.ff) hold2
theorem ok_bin {ia ib : Option Nat} {op : Operator} (hK : X.K = K) (oa : OkO K ad fld X W a ia da.v) (ob : OkO K ad fld X W b ib db.v) : OkD K ad fld X W (.BinOp a op b pos) (dBin op ia ib da db) := by
  refine OkV.den ?_ rfl
  intro ρ F H σ A Q w re h
  refine wv (pe_op (opBin hK op) pw pw) ?_
  refine two_opd oa ob w re h fun x y ρ2 h2 v u F2 H2 A2 g2 re2 l1 l2 => ?_
  obtain ⟨d, e1, k⟩ := Res.fin h2
  obtain ⟨x', e2, e1⟩ := Option.bind_eq_some_iff.mp e1
  obtain ⟨y', e3, e1⟩ := Option.bind_eq_some_iff.mp e1
  exact bin_ok g2.wf g2 re2 (l1.res re2 e2) (l2.res re2 e3) e1 k
theorem cmp_run {ia ib : Option Nat} {op : CmpOp} (oa : OkO K ad fld X W a ia da.v) (ob : OkO K ad fld X W b ib db.v) {ρ : Env} {F H : Hp} {σ : L2.St} {A : List Addr} {Q : VK} (w : Wf F H A) (re : RE K ad F H σ ρ A)
    (h : Res ((dCmp op ia ib da db).v ρ) (KV K ad F H A σ Q) (KX K ad fld F H A σ W)) : tOp (CmpR K op) (WV X a) (WV X b) σ H Q := by
  refine two_opd oa ob w re h fun x y ρ2 h2 v u F2 H2 A2 g2 re2 l1 l2 => ?_
  obtain ⟨d, e1, k⟩ := Res.fin h2
  obtain ⟨x', e2, e1⟩ := Option.bind_eq_some_iff.mp e1
  obtain ⟨y', e3, e1⟩ := Option.bind_eq_some_iff.mp e1
  obtain ⟨r, e4, rfl⟩ := Option.map_eq_some_iff.mp e1
  exact cmp_ok g2.wf (l1.res re2 e2) (l2.res re2 e3) e4 (KV.p k g2 re2 (.bl r))
theorem ok_cmp {ia ib : Option Nat} {op : CmpOp} (hK : X.K = K) (hu : X.A.units + 65 < cLine) (hb : hd b = true) (oa : OkO K ad fld X W a ia da.v) (ob : OkO K ad fld X W b ib db.v) : OkD K ad fld X W (.Compare a [op] [b] pos) (dCmp op ia ib da db) :=
  ⟨fun ρ F H σ A Q w re h => wv (pe_cmpR (opCmp hK hu op) pw pw (hd_mark hb)) (cmp_run oa ob w re h),
   fun ρ F H σ A Q w re h => wt (pt_cmpR (opCmp hK hu op) pw pw (hd_mark hb)) (cmp_run oa ob w re (test_res h))⟩

/-- one value, frozen -/
theorem one_frz (oa : OkV K ad fld X W a ma) {ρ : Env} {F H : Hp} {σ : L2.St} {A : List Addr} {α : Type} {k : α → Env → Prop} {g : P → Env → Out α} {R : V → Hp → Prop} (w : Wf F H A) (re : RE K ad F H σ ρ A)
    (h : Res (bndF (ma ρ) g) k (KX K ad fld F H A σ W))
    (q : ∀ x ρ1, Res (g x ρ1) k (KX K ad fld F H A σ W) → ∀ v F1 H1 A1, Go F H A F1 H1 A1 → RE K ad F1 H1 σ ρ1 A1 → Rp K ad F1 v x → R v H1) : WV X a σ H R := by
  refine oa ρ F H σ A _ w re (h.bndF.mono (fun d ρ1 hk => ?_) fun _ _ _ hx => hx)
  intro v F1 H1 A1 B g1 re1 rp
  have g2 := g1.wf.froz
  exact q _ ρ1 hk v _ H1 A1 (g1.trans g2) (re1.mono g2.ff fun _ _ => rfl) (rp.froz g1.wf)
theorem ok_neg (oa : OkV K ad fld X W a da.v) : OkD K ad fld X W (.UnaryOp .USub a pos) (dNeg da) := by
  refine OkV.den ?_ rfl
  intro ρ F H σ A Q w re h
  refine wv (pe_un un_neg pw) ?_
  refine one_frz oa w re h fun x ρ1 h1 v F1 H1 A1 g1 re1 r => ?_
  cases x <;> first | exact (show False from h1).elim | skip
  cases r
  exact ⟨_, rfl, KV.p h1 g1 re1 (.int _)⟩
theorem ok_not (oa : OkD K ad fld X W a da) : OkD K ad fld X W (.UnaryOp .Not a pos) (dNot da) := by
  refine ⟨fun ρ F H σ A Q w re h => wv (pe_not pw) ?_, fun ρ F H σ A Q w re h => wt (pt_not pwt) ?_⟩
  · simp only [dNot] at h
    refine one_frz oa.v w re h fun x ρ1 h1 v F1 H1 A1 g1 re1 r => ?_
    cases x <;> first | exact (show False from h1).elim | skip
    cases r
    exact ⟨_, rfl, KV.p h1 g1 re1 (.bl _)⟩
  · refine oa.t ρ F H σ A _ w re ((Res.bnd h).mono (fun b ρ1 hk => ?_) fun _ _ _ hx => hx)
    intro F1 H1 A1 g1 re1
    exact hk F1 H1 A1 g1 re1
theorem KV.go {F H F1 H1 : Hp} {A A1 : List Addr} {σ : L2.St} {Q : VK} (g : Go F H A F1 H1 A1) {d : D} {ρ : Env} (h : KV K ad F H A σ Q d ρ) : KV K ad F1 H1 A1 σ Q d ρ := fun v F' H' A' B g' re r => h v F' H' A' B (g.trans g') re r
theorem KT.go {F H F1 H1 : Hp} {A A1 : List Addr} {σ : L2.St} {Q : Bool → Hp → Prop} (g : Go F H A F1 H1 A1) {d : Bool} {ρ : Env} (h : KT K ad F H A σ Q d ρ) : KT K ad F1 H1 A1 σ Q d ρ := fun F' H' A' g' re => h F' H' A' (g.trans g') re
theorem and_v {rest : List Expr} (oa : OkV K ad fld X W a da.v) (ob : OkV K ad fld X W (.BoolOp .And (b :: rest) pos) db.v) : OkV K ad fld X W (.BoolOp .And (a :: b :: rest) pos) (dAnd da db).v := by
  intro ρ F H σ A Q w re h
  refine wv (pe_and pw pw) ?_
  simp only [dAnd] at h
  refine one_frz oa w re h fun x ρ1 h1 v F1 H1 A1 g1 re1 r => ?_
  cases x <;> first | exact (show False from h1).elim | skip
  cases r
  rename_i t
  cases t with
  | true => exact ⟨true, rfl, iteT (ob ρ1 F1 H1 σ A1 Q g1.wf re1 (Res.mono h1 (fun _ _ z => KV.go g1 z) fun _ _ _ z => KX.go g1 z))⟩
  | false => exact ⟨false, rfl, iteF (KV.p h1 g1 re1 (.bl _))⟩
theorem or_v {rest : List Expr} (oa : OkV K ad fld X W a da.v) (ob : OkV K ad fld X W (.BoolOp .Or (b :: rest) pos) db.v) : OkV K ad fld X W (.BoolOp .Or (a :: b :: rest) pos) (dOr da db).v := by
  intro ρ F H σ A Q w re h
  refine wv (pe_or pw pw) ?_
  simp only [dOr] at h
  refine one_frz oa w re h fun x ρ1 h1 v F1 H1 A1 g1 re1 r => ?_
  cases x <;> first | exact (show False from h1).elim | skip
  cases r
  rename_i t
  cases t with
  | false => exact ⟨false, rfl, iteF (ob ρ1 F1 H1 σ A1 Q g1.wf re1 (Res.mono h1 (fun _ _ z => KV.go g1 z) fun _ _ _ z => KX.go g1 z))⟩
  | true => exact ⟨true, rfl, iteT (KV.p h1 g1 re1 (.bl _))⟩
/-- a row of tests: their meaning whatever stands around -/
def OkW (K : PySem.W.Frag) (ad : Nat → Addr) (fld : Nat → Str) (X : Cx) (W : WX) (e : Expr) (m : Env → Out Bool) : Prop := ∃ t : TT, PW X e t ∧ ∀ ρ F H σ A Q, Wf F H A → RE K ad F H σ ρ A → Res (m ρ) (KT K ad F H A σ Q) (KX K ad fld F H A σ W) → t σ H Q
theorem and_w {rest : List Expr} (oa : OkT K ad fld X W a da.t) (ob : OkW K ad fld X W (.BoolOp .And (b :: rest) pos) db.t) : OkW K ad fld X W (.BoolOp .And (a :: b :: rest) pos) (dAnd da db).t := by
  obtain ⟨t, h1, h2⟩ := ob
  refine ⟨_, pw_and pwt h1, fun ρ F H σ A Q w re h => ?_⟩
  refine oa ρ F H σ A _ w re ((Res.bnd h).mono (fun x ρ1 hk => ?_) fun _ _ _ hx => hx)
  intro F1 H1 A1 g1 re1
  cases x with
  | true => exact iteT (h2 ρ1 F1 H1 σ A1 Q g1.wf re1 (Res.mono hk (fun _ _ z => KT.go g1 z) fun _ _ _ z => KX.go g1 z))
  | false => exact iteF (hk F1 H1 A1 g1 re1)
theorem or_w {rest : List Expr} (oa : OkT K ad fld X W a da.t) (ob : OkW K ad fld X W (.BoolOp .Or (b :: rest) pos) db.t) : OkW K ad fld X W (.BoolOp .Or (a :: b :: rest) pos) (dOr da db).t := by
  obtain ⟨t, h1, h2⟩ := ob
  refine ⟨_, pw_or pwt h1, fun ρ F H σ A Q w re h => ?_⟩
  refine oa ρ F H σ A _ w re ((Res.bnd h).mono (fun x ρ1 hk => ?_) fun _ _ _ hx => hx)
  intro F1 H1 A1 g1 re1
  cases x with
  | false => exact iteF (h2 ρ1 F1 H1 σ A1 Q g1.wf re1 (Res.mono hk (fun _ _ z => KT.go g1 z) fun _ _ _ z => KX.go g1 z))
  | true => exact iteT (hk F1 H1 A1 g1 re1)
/-- all of a list of expressions -/
inductive OkDs (K : PySem.W.Frag) (ad : Nat → Addr) (fld : Nat → Str) (X : Cx) (W : WX) : List Expr → List Den → Prop
  | nil : OkDs K ad fld X W [] []
  | cons {e : Expr} {d : Den} {es : List Expr} {ds : List Den} : hd e = true → OkD K ad fld X W e d → OkDs K ad fld X W es ds → OkDs K ad fld X W (e :: es) (d :: ds)
theorem andL : ∀ {es : List Expr} {ds : List Den}, OkDs K ad fld X W es ds → OkV K ad fld X W (.BoolOp .And es pos) (dAndL ds).v ∧ OkW K ad fld X W (.BoolOp .And es pos) (dAndL ds).t
  | _, _, .nil => ⟨fun _ _ _ _ _ _ _ _ r => r.elim, ⟨_, ⟨fun _ _ _ _ _ _ _ h => (show False from h).elim⟩, fun _ _ _ _ _ _ _ _ r => r.elim⟩⟩
  | _, _, .cons _ h .nil => ⟨fun ρ F H σ A Q w re r => wv (pe_one pw) (h.v ρ F H σ A Q w re r), ⟨_, pw_and1 pwt, h.t⟩⟩
  | _, _, .cons _ h (.cons q1 q2 q3) => by
    have ih := andL (.cons q1 q2 q3)
    exact ⟨and_v h.v ih.1, and_w h.t ih.2⟩
theorem orL : ∀ {es : List Expr} {ds : List Den}, OkDs K ad fld X W es ds → OkV K ad fld X W (.BoolOp .Or es pos) (dOrL ds).v ∧ OkW K ad fld X W (.BoolOp .Or es pos) (dOrL ds).t
  | _, _, .nil => ⟨fun _ _ _ _ _ _ _ _ r => r.elim, ⟨_, ⟨fun _ _ _ _ _ _ _ h => (show False from h).elim⟩, fun _ _ _ _ _ _ _ _ r => r.elim⟩⟩
  | _, _, .cons _ h .nil => ⟨fun ρ F H σ A Q w re r => wv (pe_one pw) (h.v ρ F H σ A Q w re r), ⟨_, pw_or1 pwt, h.t⟩⟩
  | _, _, .cons _ h (.cons q1 q2 q3) => by
    have ih := orL (.cons q1 q2 q3)
    exact ⟨or_v h.v ih.1, or_w h.t ih.2⟩
theorem ok_and {es : List Expr} {ds : List Den} (h : OkDs K ad fld X W es ds) : OkD K ad fld X W (.BoolOp .And es pos) (dAndL ds) := by
  obtain ⟨h1, t, h2, h3⟩ := andL (pos := pos) h
  exact ⟨h1, fun ρ F H σ A Q w re r => wt h2.pt (h3 ρ F H σ A Q w re r)⟩
theorem ok_or {es : List Expr} {ds : List Den} (h : OkDs K ad fld X W es ds) : OkD K ad fld X W (.BoolOp .Or es pos) (dOrL ds) := by
  obtain ⟨h1, t, h2, h3⟩ := orL (pos := pos) h
  exact ⟨h1, fun ρ F H σ A Q w re r => wt h2.pt (h3 ρ F H σ A Q w re r)⟩
theorem ok_if (oc : OkT K ad fld X W c dc.t) (oa : OkV K ad fld X W a da.v) (ob : OkV K ad fld X W b db.v) : OkD K ad fld X W (.IfExp c a b pos) (dIf dc da db) := by
  refine OkV.denN fun ρ F H σ A Q w re h => wv (pe_ifExp pwt pw pw) ?_
  refine oc ρ F H σ A _ w re ((Res.bnd h).mono (fun x ρ1 hk => ?_) fun _ _ _ hx => hx)
  intro F1 H1 A1 g1 re1
  cases x with
  | true => exact iteT (oa ρ1 F1 H1 σ A1 Q g1.wf re1 (Res.mono hk (fun _ _ z => KV.go g1 z) fun _ _ _ z => KX.go g1 z))
  | false => exact iteF (ob ρ1 F1 H1 σ A1 Q g1.wf re1 (Res.mono hk (fun _ _ z => KV.go g1 z) fun _ _ _ z => KX.go g1 z))
end
end Pl

set_option Elab.async false
set_option linter.all false
set_option autoImplicit false
set_option maxRecDepth 100000
set_option maxHeartbeats 4000000
namespace Pl
open PySem PySem.Spec PyProof.Rows L2
section
variable {K : PySem.W.Frag} {ad : Nat → Addr} {fld : Nat → Str} {X : Cx} {W : WX}
variable {a b c e : Expr} {pos p : Pos} {ma mb mc : Env → Out D} {da db dc : Den} {es : List Expr} {ds : List Den}

def WA (X : Cx) (es : List Expr) (σ : L2.St) (H : Hp) (Q : List V → Hp → Prop) : Prop := ∀ (pos : Pos) (pins : List (Addr × Obj)) (s : Shared), L2.Inv X pins σ H s → wpAny (model X.prog X.w) X.A (spliced (backTo pos (starEach es X.env))) (AP X pins σ Q) X.xe s
theorem pwa : PA X es (WA X es) := ⟨fun pos pins s _ _ _ I h => h pos pins s I⟩
theorem wa {t : TA} (h : PA X es t) {σ : L2.St} {H : Hp} {Q : List V → Hp → Prop} (q : t σ H Q) : WA X es σ H Q := fun pos pins s I => h.run pos pins s σ H Q I q
def WK (X : Cx) (kws : List Keyword) (σ : L2.St) (H : Hp) (Q : List V → Hp → Prop) : Prop := ∀ (pos : Pos) (pins : List (Addr × Obj)) (s : Shared), L2.Inv X pins σ H s → wpAny (model X.prog X.w) X.A (evalAll ((backToKw pos (keywordEach kws X.env)).map (·.2))) (AP X pins σ Q) X.xe s
theorem pwk {kws : List Keyword} : PK X kws (WK X kws) := ⟨fun pos pins s _ _ _ I h => h pos pins s I⟩
theorem wk {kws : List Keyword} {t : TA} (h : PK X kws t) {σ : L2.St} {H : Hp} {Q : List V → Hp → Prop} (q : t σ H Q) : WK X kws σ H Q := fun pos pins s I => h.run pos pins s σ H Q I q
theorem seq_step {ρ : Env} {F H : Hp} {σ : L2.St} {A : List Addr} {k : List D → Env → Prop} {Q : List V → Hp → Prop} {d : Den} {R : L2.St → Hp → (List V → Hp → Prop) → Prop}
    (oe : OkD K ad fld X W e d) (w : Wf F H A) (re : RE K ad F H σ ρ A) (h : Res (seqV (d :: ds) ρ) k (KX K ad fld F H A σ W))
    (q : ∀ xs ρ1, k xs ρ1 → ∀ vs F1 H1 A1 B, Go F H A F1 H1 (A1 ++ B) → RE K ad F1 H1 σ ρ1 A1 → RepL K ad F1 H1 vs xs B → Q vs H1)
    (ih : ∀ {ρ : Env} {F H : Hp} {A : List Addr} {k : List D → Env → Prop} {Q : List V → Hp → Prop}, Wf F H A → RE K ad F H σ ρ A → Res (seqV ds ρ) k (KX K ad fld F H A σ W) → (∀ xs ρ1, k xs ρ1 → ∀ vs F1 H1 A1 B, Go F H A F1 H1 (A1 ++ B) → RE K ad F1 H1 σ ρ1 A1 → RepL K ad F1 H1 vs xs B → Q vs H1) → R σ H Q) :
    WV X e σ H fun x H1 => R σ H1 fun xs H2 => Q (x :: xs) H2 := by
  refine oe.v ρ F H σ A _ w re ((Res.bnd h).mono (fun x ρ1 h1 => ?_) fun _ _ _ z => z)
  intro v F1 H1 A1 B1 g1 re1 r1
  refine ih g1.wf.left re1 ((Res.bnd h1).mono (fun _ _ z => z) fun _ _ _ z => KX.goT g1 z) fun xs ρ2 hk vs F2 H2 A2 B2 g2 re2 r2 => ?_
  refine q _ ρ2 hk (v :: vs) F2 H2 A2 (B1 ++ B2) ((g1.trans (g2.frame g1.wf)).permR ?_) re2 (.cons (g2.rep g1.wf r1) r2)
  rw [List.append_assoc]
  exact List.Perm.append_left A2 List.perm_append_comm
theorem seqV_ok : ∀ {es : List Expr} {ds : List Den}, OkDs K ad fld X W es ds → ∀ {σ : L2.St} {ρ : Env} {F H : Hp} {A : List Addr} {k : List D → Env → Prop} {Q : List V → Hp → Prop}, Wf F H A → RE K ad F H σ ρ A → Res (seqV ds ρ) k (KX K ad fld F H A σ W) →
    (∀ xs ρ1, k xs ρ1 → ∀ vs F1 H1 A1 B, Go F H A F1 H1 (A1 ++ B) → RE K ad F1 H1 σ ρ1 A1 → RepL K ad F1 H1 vs xs B → Q vs H1) → WA X es σ H Q
  | _, _, .nil, σ, ρ, F, H, A, k, Q, w, re, h, q => wa pa_nil (q [] ρ h [] F H A [] (by rw [List.append_nil]; exact .refl w) re .nil)
  | _, _, .cons hh oe os, σ, ρ, F, H, A, k, Q, w, re, h, q => wa (pa_cons pw pwa (hd_star hh)) (seq_step (R := WA X _) oe w re h q fun w' re' h' q' => seqV_ok os w' re' h' q')
theorem seqK_ok : ∀ {kws : List Keyword} {ds : List Den}, OkDs K ad fld X W (kws.map (·.value)) ds → ∀ {σ : L2.St} {ρ : Env} {F H : Hp} {A : List Addr} {k : List D → Env → Prop} {Q : List V → Hp → Prop}, Wf F H A → RE K ad F H σ ρ A → Res (seqV ds ρ) k (KX K ad fld F H A σ W) →
    (∀ xs ρ1, k xs ρ1 → ∀ vs F1 H1 A1 B, Go F H A F1 H1 (A1 ++ B) → RE K ad F1 H1 σ ρ1 A1 → RepL K ad F1 H1 vs xs B → Q vs H1) → WK X kws σ H Q
  | [], _, .nil, σ, ρ, F, H, A, k, Q, w, re, h, q => wk pk_nil (q [] ρ h [] F H A [] (by rw [List.append_nil]; exact .refl w) re .nil)
  | ⟨nm, ex, kp⟩ :: kws, _, .cons hh oe os, σ, ρ, F, H, A, k, Q, w, re, h, q => wk (pk_cons pw pwk) (seq_step (R := WK X kws) oe w re h q fun w' re' h' q' => seqK_ok os w' re' h' q')
theorem RepL.len : ∀ {F H : Hp} {vs : List V} {xs : List D} {B : List Addr}, RepL K ad F H vs xs B → vs.length = xs.length
  | _, _, _, _, _, .nil => rfl
  | _, _, _, _, _, .cons _ k => by simp [RepL.len k]
/-- all frozen -/
theorem seqF_ok {Wx : (List V → Hp → Prop) → Prop} {σ : L2.St} {F H : Hp} {A : List Addr} {k : List D → Env → Prop} {Q : List V → Hp → Prop}
    (h : ∀ Q', (∀ xs ρ1, k xs ρ1 → ∀ vs F1 H1 A1 B, Go F H A F1 H1 (A1 ++ B) → RE K ad F1 H1 σ ρ1 A1 → RepL K ad F1 H1 vs xs B → Q' vs H1) → Wx Q')
    (q : ∀ xs ρ1, k xs ρ1 → ∀ vs F1 H1 A1, Go F H A F1 H1 A1 → RE K ad F1 H1 σ ρ1 A1 → RpL K ad F1 vs (frzL xs) → Q vs H1) : Wx Q :=
  h Q fun xs ρ1 hk vs F1 H1 A1 B g re r => q xs ρ1 hk vs _ H1 A1 (g.trans g.wf.froz) (re.mono g.wf.froz.ff fun _ _ => rfl) (r.froz g.wf)
theorem frzL_len : ∀ ds : List D, (frzL ds).length = ds.length
  | [] => rfl
  | d :: ds => by
    show (frzL ds).length + 1 = ds.length + 1
    rw [frzL_len ds]
theorem ok_tup {k : Nat} (h : OkDs K ad fld X W es ds) : OkD K ad fld X W (.Tuple es k pos) (dTup ds) := by
  refine OkV.den (fun ρ F H σ A Q w re r => wv (pe_tup pwa) ?_) rfl
  refine seqF_ok (fun Q' => seqV_ok h w re (Res.bnd r)) fun xs ρ1 hk vs F1 H1 A1 g1 re1 r1 => ?_
  cases e : szOk xs.length with
  | false => rw [e] at hk; exact (show False from hk).elim
  | true =>
    rw [e] at hk
    exact ⟨by rw [r1.len, frzL_len, sizeLine_eq]; exact of_decide_eq_true e, fun p hp => KV.newTup hk g1 re1 r1 hp⟩
theorem ok_lst (h : OkDs K ad fld X W es ds) : OkD K ad fld X W (.List es pos) (dLst ds) := by
  refine OkV.den (fun ρ F H σ A Q w re r => wv (pe_lst pwa) ?_) rfl
  refine seqV_ok h w re (Res.bnd r) fun xs ρ1 hk vs F1 H1 A1 B g1 re1 r1 => ?_
  cases e : szOk xs.length with
  | false => rw [e] at hk; exact (show False from hk).elim
  | true =>
    rw [e] at hk
    exact ⟨by rw [r1.len, sizeLine_eq]; exact of_decide_eq_true e, fun p hp => KV.newLstD hk g1 re1 r1 hp⟩

theorem ok_idx {ia : Option Nat} (hK : X.K = K) (hb : hd b = true) (oa : OkO K ad fld X W a ia da.v) (ob : OkV K ad fld X W b db.v) : OkD K ad fld X W (.Subscript a b pos) (dIdx ia da db) := by
  refine OkV.den (fun ρ F H σ A Q w re r => wv (pe_ix (ixAll hK) pw pw (hd_ix hb)) ?_) rfl
  refine oa.run w re (Res.bnd r) fun x ρ1 h1 v F1 H1 A1 g1 re1 l1 => ?_
  refine one_frz ob g1.wf re1 (h1.mono (fun _ _ z => z) fun _ _ _ z => KX.go g1 z) fun y ρ2 h2 u F2 H2 A2 g2 re2 r2 => ?_
  obtain ⟨d, e1, k⟩ := Res.fin h2
  obtain ⟨x', e2, e1⟩ := Option.bind_eq_some_iff.mp e1
  obtain ⟨z, e3, rfl⟩ := Option.map_eq_some_iff.mp e1
  exact idx_ok g2.wf ((l1.mono g2.ff).res re2 e2) (.inl r2) e3 fun v' rv => KV.p k (g1.trans g2) re2 rv
/-- an optional part of a slice -/
def OkP (K : PySem.W.Frag) (ad : Nat → Addr) (fld : Nat → Str) (X : Cx) (W : WX) : Option Expr → Option Den → Prop
  | none, none => True
  | some e, some d => OkV K ad fld X W e d.v
  | _, _ => False
theorem OkP.po {o : Option Expr} {d : Option Den} (h : OkP K ad fld X W o d) : ∃ t, PO X o t ∧ ∀ {ρ : Env} {F H : Hp} {σ : L2.St} {A : List Addr} {α : Type} {k : α → Env → Prop} {g : Option Int → Env → Out α} {Q : Option Int → Hp → Prop}, Wf F H A → RE K ad F H σ ρ A →
    Res (bnd (optI d ρ) g) k (KX K ad fld F H A σ W) → (∀ i ρ1, Res (g i ρ1) k (KX K ad fld F H A σ W) → ∀ F1 H1 A1, Go F H A F1 H1 A1 → RE K ad F1 H1 σ ρ1 A1 → Q i H1) → t σ H Q := by
  cases o with
  | none =>
    cases d with
    | none => exact ⟨_, po_none, fun {ρ F H σ A α k g Q} w re r q => q none ρ r F H A (.refl w) re⟩
    | some d => exact h.elim
  | some e =>
    cases d with
    | none => exact h.elim
    | some d =>
      have h' : OkV K ad fld X W e d.v := h
      refine ⟨_, po_some pw, fun {ρ F H σ A α k g Q} w re r q => ?_⟩
      have r' : Res (bndF (d.v ρ) fun x ρ1 => bnd (match x with | .int i => Out.ok (some i) ρ1 | _ => .bad) g) k (KX K ad fld F H A σ W) := by
        have r0 : Res (bnd (bndF (d.v ρ) fun x ρ1 => match x with | .int i => Out.ok (some i) ρ1 | _ => .bad) g) k (KX K ad fld F H A σ W) := r
        revert r0
        generalize d.v ρ = o
        intro r0
        cases o <;> exact r0
      refine one_frz h' w re r' fun x ρ1 h1 v F1 H1 A1 g1 re1 rx => ?_
      cases x <;> first | exact (show False from h1).elim | skip
      cases rx
      exact ⟨_, rfl, q _ ρ1 h1 F1 H1 A1 g1 re1⟩
theorem ok_slc {ia : Option Nat} {lo hi : Option Expr} {dl dh : Option Den} {p2 : Pos} (hK : X.K = K) (oa : OkO K ad fld X W a ia da.v) (ol : OkP K ad fld X W lo dl) (oh : OkP K ad fld X W hi dh) : OkD K ad fld X W (.Subscript a (.Slice lo hi none p2) pos) (dSlc ia da dl dh) := by
  obtain ⟨tl, pl, ql⟩ := ol.po
  obtain ⟨th, ph, qh⟩ := oh.po
  refine OkV.den (fun ρ F H σ A Q w re r => wv (pe_slice (slAll hK) pw pl ph) ?_) rfl
  refine oa.run w re (Res.bnd r) fun x ρ1 h1 v F1 H1 A1 g1 re1 l1 => ?_
  refine ql g1.wf re1 (h1.mono (fun _ _ z => z) fun _ _ _ z => KX.go g1 z) fun i ρ2 h2 F2 H2 A2 g2 re2 => ?_
  refine qh g2.wf re2 (h2.mono (fun _ _ z => z) fun _ _ _ z => KX.go g2 z) fun j ρ3 h3 F3 H3 A3 g3 re3 => ?_
  obtain ⟨d, e1, k⟩ := Res.fin h3
  obtain ⟨x', e2, e1⟩ := Option.bind_eq_some_iff.mp e1
  exact slc_ok g3.wf (g1.trans (g2.trans g3)) re3 (((l1.mono g2.ff).mono g3.ff).res re3 e2) e1 k
theorem chain_run {o1 o2 : CmpOp} (oa : OkV K ad fld X W a da.v) (ob : OkV K ad fld X W b db.v) (oc : OkV K ad fld X W c dc.v) {ρ : Env} {F H : Hp} {σ : L2.St} {A : List Addr} {Q : VK} (w : Wf F H A) (re : RE K ad F H σ ρ A)
    (h : Res ((dChain o1 o2 da db dc).v ρ) (KV K ad F H A σ Q) (KX K ad fld F H A σ W)) : tChain (CmpR K o1) (CmpR K o2) (WV X a) (WV X b) (WV X c) σ H Q := by
  simp only [dChain, ofV] at h
  refine one_frz oa w re h fun x ρ1 h1 v F1 H1 A1 g1 re1 r1 => ?_
  refine one_frz ob g1.wf re1 (h1.mono (fun _ _ z => z) fun _ _ _ z => KX.go g1 z) fun y ρ2 h2 u F2 H2 A2 g2 re2 r2 => ?_
  cases e : cmpop o1 x y with
  | none => rw [e] at h2; exact (show False from h2).elim
  | some t =>
    rw [e] at h2
    refine cmp_ok g2.wf (.inl (r1.mono g2.ff)) (.inl r2) e ⟨t, rfl, ?_⟩
    cases t with
    | false => exact iteF (KV.p h2 (g1.trans g2) re2 (.bl _))
    | true =>
      refine iteT ?_
      refine one_frz oc g2.wf re2 (Res.mono h2 (fun _ _ z => z) fun _ _ _ z => KX.go g2 z) fun z ρ3 h3 u3 F3 H3 A3 g3 re3 r3 => ?_
      obtain ⟨d, e1, k⟩ := Res.fin h3
      obtain ⟨t, e4, rfl⟩ := Option.map_eq_some_iff.mp e1
      exact cmp_ok g3.wf (.inl (r2.mono g3.ff)) (.inl r3) e4 (KV.p k (g1.trans (g2.trans g3)) re3 (.bl _))
theorem ok_chain {o1 o2 : CmpOp} (hK : X.K = K) (hu : X.A.units + 65 < cLine) (hb : hd b = true) (hc : hd c = true) (oa : OkV K ad fld X W a da.v) (ob : OkV K ad fld X W b db.v) (oc : OkV K ad fld X W c dc.v) : OkD K ad fld X W (.Compare a [o1, o2] [b, c] pos) (dChain o1 o2 da db dc) :=
  ⟨fun ρ F H σ A Q w re h => wv (pe_chain (opCmp hK hu o1) (opCmp hK hu o2) pw pw pw (hd_mark hc)) (chain_run oa ob oc w re h),
   fun ρ F H σ A Q w re h => wt (pt_chain (opCmp hK hu o1) (opCmp hK hu o2) pw pw pw (hd_mark hc)) (chain_run oa ob oc w re (test_res h))⟩

theorem any_back : ∀ {es : List Expr} {ds : List Den}, OkDs K ad fld X W es ds → ∀ (pos : Pos) (env : PySem.Env), (backTo pos (starEach es env)).any (·.1) = false
  | _, _, .nil, _, _ => rfl
  | _, _, .cons hh _ os, pos, env => by
    rw [hd_star hh]
    show (false || (backTo pos (starEach _ env)).any (·.1)) = false
    rw [any_back os pos env]
    rfl
theorem pe_bi {bi : Bi} (hK : X.K = K) (hc : X.calm = true) (hg : Gl X (biName bi)) (hm : X.mg (biName bi) = none) (he : starEach (e :: es) X.env = (false, eval e X.env) :: starEach es X.env) (hpl : (backTo pos (starEach es X.env)).any (·.1) = false) :
    PE X (.Call (.Name (biName bi) p) (e :: es) [] pos) (tCB (BiR K bi) (WA X (e :: es))) := by
  have hb := bi_boot bi
  have hcall := biCall hK hc bi
  have key : (∃ id, biVal bi = .builtin id) ∨ ∃ T, biVal bi = .type T := by cases bi <;> first | exact .inl ⟨_, rfl⟩ | exact .inr ⟨_, rfl⟩
  rcases key with ⟨id, z⟩ | ⟨T, z⟩
  · rw [z] at hb hcall
    exact pe_callB hcall hg hm hb.1 pwa hb.2.1 hb.2.2 he hpl
  · rw [z] at hb hcall
    exact pe_callTy hcall hg hm hb.1 pwa hb.2.1 hb.2.2 he hpl
theorem ok_bi1 {bi : Bi} {ia : Option Nat} (hK : X.K = K) (hc : X.calm = true) (hg : Gl X (biName bi)) (hm : X.mg (biName bi) = none) (ha : hd a = true) (oa : OkO K ad fld X W a ia da.v) : OkD K ad fld X W (.Call (.Name (biName bi) p) [a] [] pos) (dBi1 bi ia da) := by
  refine OkV.den (fun ρ F H σ A Q w re r => wv (pe_bi hK hc hg hm (hd_star ha) rfl) ?_) rfl
  refine wa (pa_cons pw pa_nil (hd_star ha)) ?_
  refine oa.run w re (Res.bnd r) fun x ρ1 h1 v F1 H1 A1 g1 re1 l1 => ?_
  obtain ⟨d, e1, k⟩ := Res.fin h1
  obtain ⟨x', e2, e1⟩ := Option.bind_eq_some_iff.mp e1
  exact bi_ok g1.wf g1 re1 (.cons (l1.res re1 e2) .nil) e1 k
theorem ok_bi {bi : Bi} (hK : X.K = K) (hc : X.calm = true) (hg : Gl X (biName bi)) (hm : X.mg (biName bi) = none) (he : es ≠ []) (h : OkDs K ad fld X W es ds) : OkD K ad fld X W (.Call (.Name (biName bi) p) es [] pos) (dBi bi ds) := by
  cases h with
  | nil => exact absurd rfl he
  | cons hh oe os =>
    refine OkV.den (fun ρ F H σ A Q w re r => wv (pe_bi hK hc hg hm (hd_star hh) (any_back os _ _)) ?_) rfl
    refine seqF_ok (fun Q' => seqV_ok (.cons hh oe os) w re (Res.bnd r)) fun xs ρ1 hk vs F1 H1 A1 g1 re1 r1 => ?_
    obtain ⟨d, e1, k⟩ := Res.fin hk
    exact bi_ok g1.wf g1 re1 (rql_of r1) e1 k
end
end Pl

set_option Elab.async false
set_option linter.all false
set_option autoImplicit false
set_option maxRecDepth 100000
set_option maxHeartbeats 4000000
namespace Pl
open PySem PySem.Spec PyProof.Rows L2
section
variable {K : PySem.W.Frag} {ad : Nat → Addr} {fld : Nat → Str} {X : Cx} {W : WX}
variable {a b c e : Expr} {pos p p2 : Pos} {ma mb mc : Env → Out D} {da db dc : Den} {es : List Expr} {ds : List Den}

def tyStr : Ty → Str
  | .int => "int" | .bool => "bool" | .str => "str" | .list => "list" | .tuple => "tuple" | _ => ""
theorem ty_boot (t : Ty) (h : t.own = false) : bootBuiltins (tyStr t) = some (.type (tyName t)) ∧ tyStr t ≠ "__name__" ∧ (tyStr t == ("__debug__" : Str)) = false := by
  cases t <;> first | (cases h; done) | exact ⟨by decide +kernel, by decide +kernel, by decide +kernel⟩
theorem isi_boot : bootBuiltins ("isinstance" : Str) = some (.builtin "isinstance") := by decide +kernel
theorem ver_boot : bootBuiltins ("ValueError" : Str) = some (.type "ValueError") := by decide +kernel
/-- a class, as the text's value -/
def clsV (ad : Nat → Addr) : Ty → V
  | .cls c => .ref (ad c)
  | .verr => .ty "ValueError"
  | t => .ty (tyName t)
def clsU (ad : Nat → Addr) : Ty → Value
  | .cls c => .ref (ad c)
  | .verr => .type "ValueError"
  | t => .type (tyName t)
theorem clsVU (ad : Nat → Addr) (t : Ty) : ClsV (clsV ad t) (clsU ad t) := by
  cases t <;> first | exact .ty _ | exact .own _
theorem clsU_no {ad : Nat → Addr} {t : Ty} (h : t.own = false) : clsU ad t = .type (tyName t) := by
  cases t <;> first | (cases h; done) | rfl
theorem clsV_no {ad : Nat → Addr} {t : Ty} (h : t.own = false) : clsV ad t = .ty (tyName t) := by
  cases t <;> first | (cases h; done) | rfl
/-- what is known of the own classes -/
structure KitF (K : PySem.W.Frag) (ad : Nat → Addr) (nc na : Nat) : Prop where
  kc : ∀ k t, k < nc → (∀ c, t = .cls c → c < na) → PySem.W.kitOne K (.ref (ad k)) (clsU ad t) = some (isTy t (.exc k []))
  cc : ∀ k, k < nc → ExcC K (ad k)
theorem kitAny_ok (x : P) (hx : x.isExc = false) : ∀ ts : List Ty, ts.any Ty.own = false → PySem.W.kitAny K (.type (tyOfP x)) (ts.map (clsU ad)) = some (ts.any fun t => isTy t x)
  | [], _ => rfl
  | t :: ts, h => by
    rw [List.any_cons, Bool.or_eq_false_iff] at h
    rw [List.map_cons, List.any_cons]
    unfold PySem.W.kitAny
    rw [clsU_no h.1, kit_all t x hx h.1, kitAny_ok x hx ts h.2]
    cases isTy t x <;> rfl
theorem kitAny_exc {nc na k : Nat} (kf : KitF K ad nc na) (hk : k < nc) : ∀ ts : List Ty, (∀ t ∈ ts, ∀ c, t = .cls c → c < na) → PySem.W.kitAny K (.ref (ad k)) (ts.map (clsU ad)) = some (ts.any fun t => isTy t (.exc k []))
  | [], _ => rfl
  | t :: ts, h => by
    rw [List.map_cons, List.any_cons]
    unfold PySem.W.kitAny
    rw [kf.kc k t hk (h t List.mem_cons_self), kitAny_exc kf hk ts fun t ht => h t (List.mem_cons_of_mem _ ht)]
    cases isTy t (.exc k []) <;> rfl
/-- isinstance of an error object that stands in the heap -/
def rIsX (K : PySem.W.Frag) : List V → Hp → VK → Prop := fun xs H Q => ∃ (a C : Addr) (c : V) (u : Value) (b : Bool) (o : HO), xs = [.ref a, c] ∧ H a = some o ∧ ExL (.ref C) a o ∧ ExcC K C ∧ ClsV c u ∧ PySem.W.kitOne K (.ref C) u = some b ∧ Q (.bl b) H
def rIsXT (K : PySem.W.Frag) : List V → Hp → VK → Prop := fun xs H Q => ∃ (a C : Addr) (tp : Addr) (cs : List V) (us : List Value) (b : Bool) (o : HO), xs = [.ref a, .ref tp] ∧ H a = some o ∧ ExL (.ref C) a o ∧ ExcC K C ∧ H tp = some (.tup cs) ∧ Paired ClsV cs us ∧ PySem.W.kitAny K (.ref C) us = some b ∧ Q (.bl b) H
theorem exc_inst {pins : List (Addr × Obj)} {σ : L2.St} {H : Hp} {s : Shared} {a C : Addr} {o : HO} (I : Inv X pins σ H s) (h : H a = some o) (hx : ExL (.ref C) a o) : ∃ oe, PySem.W.InstAt s.heap a oe C none := by
  obtain ⟨φ, rfl, hφ⟩ := hx
  obtain ⟨oe, vs, ho, hz, hd⟩ := hφ _ (I.hok a _ h).1
  refine ⟨oe, ?_⟩
  obtain ⟨oc, od, oda, osl⟩ := oe
  obtain ⟨h1, h2⟩ := hz
  dsimp only at h1 h2 hd
  subst h1 h2 hd
  exact ⟨ho, rfl, rfl, trivial⟩
theorem call_isX : CallR X (.builtin "isinstance") (rIsX X.K) := by
  intro pins s σ H xs us Q I r h
  obtain ⟨a, C, c, u, b, o, rfl, ha, hx, E, k, e, q⟩ := h
  obtain ⟨u1, u2, rfl, r1, r2⟩ := vals2 r
  have e2 := k.eq r2
  subst e2
  cases r1
  obtain ⟨oe, J⟩ := exc_inst I ha hx
  exact PySem.W.kia_one (PySem.W.handS_kitx_exc E.hg E.hk E.hs E.hd E.ha E.hn E.ht E.hm) I.kIn J e (fun z => nomatch z) fun tk => ⟨.bl b, H, I.tok tk, rfl, q⟩
theorem call_isXT : CallR X (.builtin "isinstance") (rIsXT X.K) := by
  intro pins s σ H xs us Q I r h
  obtain ⟨a, C, tp, cs, ws, b, o, rfl, ha, hx, E, hT, k, e, q⟩ := h
  obtain ⟨u1, u2, rfl, r1, r2⟩ := vals2 r
  cases (show u2 = Value.ref tp from r2)
  cases r1
  obtain ⟨oe, J⟩ := exc_inst I ha hx
  obtain ⟨_, its, rv, o, h1, h2, n, h3⟩ := (show ObjOk X.prog X.w H s.heap tp (.tup cs) from I.hok tp _ hT)
  have e3 := ClsV.all k rv
  subst e3
  obtain ⟨oc, od, dt, sl⟩ := o
  simp only at h2 h3
  subst h2 h3
  exact PySem.W.kia_tup (PySem.W.handS_kitx_exc E.hg E.hk E.hs E.hd E.ha E.hn E.ht E.hm) I.kIn J h1 e (fun z => nomatch z) fun tk => ⟨.bl b, H, I.tok tk, rfl, q⟩
theorem isi_res {nc : Nat} {ts : List Ty} {ρ : Env} {x : P} {k : D → Env → Prop} {kx : Nat → List P → Env → Prop} (h : Res (fin ((isiP nc ts x).map fun b => D.p (.bl b)) ρ) k kx) :
    (x.isExc = false ∧ ts.any Ty.own = false ∧ k (.p (.bl (ts.any fun t => isTy t x))) ρ) ∨ ∃ c, x = .exc c [] ∧ c < nc ∧ k (.p (.bl (ts.any fun t => isTy t (.exc c [])))) ρ := by
  obtain ⟨d, e, q⟩ := Res.fin h
  obtain ⟨b, e, rfl⟩ := Option.map_eq_some_iff.mp e
  unfold isiP at e
  split at e
  · split at e
    · rename_i z
      cases e
      exact .inr ⟨_, rfl, of_decide_eq_true z, q⟩
    · cases e
  · cases e
  · cases e
  · rename_i h1 h2 h3
    split at e
    · cases e
    · rename_i z
      cases e
      left
      refine ⟨?_, by simpa using z, q⟩
      cases x with
      | exc c fs =>
        cases fs with
        | nil => exact absurd rfl (h1 c)
        | cons f fs => exact absurd rfl (h2 c (f :: fs))
      | any => exact absurd rfl h3
      | _ => rfl
/-- a class's name stands for it -/
def TyN (ad : Nat → Addr) (nc : Nat) (X : Cx) (t : Ty) (e : Expr) : Prop := PE X e (fun _ H Q => Q (clsV ad t) H) ∧ ∀ c, t = .cls c → c < nc
theorem ok_isi1 {t : Ty} {nc na : Nat} {ec : Expr} (hK : X.K = K) (kf : KitF K ad nc na) (tn : TyN ad na X t ec) (hg : Gl X "isinstance") (hm : X.mg "isinstance" = none) (ha : hd a = true) (hs : starEach [ec] X.env = (false, eval ec X.env) :: starEach [] X.env) (oa : OkV K ad fld X W a da.v) :
    OkD K ad fld X W (.Call (.Name "isinstance" p) [a, ec] [] pos) (dIsi nc [t] da) := by
  refine OkV.den (fun ρ F H σ A Q w re r => wv (pe_callB (id := "isinstance") (call_isi.or call_isX) hg hm isi_boot (pa_cons pw (pa_cons tn.1 pa_nil hs) (hd_star ha)) (by decide) (by decide) (hd_star ha) (by rw [hs]; rfl)) ?_) rfl
  refine one_frz oa w re r fun x ρ1 h1 v F1 H1 A1 g1 re1 r1 => ?_
  rcases isi_res h1 with ⟨e1, e2, k⟩ | ⟨c, rfl, hc, k⟩
  · have ho : t.own = false := by simpa using e2
    refine .inl ⟨v, clsV ad t, _, _, isTy t x, rfl, clsVU ad t, by rw [hK]; exact r1.ty g1.wf.sub e1, by rw [hK, clsU_no ho]; exact kit_all t x e1 ho, ?_⟩
    refine KV.p k g1 re1 ?_
    show Rp K ad F1 (.bl (isTy t x)) (.bl (isTy t x || false))
    rw [Bool.or_false]
    exact .bl _
  · cases r1 with
    | @exc a0 c0 o0 he hx =>
      refine .inr ⟨a0, ad c, clsV ad t, _, isTy t (.exc c []), o0, rfl, g1.wf.sub _ _ he, hx, by rw [hK]; exact kf.cc c hc, clsVU ad t, by rw [hK]; exact kf.kc c t hc tn.2, ?_⟩
      refine KV.p k g1 re1 ?_
      show Rp K ad F1 (.bl (isTy t (.exc c []))) (.bl (isTy t (.exc c []) || false))
      rw [Bool.or_false]
      exact .bl _
/-- the classes' names of a tuple -/
inductive TyNs (ad : Nat → Addr) (nc : Nat) (X : Cx) : List Ty → List Expr → Prop
  | nil : TyNs ad nc X [] []
  | cons {t : Ty} {ts : List Ty} {e : Expr} {es : List Expr} : TyN ad nc X t e → starEach (e :: es) X.env = (false, eval e X.env) :: starEach es X.env → TyNs ad nc X ts es → TyNs ad nc X (t :: ts) (e :: es)
theorem TyNs.pa {nc : Nat} : ∀ {ts : List Ty} {es : List Expr}, TyNs ad nc X ts es → ∃ t, PA X es t ∧ ∀ (σ : L2.St) (H : Hp) (Q : List V → Hp → Prop), Q (ts.map (clsV ad)) H → t σ H Q
  | _, _, .nil => ⟨_, pa_nil, fun _ _ _ q => q⟩
  | _, _, .cons (t := t) tn hs k => by
    obtain ⟨ta, h1, h2⟩ := TyNs.pa k
    exact ⟨_, pa_cons tn.1 h1 hs, fun σ H Q q => h2 σ H _ q⟩
theorem TyNs.lt {nc : Nat} : ∀ {ts : List Ty} {es : List Expr}, TyNs ad nc X ts es → ∀ t ∈ ts, ∀ c, t = .cls c → c < nc
  | _, _, .nil => fun t h => by cases h
  | _, _, .cons tn _ k => fun t h => by
    rcases List.mem_cons.mp h with z | z
    · rw [z]; exact tn.2
    · exact TyNs.lt k t z
theorem cls_pair : ∀ ts : List Ty, Paired ClsV (ts.map (clsV ad)) (ts.map (clsU ad))
  | [] => .nil
  | t :: ts => .cons (clsVU ad t) (cls_pair ts)
theorem ok_isiT {ts : List Ty} {k nc na : Nat} (hK : X.K = K) (kf : KitF K ad nc na) (hl : ts.length ≤ 16) (hg : Gl X "isinstance") (hm : X.mg "isinstance" = none) (hn : TyNs ad na X ts es) (ha : hd a = true) (oa : OkV K ad fld X W a da.v) :
    OkD K ad fld X W (.Call (.Name "isinstance" p) [a, .Tuple es k p2] [] pos) (dIsi nc ts da) := by
  obtain ⟨t, h1, h2⟩ := hn.pa
  refine OkV.den (fun ρ F H σ A Q w re r => wv (pe_callB (id := "isinstance") (call_isiT.or call_isXT) hg hm isi_boot (pa_cons pw (pa_cons (pe_tup h1) pa_nil) (hd_star ha)) (by decide) (by decide) (hd_star ha) rfl) ?_) rfl
  refine one_frz oa w re r fun x ρ1 h1 v F1 H1 A1 g1 re1 r1 => ?_
  refine h2 _ _ _ ⟨by rw [List.length_map, sizeLine_eq]; omega, fun p hp => ?_⟩
  have g2 := g1.wf.newP (o := .tup (ts.map (clsV ad))) hp
  have re2 := re1.mono g2.ff (H' := upd H1 p (.tup (ts.map (clsV ad)))) fun a ha => upd_ne fun z => g1.wf.al a ha (by rw [z]; exact hp)
  rcases isi_res h1 with ⟨e1, e2, k⟩ | ⟨c, rfl, hc, k⟩
  · refine .inl ⟨v, p, _, _, _, _, rfl, upd_same, cls_pair ts, by rw [hK]; exact (r1.mono g2.ff).ty g2.wf.sub e1, by rw [hK]; exact kitAny_ok x e1 ts e2, ?_⟩
    exact KV.p k (g1.trans g2) re2 (.bl _)
  · cases r1 with
    | @exc a0 c0 o0 he hx =>
      refine .inr ⟨a0, ad c, p, _, _, _, o0, rfl, g2.wf.sub _ _ (g2.ff _ _ he), hx, by rw [hK]; exact kf.cc c hc, upd_same, cls_pair ts, by rw [hK]; exact kitAny_exc kf hc ts hn.lt, ?_⟩
      exact KV.p k (g1.trans g2) re2 (.bl _)

/-- the first argument at the end of a call -/
def RO (K : PySem.W.Frag) (ad : Nat → Addr) (F H : Hp) (vs : List V) (out : Option D) (A : List Addr) : Prop := match out with
  | some d => ∃ v r, vs = v :: r ∧ Rep K ad F H v d A
  | none => A = []
/-- the promise of a def: what the evaluator says of it -/
def spF (K : PySem.W.Frag) (ad : Nat → Addr) (fld : Nat → Str) (np : Nat) (cf : List D → Ret) : Sp := fun vs H Q E => vs.length = np ∧ ∃ F A as, Wf F H A ∧ RepL K ad F H vs as A ∧ match cf as with
  | .ok d out => ∀ v F' H' A' B, Go F H A F' H' (A' ++ B) → RO K ad F' H' vs out A' → Rep K ad F' H' v d B → Q v H'
  | .exc c fs => ∀ dd F' H' A', Go F H A F' H' A' → XR K ad fld F' c fs dd → E (.ref (ad c)) dd H'
  | .bad => False
/-- how positional and keyword arguments come to the parameters -/
def BindK (K : PySem.W.Frag) (fd : FuncData) (ps : List Str) (np m : Nat) (ks : List Nat) (kn : List Str) : Prop :=
  ∀ (s : Shared) (us ws as : List Value), K.In s.heap → us.length = m → ws.length = ks.length → arrange np us ks ws = some as → BindsTo s fd ⟨us, kn.zip ws⟩ (ps.zip as)
theorem Paired.len {α β : Type} {R : α → β → Prop} : ∀ {xs : List α} {ys : List β}, Paired R xs ys → xs.length = ys.length
  | _, _, .nil => rfl
  | _, _, .cons _ k => by simp [Paired.len k]
theorem pair_append {α β : Type} {R : α → β → Prop} : ∀ {xs xs2 : List α} {ys ys2 : List β}, Paired R xs ys → Paired R xs2 ys2 → Paired R (xs ++ xs2) (ys ++ ys2)
  | _, _, _, _, .nil, k => k
  | _, _, _, _, .cons r q, k => .cons r (pair_append q k)
theorem zip_rel {α β : Type} {R : α → β → Prop} : ∀ {ks : List Nat} {ys : List α} {zs : List β} (k : Nat) (y : α), Paired R ys zs → (ks.zip ys).lookup k = some y → ∃ z, (ks.zip zs).lookup k = some z ∧ R y z
  | [], _, _, _, _, _, h => by cases h
  | _ :: _, _, _, _, _, .nil, h => by cases h
  | j :: ks, _, _, k, y, .cons r q, h => by
    rw [List.zip_cons_cons, List.lookup_cons] at h ⊢
    cases e : k == j with
    | true =>
      rw [e] at h
      cases h
      exact ⟨_, rfl, r⟩
    | false =>
      rw [e] at h
      exact zip_rel k y q h
theorem go_rel {α β : Type} {R : α → β → Prop} {ks : List Nat} {ys : List α} {zs : List β} (q : Paired R ys zs) : ∀ (n k : Nat) (r : List α), arrange.go ks ys n k = some r → ∃ r', arrange.go ks zs n k = some r' ∧ Paired R r r'
  | 0, _, _, h => by
    cases h
    exact ⟨[], rfl, .nil⟩
  | n + 1, k, r, h => by
    unfold arrange.go at h ⊢
    split at h
    · rename_i d e
      obtain ⟨r1, e1, rfl⟩ := Option.map_eq_some_iff.mp h
      obtain ⟨z, e2, rz⟩ := zip_rel k d q e
      obtain ⟨r', e3, p⟩ := go_rel q n (k + 1) r1 e1
      rw [e2]
      exact ⟨z :: r', by show (arrange.go ks zs n (k + 1)).map (z :: ·) = _; rw [e3]; rfl, .cons rz p⟩
    · cases h
theorem arrange_rel {α β : Type} {R : α → β → Prop} {np : Nat} {ks : List Nat} {xs : List α} {xs' : List β} {ys : List α} {zs : List β} (p : Paired R xs xs') (q : Paired R ys zs) {as : List α} (h : arrange np xs ks ys = some as) : ∃ bs, arrange np xs' ks zs = some bs ∧ Paired R as bs := by
  unfold arrange at h ⊢
  obtain ⟨r, e, rfl⟩ := Option.map_eq_some_iff.mp h
  obtain ⟨r', e', k⟩ := go_rel q _ _ r e
  rw [← Paired.len p, e']
  exact ⟨xs' ++ r', rfl, pair_append p k⟩
/-- the call itself, its arguments being there -/
theorem run_call {f : Addr} {fd : FuncData} {ps : List Str} {n np m : Nat} {ks : List Nat} {kn : List Str} {sp : Sp} (Fk : FnOk X.prog X.w X.K X.mg X.base (L2.CX X.prog X.w) n f fd ps sp) (hr : Room n X.A) (tk : Takes X W) (hb : BindK X.K fd ps np m ks kn)
    {pins : List (Addr × Obj)} {σ : L2.St} {H : Hp} {s : Shared} {Q : VK} {us ws : List Value} {vs zs as : List V} (I : L2.Inv X pins σ H s) (r : Vals vs us) (rz : Vals zs ws) (hm : vs.length = m) (hk : zs.length = ks.length) (ha : arrange np vs ks zs = some as) (h : sp as H Q (fun cls d H' => W cls d σ H')) :
    wpAny (model X.prog X.w) X.A (call (.ref f) us (kn.zip ws)) (EP X pins σ Q) X.xe s := by
  obtain ⟨bs, e, rb⟩ := arrange_rel r rz ha
  refine wpAny_call (codeAny_mono (Fk.run X.A X.stack s H ⟨us, kn.zip ws⟩ bs as Q _ hr I.env0 (hb s us ws bs I.kIn (by rw [← hm]; exact r.length.symm) (by rw [← hk]; exact rz.length.symm) e) rb h) fun rr s' hq => ?_)
  cases rr with
  | error e => exact passAt tk σ pins H s e s' I hq
  | ok fl =>
    cases fl with
    | ret u => exact I.after hq
    | next => exact False.elim hq
    | brk => exact False.elim hq
    | cont => exact False.elim hq
/-- names of the keywords -/
def kwNames (kws : List Keyword) : List (Option Str) := kws.map (·.arg)
theorem kw_names : ∀ (kws : List Keyword) (kn : List Str) (pos : Pos) (env : PySem.Env), kwNames kws = kn.map some → (backToKw pos (keywordEach kws env)).all (·.1.isSome) = true ∧ (backToKw pos (keywordEach kws env)).filterMap (·.1) = kn ∧ (backToKw pos (keywordEach kws env)).any (·.1.isNone) = false
  | [], [], _, _, _ => ⟨rfl, rfl, rfl⟩
  | [], _ :: _, _, _, h => by cases h
  | ⟨nm, v, kp⟩ :: kws, [], _, _, h => by cases h
  | ⟨nm, v, kp⟩ :: kws, n :: kn, pos, env, h => by
    have h1 : nm = some n := (List.cons.inj h).1
    obtain ⟨a1, a2, a3⟩ := kw_names kws kn pos env (List.cons.inj h).2
    subst h1
    refine ⟨?_, ?_, ?_⟩
    · show (true && (backToKw pos (keywordEach kws env)).all (·.1.isSome)) = true
      rw [a1]; rfl
    · show n :: (backToKw pos (keywordEach kws env)).filterMap (·.1) = n :: kn
      rw [a2]
    · show (false || (backToKw pos (keywordEach kws env)).any (·.1.isNone)) = false
      rw [a3]; rfl
/-- a row of arguments, perhaps none -/
def WAx (X : Cx) (es : List Expr) (σ : L2.St) (H : Hp) (Q : List V → Hp → Prop) : Prop := match es with
  | [] => Q [] H
  | _ :: _ => WA X es σ H Q
theorem call_gen {x : Str} {f : Addr} {fd : FuncData} {ps : List Str} {n np : Nat} {ks : List Nat} {kn : List Str} {kws : List Keyword} {sp : Sp} (Fk : FnOk X.prog X.w X.K X.mg X.base (L2.CX X.prog X.w) n f fd ps sp) (hr : Room n X.A) (tk : Takes X W) (hb : BindK X.K fd ps np es.length ks kn)
    (hg : Gl X x) (hm : X.mg x = some (.ref f)) (hkp : PySem.W.keepIn X.K (.ref f) = true) (hdb : (x == ("__debug__" : Str)) = false) (hks : kn.length = ks.length) (hkn : kwNames kws = kn.map some) (hes : es.all hd = true) (hany : ∀ (pos : Pos) (env : PySem.Env), (backTo pos (starEach es env)).any (·.1) = false)
    {σ : L2.St} {H : Hp} {Q : VK} (h : WAx X es σ H fun vs H1 => WK X kws σ H1 fun zs H2 => vs.length = es.length ∧ zs.length = ks.length ∧ ∃ as, arrange np vs ks zs = some as ∧ sp as H2 Q (fun cls d H' => W cls d σ H')) : WV X (.Call (.Name x p) es kws pos) σ H Q := by
  intro pins s I
  obtain ⟨k1, k2, k3⟩ := kw_names kws kn pos X.env hkn
  refine wpAny_Call_Name_kw (ld_glob I hg hm ?_ hdb)
  cases es with
  | nil =>
    refine PySem.W.callWith_KW0 (h₀ := X.base) I.ok.mod.kin hkp k1 ?_ (by rw [k3]; rfl)
    refine thn (h pos pins s I) fun ws s2 ⟨zs, H2, I2, rz, e1, e2, as, e3, q2⟩ => ⟨I2.kIn, ?_⟩
    rw [k2]
    exact run_call Fk hr tk hb I2 .nil rz e1 e2 e3 q2
  | cons e es =>
    have he : starEach (e :: es) X.env = (false, eval e X.env) :: starEach es X.env := hd_star (by rw [List.all_cons, Bool.and_eq_true] at hes; exact hes.1)
    refine PySem.W.callWith_KW (h₀ := X.base) I.ok.mod.kin hkp k1 (thn (h pos pins s I) fun us s1 ⟨vs, H1, I1, r, q⟩ => ?_) (by rw [hany, k3]; rfl) he
    refine thn (q pos pins s1 I1) fun ws s2 ⟨zs, H2, I2, rz, e1, e2, as, e3, q2⟩ => ⟨I2.kIn, ?_⟩
    rw [k2]
    exact run_call Fk hr tk hb I2 r rz e1 e2 e3 q2
theorem seqX_ok (h : OkDs K ad fld X W es ds) {σ : L2.St} {ρ : Env} {F H : Hp} {A : List Addr} {k : List D → Env → Prop} {Q : List V → Hp → Prop} (w : Wf F H A) (re : RE K ad F H σ ρ A) (r : Res (seqV ds ρ) k (KX K ad fld F H A σ W))
    (q : ∀ xs ρ1, k xs ρ1 → ∀ vs F1 H1 A1 B, Go F H A F1 H1 (A1 ++ B) → RE K ad F1 H1 σ ρ1 A1 → RepL K ad F1 H1 vs xs B → Q vs H1) : WAx X es σ H Q := by
  cases h with
  | nil => exact q [] ρ r [] F H A [] (by rw [List.append_nil]; exact .refl w) re .nil
  | cons hh oe os => exact seqV_ok (.cons hh oe os) w re r q
theorem OkDs.allHd : ∀ {es : List Expr} {ds : List Den}, OkDs K ad fld X W es ds → es.all hd = true
  | _, _, .nil => rfl
  | _, _, .cons hh _ os => by rw [List.all_cons, hh, OkDs.allHd os]; rfl
theorem OkDs.len : ∀ {es : List Expr} {ds : List Den}, OkDs K ad fld X W es ds → es.length = ds.length
  | _, _, .nil => rfl
  | _, _, .cons _ _ os => by simp [OkDs.len os]
theorem seqV_len : ∀ {ds : List Den} {ρ : Env} {k : List D → Env → Prop} {x : Nat → List P → Env → Prop}, Res (seqV ds ρ) k x → Res (seqV ds ρ) (fun xs ρ1 => xs.length = ds.length ∧ k xs ρ1) x
  | [], _, _, _, h => ⟨rfl, h⟩
  | d :: ds, ρ, k, x, h => by
    have h1 := Res.bnd h
    show Res (bnd (d.v ρ) fun x ρ1 => bnd (seqV ds ρ1) fun xs ρ2 => .ok (x :: xs) ρ2) _ x
    cases e : d.v ρ with
    | bad => rw [e] at h1; exact h1.elim
    | exc c fs ρ' => rw [e] at h1; exact h1
    | ok a ρ1 =>
      rw [e] at h1
      have h2 := seqV_len (Res.bnd h1)
      show Res (bnd (seqV ds ρ1) fun xs ρ2 => .ok (a :: xs) ρ2) _ x
      cases e2 : seqV ds ρ1 with
      | bad => rw [e2] at h2; exact h2.elim
      | exc c fs ρ' => rw [e2] at h2; exact h2
      | ok as ρ2 =>
        rw [e2] at h2
        exact ⟨by rw [List.length_cons, List.length_cons, h2.1], h2.2⟩
theorem rpl_pair : ∀ {F : Hp} {vs : List V} {xs : List P}, RpL K ad F vs xs → Paired (fun v d => ∃ x, d = D.p x ∧ Rp K ad F v x) vs (xs.map .p)
  | _, _, _, .nil => .nil
  | _, _, _, .cons r k => .cons ⟨_, rfl, r⟩ (rpl_pair k)
theorem pair_rep : ∀ {F H : Hp} {vs : List V} {ds : List D}, Paired (fun v d => ∃ x, d = D.p x ∧ Rp K ad F v x) vs ds → RepL K ad F H vs ds []
  | _, _, _, _, .nil => .nil
  | _, _, _, _, .cons ⟨_, e, r⟩ k => by
    subst e
    exact .cons (A := []) (B := []) (.p r) (pair_rep k)
theorem pz_eq : ∀ ds : List D, pz ds = (frzL ds).map .p
  | [] => rfl
  | d :: ds => by
    show D.p (frz d) :: pz ds = D.p (frz d) :: (frzL ds).map .p
    rw [pz_eq ds]
/-- the arguments as they are handed over -/
theorem hand {np : Nat} {ks : List Nat} {F H : Hp} {v0 vs zs : List V} {d0 ds' zs' : List D} {B0 : List Addr} (r0 : RepL K ad F H v0 d0 B0) (r1 : RpL K ad F vs (frzL ds')) (r2 : RpL K ad F zs (frzL zs')) {as : List D} (h : arrange np (d0 ++ pz ds') ks (pz zs') = some as) :
    ∃ av, arrange np (v0 ++ vs) ks zs = some av ∧ RepL K ad F H av as B0 := by
  unfold arrange at h ⊢
  obtain ⟨r, e, rfl⟩ := Option.map_eq_some_iff.mp h
  have l0 : (v0 ++ vs).length = (d0 ++ pz ds').length := by
    rw [List.length_append, List.length_append, r0.len, r1.len, pz_eq, List.length_map]
  rw [pz_eq] at e
  have sw : ∀ {vs : List V} {ds : List D}, Paired (fun v d => ∃ x, d = D.p x ∧ Rp K ad F v x) vs ds → Paired (fun d v => ∃ x, d = D.p x ∧ Rp K ad F v x) ds vs := by
    intro vs ds q
    induction q with
    | nil => exact .nil
    | cons a _ ih => exact .cons a ih
  have sw' : ∀ {vs : List V} {ds : List D}, Paired (fun d v => ∃ x, d = D.p x ∧ Rp K ad F v x) ds vs → Paired (fun v d => ∃ x, d = D.p x ∧ Rp K ad F v x) vs ds := by
    intro vs ds q
    induction q with
    | nil => exact .nil
    | cons a _ ih => exact .cons a ih
  obtain ⟨r', e', k⟩ := go_rel (sw (rpl_pair r2)) _ _ r (by rw [← pz_eq] at e ⊢; exact e)
  refine ⟨v0 ++ vs ++ r', by rw [l0, e']; rfl, ?_⟩
  have app : ∀ {v1 v2 : List V} {d1 d2 : List D} {B1 : List Addr}, RepL K ad F H v1 d1 B1 → RepL K ad F H v2 d2 [] → RepL K ad F H (v1 ++ v2) (d1 ++ d2) B1 := by
    intro v1 v2 d1 d2 B1 q1 q2
    exact RepL.rec (motive_1 := fun _ _ _ _ => True) (motive_2 := fun v1 d1 B1 _ => RepL K ad F H (v1 ++ v2) (d1 ++ d2) B1) (fun _ => trivial) (fun _ _ _ => trivial) (fun _ _ _ => trivial) q2 (fun {v d vs ds A B} h _ _ ih => .cons h ih) q1
  refine app (app r0 ?_) (pair_rep (sw' k))
  rw [pz_eq]
  exact rep_map_p r1
end
end Pl

set_option Elab.async false
set_option linter.all false
set_option autoImplicit false
set_option maxRecDepth 100000
set_option maxHeartbeats 4000000
namespace Pl
open PySem PySem.Spec PyProof.Rows L2
section
variable {K : PySem.W.Frag} {ad : Nat → Addr} {fld : Nat → Str} {X : Cx} {W : WX}
variable {a b c e : Expr} {pos p p2 : Pos} {da db dc : Den} {es : List Expr} {ds : List Den}

theorem rep_app {F H : Hp} {v1 v2 : List V} {d1 d2 : List D} {B1 B2 : List Addr} (q1 : RepL K ad F H v1 d1 B1) (q2 : RepL K ad F H v2 d2 B2) : RepL K ad F H (v1 ++ v2) (d1 ++ d2) (B1 ++ B2) :=
  RepL.rec (motive_1 := fun _ _ _ _ => True) (motive_2 := fun v1 d1 B1 _ => RepL K ad F H (v1 ++ v2) (d1 ++ d2) (B1 ++ B2)) (fun _ => trivial) (fun _ _ _ => trivial) (fun _ _ _ => trivial) q2 (fun {v d vs ds A B} h _ _ ih => by
    show RepL K ad F H (v :: (vs ++ v2)) (d :: (ds ++ d2)) ((A ++ B) ++ B2)
    rw [List.append_assoc]
    exact .cons h ih) q1
variable {cf : Nat → List D → Ret} {f np : Nat} {ks : List Nat}
/-- the call's end where no slot was given away -/
theorem tail0 (hl : ∀ as, cf f as ≠ .bad → as.length = np) {F H F2 H2 : Hp} {A A2 B0 : List Addr} {σ : L2.St} {ρ2 : Env} {Q : VK} {v0 vs zs : List V} {d0 ds' zs' : List D}
    (h : Res (retTo none (callArgs cf f np d0 ds' ks zs') ρ2) (KV K ad F H A σ Q) (KX K ad fld F H A σ W)) (g : Go F H A F2 H2 (A2 ++ B0)) (re : RE K ad F2 H2 σ ρ2 A2) (r0 : RepL K ad F2 H2 v0 d0 B0) (r1 : RpL K ad F2 vs (frzL ds')) (r2 : RpL K ad F2 zs (frzL zs')) :
    ∃ as, arrange np (v0 ++ vs) ks zs = some as ∧ spF K ad fld np (cf f) as H2 Q (fun cls d H' => W cls d σ H') := by
  unfold callArgs at h
  cases e : arrange np (d0 ++ pz ds') ks (pz zs') with
  | none => rw [e] at h; exact (show False from h).elim
  | some as =>
    rw [e] at h
    dsimp only at h
    obtain ⟨av, e1, ra⟩ := hand r0 r1 r2 e
    have nb : cf f as ≠ .bad := fun z => by
      rw [z] at h
      exact (show False from h)
    have gf := g.wf.perm (List.perm_append_comm (l₁ := A2) (l₂ := B0))
    refine ⟨av, e1, by rw [ra.len]; exact hl as nb, F2, B0, as, g.wf.right, ra, ?_⟩
    cases ec : cf f as with
    | bad => exact absurd ec nb
    | ok d outs =>
      rw [ec] at h
      intro v F' H' A' B g' _ rv
      refine h v F' H' A2 B ((g.permR (List.perm_append_comm (l₁ := A2) (l₂ := B0))).trans ((g'.drop (List.sublist_append_right A' B)).frame gf) |>.permR List.perm_append_comm) (g'.re gf re) rv
    | exc c fs =>
      rw [ec] at h
      intro dd F' H' A' g' xr
      exact h dd F' H' A2 (((g.permR (List.perm_append_comm (l₁ := A2) (l₂ := B0))).trans (g'.frame gf)).drop (List.sublist_append_right A' A2)) (g'.re gf re) xr
theorem set_id {α : Type} : ∀ {l : List α} {i : Nat} {x : α}, l[i]? = some x → l.set i x = l
  | [], _, _, h => by simp at h
  | y :: l, 0, x, h => by simp at h; simp [h]
  | y :: l, i + 1, x, h => by simp at h; simp [set_id h]
/-- .. where the slot s was given away -/
theorem tail1 (hl : ∀ as, cf f as ≠ .bad → as.length = np) {s : Nat} {d0 : D} {F H F2 H2 : Hp} {A A2 : List Addr} {σ : L2.St} {ρ2 : Env} {Q : VK} {v0 : V} {vs zs : List V} {ds' zs' : List D} (es : σ[s]? = some (some v0)) (ed : getD ρ2 s = some d0)
    (h : Res (retTo (some s) (callArgs cf f np [d0] ds' ks zs') ρ2) (KV K ad F H A σ Q) (KX K ad fld F H A σ W)) (g : Go F H A F2 H2 A2) (re : RE K ad F2 H2 σ ρ2 A2) (r1 : RpL K ad F2 vs (frzL ds')) (r2 : RpL K ad F2 zs (frzL zs')) :
    ∃ as, arrange np ([v0] ++ vs) ks zs = some as ∧ spF K ad fld np (cf f) as H2 Q (fun cls d H' => W cls d σ H') := by
  obtain ⟨v, B, R, h3, h4, h5, h6, h7⟩ := re.get (getD_ok ed)
  have ev : v = v0 := Option.some.inj (Option.some.inj (h3.symm.trans es))
  subst ev
  have hid : σ.set s (some v) = σ := set_id h3
  have re0 : RE K ad F2 H2 σ (ρ2.set s none) R := by
    have := h6 (some v)
    rw [hid] at this
    exact this
  have gp := g.permR h5
  unfold callArgs at h
  cases e : arrange np ([d0] ++ pz ds') ks (pz zs') with
  | none => rw [e] at h; exact (show False from h).elim
  | some as =>
    rw [e] at h
    dsimp only at h
    have r0 : RepL K ad F2 H2 [v] [d0] B := by
      have := RepL.cons h4 (RepL.nil (K := K) (ad := ad) (F := F2) (H := H2))
      rw [List.append_nil] at this
      exact this
    obtain ⟨av, e1, ra⟩ := hand r0 r1 r2 e
    have nb : cf f as ≠ .bad := fun z => by
      rw [z] at h
      exact (show False from h)
    refine ⟨av, e1, by rw [ra.len]; exact hl as nb, F2, B, as, gp.wf.left, ra, ?_⟩
    cases ec : cf f as with
    | bad => exact absurd ec nb
    | ok d outs =>
      rw [ec] at h
      intro w F' H' A' C g' ro rw'
      have gF : Go F H A F' H' ((A' ++ C) ++ R) := gp.trans (g'.frame gp.wf)
      have reR : RE K ad F' H' σ (ρ2.set s none) R := g'.re gp.wf re0
      have keepR : ∀ x ∈ R, H' x = H2 x := g'.keep gp.wf
      have h' : KV K ad F H A σ Q d (ρ2.set s outs) := h
      have av0 : ∃ r, av = v :: r := by
        unfold arrange at e1
        obtain ⟨r, _, rfl⟩ := Option.map_eq_some_iff.mp e1
        exact ⟨_, rfl⟩
      obtain ⟨ar, rfl⟩ := av0
      cases outs with
      | none =>
        refine h' w F' H' R C (gF.drop ?_ |>.permR List.perm_append_comm) reR rw'
        exact List.Sublist.append (List.sublist_append_right _ _) (List.Sublist.refl _)
      | some d' =>
        obtain ⟨v', r', ev', k1⟩ := ro
        cases ev'
        obtain ⟨A'', pA, rA⟩ := h7 k1 g'.ff keepR
        rw [hid] at rA
        refine h' w F' H' A'' C (gF.permR ?_) rA rw'
        refine List.Perm.trans ?_ (List.Perm.append_right C pA.symm)
        rw [List.append_assoc, List.append_assoc]
        exact List.Perm.append_left A' List.perm_append_comm
    | exc c fs =>
      rw [ec] at h
      intro dd F' H' A' g' xr
      have gF : Go F H A F' H' (A' ++ R) := gp.trans (g'.frame gp.wf)
      exact h dd F' H' R (gF.drop (List.sublist_append_right _ _)) (g'.re gp.wf re0) xr
end
section
variable {K : PySem.W.Frag} {ad : Nat → Addr} {fld : Nat → Str} {X : Cx} {W : WX}
variable {pos p : Pos} {es : List Expr} {ds kds : List Den} {cf : Nat → List D → Ret} {fi n : Nat} {fn : Fn} {ks : List Nat}
theorem ok_call {x : Str} {f : Addr} {fd : FuncData} {ps kn : List Str} {kws : List Keyword} {i0 : Option Nat} (Fk : FnOk X.prog X.w X.K X.mg X.base (L2.CX X.prog X.w) n f fd ps (spF K ad fld fn.np (cf fi))) (hl : ∀ as, cf fi as ≠ .bad → as.length = fn.np)
    (hr : Room n X.A) (tk : Takes X W) (hb : BindK X.K fd ps fn.np es.length ks kn) (hg : Gl X x) (hm : X.mg x = some (.ref f)) (hkp : PySem.W.keepIn X.K (.ref f) = true) (hdb : (x == ("__debug__" : Str)) = false) (hks : kn.length = ks.length) (hkn : kwNames kws = kn.map some)
    (h : OkDs K ad fld X W es ds) (hk : OkDs K ad fld X W (kws.map (·.value)) kds) (hkl : kws.length = ks.length) (h0 : ∀ s e0 r, i0 = some s → es = e0 :: r → PE X e0 (tVar s)) : OkD K ad fld X W (.Call (.Name x p) es kws pos) (dCall cf fi fn i0 ds ks kds) := by
  have lk : kds.length = ks.length := by rw [← hk.len, List.length_map, hkl]
  refine OkV.den (fun ρ F H σ A Q w re r => call_gen Fk hr tk hb hg hm hkp hdb hks hkn h.allHd (any_back h) ?_) rfl
  cases em : fn.mt with
  | false =>
    rw [em] at r
    refine seqX_ok h w re (seqV_len (Res.bnd r)) fun xs ρ1 hx vs F1 H1 A1 B g1 re1 r1 => ?_
    have gz := g1.wf.froz
    have rz := r1.froz g1.wf
    refine seqK_ok hk (A := A1) gz.wf (re1.mono gz.ff fun _ _ => rfl) ((seqV_len (Res.bnd hx.2)).mono (fun _ _ z => z) fun _ _ _ z => KX.go (g1.trans gz) z) fun ys ρ2 hy zs F2 H2 A2 B2 g2 re2 r2 => ?_
    have gz2 := g2.wf.froz
    obtain ⟨as, q1, q2⟩ := tail0 (v0 := []) (d0 := []) (B0 := []) hl hy.2 (by rw [List.append_nil]; exact (g1.trans gz).trans (g2.trans gz2)) (re2.mono gz2.ff fun _ _ => rfl) .nil ((rz.mono g2.ff).mono gz2.ff) (r2.froz g2.wf)
    exact ⟨by rw [r1.len, hx.1, h.len], by rw [r2.len, hy.1, lk], as, q1, q2⟩
  | true =>
    rw [em] at r
    cases h with
    | nil => cases i0 <;> exact (show False from r).elim
    | @cons e0 d0 es' ds' hh oe os =>
      cases i0 with
      | some s =>
        have pe0 := h0 s e0 es' rfl rfl
        dsimp only at r
        cases eg : getD ρ s with
        | none =>
          rw [eg] at r
          exact (show False from r).elim
        | some dd =>
          rw [eg] at r
          obtain ⟨v0, _, _, hs, _⟩ := re.get (getD_ok eg)
          refine wa (pa_cons pe0 pwa (hd_star hh)) ⟨v0, hs, ?_⟩
          refine seqV_ok os w re (seqV_len (Res.bnd r)) fun xs ρ1 hx vs F1 H1 A1 B g1 re1 r1 => ?_
          have gz := g1.wf.froz
          have rz := r1.froz g1.wf
          refine seqK_ok hk (A := A1) gz.wf (re1.mono gz.ff fun _ _ => rfl) ((seqV_len (Res.bnd hx.2)).mono (fun _ _ z => z) fun _ _ _ z => KX.go (g1.trans gz) z) fun ys ρ2 hy zs F2 H2 A2 B2 g2 re2 r2 => ?_
          have gz2 := g2.wf.froz
          have hy2 := hy.2
          cases eg2 : getD ρ2 s with
          | none => rw [eg2] at hy2; exact (show False from hy2).elim
          | some d2 =>
            rw [eg2] at hy2
            obtain ⟨as, q1, q2⟩ := tail1 hl hs eg2 hy2 ((g1.trans gz).trans (g2.trans gz2)) (re2.mono gz2.ff fun _ _ => rfl) ((rz.mono g2.ff).mono gz2.ff) (r2.froz g2.wf)
            exact ⟨by rw [List.length_cons, List.length_cons, r1.len, hx.1, os.len], by rw [r2.len, hy.1, lk], as, q1, q2⟩
      | none =>
        refine wa (pa_cons pw pwa (hd_star hh)) ?_
        refine oe.v ρ F H σ A _ w re ((Res.bnd r).mono (fun d ρ0 h1 => ?_) fun _ _ _ z => z)
        intro v0 F0 H0 A0 B0 g0 re0 r0
        refine seqV_ok os g0.wf.left re0 ((seqV_len (Res.bnd h1)).mono (fun _ _ z => z) fun _ _ _ z => KX.goT g0 z) fun xs ρ1 hx vs F1 H1 A1 B g1 re1 r1 => ?_
        have gz := g1.wf.froz
        have rz := r1.froz g1.wf
        have g1z := g1.trans gz
        have r01 := g1z.rep g0.wf r0
        have gA : Go F H A _ H1 (A1 ++ B0) := g0.trans (g1z.frame g0.wf)
        refine seqK_ok hk (A := A1) gz.wf (re1.mono gz.ff fun _ _ => rfl) ((seqV_len (Res.bnd hx.2)).mono (fun _ _ z => z) fun _ _ _ z => KX.goT gA z) fun ys ρ2 hy zs F2 H2 A2 B2 g2 re2 r2 => ?_
        have gz2 := g2.wf.froz
        have g2z := g2.trans gz2
        have r02 := g2z.rep gA.wf r01
        have rr : RepL K ad (froz F2 H2 B2) H2 [v0] [d] B0 := by
          have := RepL.cons r02 (RepL.nil (K := K) (ad := ad))
          rw [List.append_nil] at this
          exact this
        obtain ⟨as, q1, q2⟩ := tail0 hl hy.2 (gA.trans (g2z.frame gA.wf)) (re2.mono gz2.ff fun _ _ => rfl) rr ((rz.mono g2.ff).mono gz2.ff) (r2.froz g2.wf)
        exact ⟨by rw [List.length_cons, List.length_cons, r1.len, hx.1, os.len], by rw [r2.len, hy.1, lk], as, q1, q2⟩
end
end Pl

set_option Elab.async false
set_option linter.all false
set_option autoImplicit false
set_option maxRecDepth 100000
set_option maxHeartbeats 4000000
namespace Pl
open PySem PySem.Spec PyProof.Rows L2
section
variable {K : PySem.W.Frag} {ad : Nat → Addr} {fld : Nat → Str} {X : Cx} {W : WX}

/-- a target takes plain data -/
def TgOk (K : PySem.W.Frag) (ad : Nat → Addr) (within : List Nat → Bool) (bind : P → Env → Option Env) (g : TG) : Prop := ∀ (x : P) (ρ ρ' : Env) (v : V) (F H : Hp) (σ : L2.St) (A : List Addr) (Q : L2.St → Hp → Prop), Wf F H A → RE K ad F H σ ρ A → Rp K ad F v x → bind x ρ = some ρ' →
  (∀ σ' A', Go F H A F H A' → RE K ad F H σ' ρ' A' → (∀ own, within own = true → wipe σ' own = wipe σ own) → Q σ' H) → g v σ H Q
def TgsOk (K : PySem.W.Frag) (ad : Nat → Addr) (within : List Nat → Bool) (bind : List P → Env → Option Env) (g : TGs) : Prop := ∀ (xs : List P) (ρ ρ' : Env) (vs : List V) (F H : Hp) (σ : L2.St) (A : List Addr) (Q : L2.St → Hp → Prop), Wf F H A → RE K ad F H σ ρ A → RpL K ad F vs xs → bind xs ρ = some ρ' →
  (∀ σ' A', Go F H A F H A' → RE K ad F H σ' ρ' A' → (∀ own, within own = true → wipe σ' own = wipe σ own) → Q σ' H) → g vs σ H Q
theorem wipe_set {σ : L2.St} {i : Nat} {x : Option V} : ∀ {own : List Nat}, own.contains i = true → wipe (σ.set i x) own = wipe σ own
  | [], h => by cases h
  | j :: js, h => by
    show (wipe (σ.set i x) js).set j none = (wipe σ js).set j none
    by_cases e : js.contains i = true
    · rw [wipe_set e]
    · have ej : i = j := by
        rw [List.contains_cons, Bool.or_eq_true] at h
        rcases h with h | h
        · exact beq_iff_eq.mp h
        · exact absurd h e
      subst ej
      have key : ∀ ks : List Nat, ks.contains i = false → (wipe (σ.set i x) ks).set i none = (wipe σ ks).set i none := by
        intro ks
        induction ks with
        | nil => intro _; show (σ.set i x).set i none = σ.set i none; rw [List.set_set]
        | cons k ks ih =>
          intro hk
          rw [List.contains_cons, Bool.or_eq_false_iff] at hk
          have hne : k ≠ i := fun z => by rw [z, beq_self_eq_true] at hk; exact Bool.noConfusion hk.1
          show ((wipe (σ.set i x) ks).set k none).set i none = ((wipe σ ks).set k none).set i none
          rw [List.set_comm _ _ hne, ih hk.2, ← List.set_comm _ _ hne]
      exact key js (by simpa using e)
theorem RE.putP {F H : Hp} {σ : L2.St} {ρ : Env} {A : List Addr} (w : Wf F H A) (re : RE K ad F H σ ρ A) (i : Nat) {v : V} {x : P} (r : Rp K ad F v x) : ∃ A', Go F H A F H A' ∧ RE K ad F H (σ.set i (some v)) (ρ.set i (some (.p x))) A' := by
  obtain ⟨A', h1, A0, h2, h3⟩ := re.put i (.p r)
  rw [List.append_nil] at h3
  refine ⟨A', ?_, h1⟩
  rcases h3 with p | p
  · exact ((Go.refl w).drop h2).permR p.symm
  · rw [p]; exact (Go.refl w).drop h2
theorem tg_name (i : Nat) : TgOk K ad (fun own => own.contains i) (fun x ρ => some (ρ.set i (some (.p x)))) (gName i) := by
  intro x ρ ρ' v F H σ A Q w re r e q
  cases e
  obtain ⟨A', g, re'⟩ := re.putP w i r
  exact q _ A' g re' fun own h => wipe_set h
def gSq (K : PySem.W.Frag) (n : Nat) (t : TGs) : TG := fun v σ H Q => gTup K n t v σ H Q ∨ gLst K n t v σ H Q
theorem tg_tup {n : Nat} {within : List Nat → Bool} {bind : List P → Env → Option Env} {g : TGs} (h : TgsOk K ad within bind g) (hn : ∀ xs ρ ρ', bind xs ρ = some ρ' → xs.length = n) : TgOk K ad within (fun x ρ => match x with | .tup xs => bind xs ρ | .lst xs => bind xs ρ | _ => none) (gSq K n g) := by
  intro x ρ ρ' v F H σ A Q w re r e q
  cases x <;> first | (cases e; done) | skip
  · cases r with
    | tup h1 h2 =>
      exact .inl ⟨_, _, rfl, w.sub.sqT h1, by rw [h2.len]; exact hn _ _ _ e, h _ ρ ρ' _ F H σ A Q w re h2 e q⟩
  · cases r with
    | lst h1 h2 =>
      exact .inr ⟨_, _, rfl, .inl (.inl (w.sub _ _ h1)), by rw [h2.len]; exact hn _ _ _ e, h _ ρ ρ' _ F H σ A Q w re h2 e q⟩
mutual
inductive PatOk (X : Cx) : Pat → Expr → Prop
  | v {i : Nat} {x : Str} {pos : Pos} : PG X (.Name x pos) (gName i) → PatOk X (.v i) (.Name x pos)
  | t {ps : List Pat} {es : List Expr} {k : Nat} {pos : Pos} : PatsOk X ps es → PatOk X (.t ps) (.Tuple es k pos)
inductive PatsOk (X : Cx) : List Pat → List Expr → Prop
  | nil : PatsOk X [] []
  | cons {p : Pat} {e : Expr} {ps : List Pat} {es : List Expr} : PatOk X p e → PatsOk X ps es → PatsOk X (p :: ps) (e :: es)
end
theorem PatOk.noStar {pt : Pat} {e : Expr} {es : List Expr} {env : PySem.Env} (h : PatOk X pt e) : assignEach (e :: es) env = (false, assign e env) :: assignEach es env := by
  cases h <;> rfl
theorem PatsOk.each : ∀ {ps : List Pat} {es : List Expr}, PatsOk X ps es → ∀ env, (assignEach es env).length = ps.length ∧ (assignEach es env).findIdx? (·.1) = none
  | _, _, .nil, _ => ⟨rfl, rfl⟩
  | _, _, .cons h k, env => by
    rw [h.noStar]
    obtain ⟨h1, h2⟩ := PatsOk.each k env
    refine ⟨by rw [List.length_cons, List.length_cons, h1], ?_⟩
    rw [List.findIdx?_cons, h2]
    rfl
theorem bindPats_len : ∀ {ps : List Pat} {xs : List P} {ρ ρ' : Env}, bindPats ps xs ρ = some ρ' → xs.length = ps.length
  | [], [], _, _, _ => rfl
  | [], _ :: _, _, _, h => by cases h
  | _ :: _, [], _, _, h => by cases h
  | p :: ps, x :: xs, ρ, ρ', h => by
    obtain ⟨ρ1, _, h2⟩ := Option.bind_eq_some_iff.mp h
    rw [List.length_cons, List.length_cons, bindPats_len h2]
theorem pgs_cons' {p : Pat} {e : Expr} {es : List Expr} {t : TG} {u : TGs} (hp : PatOk X p e) (h1 : PG X e t) (h2 : PGs X es u) : PGs X (e :: es) (gCons t u) := by
  cases hp with
  | v _ => exact pgs_cons h1 h2
  | t _ => exact pgs_cons h1 h2
mutual
def gOf (K : PySem.W.Frag) : Pat → TG
  | .v i => gName i
  | .t ps => gSq K ps.length (gsOf K ps)
def gsOf (K : PySem.W.Frag) : List Pat → TGs
  | [] => gNil
  | p :: ps => gCons (gOf K p) (gsOf K ps)
end
mutual
theorem PatOk.run (hK : X.K = K) (hc : X.calm = true) : ∀ {pt : Pat} {e : Expr}, PatOk X pt e → PG X e (gOf K pt)
  | _, _, .v h => h
  | _, _, .t (ps := ps) h => by
    obtain ⟨e1, e2⟩ := h.each X.env
    have h1 := PatsOk.run hK hc h
    show PG X _ (gSq K ps.length (gsOf K ps))
    rw [← hK] at h1 ⊢
    exact ⟨fun pins s σ H v u Q I r hw => hw.elim (fun z => (pg_tup hc h1 e1 e2).run pins s σ H v u Q I r z) (fun z => (pg_lst hc h1 e1 e2).run pins s σ H v u Q I r z)⟩
theorem PatsOk.run (hK : X.K = K) (hc : X.calm = true) : ∀ {ps : List Pat} {es : List Expr}, PatsOk X ps es → PGs X es (gsOf K ps)
  | _, _, .nil => pgs_nil
  | _, _, .cons (p := p) (ps := ps) hp k => pgs_cons' hp (PatOk.run hK hc hp) (PatsOk.run hK hc k)
end
mutual
theorem tgOf : ∀ (pt : Pat), TgOk K ad (fun own => pt.within own) (bindPat pt) (gOf K pt)
  | .v i => tg_name i
  | .t ps => by
    have := tg_tup (n := ps.length) (tgsOf ps) fun xs ρ ρ' z => bindPats_len z
    intro x ρ ρ' v F H σ A Q w re r e q
    refine this x ρ ρ' v F H σ A Q w re r ?_ q
    cases x <;> exact e
theorem tgsOf : ∀ (ps : List Pat), TgsOk K ad (fun own => Pat.withinL own ps) (bindPats ps) (gsOf K ps)
  | [] => fun xs ρ ρ' vs F H σ A Q w re r e q => by
    cases xs with
    | cons => cases e
    | nil =>
      cases r
      cases e
      exact ⟨rfl, q σ A (.refl w) re fun _ _ => rfl⟩
  | p :: ps => by
    have a2 := tgOf p
    have b2 := tgsOf ps
    intro xs ρ ρ' vs F H σ A Q w re r e q
    cases xs with
    | nil => cases e
    | cons x xs =>
      cases r with
      | cons r0 rk =>
        obtain ⟨ρ1, e1, e2⟩ := Option.bind_eq_some_iff.mp e
        refine ⟨_, _, rfl, a2 x ρ ρ1 _ F H σ A _ w re r0 e1 fun σ1 A1 g re1 w1 => ?_⟩
        refine b2 xs ρ1 ρ' _ F H σ1 A1 Q g.wf re1 rk e2 fun σ2 A2 g' re2 w2 => ?_
        refine q σ2 A2 (g.trans g') re2 fun own h => ?_
        have h' : (p.within own && Pat.withinL own ps) = true := h
        rw [Bool.and_eq_true] at h'
        rw [w2 own h'.2, w1 own h'.1]
end

/-- an item at turn i: as it stands in F, or a new pair of such -/
def Yp (K : PySem.W.Frag) (ad : Nat → Addr) (F : Hp) (xs : List P) : Nat → Hp → V → Hp → Prop := fun i H x H' =>
  (H' = H ∧ ∃ y, xs[i]? = some y ∧ Rp K ad F x y) ∨ ∃ T v1 v2 p1 p2, x = .ref T ∧ H T = none ∧ H' = upd H T (.tup [v1, v2]) ∧ xs[i]? = some (.tup [p1, p2]) ∧ Rp K ad F v1 p1 ∧ Rp K ad F v2 p2
def WalkP (K : PySem.W.Frag) (ad : Nat → Addr) (F : Hp) (J : It) (xs : List P) : Prop := Walk J xs.length (fun H => Ex' F H) (Yp K ad F xs)
theorem Yp.go {F F1 H H' : Hp} {xs : List P} {i : Nat} {x : V} {A : List Addr} (h : Yp K ad F xs i H x H') (e : Ex' F F1) (w : Wf F1 H A) : ∃ F2 y, Go F1 H A F2 H' A ∧ xs[i]? = some y ∧ Rp K ad F2 x y ∧ ∀ a ∈ A, H' a = H a := by
  rcases h with ⟨rfl, y, h1, h2⟩ | ⟨T, v1, v2, p1, p2, rfl, hT, rfl, h1, h2, h3⟩
  · exact ⟨F1, y, .refl w, h1, h2.mono e, fun _ _ => rfl⟩
  · have g := w.newP (o := .tup [v1, v2]) hT
    exact ⟨_, _, g, h1, .tup (.inl (.inl upd_same)) (.cons ((h2.mono e).mono g.ff) (.cons ((h3.mono e).mono g.ff) .nil)), fun a ha => upd_ne fun z => w.al a ha (by rw [z]; exact hT)⟩
/-- the text walks what the evaluator says -/
def OkI (K : PySem.W.Frag) (ad : Nat → Addr) (fld : Nat → Str) (X : Cx) (W : WX) (tg it : Expr) (m : Env → Out (List P)) : Prop := ∃ wi, PI X tg it wi ∧ ∀ ρ F H σ A R, Wf F H A → RE K ad F H σ ρ A →
  Res (m ρ) (fun xs ρ1 => ∀ J F1 H1 A1, Go F H A F1 H1 A1 → RE K ad F1 H1 σ ρ1 A1 → WalkP K ad F1 J xs → R J H1) (KX K ad fld F H A σ W) → wi σ H R
def iAny (K : PySem.W.Frag) (tl : TE) : TI := fun σ H R => tl σ H fun x H1 => (∃ a, x = .ref a ∧ (∃ xs, SqL K H1 a xs) ∧ R (Itl K a) H1) ∨ ∃ a, x = .ref a ∧ (∃ xs, SqT K H1 a xs) ∧ R (Itt K a) H1
theorem pi_any {tg l : Expr} {tl : TE} (hl : PE X l tl) : PI X tg l (iAny X.K tl) := by
  refine ⟨fun pins s σ H R I h => ?_⟩
  refine thn (hl.run pins s σ H _ I h) fun v s1 ⟨x, H1, I1, r1, q1⟩ => ?_
  rcases q1 with ⟨a, e, ⟨xs, hq⟩, q⟩ | ⟨a, e, ⟨xs, hq⟩, q⟩
  · subst e
    cases r1
    obtain ⟨its, rv, p, hz⟩ := I1.list hq
    refine wpAny_pyIter_list p.isList ?_
    refine ⟨s1.heap.objs.size, [s1.heap.objs.size], _, _, H1, rfl, I1.kept (t' := s1.toks) fun b o e => Heap.get?_push_of_some _ e, turn_list a _, ⟨_, Heap.get?_push_size _ rfl, rfl, rfl⟩, fun b hb => ?_, q⟩
    have e : b = s1.heap.objs.size := by simpa using hb
    subst e
    exact I1.fpOk (Nat.le_refl _) (I1.hok.fresh (Nat.le_refl _))
  · subst e
    cases r1
    obtain ⟨its, rv, p, hz⟩ := I1.tuple hq
    refine wpAny_pyIter_tuple (show s1.heap.IsTuple a its.toArray from p) ?_
    refine ⟨s1.heap.objs.size, [s1.heap.objs.size], _, _, H1, rfl, I1.kept (t' := s1.toks) fun b o e => Heap.get?_push_of_some _ e, turn_tuple a _, ⟨_, Heap.get?_push_size _ rfl, rfl, rfl⟩, fun b hb => ?_, q⟩
    have e : b = s1.heap.objs.size := by simpa using hb
    subst e
    exact I1.fpOk (Nat.le_refl _) (I1.hok.fresh (Nat.le_refl _))
theorem walk_l {F : Hp} {a : Addr} {vs : List V} {xs : List P} (h : SqL K F a vs) (r : RpL K ad F vs xs) : WalkP K ad F (Itl K a) xs := by
  have w := walk_list (K := K) (a := a) (xs := vs)
  rw [r.len] at w
  refine w.mono (fun H e => e.sqL h) fun i H x H' hi e y => .inl ⟨y.1, ?_⟩
  cases hx : xs[i]? with
  | none => rw [List.getElem?_eq_none_iff] at hx; omega
  | some z =>
    obtain ⟨v, h1, h2⟩ := r.get hx
    have : v = x := Option.some.inj (h1.symm.trans y.2)
    subst this
    exact ⟨z, rfl, h2⟩
theorem walk_t {F : Hp} {a : Addr} {vs : List V} {xs : List P} (h : SqT K F a vs) (r : RpL K ad F vs xs) : WalkP K ad F (Itt K a) xs := by
  have w := walk_tup (K := K) (a := a) (xs := vs)
  rw [r.len] at w
  refine w.mono (fun H e => e.sqT h) fun i H x H' hi e y => .inl ⟨y.1, ?_⟩
  cases hx : xs[i]? with
  | none => rw [List.getElem?_eq_none_iff] at hx; omega
  | some z =>
    obtain ⟨v, h1, h2⟩ := r.get hx
    have : v = x := Option.some.inj (h1.symm.trans y.2)
    subst this
    exact ⟨z, rfl, h2⟩
theorem oki_v {tg it : Expr} {m : Env → Out D} (hK : X.K = K) (h : OkV K ad fld X W it m) : OkI K ad fld X W tg it (iOfV m) := by
  refine ⟨_, pi_any pw, fun ρ F H σ A R w re r => ?_⟩
  rw [hK]
  refine one_frz h w re r fun x ρ1 h1 v F1 H1 A1 g1 re1 rx => ?_
  cases x <;> first | exact (show False from h1).elim | skip
  · cases rx with
    | tup q k => exact .inr ⟨_, rfl, ⟨_, g1.wf.sub.sqT q⟩, h1 _ F1 H1 A1 g1 re1 (walk_t q k)⟩
  · cases rx with
    | lst q k => exact .inl ⟨_, rfl, ⟨_, .inl (.inl (g1.wf.sub _ _ q))⟩, h1 _ F1 H1 A1 g1 re1 (walk_l (.inl (.inl q)) k)⟩
  · cases rx with
    | scr q k => exact .inl ⟨_, rfl, ⟨_, g1.wf.sub.sqL q⟩, h1 _ F1 H1 A1 g1 re1 (walk_l q k)⟩
theorem range_len : ∀ (n : Nat) (lo : Int), (rangeOf lo n).length = n
  | 0, _ => rfl
  | n + 1, lo => by
    show (rangeOf (lo + 1) n).length + 1 = n + 1
    rw [range_len n]
theorem range_get : ∀ (n : Nat) (lo : Int) (i : Nat), i < n → (rangeOf lo n)[i]? = some (.int (lo + i))
  | 0, _, _, h => by omega
  | n + 1, lo, 0, _ => by simp [rangeOf]
  | n + 1, lo, i + 1, h => by
    show (rangeOf (lo + 1) n)[i]? = _
    rw [range_get n (lo + 1) i (by omega)]
    congr 2
    omega
theorem walk_r {F : Hp} (lo : Int) (n : Nat) : WalkP K ad F (Itr lo n) (rangeOf lo n) := by
  have w := walk_range (lo := lo) (n := n)
  unfold WalkP
  rw [range_len]
  refine w.mono (fun H _ => trivial) fun i H x H' hi _ y => .inl ⟨y.1, _, range_get n lo i hi, ?_⟩
  rw [y.2]
  exact .int _
theorem oki_r1 {tg a : Expr} {da : Den} {p pos : Pos} (hg : Gl X "range") (hm : X.mg "range" = none) (ha : hd a = true) (oa : OkV K ad fld X W a da.v) : OkI K ad fld X W tg (.Call (.Name "range" p) [a] [] pos) (dRng1 da).i := by
  refine ⟨_, pi_range1 hg hm (pa_cons pw pa_nil (hd_star ha)) (hd_star ha), fun ρ F H σ A R w re r => ?_⟩
  simp only [dRng1, ofI] at r
  refine one_frz oa w re r fun x ρ1 h1 v F1 H1 A1 g1 re1 rx => ?_
  cases x <;> first | exact (show False from h1).elim | skip
  rename_i n
  cases rx
  cases e : inR n with
  | false => simp only [e] at h1; exact (show False from h1).elim
  | true =>
    simp only [e] at h1
    unfold inR at e
    rw [Bool.and_eq_true] at e
    exact ⟨n, rfl, of_decide_eq_true e.1, of_decide_eq_true e.2, h1 _ F1 H1 A1 g1 re1 (walk_r 0 n.toNat)⟩
theorem oki_r2 {tg a b : Expr} {da db : Den} {p pos : Pos} (hg : Gl X "range") (hm : X.mg "range" = none) (ha : hd a = true) (hb : hd b = true) (oa : OkV K ad fld X W a da.v) (ob : OkV K ad fld X W b db.v) : OkI K ad fld X W tg (.Call (.Name "range" p) [a, b] [] pos) (dRng2 da db).i := by
  refine ⟨_, pi_range2 hg hm (pa_cons pw (pa_cons pw pa_nil (hd_star hb)) (hd_star ha)) (by rw [hd_star ha, hd_star hb]; rfl) (hd_star hb), fun ρ F H σ A R w re r => ?_⟩
  simp only [dRng2, ofI] at r
  refine one_frz oa w re r fun x ρ1 h1 v F1 H1 A1 g1 re1 rx => ?_
  refine one_frz ob g1.wf re1 (h1.mono (fun _ _ z => z) fun _ _ _ z => KX.go g1 z) fun y ρ2 h2 u F2 H2 A2 g2 re2 ry => ?_
  cases x <;> first | exact (show False from h2).elim | skip
  cases y <;> first | exact (show False from h2).elim | skip
  rename_i i j
  cases rx
  cases ry
  cases e : inR i && inR j with
  | false => simp only [e] at h2; exact (show False from h2).elim
  | true =>
    simp only [e] at h2
    unfold inR at e
    rw [Bool.and_eq_true, Bool.and_eq_true, Bool.and_eq_true] at e
    exact ⟨i, j, rfl, ⟨of_decide_eq_true e.1.1, of_decide_eq_true e.1.2, of_decide_eq_true e.2.1, of_decide_eq_true e.2.2⟩, h2 _ F2 H2 A2 (g1.trans g2) re2 (walk_r i (j - i).toNat)⟩
end
end Pl

set_option Elab.async false
set_option linter.all false
set_option autoImplicit false
set_option maxRecDepth 100000
set_option maxHeartbeats 4000000
namespace Pl
open PySem PySem.Spec PyProof.Rows L2 RZ
open PySem.Sem (wp)
open AutoSeq1 (wpAny_loadPart')
theorem meets_enum_newT (l : Addr) (items : Array Value) (n : Nat) (dct : Option Addr) (sl : Array (Option Value)) :
    Meets (Builtin.«enumerate.__new__» ⟨[.type "enumerate", .ref l], []⟩) (fun _ R s => s.heap.get? l = some { cls := .type "tuple", dict := dct, data := .seq items n, slots := sl } ∧
      R (.ok (.ret (.ref (s.heap.push { cls := .type "tuple_iterator", data := .fields #[.ref l, .int 0 0] }).objs.size)))
        { s with heap := (s.heap.push { cls := .type "tuple_iterator", data := .fields #[.ref l, .int 0 0] }).push { cls := .type "enumerate", data := .fields #[.none, .bool false, .ref s.heap.objs.size, rawInt 0, .none, .none] } }) :=
  .of_wp fun prog w A R s h => by
    obtain ⟨hp, g, d, tk, os⟩ := s; obtain ⟨hl, h⟩ := h
    have hsub := sub_enumerate
    have hL : Heap.IsTuple (Shared.heap ⟨hp, g, d, tk, os⟩) l items := ⟨_, hl, rfl, n, rfl⟩
    wp_walk using wpAny_loadPart' hl
    refine wpAny_stack_any fun st => wpAny_pure ?_
    split
    · rename_i c _ _ _ _ _
      cases (c == Value.type "enumerate")
      · wp_walk using wpAny_loadPart' hl, wpAny_pyIter_tuple hL
        exact ⟨_, rfl, h⟩
      · wp_walk using wpAny_loadPart' hl, wpAny_pyIter_tuple hL
        exact ⟨_, rfl, h⟩
    · wp_walk using wpAny_loadPart' hl, wpAny_pyIter_tuple hL
      exact ⟨_, rfl, h⟩
section
variable {prog : Program} {w : World} {A : Around} {E : Value → Shared → Prop} {s : Shared}
theorem call_enum_tuple {l : Addr} {items : Array Value} {Q : Value → Shared → Prop} (hL : s.heap.IsTuple l items)
    (h : ∀ h', IsEnum h' (s.heap.objs.size + 1) s.heap.objs.size 0 .none → h'.IsTupleIter s.heap.objs.size l 0 → h'.objs.size = s.heap.objs.size + 2 →
      (∀ b o, s.heap.get? b = some o → h'.get? b = some o) → Q (.ref (s.heap.objs.size + 1)) { s with heap := h' }) :
    wpAny (model prog w) A (call (.type "enumerate") [.ref l]) Q E s := by
  obtain ⟨⟨c, dct, dt, sl⟩, hl, hc, n, hd⟩ := hL
  replace hc : c = .type "tuple" := hc
  replace hd : dt = .seq items n := hd
  subst hc hd
  refine callType_new F.called_enumerate (by decide) (F.typeCall_enumerate_1 _) (F.newCall_enumerate_1 _) (fun obj => F.args_object_init_2 obj _) F.entry_enumerate_new
    (meets_enum_newT l items n dct sl) ⟨hl, ?_⟩
  have hz : (s.heap.push { cls := .type "tuple_iterator", data := .fields #[.ref l, .int 0 0] }).objs.size = s.heap.objs.size + 1 := Heap.size_push ..
  show _ ∧ _
  rw [hz]
  have he : IsEnum ((s.heap.push { cls := .type "tuple_iterator", data := .fields #[.ref l, .int 0 0] }).push
      { cls := .type "enumerate", data := .fields #[.none, .bool false, .ref s.heap.objs.size, rawInt 0, .none, .none] }) (s.heap.objs.size + 1) s.heap.objs.size 0 .none := by
    have := Heap.get?_push_size (s.heap.push { cls := .type "tuple_iterator", data := .fields #[.ref l, .int 0 0] })
      (o := { cls := .type "enumerate", data := .fields #[.none, .bool false, .ref s.heap.objs.size, rawInt 0, .none, .none] }) rfl
    rw [hz] at this; exact this
  refine ⟨⟨_, he, rfl⟩, h _ he ⟨_, Heap.get?_push_of_some _ (Heap.get?_push_size _ rfl), rfl, rfl⟩ (by rw [Heap.size_push, hz]) fun b o x => Heap.get?_push_of_some _ (Heap.get?_push_of_some _ x)⟩
end
/-- the tuple at a, each item in a new pair -/
def IteT (K : PySem.W.Frag) (a : Addr) : It :=
  ⟨fun i H => ∃ (xs : List V) (x : V), SqT K H a xs ∧ xs[i]? = some x, fun i H v H' => ∃ T x, v = .ref T ∧ H T = none ∧ H' = upd H T (.tup [.int (i : Nat), x]) ∧ ∀ xs, SqT K H a xs → xs[i]? = some x, fun i H => ∃ xs : List V, SqT K H a xs ∧ xs.length = i⟩
theorem turn_enumT {P : Program} {w : World} {K : PySem.W.Frag} {elts : List Expr} {kk : Nat} {tpos : Pos} (a e it : Addr) :
    Turn P w K (.Tuple elts kk tpos) (IteT K a) [e, it] e (fun i h => (∃ old, IsEnum h e it ((i : Nat) : Int) old) ∧ h.IsTupleIter it a i ∧ e ≠ it ∧ a ≠ it ∧ e ≠ a) where
  mem := by simp
  obj := fun i h st b hb => by
    obtain ⟨⟨old, he⟩, ⟨o, ho, hc, hd⟩, _⟩ := st
    have e' : b = e ∨ b = it := by simpa using hb
    rcases e' with z | z
    · rw [z]; exact ⟨_, he, fun v q => nomatch q⟩
    · rw [z]; exact ⟨o, ho, fun v q => by rw [hd] at q; cases q⟩
  keep := fun i h h' st k => let ⟨⟨old, he⟩, hi, hne⟩ := st; ⟨⟨old, k e (by simp) _ he⟩, hi.at fun o q => k it (by simp) o q, hne⟩
  item := by
    intro X hP hw hK hc i pins s σ H E I hf st hg
    subst hP hw hK
    obtain ⟨⟨old, he⟩, hit, hne, hai, hea⟩ := st
    obtain ⟨xs, x, hq, hx⟩ := hg
    obtain ⟨its, rv, p, hz⟩ := I.tuple hq
    obtain ⟨u, hu, ru⟩ := rv.get hx
    have hel : e < s.heap.objs.size := Heap.lt_size he
    have hil : it < s.heap.objs.size := by obtain ⟨_, q, _⟩ := hit; exact Heap.lt_size q
    have hil2 : i < its.toArray.size := by
      have := (List.getElem?_eq_some_iff.mp hu).1
      simpa using this
    have D : Draws X.prog X.w X.A.in1 it [it, a] its.toArray.size (fun i v => its.toArray[i]? = some v) (fun i h => h.IsTupleIter it a i ∧ h.IsTuple a its.toArray) := Draws.tuple (by exact I.ok.hd hc) it a hai its.toArray
    refine wpAny_pyNext_enum_itemD D he ⟨hit, p⟩ hil2 hne (by simp; exact ⟨hne, hea⟩) fun y h' tk hy ho hit' hT hsz hk => ?_
    have hyu : y = u := by
      have h1 : its.toArray[i]? = some u := by simpa using hu
      exact Option.some.inj (hy.symm.trans h1)
    subst hyu
    refine ⟨_, rfl, wpAny_letOwnedTupleGo_enum (s := { s with heap := h', toks := tk + 1 }) ho fun h'' he' sb => ?_⟩
    have hT2 : h''.get? s.heap.objs.size = some { cls := .type "tuple", data := .seq #[.int i tk, y] } := (sb.2 _ (Nat.ne_of_gt hel)).trans hT
    have new : ObjOk X.prog X.w (upd H s.heap.objs.size (.tup [.int (i : Nat), x])) h'' s.heap.objs.size (.tup [.int (i : Nat), x]) :=
      ⟨by show 2 ≤ sizeLine; decide, [.int i tk, y], .cons ⟨_, rfl⟩ (.cons ru .nil), ⟨_, hT2, rfl, _, rfl⟩⟩
    have I1 : Inv X pins σ (upd H s.heap.objs.size (.tup [.int (i : Nat), x])) { s with heap := h'', toks := tk + 1 } :=
      I.turnedNew (ch := [e, it]) (fun b ob hb q => (sb.2 b (fun z => hb (by simp [z]))).trans (hk b ob (fun z => hb (by simp [z])) (fun z => hb (by simp [z])) q)) hf (Nat.le_refl _) new
    refine ⟨.ref s.heap.objs.size, _, I1, rfl, ⟨_, x, rfl, I.hok.fresh (Nat.le_refl _), rfl, fun ys hy => by rw [I.tuple_inj hy hq]; exact hx⟩, ⟨⟨y, ?_⟩, hit'.1.at fun o q => (sb.2 it (Ne.symm hne)).trans q, hne, hai, hea⟩, fun b hb => ?_⟩
    · have e1 : ((i + 1 : Nat) : Int) = (i : Int) + 1 := by omega
      rw [e1]; exact he'
    · have hb' : b < s.heap.objs.size := by
        have e' : b = e ∨ b = it := by simpa using hb
        rcases e' with z | z
        · rw [z]; exact hel
        · rw [z]; exact hil
      rw [upd_ne (Nat.ne_of_lt hb')]
      exact (hf b hb).1
  done := by
    intro X hP hw hK hc i pins s σ H E I hf st hg
    subst hP hw hK
    obtain ⟨⟨old, he⟩, hit, hne, hai, hea⟩ := st
    obtain ⟨xs, hq, hx⟩ := hg
    obtain ⟨its, rv, p, hz⟩ := I.tuple hq
    obtain ⟨f0, f1, f2, f3, f4, f5⟩ := hf it (by simp)
    have hl := rv.length
    have D : Draws X.prog X.w X.A.in1 it [it, a] its.toArray.size (fun i v => its.toArray[i]? = some v) (fun i h => h.IsTupleIter it a i ∧ h.IsTuple a its.toArray) := Draws.tuple (by exact I.ok.hd hc) it a hai its.toArray
    have e1 : its.toArray.size = i := by
      rw [← hx, List.size_toArray]
      omega
    refine wpAny_pyNext_enum_endD D he (by rw [e1]; exact ⟨hit, p⟩) fun h' eb => ⟨rfl, I.turned (t' := s.toks) (fun b o hb q => eb b o hb q) f0 f1 f3 f4 f5⟩
  self := fun A i s Q E st h => let ⟨⟨_, he⟩, _⟩ := st; wpAny_pyIter_enum he h
/-- enumerate of a list or a tuple -/
def iEnumA (K : PySem.W.Frag) (ta : TA) : TI := fun σ H R => ta σ H fun vs H1 => ∃ a, vs = [.ref a] ∧ ((∃ xs, SqL K H1 a xs ∧ R (Ite K a) H1) ∨ ∃ xs, SqT K H1 a xs ∧ R (IteT K a) H1)
theorem pi_enumA {X : Cx} {e : Expr} {ta : TA} {p pos tpos : Pos} {elts : List Expr} {kk : Nat} (hg : Gl X "enumerate") (hm : X.mg "enumerate" = none) (ha : PA X [e] ta) (hs : starEach [e] X.env = [(false, eval e X.env)]) :
    PI X (.Tuple elts kk tpos) (.Call (.Name "enumerate" p) [e] [] pos) (iEnumA X.K ta) := by
  refine ⟨fun pins s σ H R I h => ?_⟩
  refine Call_ (ld_blt I hg hm boot_enumerate (PyProof.Rows.callWith_type1 (thn (ha.run pos pins s σ H _ I h) fun us s1 ⟨vs, H1, I1, r1, q1⟩ => ?_) hs rfl))
  obtain ⟨a, ex, q1⟩ := q1
  subst ex
  cases r1 with
  | cons r rr =>
    cases rr
    cases r
    have fresh : ∀ b, b ∈ [s1.heap.objs.size + 1, s1.heap.objs.size] → FpOk X pins H1 b := fun b hb => by
      have e' : b = s1.heap.objs.size + 1 ∨ b = s1.heap.objs.size := by simpa using hb
      have hle : s1.heap.objs.size ≤ b := by
        rcases e' with z | z
        · rw [z]; exact Nat.le_add_right _ _
        · rw [z]; exact Nat.le_refl _
      exact I1.fpOk hle (I1.hok.fresh hle)
    rcases q1 with ⟨xs, hq, q⟩ | ⟨xs, hq, q⟩
    · obtain ⟨its, rv, p', hz⟩ := I1.list hq
      refine call_enumerate_list p'.isList fun h' he hit hsz hk => wpAny_pyIter_enum he ?_
      have I2 : Inv X pins σ H1 { s1 with heap := h' } := I1.kept (t' := s1.toks) hk
      exact ⟨s1.heap.objs.size + 1, [s1.heap.objs.size + 1, s1.heap.objs.size], _, _, H1, rfl, I2, turn_enum a (s1.heap.objs.size + 1) s1.heap.objs.size, ⟨⟨.none, he⟩, hit, Nat.succ_ne_self _⟩, fresh, q⟩
    · obtain ⟨its, rv, p', hz⟩ := I1.tuple hq
      obtain ⟨o1, ho1, _⟩ := id p'
      have la : a < s1.heap.objs.size := Heap.lt_size ho1
      refine call_enum_tuple (show s1.heap.IsTuple a its.toArray from p') fun h' he hit hsz hk => wpAny_pyIter_enum he ?_
      have I2 : Inv X pins σ H1 { s1 with heap := h' } := I1.kept (t' := s1.toks) hk
      exact ⟨s1.heap.objs.size + 1, [s1.heap.objs.size + 1, s1.heap.objs.size], _, _, H1, rfl, I2, turn_enumT a (s1.heap.objs.size + 1) s1.heap.objs.size, ⟨⟨.none, he⟩, hit, Nat.succ_ne_self _, Nat.ne_of_lt la, Nat.ne_of_gt (Nat.lt_succ_of_lt la)⟩, fresh, q⟩
section
variable {K : PySem.W.Frag} {ad : Nat → Addr} {fld : Nat → Str} {X : Cx} {W : WX}
theorem enum_len : ∀ (xs : List P) (k : Int), (enumOf k xs).length = xs.length
  | [], _ => rfl
  | x :: xs, k => by
    show (enumOf (k + 1) xs).length + 1 = _
    rw [enum_len xs]
    rfl
theorem enum_get : ∀ (xs : List P) (k : Int) (i : Nat) (x : P), xs[i]? = some x → (enumOf k xs)[i]? = some (.tup [.int (k + i), x])
  | [], _, _, _, h => by simp at h
  | y :: xs, k, 0, x, h => by
    have : y = x := by simpa using h
    subst this
    show some (P.tup [.int k, y]) = _
    rw [show k + ((0 : Nat) : Int) = k by omega]
  | y :: xs, k, i + 1, x, h => by
    show (enumOf (k + 1) xs)[i]? = _
    rw [enum_get xs (k + 1) i x (by simpa using h), show k + 1 + (i : Int) = k + ((i + 1 : Nat) : Int) by omega]
theorem pairs_len : ∀ (xs ys : List P), (pairsOf xs ys).length = min xs.length ys.length
  | [], ys => by simp [pairsOf]
  | x :: xs, [] => by simp [pairsOf]
  | x :: xs, y :: ys => by
    show (pairsOf xs ys).length + 1 = _
    rw [pairs_len xs ys, List.length_cons, List.length_cons]
    omega
theorem pairs_get : ∀ (xs ys : List P) (i : Nat) (x y : P), xs[i]? = some x → ys[i]? = some y → (pairsOf xs ys)[i]? = some (.tup [x, y])
  | [], _, _, _, _, h, _ => by simp at h
  | _ :: _, [], _, _, _, _, h => by simp at h
  | a :: xs, b :: ys, 0, x, y, h, h2 => by
    have e1 : a = x := by simpa using h
    have e2 : b = y := by simpa using h2
    subst e1 e2
    rfl
  | a :: xs, b :: ys, i + 1, x, y, h, h2 => pairs_get xs ys i x y (by simpa using h) (by simpa using h2)
theorem RpL.get2 {F : Hp} {vs : List V} {xs : List P} (r : RpL K ad F vs xs) {i : Nat} {v : V} (h : vs[i]? = some v) : ∃ x, xs[i]? = some x ∧ Rp K ad F v x := by
  have hlt : i < xs.length := by rw [← r.len]; exact (List.getElem?_eq_some_iff.mp h).1
  obtain ⟨v', h1, h2⟩ := r.get (i := i) (x := xs[i]) (List.getElem?_eq_getElem hlt)
  rw [h] at h1
  cases h1
  exact ⟨_, List.getElem?_eq_getElem hlt, h2⟩
theorem walk_el {F : Hp} {a : Addr} {vs : List V} {xs : List P} (h : SqL K F a vs) (r : RpL K ad F vs xs) : WalkP K ad F (Ite K a) (enumOf 0 xs) := by
  have w := walk_enum (K := K) (a := a) (xs := vs)
  unfold WalkP
  rw [enum_len, ← r.len]
  refine w.mono (fun H e => e.sqL h) fun i H x H' hi e y => .inr ?_
  obtain ⟨T, v1, v2, h1, h2, h3, h4, h5⟩ := y
  obtain ⟨z, h6, h7⟩ := r.get2 h5
  have e0 : v1 = .int (i : Nat) := by simpa using h4.symm
  subst e0
  refine ⟨T, _, v2, .int (i : Nat), z, h1, h2, h3, ?_, .int _, h7⟩
  rw [enum_get xs 0 i z h6, Int.zero_add]
theorem walk_et {F : Hp} {a : Addr} {vs : List V} {xs : List P} (h : SqT K F a vs) (r : RpL K ad F vs xs) : WalkP K ad F (IteT K a) (enumOf 0 xs) := by
  unfold WalkP
  rw [enum_len, ← r.len]
  refine ⟨fun i H hi e => ⟨vs, vs[i], e.sqT h, by simp [hi]⟩, fun H e => ⟨vs, e.sqT h, rfl⟩, fun i H x H' hi e y => .inr ?_⟩
  obtain ⟨T, v2, h1, h2, h3, h5⟩ := y
  obtain ⟨z, h6, h7⟩ := r.get2 (h5 vs (e.sqT h))
  refine ⟨T, _, v2, .int (i : Nat), z, h1, h2, h3, ?_, .int _, h7⟩
  rw [enum_get xs 0 i z h6, Int.zero_add]
theorem oki_enum {elts : List Expr} {kk : Nat} {tpos : Pos} {a : Expr} {da : Den} {p pos : Pos} (hK : X.K = K) (hg : Gl X "enumerate") (hm : X.mg "enumerate" = none) (ha : hd a = true) (oa : OkV K ad fld X W a da.v) : OkI K ad fld X W (.Tuple elts kk tpos) (.Call (.Name "enumerate" p) [a] [] pos) (dEnum da).i := by
  refine ⟨_, pi_enumA hg hm (pa_cons pw pa_nil (hd_star ha)) (hd_star ha), fun ρ F H σ A R w re r => ?_⟩
  simp only [dEnum, ofI] at r
  rw [hK]
  have r2 : Res (bndF (da.v ρ) fun x ρ1 => bnd (match x with | .lst xs => Out.ok xs ρ1 | .tup xs => .ok xs ρ1 | .scr xs => .ok xs ρ1 | _ => .bad) fun xs ρ1 => .ok (enumOf 0 xs) ρ1) (fun xs ρ1 => ∀ J F1 H1 A1, Go F H A F1 H1 A1 → RE K ad F1 H1 σ ρ1 A1 → WalkP K ad F1 J xs → R J H1) (KX K ad fld F H A σ W) := by
    unfold iOfV at r
    revert r
    generalize da.v ρ = o
    intro r
    cases o <;> exact r
  refine one_frz oa w re r2 fun x ρ1 h1 v F1 H1 A1 g1 re1 rx => ?_
  cases x <;> first | exact (show False from h1).elim | skip
  · cases rx with
    | tup q k => exact ⟨_, rfl, .inr ⟨_, g1.wf.sub.sqT q, h1 _ F1 H1 A1 g1 re1 (walk_et q k)⟩⟩
  · cases rx with
    | lst q k => exact ⟨_, rfl, .inl ⟨_, .inl (.inl (g1.wf.sub _ _ q)), h1 _ F1 H1 A1 g1 re1 (walk_el (.inl (.inl q)) k)⟩⟩
  · cases rx with
    | scr q k => exact ⟨_, rfl, .inl ⟨_, g1.wf.sub.sqL q, h1 _ F1 H1 A1 g1 re1 (walk_el q k)⟩⟩
theorem walk_zl {F : Hp} {a b : Addr} {vs us : List V} {xs ys : List P} (h : SqL K F a vs) (h2 : SqL K F b us) (r : RpL K ad F vs xs) (r2 : RpL K ad F us ys) : WalkP K ad F (Itz K a b) (pairsOf xs ys) := by
  have w := walk_zip (K := K) (a := a) (b := b) (xs := vs) (ys := us) (n := (pairsOf xs ys).length) (by rw [pairs_len, r.len, r2.len])
  unfold WalkP
  refine w.mono (fun H e => ⟨e.sqL h, e.sqL h2⟩) fun i H x H' hi e y => .inr ?_
  obtain ⟨T, v1, v2, h3, h4, h5, h6, h7⟩ := y
  obtain ⟨z1, q1, q2⟩ := r.get2 h6
  obtain ⟨z2, q3, q4⟩ := r2.get2 h7
  exact ⟨T, v1, v2, z1, z2, h3, h4, h5, pairs_get xs ys i z1 z2 q1 q3, q2, q4⟩
theorem walk_zt {F : Hp} {a b : Addr} {vs us : List V} {xs ys : List P} (h : SqT K F a vs) (h2 : SqT K F b us) (r : RpL K ad F vs xs) (r2 : RpL K ad F us ys) : WalkP K ad F (ItzT K a b) (pairsOf xs ys) := by
  unfold WalkP
  have hl : (pairsOf xs ys).length = min vs.length us.length := by rw [pairs_len, r.len, r2.len]
  refine ⟨fun i H hi e => ?_, fun H e => ⟨vs, us, e.sqT h, e.sqT h2, by omega⟩, fun i H x H' hi e y => .inr ?_⟩
  · have l1 : i < vs.length := by omega
    have l2 : i < us.length := by omega
    exact ⟨vs, us, vs[i], us[i], e.sqT h, e.sqT h2, by simp [l1], by simp [l2]⟩
  · obtain ⟨T, v1, v2, h3, h4, h5, h6, h7⟩ := y
    obtain ⟨z1, q1, q2⟩ := r.get2 (h6 vs (e.sqT h))
    obtain ⟨z2, q3, q4⟩ := r2.get2 (h7 us (e.sqT h2))
    exact ⟨T, v1, v2, z1, z2, h3, h4, h5, pairs_get xs ys i z1 z2 q1 q3, q2, q4⟩
theorem oki_zip {elts : List Expr} {kk : Nat} {tpos : Pos} {a b : Expr} {da db : Den} {p pos : Pos} (hK : X.K = K) (hg : Gl X "zip") (hm : X.mg "zip" = none) (ha : hd a = true) (hb : hd b = true) (oa : OkV K ad fld X W a da.v) (ob : OkV K ad fld X W b db.v) : OkI K ad fld X W (.Tuple elts kk tpos) (.Call (.Name "zip" p) [a, b] [] pos) (dZip da db).i := by
  refine ⟨_, pi_zipA hg hm (pa_cons pw (pa_cons pw pa_nil (hd_star hb)) (hd_star ha)) (by rw [hd_star ha, hd_star hb]) (by rw [hd_star hb]; rfl), fun ρ F H σ A R w re r => ?_⟩
  simp only [dZip, ofI] at r
  rw [hK]
  refine one_frz oa w re r fun x ρ1 h1 v F1 H1 A1 g1 re1 rx => ?_
  refine one_frz ob g1.wf re1 (h1.mono (fun _ _ z => z) fun _ _ _ z => KX.go g1 z) fun y ρ2 h2 u F2 H2 A2 g2 re2 ry => ?_
  have rx2 := rx.mono g2.ff
  cases x <;> first | exact (show False from h2).elim | skip
  · cases y <;> first | exact (show False from h2).elim | skip
    cases rx2 with
    | tup q k =>
      cases ry with
      | tup q2 k2 => exact ⟨_, _, _, _, rfl, .inr ⟨g2.wf.sub.sqT q, g2.wf.sub.sqT q2, h2 _ F2 H2 A2 (g1.trans g2) re2 (walk_zt q q2 k k2)⟩⟩
  · cases y <;> first | exact (show False from h2).elim | skip
    cases rx2 with
    | lst q k =>
      cases ry with
      | lst q2 k2 => exact ⟨_, _, _, _, rfl, .inl ⟨.inl (.inl (g2.wf.sub _ _ q)), .inl (.inl (g2.wf.sub _ _ q2)), h2 _ F2 H2 A2 (g1.trans g2) re2 (walk_zl (.inl (.inl q)) (.inl (.inl q2)) k k2)⟩⟩
end
end Pl

set_option Elab.async false
set_option linter.all false
set_option autoImplicit false
set_option maxRecDepth 100000
set_option maxHeartbeats 4000000
namespace Pl
open PySem PySem.Spec PyProof.Rows L2
section
variable {K : PySem.W.Frag} {ad : Nat → Addr} {fld : Nat → Str} {X : Cx} {W : WX}

theorem wipe_wipe (σ : L2.St) (own : List Nat) : wipe (wipe σ own) own = wipe σ own := by
  apply List.ext_getElem?
  intro i
  by_cases h : i ∈ own
  · have key : ∀ τ : L2.St, τ.length = σ.length → (wipe τ own)[i]? = if i < σ.length then some none else none := by
      intro τ hτ
      cases e : (wipe τ own)[i]? with
      | none =>
        have := List.getElem?_eq_none_iff.mp e
        rw [wipe_length, hτ] at this
        rw [if_neg (by omega)]
      | some o =>
        have hl : i < σ.length := by
          have := (List.getElem?_eq_some_iff.mp e).1
          rw [wipe_length, hτ] at this
          exact this
        rw [if_pos hl]
        cases o with
        | none => rfl
        | some x => exact absurd h (wipe_some e).2
    rw [key _ (wipe_length σ own), key _ rfl]
  · rw [wipe_out h]
theorem RE.wipe {F H : Hp} {σ : L2.St} {ρ : Env} {A : List Addr} (re : RE K ad F H σ ρ A) : ∀ own : List Nat, ∃ A', A'.Sublist A ∧ RE K ad F H (wipe σ own) (wipeE ρ own) A'
  | [] => ⟨A, List.Sublist.refl _, re⟩
  | i :: is => by
    obtain ⟨A1, h1, h2⟩ := RE.wipe re is
    obtain ⟨A2, h3, h4⟩ := h2.lose i none
    exact ⟨A2, h3.trans h1, h4⟩
theorem contains_false {xs : List Nat} {x : Nat} (h : (!xs.contains x) = true) : x ∉ xs := by
  intro z
  rw [Bool.not_eq_true', List.contains_eq_mem, decide_eq_false_iff_not] at h
  exact h z
theorem RE.back {F H F' H' : Hp} {σ : L2.St} {ρ1 : Env} {A1 : List Addr} (re : RE K ad F H σ ρ1 A1) (ff : Ex' F F') (w' : Ex' F' H') : ∀ (own : List Nat) {ρ' : Env} {A' : List Addr}, nodupN own = true → noOwn ρ1 own = true → Wf F' H' A' → RE K ad F' H' (L2.wipe σ own) ρ' A' →
    ∃ A'', Go F' H' A' F' H' A'' ∧ RE K ad F' H' σ (backE ρ1 ρ' own) A''
  | [], ρ', A', _, _, w, r => ⟨A', .refl w, r⟩
  | i :: is, ρ', A', hn, ho, w, r => by
    unfold nodupN at hn
    unfold noOwn at ho
    rw [Bool.and_eq_true] at hn ho
    have hi : i ∉ is := contains_false hn.1
    obtain ⟨A2, s2, r2⟩ := r.lose i ((σ[i]?).getD none)
    have es : (L2.wipe σ (i :: is)).set i ((σ[i]?).getD none) = L2.wipe σ is := by
      show ((L2.wipe σ is).set i none).set i ((σ[i]?).getD none) = L2.wipe σ is
      rw [List.set_set]
      by_cases hl : i < σ.length
      · refine set_id ?_
        rw [wipe_out hi, List.getElem?_eq_getElem hl]
        rfl
      · exact List.set_eq_of_length_le (by rw [wipe_length]; omega)
    rw [es] at r2
    have g2 : Go F' H' A' F' H' A2 := (Go.refl w).drop s2
    have fin : ∀ {ρ'' : Env} {A3 : List Addr}, Go F' H' A' F' H' A3 → RE K ad F' H' (L2.wipe σ is) ρ'' A3 → ρ'' = ρ'.set i ((ρ1[i]?).bind id) → ∃ A'', Go F' H' A' F' H' A'' ∧ RE K ad F' H' σ (backE ρ1 ρ' (i :: is)) A'' := by
      intro ρ'' A3 g3 r3 e
      subst e
      obtain ⟨A4, g4, r4⟩ := RE.back re ff w' is hn.2 ho.2 g3.wf r3
      exact ⟨A4, g3.trans g4, r4⟩
    cases e1 : getD ρ1 i with
    | none =>
      refine fin g2 r2 ?_
      unfold getD at e1
      rw [e1]
    | some d =>
      cases d with
      | l ds => rw [e1] at ho; cases ho.1
      | d ks xs => rw [e1] at ho; cases ho.1
      | p x =>
        obtain ⟨v, B, R, h3, h4, _⟩ := re.get (getD_ok e1)
        cases h4 with
        | p rx =>
          obtain ⟨A3, g3, r3⟩ := r2.putP g2.wf i (rx.mono ff)
          have e3 : (L2.wipe σ is).set i (some v) = L2.wipe σ is := set_id (by rw [wipe_out hi]; exact h3)
          rw [e3] at r3
          refine fin (g2.trans g3) r3 ?_
          rw [List.set_set]
          unfold getD at e1
          rw [e1]

abbrev Xb (X : Cx) (scope : Scope) (s : Shared) (H : Hp) (C : Addr) (cl : List (Str × Addr)) (fp : List Addr) : Cx := X.blk s H scope (compEnvC scope cl C X.env) fp
abbrev W0 : WX := fun _ _ _ _ => False
def tE (X : Cx) (scope : Scope) (e : Expr) : TE := fun σ H Q => ∀ s H0 C cl fp, WV (Xb X scope s H0 C cl fp) e σ H Q
def tT (X : Cx) (scope : Scope) (e : Expr) : TT := fun σ H Q => ∀ s H0 C cl fp, WT (Xb X scope s H0 C cl fp) e σ H Q
theorem pe_tE {scope : Scope} {e : Expr} (s : Shared) (H : Hp) (C : Addr) (cl : List (Str × Addr)) (fp : List Addr) : PE (Xb X scope s H C cl fp) e (tE X scope e) := ⟨fun pins s' _ _ _ I h => h s H C cl fp pins s' I⟩
theorem pt_tT {scope : Scope} {e : Expr} (s : Shared) (H : Hp) (C : Addr) (cl : List (Str × Addr)) (fp : List Addr) : PT (Xb X scope s H C cl fp) e (tT X scope e) := ⟨fun pins s' _ _ _ I h => h s H C cl fp pins s' I⟩
/-- what a comprehension's parts mean, in every block -/
structure LcOk (K : PySem.W.Frag) (ad : Nat → Addr) (fld : Nat → Str) (X : Cx) (W : WX) (elt tg it : Expr) (ifs : List Expr) (scope : Scope) (pt : Pat) (dit : Den) (cs : List Den) (de : Den) : Prop where
  i : OkI K ad fld X W tg it dit.i
  g : ∀ s H C cl fp, PG (Xb X scope s H C cl fp) tg (gOf K pt)
  t : (ifs = [] ∧ cs = []) ∨ ∃ c dc, ifs = [c] ∧ cs = [dc] ∧ ∀ s H C cl fp, OkT K ad fld (Xb X scope s H C cl fp) W0 c dc.t
  e : ∀ s H C cl fp, OkV K ad fld (Xb X scope s H C cl fp) W0 elt de.v
theorem drop_cons {α : Type} {xs : List α} {i : Nat} {y : α} (h : xs[i]? = some y) : xs.drop i = y :: xs.drop (i + 1) := by
  obtain ⟨hl, rfl⟩ := List.getElem?_eq_some_iff.mp h
  exact List.drop_eq_getElem_cons hl
section
variable {elt tg it : Expr} {ifs : List Expr} {scope : Scope} {pt : Pat} {own : List Nat} {dit de : Den} {cs : List Den}
def Cv (K : PySem.W.Frag) (ad : Nat → Addr) (pt : Pat) (own : List Nat) (test : Env → Out Bool) (elt : Env → Out D) (xs : List P) (F1 H1 : Hp) (A1 : List Addr) (σ : L2.St) (Dl : Addr) (dsF : List D) (ρF : Env) (i : Nat) (H : Hp) : Prop :=
  ∃ F' A' B vs ds ρ', Go F1 H1 A1 F' H (A' ++ (Dl :: B)) ∧ RE K ad F' H (wipe σ own) ρ' A' ∧ H Dl = some (.lst vs) ∧ RepL K ad F' H vs ds B ∧ compGo pt own test elt (xs.drop i) ρ' ds = .ok dsF ρF
theorem cv_next {test : Env → Out Bool} {el : Env → Out D} {xs : List P} {F1 H1 F' H : Hp} {A1 A' B : List Addr} {σ σ2 : L2.St} {Dl : Addr} {dsF ds : List D} {ρF ρ' : Env} {i : Nat} {vs : List V} (g : Go F1 H1 A1 F' H (A' ++ (Dl :: B))) (re : RE K ad F' H σ2 ρ' A') (hw : wipe σ2 own = wipe σ own)
    (hD : H Dl = some (.lst vs)) (r : RepL K ad F' H vs ds B) (hc : compGo pt own test el (xs.drop i) (wipeE ρ' own) ds = .ok dsF ρF) : Cv K ad pt own test el xs F1 H1 A1 σ Dl dsF ρF i H := by
  obtain ⟨A2, s2, r2⟩ := re.wipe own
  rw [hw] at r2
  exact ⟨F', A2, B, vs, ds, _, g.drop (List.Sublist.append s2 (List.Sublist.refl _)), r2, hD, r, hc⟩
theorem lc_run (L : LcOk K ad fld X W elt tg it ifs scope pt dit cs de) : ∃ wi tt, PI X tg it wi ∧ (∀ s H C cl fp, PTs (Xb X scope s H C cl fp) ifs tt) ∧
    ∀ ρ F H σ A Q, Wf F H A → RE K ad F H σ ρ A → Res ((dComp pt own dit cs de).v ρ) (KV K ad F H A σ Q) (KX K ad fld F H A σ W) → tLc wi (gOf K pt) tt (tE X scope elt) own σ H Q := by
  obtain ⟨wi, pi, hi⟩ := L.i
  have ht : ∃ tt, (∀ s H C cl fp, PTs (Xb X scope s H C cl fp) ifs tt) ∧ ∀ ρ1 b ρ2 F H σ A Q, Wf F H A → RE K ad F H σ ρ1 A → testC cs ρ1 = .ok b ρ2 → KT K ad F H A σ Q b ρ2 → tt σ H Q := by
    rcases L.t with ⟨rfl, rfl⟩ | ⟨c, dc, rfl, rfl, h⟩
    · refine ⟨tYes, fun _ _ _ _ _ => pts_nil, fun ρ1 b ρ2 F H σ A Q w re e q => ?_⟩
      cases e
      exact q F H A (.refl w) re
    · refine ⟨tT X scope c, fun _ _ _ _ _ => pts_one (pt_tT _ _ _ _ _), fun ρ1 b ρ2 F H σ A Q w re e q => fun s H0 C cl fp => ?_⟩
      refine h s H0 C cl fp ρ1 F H σ A Q w re ?_
      have e' : dc.t ρ1 = .ok b ρ2 := e
      rw [e']
      exact q
  obtain ⟨tt, ptt, htt⟩ := ht
  refine ⟨wi, tt, pi, ptt, fun ρ F H σ A Q w re h => ?_⟩
  refine hi ρ F H σ A _ w re ((Res.bnd h).mono (fun xs ρ1 hx => ?_) fun _ _ _ z => z)
  intro J F1 H1 A1 g1 re1 wk Dl hD
  cases ec : noOwn ρ1 own && nodupN own && pt.within own with
  | false => rw [ec] at hx; exact (show False from hx).elim
  | true =>
    rw [ec] at hx
    dsimp only at hx
    rw [Bool.and_eq_true, Bool.and_eq_true] at ec
    cases eg : compGo pt own (testC cs) de.v xs (wipeE ρ1 own) [] with
    | bad => rw [eg] at hx; exact (show False from hx).elim
    | exc c fs ρ' => rw [eg] at hx; exact (show False from hx).elim
    | ok dsF ρF =>
      rw [eg] at hx
      have hk : KV K ad F H A σ Q (.l dsF) (backE ρ1 ρF own) := hx
      obtain ⟨Aw, sw, rw1⟩ := re1.wipe own
      have gw : Go F1 H1 A1 F1 H1 Aw := (Go.refl g1.wf).drop sw
      have gn := gw.wf.newL (o := .lst []) hD
      refine lc_it wk (Cv K ad pt own (testC cs) de.v xs F1 H1 A1 σ Dl dsF ρF) ?_ ?_ ?_ ?_
      · refine ⟨F1, Aw, [], [], [], wipeE ρ1 own, (gw.trans gn).permR ?_, rw1.mono (.refl _) fun a ha => upd_ne fun z => gw.wf.al a ha (by rw [z]; exact hD), upd_same, .nil, ?_⟩
        · exact (List.perm_append_comm (l₁ := [Dl]) (l₂ := Aw))
        · rw [List.drop_zero]
          exact eg
      · intro i H2 _ ⟨F', A', B, vs, ds, ρ', g, _⟩
        exact g.ff.trans g.wf.sub
      · rintro i x H2 H3 hin ⟨F', A', B, vs, ds, ρ', g, re', hDl, rl, hc⟩ hy
        obtain ⟨F2, y, gy, ey, ry, keep⟩ := hy.go g.ff g.wf
        rw [drop_cons ey] at hc
        unfold compGo at hc
        have hDl3 : H3 Dl = some (.lst vs) := by rw [keep Dl (List.mem_append.mpr (.inr List.mem_cons_self))]; exact hDl
        have rl3 : RepL K ad F2 H3 vs ds B := rl.mono gy.ff fun a ha => keep a (List.mem_append.mpr (.inr (List.mem_cons_of_mem _ ha)))
        have re3 : RE K ad F2 H3 (wipe σ own) ρ' A' := re'.mono gy.ff fun a ha => keep a (List.mem_append.mpr (.inl ha))
        have g3 := g.trans gy
        cases eb : bindPat pt y ρ' with
        | none => rw [eb] at hc; cases hc
        | some ρb =>
          rw [eb] at hc
          dsimp only at hc
          refine tgOf pt y ρ' ρb x F2 H3 _ A' _ g3.wf.left re3 ry eb fun σ2 A2 gb reb hwp => ?_
          have hw2 : wipe σ2 own = wipe σ own := by rw [hwp own ec.2, wipe_wipe]
          have g4 : Go F1 H1 A1 F2 H3 (A2 ++ (Dl :: B)) := g3.trans (gb.frame g3.wf)
          refine ⟨hw2, ?_⟩
          cases et : testC cs ρb with
          | bad => rw [et] at hc; cases hc
          | exc c fs ρ'' => rw [et] at hc; cases hc
          | ok b ρt =>
            rw [et] at hc
            refine htt ρb b ρt F2 H3 σ2 A2 _ gb.wf reb et ?_
            intro F5 H5 A5 g5 re5
            have g6 : Go F1 H1 A1 F5 H5 (A5 ++ (Dl :: B)) := g4.trans (g5.frame g4.wf)
            have kp := g5.keep g4.wf
            have hD5 : H5 Dl = some (.lst vs) := by rw [kp Dl List.mem_cons_self]; exact hDl3
            have rl5 : RepL K ad F5 H5 vs ds B := rl3.mono g5.ff fun a ha => kp a (List.mem_cons_of_mem _ ha)
            cases b with
            | false => exact iteF (cv_next g6 re5 hw2 hD5 rl5 hc)
            | true =>
              refine iteT ?_
              dsimp only at hc
              intro s H0 C cl fp
              cases ee : de.v ρt with
              | bad => rw [ee] at hc; cases hc
              | exc c fs ρ'' => rw [ee] at hc; cases hc
              | ok d ρe =>
                rw [ee] at hc
                dsimp only at hc
                refine L.e s H0 C cl fp ρt F5 H5 σ2 A5 _ g5.wf re5 ?_
                rw [ee]
                intro v F6 H6 A6 B6 g7 re6 rd
                have g8 : Go F1 H1 A1 F6 H6 ((A6 ++ B6) ++ (Dl :: B)) := g6.trans (g7.frame g6.wf)
                have kp6 := g7.keep g6.wf
                have hD6 : H6 Dl = some (.lst vs) := by rw [kp6 Dl List.mem_cons_self]; exact hD5
                have rl6 : RepL K ad F6 H6 vs ds B := rl5.mono g7.ff fun a ha => kp6 a (List.mem_cons_of_mem _ ha)
                cases hz : decide (ds.length < 16777216) with
                | false => rw [hz] at hc; cases hc
                | true =>
                  rw [hz] at hc
                  have hDm : Dl ∈ (A6 ++ B6) ++ (Dl :: B) := List.mem_append.mpr (.inr List.mem_cons_self)
                  have g9 := g8.trans (g8.wf.put (o := .lst (vs ++ [v])) hDm)
                  have nd := List.nodup_append.mp g8.wf.nd
                  have ndB : ∀ a ∈ B, a ≠ Dl := fun a ha z => (List.nodup_cons.mp nd.2.1).1 (by rw [← z]; exact ha)
                  have nd6 : ∀ a ∈ A6 ++ B6, a ≠ Dl := fun a ha z => nd.2.2 a ha Dl List.mem_cons_self z
                  refine ⟨vs, hD6, by rw [rl6.len, sizeLine_eq]; exact of_decide_eq_true hz, ?_⟩
                  refine cv_next (B := B ++ B6) (A' := A6) (g9.permR ?_) (re6.mono (.refl _) fun a ha => upd_ne (nd6 a (List.mem_append.mpr (.inl ha)))) hw2 upd_same ?_ hc
                  · rw [List.append_assoc]
                    refine List.Perm.append_left A6 (List.Perm.trans List.perm_append_comm ?_)
                    exact List.Perm.refl _
                  · have one : RepL K ad F6 (upd H6 Dl (.lst (vs ++ [v]))) [v] [d] (B6 ++ []) := .cons (rd.mono (.refl _) fun a ha => upd_ne (nd6 a (List.mem_append.mpr (.inr ha)))) .nil
                    rw [List.append_nil] at one
                    exact rep_app (rl6.mono (.refl _) fun a ha => upd_ne (ndB a ha)) one
      · rintro H2 ⟨F', A', B, vs, ds, ρ', g, re', hDl, rl, hc⟩
        rw [List.drop_length] at hc
        unfold compGo at hc
        cases hc
        obtain ⟨A'', gb, rb⟩ := re1.back g.ff g.wf.sub own ec.1.2 ec.1.1 g.wf.left re'
        exact hk (.ref Dl) F' H2 A'' (Dl :: B) (g1.trans (g.trans (gb.frame g.wf))) rb (.l hDl rl)
end
end
end Pl

set_option Elab.async false
set_option linter.all false
set_option autoImplicit false
set_option maxRecDepth 100000
set_option maxHeartbeats 4000000
namespace Pl
open PySem PySem.Spec PyProof.Rows L2
section
variable (K : PySem.W.Frag) (ad : Nat → Addr) (fld : Nat → Str)
/-- what is wanted behind a statement; kz: the slot 0 keeps its value -/
def SR (kz : Bool) (F H : Hp) (A : List Addr) (σ : L2.St) (D : Ends) (W : WX) : SOut → Prop
  | .nx ρ' => ∀ σ' F' H' A', Go F H A F' H' A' → RE K ad F' H' σ' ρ' A' → (kz = true → σ'[0]? = σ[0]?) → D.nx σ' H'
  | .bk ρ' => ∀ σ' F' H' A', Go F H A F' H' A' → RE K ad F' H' σ' ρ' A' → (kz = true → σ'[0]? = σ[0]?) → D.bk σ' H'
  | .ct ρ' => ∀ σ' F' H' A', Go F H A F' H' A' → RE K ad F' H' σ' ρ' A' → (kz = true → σ'[0]? = σ[0]?) → D.ct σ' H'
  | .rt d ρ' => ∀ v σ' F' H' A' B, Go F H A F' H' (A' ++ B) → RE K ad F' H' σ' ρ' A' → Rep K ad F' H' v d B → (kz = true → σ'[0]? = σ[0]?) → D.rt v H'
  | .exc c fs ρ' => ∀ dd σ' F' H' A', Go F H A F' H' A' → RE K ad F' H' σ' ρ' A' → XR K ad fld F' c fs dd → (kz = true → σ'[0]? = σ[0]?) → W (.ref (ad c)) dd σ' H'
  | .bad => False
def OkS (kz : Bool) (X : Cx) (W : WX) (st : Stmt) (m : Env → SOut) : Prop := ∀ ρ F H σ A D, Wf F H A → RE K ad F H σ ρ A → SR K ad fld kz F H A σ D W (m ρ) → WS X st D σ H
def OkB (kz : Bool) (X : Cx) (W : WX) (st : List Stmt) (m : Env → SOut) : Prop := ∀ ρ F H σ A D, Wf F H A → RE K ad F H σ ρ A → SR K ad fld kz F H A σ D W (m ρ) → WB X st D σ H
end
section
variable {K : PySem.W.Frag} {ad : Nat → Addr} {fld : Nat → Str} {X : Cx} {W : WX} {kz : Bool}
variable {F H F1 H1 : Hp} {A A1 : List Addr} {σ σ1 : L2.St} {D : Ends}
theorem SR.go {o : SOut} (g : Go F H A F1 H1 A1) (k0 : kz = true → σ1[0]? = σ[0]?) (h : SR K ad fld kz F H A σ D W o) : SR K ad fld kz F1 H1 A1 σ1 D W o := by
  cases o with
  | nx ρ' => exact fun σ' F' H' A' g' re k => h σ' F' H' A' (g.trans g') re fun z => (k z).trans (k0 z)
  | bk ρ' => exact fun σ' F' H' A' g' re k => h σ' F' H' A' (g.trans g') re fun z => (k z).trans (k0 z)
  | ct ρ' => exact fun σ' F' H' A' g' re k => h σ' F' H' A' (g.trans g') re fun z => (k z).trans (k0 z)
  | rt d ρ' => exact fun v σ' F' H' A' B g' re r k => h v σ' F' H' A' B (g.trans g') re r fun z => (k z).trans (k0 z)
  | exc c fs ρ' => exact fun dd σ' F' H' A' g' re xr k => h dd σ' F' H' A' (g.trans g') re xr fun z => (k z).trans (k0 z)
  | bad => exact h.elim
/-- an expression, then the rest -/
theorem SR.sbnd {α : Type} {o : Out α} {f : α → Env → SOut} (h : SR K ad fld kz F H A σ D W (sbnd o f)) : Res o (fun a ρ => SR K ad fld kz F H A σ D W (f a ρ)) (KX K ad fld F H A σ W) := by
  cases o with
  | ok a ρ => exact h
  | exc c fs ρ => exact fun dd F' H' A' g re xr => h dd σ F' H' A' g re xr fun _ => rfl
  | bad => exact h.elim
theorem SR.sbf {o : Out Pl.D} {f : P → Env → SOut} (h : SR K ad fld kz F H A σ D W (sbndF o f)) : Res o (fun a ρ => SR K ad fld kz F H A σ D W (f (frz a) ρ)) (KX K ad fld F H A σ W) := by
  cases o with
  | ok a ρ => exact h
  | exc c fs ρ => exact fun dd F' H' A' g re xr => h dd σ F' H' A' g re xr fun _ => rfl
  | bad => exact h.elim
theorem SR.fin {o : Option Env} (h : SR K ad fld kz F H A σ D W (sfin o)) : ∃ ρ', o = some ρ' ∧ SR K ad fld kz F H A σ D W (.nx ρ') := by
  cases o with
  | none => exact h.elim
  | some ρ' => exact ⟨ρ', rfl, h⟩
theorem one_sf {a : Expr} {m : Env → Out Pl.D} (oa : OkV K ad fld X W a m) {ρ : Env} {f : P → Env → SOut} {R : V → Hp → Prop} (w : Wf F H A) (re : RE K ad F H σ ρ A) (h : SR K ad fld kz F H A σ D W (Pl.sbndF (m ρ) f))
    (q : ∀ x ρ1, SR K ad fld kz F H A σ D W (f x ρ1) → ∀ v F1 H1 A1, Go F H A F1 H1 A1 → RE K ad F1 H1 σ ρ1 A1 → Rp K ad F1 v x → R v H1) : WV X a σ H R := by
  refine oa ρ F H σ A _ w re (h.sbf.mono (fun d ρ1 hk => ?_) fun _ _ _ hx => hx)
  intro v F1 H1 A1 B g1 re1 rp
  have g2 := g1.wf.froz
  exact q _ ρ1 hk v _ H1 A1 (g1.trans g2) (re1.mono g2.ff fun _ _ => rfl) (rp.froz g1.wf)

theorem okb_nil : OkB K ad fld kz X W [] (fun ρ => .nx ρ) := fun ρ F H σ A D w re h => wb pss_nil (h σ F H A (.refl w) re fun _ => rfl)
theorem okb_cons {st : Stmt} {rest : List Stmt} {m : Env → SOut} {n : Env → SOut} (h1 : OkS K ad fld kz X W st m) (h2 : OkB K ad fld kz X W rest n) : OkB K ad fld kz X W (st :: rest) (fun ρ => (m ρ).andThen n) := by
  intro ρ F H σ A D w re h
  refine wb (pss_cons pws pwb) ?_
  refine h1 ρ F H σ A _ w re ?_
  revert h
  show SR K ad fld kz F H A σ D W ((m ρ).andThen n) → SR K ad fld kz F H A σ { D with nx := WB X rest D } W (m ρ)
  generalize m ρ = o
  intro h
  cases o with
  | nx ρ' => exact fun σ' F' H' A' g re' k => h2 ρ' F' H' σ' A' D g.wf re' (SR.go g k h)
  | bk ρ' => exact h
  | ct ρ' => exact h
  | rt d ρ' => exact h
  | exc c fs ρ' => exact h
  | bad => exact h
/-- a slot's list is never changed from here on -/
theorem okb_frz {i : Nat} {rest : List Stmt} {n : Env → SOut} (h2 : OkB K ad fld kz X W rest n) : OkB K ad fld kz X W rest (fun ρ => (match getD ρ i with | some d => SOut.nx (ρ.set i (some (.p (frz d)))) | none => .bad).andThen n) := by
  intro ρ F H σ A D w re h
  cases e : getD ρ i with
  | none => simp only [e] at h; exact (show False from h).elim
  | some d =>
    simp only [e] at h
    obtain ⟨v, B, R, h3, h4, h5, h6, h7⟩ := re.get (getD_ok e)
    have w' : Wf F H (R ++ B) := w.perm (h5.trans List.perm_append_comm)
    have g := w'.froz
    obtain ⟨A', pA, rA⟩ := h7 (F' := froz F H B) (H' := H) (.p (h4.froz w')) g.ff (fun _ _ => rfl)
    rw [set_id h3] at rA
    have g' : Go F H A (froz F H B) H A' := (g.permL (List.perm_append_comm.trans h5.symm)).permR pA.symm
    exact h2 _ _ H σ A' D g'.wf rA (SR.go g' (fun _ => rfl) h)

/-- all slots but the first -/
def own0 : List Nat := (List.range 256).drop 1
theorem own0_no : 0 ∉ own0 := by decide
theorem keep0 {σ σ' : L2.St} (h : wipe σ' own0 = wipe σ own0) : σ'[0]? = σ[0]? := by
  rw [← wipe_out (σ := σ') own0_no, h, wipe_out own0_no]
theorem set0 {i : Nat} {x : Option V} (h : own0.contains i = true) : (σ.set i x)[0]? = σ[0]? := keep0 (wipe_set h)
theorem go_put {ρ : Env} {B : List Addr} (w : Wf F H (A ++ B)) (re : RE K ad F H σ ρ A) (i : Nat) {v : V} {d : Pl.D} (r : Rep K ad F H v d B) : ∃ A', Go F H (A ++ B) F H A' ∧ RE K ad F H (σ.set i (some v)) (ρ.set i (some d)) A' := by
  obtain ⟨A', h1, A0, h2, h3⟩ := re.put i r
  refine ⟨A', ?_, h1⟩
  rcases h3 with p | p
  · exact ((Go.refl w).drop (List.Sublist.append h2 (List.Sublist.refl _))).permR p.symm
  · rw [p]; exact (Go.refl w).drop (h2.trans (List.sublist_append_left _ _))
def notComp : Expr → Bool
  | .ListComp _ _ _ _ => false
  | .SetComp _ _ _ _ => false
  | .DictComp _ _ _ _ _ => false
  | _ => true
theorem no_swap {e : Expr} {t : Option Expr} {l : Nat} {env : PySem.Env} (h : notComp e = true) : swapsWith e t l env = pure false := by
  cases e <;> first | (cases h; done) | rfl
theorem ok_asg {pt : Pat} {tg e : Expr} {pos : Pos} {m : Env → Out Pl.D} (hK : X.K = K) (hc : X.calm = true) (hp : PatOk X pt tg) (hk : kz = true → pt.within own0 = true) (hs : swapsWithSole [tg] e pos.line X.env = pure false) (hw : swappedStores [tg] e X.env = pure none) (oe : OkV K ad fld X W e m) :
    OkS K ad fld kz X W (.Assign [tg] e pos) (fun ρ => sbnd (m ρ) fun d ρ1 => sfin (asgD pt d ρ1)) := by
  intro ρ F H σ A D w re h
  have ha : (assignEach [tg] X.env).map (·.2) = [assign tg X.env] := by rw [hp.noStar]; rfl
  refine ws (ps_asg pw (hp.run hK hc) hs hw ha) ?_
  refine oe ρ F H σ A _ w re (h.sbnd.mono (fun d ρ1 hh => ?_) fun _ _ _ z => z)
  intro v F1 H1 A1 B g re1 r
  obtain ⟨ρ', e1, k⟩ := SR.fin hh
  cases pt with
  | v i =>
    cases e1
    obtain ⟨A', g', re'⟩ := go_put g.wf re1 i r
    exact k _ F1 H1 A' (g.trans g') re' fun z => set0 (hk z)
  | t ps =>
    have gz := g.wf.froz
    refine tgOf (.t ps) (frz d) ρ1 ρ' v _ H1 σ A1 _ gz.wf (re1.mono gz.ff fun _ _ => rfl) (r.froz g.wf) e1 fun σ' A' g' re' hwp => ?_
    exact k σ' _ H1 A' ((g.trans gz).trans g') re' fun z => keep0 (hwp own0 (hk z))
/-- x = [.. for ..] -/
theorem ok_asgL {i : Nat} {y : Str} {py : Pos} {elt tg it : Expr} {ifs : List Expr} {scope : Scope} {own : List (Str × Nat)} {pos spos : Pos} {pt : Pat} {dit de : Den} {cs : List Den} (hK : X.K = K) (hc : X.calm = true) (hN : X.N.Nodup) (hy : X.N[i]? = some y) (hyl : X.env.scope.names.lookup y = some .local)
    (hsw : swapsWith (.ListComp elt [⟨tg, it, ifs, 0⟩] scope pos) (some (.Name y py)) spos.line X.env = pure true) (ok : BlkOk X.N X.env.scope scope own) (hf : hd it = true) (hk : kz = true → own0.contains i = true) (L : LcOk K ad fld X W elt tg it ifs scope pt dit cs de) :
    OkS K ad fld kz X W (.Assign [.Name y py] (.ListComp elt [⟨tg, it, ifs, 0⟩] scope pos) spos) (fun ρ => sbnd ((dComp pt (own.map (·.2)) dit cs de).v ρ) fun d ρ1 => .nx (ρ1.set i (some d))) := by
  obtain ⟨wi, tt, p1, p2, p3⟩ := lc_run (own := own.map (·.2)) L
  intro ρ F H σ A D w re h
  refine ws (ps_setLc hc hN hy hyl hsw p1 ok L.g p2 pe_tE (hd_fold hf)) ?_
  refine p3 ρ F H σ A _ w re (h.sbnd.mono (fun d ρ1 hh => ?_) fun _ _ _ z => z)
  intro v F1 H1 A1 B g re1 r
  obtain ⟨A', g', re'⟩ := go_put g.wf re1 i r
  exact hh _ F1 H1 A' (g.trans g') re' fun z => set0 (hk z)
/-- the comprehension as a value -/
theorem ok_comp {elt tg it : Expr} {ifs : List Expr} {scope : Scope} {own : List (Str × Nat)} {pos : Pos} {pt : Pat} {dit de : Den} {cs : List Den} (hc : X.calm = true) (hN : X.N.Nodup) (ok : BlkOk X.N X.env.scope scope own) (hf : hd it = true) (L : LcOk K ad fld X W elt tg it ifs scope pt dit cs de) :
    OkD K ad fld X W (.ListComp elt [⟨tg, it, ifs, 0⟩] scope pos) (dComp pt (own.map (·.2)) dit cs de) := by
  obtain ⟨wi, tt, p1, p2, p3⟩ := lc_run (own := own.map (·.2)) L
  refine OkV.den (fun ρ F H σ A Q w re h => wv (pe_lc hc hN p1 ok L.g p2 pe_tE (hd_fold hf)) ?_) rfl
  exact p3 ρ F H σ A Q w re h
theorem ok_par {i j : Nat} {x y : Str} {a b : Expr} {px py pt pos : Pos} {kt k2 : Nat} {pt2 : Pos} {ds : List Den} (hc : X.calm = true) (hN : X.N.Nodup) (hi : X.N[i]? = some x) (hj : X.N[j]? = some y) (hij : i ≠ j) (hx : X.env.scope.names.lookup x = some .local) (hy : X.env.scope.names.lookup y = some .local)
    (hs : swappedStores [.Tuple [.Name x px, .Name y py] kt pt] (.Tuple [a, b] k2 pt2) X.env = pure (some [x, y])) (hk : kz = true → own0.contains i = true ∧ own0.contains j = true) (h : OkDs K ad fld X W [a, b] ds) :
    OkS K ad fld kz X W (.Assign [.Tuple [.Name x px, .Name y py] kt pt] (.Tuple [a, b] k2 pt2) pos) (fun ρ => sbnd (seqV ds ρ) fun ds ρ1 => sfin (parD [i, j] ds ρ1)) := by
  intro ρ F H σ A D w re r
  refine ws (ps_par hc hN hi hj hij hx hy pwa hs rfl) ?_
  refine seqV_ok h w re (r.sbnd) fun xs ρ1 hh vs F1 H1 A1 B g re1 rl => ?_
  obtain ⟨ρ', e1, k⟩ := SR.fin hh
  cases rl with
  | nil => cases e1
  | @cons v1 d1 vs ds' B1 B' r1 rl =>
    cases rl with
    | nil => cases e1
    | @cons v2 d2 vs ds' B2 B'' r2 rl =>
      cases rl with
      | cons => cases e1
      | nil =>
        cases e1
        rw [List.append_nil] at g
        have g0 : Go F H A F1 H1 ((A1 ++ B1) ++ B2) := by rw [List.append_assoc]; exact g
        obtain ⟨A2, ga, ra⟩ := go_put g0.wf.left re1 i r1
        have gb := ga.frame g0.wf
        obtain ⟨A3, gc, rc⟩ := go_put gb.wf ra j (ga.rep g0.wf r2)
        refine ⟨v1, v2, rfl, k _ F1 H1 A3 (g0.trans (gb.trans gc)) rc fun z => ?_⟩
        rw [set0 (hk z).2, set0 (hk z).1]
theorem ok_aug {i : Nat} {x : Str} {e : Expr} {op : Operator} {pos pos' : Pos} {m : Env → Out Pl.D} (ho : op = .Add ∨ op = .Sub) (hN : X.N.Nodup) (hx : X.N[i]? = some x) (hl : L2.Loc X.env.scope x) (hfn : X.fn x = true ∨ X.env.scope.names.lookup x = some .local) (hk : kz = true → own0.contains i = true) (oe : OkV K ad fld X W e m) :
    OkS K ad fld kz X W (.AugAssign (.Name x pos') op e pos) (fun ρ => match getP ρ i with
      | some (.int a) => Pl.sbndF (m ρ) fun y ρ1 => match augOp op a y with
        | some z => .nx (ρ1.set i (some (.p (.int z))))
        | none => .bad
      | _ => .bad) := by
  intro ρ F H σ A D w re h
  cases e1 : getP ρ i with
  | none => simp only [e1] at h; exact (show False from h).elim
  | some y =>
    simp only [e1] at h
    cases y with
    | int a =>
      obtain ⟨v, B, R, h3, h4, _⟩ := re.get (getP_ok e1)
      cases h4 with
      | p rv =>
        cases rv
        have fin : ∀ (x : P) (ρ1 : Env) (v1 : V) (F1 H1 : Hp) (A1 : List Addr) (f : Int → Int → Int), (∀ b, augOp op a (.int b) = some (f a b)) → (∀ x, (∀ b, x ≠ .int b) → augOp op a x = none) → SR K ad fld kz F H A σ D W (match augOp op a x with | some z => SOut.nx (ρ1.set i (some (.p (.int z)))) | none => .bad) → Go F H A F1 H1 A1 → RE K ad F1 H1 σ ρ1 A1 → Rp K ad F1 v1 x → ipI f (.int a) v1 H1 fun z H2 => D.nx (σ.set i (some z)) H2 := by
          intro x ρ1 v1 F1 H1 A1 f f1 f2 h1 g re1 r
          by_cases hb : ∃ b, x = .int b
          · obtain ⟨b, rfl⟩ := hb
            rw [f1 b] at h1
            cases r
            obtain ⟨A', g', re'⟩ := re1.putP g.wf i (.int (f a b))
            exact ⟨a, b, rfl, rfl, h1 _ F1 H1 A' (g.trans g') re' fun z => set0 (hk z)⟩
          · rw [f2 x fun b z => hb ⟨b, z⟩] at h1
            exact (show False from h1).elim
        have nn : ∀ x : P, (∀ b, x ≠ .int b) → augOp .Add a x = none ∧ augOp .Sub a x = none := by
          intro x hx
          cases x <;> first | exact ⟨rfl, rfl⟩ | exact absurd rfl (hx _)
        rcases ho with ho | ho
        · subst ho
          refine ws (ps_aug hN hx hl pw ip_add hfn) ⟨_, h3, ?_⟩
          refine one_sf oe w re h fun x ρ1 h1 v1 F1 H1 A1 g re1 r => fin x ρ1 v1 F1 H1 A1 (· + ·) (fun _ => rfl) (fun x hx => (nn x hx).1) h1 g re1 r
        · subst ho
          refine ws (ps_aug hN hx hl pw ip_sub hfn) ⟨_, h3, ?_⟩
          refine one_sf oe w re h fun x ρ1 h1 v1 F1 H1 A1 g re1 r => fin x ρ1 v1 F1 H1 A1 (· - ·) (fun _ => rfl) (fun x hx => (nn x hx).2) h1 g re1 r
    | _ => exact (show False from h).elim
theorem ok_par3 {i j l : Nat} {x y z : Str} {a b c : Expr} {px py pz pt pos : Pos} {kt k2 : Nat} {pt2 : Pos} {ds : List Den} (hc : X.calm = true) (hN : X.N.Nodup) (hi : X.N[i]? = some x) (hj : X.N[j]? = some y) (hl : X.N[l]? = some z) (hij : i ≠ j) (hil : i ≠ l) (hjl : j ≠ l) (hx : X.env.scope.names.lookup x = some .local) (hy : X.env.scope.names.lookup y = some .local) (hz : X.env.scope.names.lookup z = some .local)
    (hs : swappedStores [.Tuple [.Name x px, .Name y py, .Name z pz] kt pt] (.Tuple [a, b, c] k2 pt2) X.env = pure (some [x, y, z])) (hk : kz = true → own0.contains i = true ∧ own0.contains j = true ∧ own0.contains l = true) (h : OkDs K ad fld X W [a, b, c] ds) :
    OkS K ad fld kz X W (.Assign [.Tuple [.Name x px, .Name y py, .Name z pz] kt pt] (.Tuple [a, b, c] k2 pt2) pos) (fun ρ => sbnd (seqV ds ρ) fun ds ρ1 => sfin (parD [i, j, l] ds ρ1)) := by
  intro ρ F H σ A D w re r
  refine ws (ps_par3 hc hN hi hj hl hij hil hjl hx hy hz pwa hs) ?_
  refine seqV_ok h w re (r.sbnd) fun xs ρ1 hh vs F1 H1 A1 B g re1 rl => ?_
  obtain ⟨ρ', e1, k⟩ := SR.fin hh
  cases rl with
  | nil => cases e1
  | @cons v1 d1 vs ds' B1 Bp r1 rl =>
    cases rl with
    | nil => cases e1
    | @cons v2 d2 vs ds' B2 Bq r2 rl =>
      cases rl with
      | nil => cases e1
      | @cons v3 d3 vs ds' B3 Br r3 rl =>
        cases rl with
        | cons => cases e1
        | nil =>
          cases e1
          rw [List.append_nil] at g
          have g0 : Go F H A F1 H1 (((A1 ++ B1) ++ B2) ++ B3) := by rw [List.append_assoc, List.append_assoc]; exact g
          obtain ⟨A2, ga, ra⟩ := go_put g0.wf.left.left re1 i r1
          have ga2 := ga.frame g0.wf.left
          have ga3 := ga2.frame g0.wf
          obtain ⟨A3, gc, rc⟩ := go_put ga2.wf ra j (ga.rep g0.wf.left r2)
          have gc3 := gc.frame ga3.wf
          obtain ⟨A4, gd, rd⟩ := go_put gc3.wf rc l (gc.rep ga3.wf (ga2.rep g0.wf r3))
          refine ⟨v1, v2, v3, rfl, k _ F1 H1 A4 (g0.trans (ga3.trans (gc3.trans gd))) rd fun q => ?_⟩
          rw [set0 (hk q).2.2, set0 (hk q).2.1, set0 (hk q).1]
theorem ok_expr {e : Expr} {pos : Pos} {m : Env → Out Pl.D} (hn : notComp e = true) (oe : OkV K ad fld X W e m) : OkS K ad fld kz X W (.Expr e pos) (fun ρ => sbnd (m ρ) fun _ ρ1 => .nx ρ1) := by
  intro ρ F H σ A D w re h
  refine ws (ps_expr pw (no_swap hn)) ?_
  refine oe ρ F H σ A _ w re (h.sbnd.mono (fun d ρ1 hh => ?_) fun _ _ _ z => z)
  intro v F1 H1 A1 B g re1 r
  exact hh σ F1 H1 A1 g.dropR re1 fun _ => rfl
theorem ok_pass {pos : Pos} : OkS K ad fld kz X W (.Pass pos) (fun ρ => .nx ρ) := fun ρ F H σ A D w re h => ws ps_pass (h σ F H A (.refl w) re fun _ => rfl)
theorem ok_brk {pos : Pos} : OkS K ad fld kz X W (.Break pos) (fun ρ => .bk ρ) := fun ρ F H σ A D w re h => ws ps_break (h σ F H A (.refl w) re fun _ => rfl)
theorem ok_cont {pos : Pos} : OkS K ad fld kz X W (.Continue pos) (fun ρ => .ct ρ) := fun ρ F H σ A D w re h => ws ps_continue (h σ F H A (.refl w) re fun _ => rfl)
theorem ok_ret {e : Expr} {pos : Pos} {m : Env → Out Pl.D} (oe : OkV K ad fld X W e m) : OkS K ad fld kz X W (.Return (some e) pos) (fun ρ => sbnd (m ρ) fun d ρ1 => .rt d ρ1) := by
  intro ρ F H σ A D w re h
  refine ws (ps_ret pw) ?_
  refine oe ρ F H σ A _ w re (h.sbnd.mono (fun d ρ1 hh => ?_) fun _ _ _ z => z)
  intro v F1 H1 A1 B g re1 r
  exact hh v σ F1 H1 A1 B g re1 r fun _ => rfl
theorem ok_retV {e : Expr} {i : Nat} {pos : Pos} (pe : PE X e (tVar i)) : OkS K ad fld kz X W (.Return (some e) pos) (fun ρ => match getD ρ i with | some d => .rt d (ρ.set i none) | none => .bad) := by
  intro ρ F H σ A D w re h
  cases e : getD ρ i with
  | none => simp only [e] at h; exact (show False from h).elim
  | some d =>
    simp only [e] at h
    obtain ⟨v, B, R, h3, h4, h5, h6, _⟩ := re.get (getD_ok e)
    have r0 := h6 (some v)
    rw [set_id h3] at r0
    exact ws (ps_ret pe) ⟨v, h3, h v σ F H R B ((Go.refl w).permR (h5.trans List.perm_append_comm)) r0 h4 fun _ => rfl⟩
theorem ok_ifS {c : Expr} {dc : Den} {a b : List Stmt} {ma mb : Env → SOut} {pos : Pos} (oc : OkT K ad fld X W c dc.t) (oa : OkB K ad fld kz X W a ma) (ob : OkB K ad fld kz X W b mb) :
    OkS K ad fld kz X W (.If c a b pos) (fun ρ => sbnd (dc.t ρ) fun t ρ1 => match t with | true => ma ρ1 | false => mb ρ1) := by
  intro ρ F H σ A D w re h
  refine ws (ps_if pwt pwb pwb) ?_
  refine oc ρ F H σ A _ w re (h.sbnd.mono (fun t ρ1 hh => ?_) fun _ _ _ z => z)
  intro F1 H1 A1 g re1
  cases t with
  | true => exact iteT (oa ρ1 F1 H1 σ A1 D g.wf re1 (SR.go g (fun _ => rfl) hh))
  | false => exact iteF (ob ρ1 F1 H1 σ A1 D g.wf re1 (SR.go g (fun _ => rfl) hh))
end
end Pl

set_option Elab.async false
set_option linter.all false
set_option autoImplicit false
set_option maxRecDepth 100000
set_option maxHeartbeats 4000000
namespace Pl
open PySem PySem.Spec PyProof.Rows L2
section
variable {K : PySem.W.Frag} {ad : Nat → Addr} {fld : Nat → Str} {X : Cx} {W : WX} {kz : Bool}
variable {F H F1 H1 : Hp} {A A1 : List Addr} {σ σ1 : L2.St} {D : Ends}

def Fv (K : PySem.W.Frag) (ad : Nat → Addr) (fld : Nat → Str) (kz : Bool) (pt : Pat) (body : Env → SOut) (xs : List P) (F1 H1 : Hp) (A1 : List Addr) (σ0 : L2.St) (D : Ends) (W : WX) (i : Nat) (σ : L2.St) (H : Hp) : Prop :=
  ∃ F' A' ρ', Go F1 H1 A1 F' H A' ∧ RE K ad F' H σ ρ' A' ∧ (kz = true → σ[0]? = σ0[0]?) ∧ SR K ad fld kz F' H A' σ D W (forGo pt body (xs.drop i) ρ')
theorem fv_next {pt : Pat} {body : Env → SOut} {xs : List P} {i : Nat} {F' H' : Hp} {A' : List Addr} {σ' σ0 : L2.St} {ρ' : Env} (g : Go F1 H1 A1 F' H' A') (re : RE K ad F' H' σ' ρ' A') (k : kz = true → σ'[0]? = σ0[0]?) (h : SR K ad fld kz F' H' A' σ' D W (forGo pt body (xs.drop i) ρ')) :
    Fv K ad fld kz pt body xs F1 H1 A1 σ0 D W i σ' H' := ⟨F', A', ρ', g, re, k, h⟩
theorem ok_for {pt : Pat} {tg it : Expr} {body : List Stmt} {mb : Env → SOut} {mi : Env → Out (List P)} {pos : Pos} (hK : X.K = K) (hc : X.calm = true) (hpo : PassesOwn (model X.prog X.w) X.A X.env X.xe) (hp : PatOk X pt tg) (hk : kz = true → pt.within own0 = true) (hf : hd it = true) (oi : OkI K ad fld X W tg it mi) (ob : OkB K ad fld kz X W body mb) :
    OkS K ad fld kz X W (.For tg it body [] pos) (fun ρ => sbnd (mi ρ) fun xs ρ1 => forGo pt mb xs ρ1) := by
  obtain ⟨wi, pi, hi⟩ := oi
  intro ρ F H σ A D w re h
  refine ws (ps_for hpo hc pi (hp.run hK hc) pwb (hd_fold hf)) ?_
  refine hi ρ F H σ A _ w re (h.sbnd.mono (fun xs ρ1 hx => ?_) fun _ _ _ z => z)
  intro J F1 H1 A1 g1 re1 wk
  refine for_it wk (Fv K ad fld kz pt mb xs F1 H1 A1 σ D W) ?_ ?_ ?_ ?_
  · exact fv_next (.refl g1.wf) re1 (fun _ => rfl) (by rw [List.drop_zero]; exact SR.go g1 (fun _ => rfl) hx)
  · intro i σ' H' _ ⟨F', A', ρ', g, _⟩
    exact g.ff.trans g.wf.sub
  · rintro i x σ2 H2 H3 hin ⟨F', A', ρ', g, re', k0, hs⟩ hy
    obtain ⟨F2, y, gy, ey, ry, keep⟩ := hy.go g.ff g.wf
    rw [drop_cons ey] at hs
    unfold forGo at hs
    cases eb : bindPat pt y ρ' with
    | none => simp only [eb] at hs; exact (show False from hs).elim
    | some ρb =>
      simp only [eb] at hs
      refine tgOf pt y ρ' ρb x F2 H3 σ2 A' _ gy.wf (re'.mono gy.ff keep) ry eb fun σ3 A3 gb reb hwp => ?_
      have k3 : kz = true → σ3[0]? = σ2[0]? := fun z => keep0 (hwp own0 (hk z))
      have g3 : Go F1 H1 A1 F2 H3 A3 := (g.trans gy).trans gb
      refine ob ρb F2 H3 σ3 A3 _ gb.wf reb ?_
      have hs2 := SR.go (gy.trans gb) k3 hs
      revert hs2
      generalize mb ρb = o
      intro hs2
      cases o with
      | nx ρ4 => exact fun σ4 F4 H4 A4 g4 re4 k4 => fv_next (g3.trans g4) re4 (fun z => (k4 z).trans ((k3 z).trans (k0 z))) (SR.go g4 k4 hs2)
      | ct ρ4 => exact fun σ4 F4 H4 A4 g4 re4 k4 => fv_next (g3.trans g4) re4 (fun z => (k4 z).trans ((k3 z).trans (k0 z))) (SR.go g4 k4 hs2)
      | bk ρ4 => exact hs2
      | rt d ρ4 => exact hs2
      | exc c fs ρ4 => exact hs2
      | bad => exact hs2
  · rintro σ2 H2 ⟨F', A', ρ', g, re', k0, hs⟩
    rw [List.drop_length] at hs
    exact hs σ2 F' H2 A' (.refl g.wf) re' fun _ => rfl

theorem ok_while {c : Expr} {dc : Den} {body : List Stmt} {mb : Env → SOut} {pos : Pos} {n : Nat} (hpo : PassesOwn (model X.prog X.w) X.A X.env X.xe) (oc : OkT K ad fld X W c dc.t) (ob : OkB K ad fld kz X W body mb) :
    OkS K ad fld kz X W (.While c body [] pos) (fun ρ => whileGo dc.t mb n ρ) := by
  intro ρ F H σ A D w re h
  refine ws (ps_while hpo pwt pwb) ?_
  refine ⟨fun m σ' H' => ∃ F' A' ρ', Go F H A F' H' A' ∧ RE K ad F' H' σ' ρ' A' ∧ (kz = true → σ'[0]? = σ[0]?) ∧ SR K ad fld kz F' H' A' σ' D W (whileGo dc.t mb m ρ'), ⟨n, F, A, ρ, .refl w, re, fun _ => rfl, h⟩, ?_⟩
  rintro m σ' H' ⟨F', A', ρ', g, re', k0, hs⟩
  cases m with
  | zero => exact (show False from hs).elim
  | succ m =>
    unfold whileGo at hs
    refine oc ρ' F' H' σ' A' _ g.wf re' (hs.sbnd.mono (fun t ρ1 hh => ?_) fun _ _ _ z => z)
    intro F1 H1 A1 g1 re1
    cases t with
    | false => exact iteF (hh σ' F1 H1 A1 g1 re1 fun _ => rfl)
    | true =>
      refine iteT ⟨fun σ2 H2 => ∃ F' A' ρ', Go F H A F' H2 A' ∧ RE K ad F' H2 σ2 ρ' A' ∧ (kz = true → σ2[0]? = σ[0]?) ∧ SR K ad fld kz F' H2 A' σ2 D W (whileGo dc.t mb m ρ'), fun σ2 H2 z => ⟨m, Nat.lt_succ_self m, z⟩, ?_⟩
      refine ob ρ1 F1 H1 σ' A1 _ g1.wf re1 ?_
      have hs2 := SR.go g1 (fun _ => rfl) hh
      revert hs2
      dsimp only
      generalize mb ρ1 = o
      intro hs2
      cases o with
      | nx ρ4 => exact fun σ4 F4 H4 A4 g4 re4 k4 => ⟨F4, A4, ρ4, (g.trans g1).trans g4, re4, fun z => (k4 z).trans (k0 z), SR.go g4 k4 hs2⟩
      | ct ρ4 => exact fun σ4 F4 H4 A4 g4 re4 k4 => ⟨F4, A4, ρ4, (g.trans g1).trans g4, re4, fun z => (k4 z).trans (k0 z), SR.go g4 k4 hs2⟩
      | bk ρ4 => exact hs2
      | rt d ρ4 => exact hs2
      | exc c fs ρ4 => exact hs2
      | bad => exact hs2

theorem repl_set : ∀ {vs : List V} {ds : List Pl.D} {B C : List Addr} {j : Nat} {v : V} {d : Pl.D}, RepL K ad F H vs ds B → j < ds.length → Rep K ad F H v d C → ∃ B' B0, B0.Sublist B ∧ B'.Perm (B0 ++ C) ∧ RepL K ad F H (vs.set j v) (ds.set j d) B'
  | _, _, _, _, _, _, _, .nil, h, _ => by simp at h
  | _, _, _, C, 0, v, d, .cons (A := A0) (B := B0) r k, _, rv => ⟨C ++ B0, B0, List.sublist_append_right _ _, List.perm_append_comm, .cons rv k⟩
  | _, _, _, C, j + 1, v, d, .cons (A := A0) (B := B0) r k, h, rv => by
    obtain ⟨B', B1, h1, h2, h3⟩ := repl_set (j := j) k (by simpa using h) rv
    refine ⟨A0 ++ B', A0 ++ B1, List.Sublist.append (List.Sublist.refl _) h1, ?_, .cons r h3⟩
    rw [List.append_assoc]
    exact List.Perm.append_left A0 h2
theorem ixN_lt {n : Nat} {i : Int} {j : Nat} (h : ixN n i = some j) : j < n := by
  unfold ixN at h
  split at h
  · split at h
    · cases h; omega
    · cases h
  · split at h
    · cases h; omega
    · cases h
/-- a slot's list takes another item list; C comes in -/
theorem store {ρ : Env} {s : Nat} {ds ds' : List Pl.D} {v : V} {a : Addr} {vs vs' : List V} {B R C B' B0 : List Addr} (w : Wf F H (A ++ C)) (hA : A.Perm ((a :: B) ++ R))
    (h7 : ∀ {F' H' : Hp} {v' : V} {d' : Pl.D} {B' : List Addr}, Rep K ad F' H' v' d' B' → Ex' F F' → (∀ a ∈ R, H' a = H a) → ∃ A', A'.Perm (B' ++ R) ∧ RE K ad F' H' (σ.set s (some v')) (ρ.set s (some d')) A') (hσ : σ.set s (some (.ref a)) = σ)
    (hs : B0.Sublist B) (hp : B'.Perm (B0 ++ C)) (rl : RepL K ad F H vs' ds' B') : ∃ A', Go F H (A ++ C) F (upd H a (.lst vs')) A' ∧ RE K ad F (upd H a (.lst vs')) σ (ρ.set s (some (.l ds'))) A' := by
  have w2 : Wf F H (((a :: B) ++ R) ++ C) := w.perm (List.Perm.append_right C hA)
  have ha : a ∈ ((a :: B) ++ R) ++ C := List.mem_append.mpr (.inl (List.mem_append.mpr (.inl List.mem_cons_self)))
  have g := w2.put (o := .lst vs') ha
  have nd := w2.nd
  have ne : ∀ x ∈ (B ++ R) ++ C, x ≠ a := by
    intro x hx z
    subst z
    have : (x :: ((B ++ R) ++ C)).Nodup := by simpa [List.cons_append] using nd
    exact (List.nodup_cons.mp this).1 hx
  have inB' : ∀ x ∈ B', x ∈ (B ++ R) ++ C := fun x hx => by
    rcases List.mem_append.mp (hp.mem_iff.mp hx) with q | q
    · exact List.mem_append.mpr (.inl (List.mem_append.mpr (.inl (hs.subset q))))
    · exact List.mem_append.mpr (.inr q)
  have rl' : RepL K ad F (upd H a (.lst vs')) vs' ds' B' := rl.mono (.refl _) fun x hx => upd_ne (ne x (inB' x hx))
  obtain ⟨A', pA, rA⟩ := h7 (F' := F) (H' := upd H a (.lst vs')) (.l upd_same rl') (.refl _) fun x hx => upd_ne (ne x (List.mem_append.mpr (.inl (List.mem_append.mpr (.inr hx)))))
  rw [hσ] at rA
  refine ⟨A', ((g.permL (List.Perm.append_right C hA.symm)).drop (A2 := (a :: B0 ++ R) ++ C) ?_).permR ?_, rA⟩
  · exact List.Sublist.append (List.Sublist.append (List.Sublist.cons_cons _ hs) (List.Sublist.refl _)) (List.Sublist.refl _)
  · refine List.Perm.trans ?_ pA.symm
    show ((a :: B0 ++ R) ++ C).Perm ((a :: B') ++ R)
    refine List.Perm.cons a ?_
    refine List.Perm.trans ?_ (List.Perm.append_right R hp.symm)
    show ((B0 ++ R) ++ C).Perm ((B0 ++ C) ++ R)
    rw [List.append_assoc, List.append_assoc]
    exact List.Perm.append_left B0 List.perm_append_comm
theorem ok_set {s : Nat} {o i e : Expr} {di : Den} {m : Env → Out Pl.D} {pos pos' : Pos} (po : PE X o (tVar s)) (hn : notComp e = true) (hi : hd i = true) (oi : OkV K ad fld X W i di.v) (oe : OkV K ad fld X W e m) :
    OkS K ad fld kz X W (.Assign [.Subscript o i pos'] e pos) (fun ρ => sbnd (m ρ) fun d ρ1 => match getD ρ1 s with
      | some _ => Pl.sbndF (di.v ρ1) fun k ρ2 => match k, getD ρ2 s with
        | .int k, some (.l ds) => sfin ((setL ds k d).map fun ds' => ρ2.set s (some (.l ds')))
        | _, _ => .bad
      | none => .bad) := by
  intro ρ F H σ A D w re h
  have hw : swappedStores [.Subscript o i pos'] e X.env = pure none := by cases e <;> rfl
  have ha : ∀ v : Value, assign (.Subscript o i pos') X.env v = (do let ov ← holding [v] (eval o X.env); let iv ← holding [v, ov] (eval i X.env); standAt pos'; holding [v, ov, iv] (setItem ov iv v); release [v, ov, iv] []) := by
    intro v
    cases i <;> first | (cases hi; done) | rfl
  have hsw : swapsWithSole [.Subscript o i pos'] e pos.line X.env = pure false := by
    show swapsWith e (some (.Subscript o i pos')) pos.line X.env = pure false
    exact no_swap hn
  refine ws (ps_asg pw (pg_sub po pw set_list ha) hsw hw rfl) ?_
  refine oe ρ F H σ A _ w re (h.sbnd.mono (fun d ρ1 hh => ?_) fun _ _ _ z => z)
  intro v F1 H1 A1 B g re1 r
  cases e1 : getD ρ1 s with
  | none => simp only [e1] at hh; exact (show False from hh).elim
  | some d0 =>
    simp only [e1] at hh
    obtain ⟨v0, B0, R0, h3, _⟩ := re1.get (getD_ok e1)
    refine ⟨v0, h3, ?_⟩
    have hres := hh.sbf
    refine oi ρ1 F1 H1 σ A1 _ g.wf.left re1 (hres.mono (fun kd ρ2 hk => ?_) fun _ _ _ z => KX.goT g z)
    intro u F2 H2 A2 B2 g2 re2 ru
    have gz : Go F1 H1 A1 (froz F2 H2 B2) H2 A2 := g2.trans g2.wf.froz
    have rz := ru.froz g2.wf
    have gA : Go F H A (froz F2 H2 B2) H2 (A2 ++ B) := g.trans (gz.frame g.wf)
    have rv : Rep K ad (froz F2 H2 B2) H2 v d B := gz.rep g.wf r
    have re3 : RE K ad (froz F2 H2 B2) H2 σ ρ2 A2 := re2.mono g2.wf.froz.ff fun _ _ => rfl
    revert hk rz
    generalize frz kd = y
    intro hk rz
    cases y <;> first | exact (show False from hk).elim | skip
    rename_i k
    cases rz
    cases e2 : getD ρ2 s with
    | none => simp only [e2] at hk; exact (show False from hk).elim
    | some d2 =>
      cases d2 with
      | p x => simp only [e2] at hk; exact (show False from hk).elim
      | d ks xs => simp only [e2] at hk; exact (show False from hk).elim
      | l ds =>
        simp only [e2] at hk
        obtain ⟨ρ', e3, kk⟩ := SR.fin hk
        obtain ⟨ds', e4, rfl⟩ := Option.map_eq_some_iff.mp e3
        unfold setL at e4
        obtain ⟨j, e5, rfl⟩ := Option.map_eq_some_iff.mp e4
        obtain ⟨v2, Bs, R, h31, h4, h5, h6, h7⟩ := re3.get (getD_ok e2)
        have ev : v2 = v0 := Option.some.inj (Option.some.inj (h31.symm.trans h3))
        subst ev
        cases h4 with
        | @l a vs ds B3 ha rl =>
          obtain ⟨B', B00, q1, q2, q3⟩ := repl_set rl (ixN_lt e5) rv
          obtain ⟨A', gs, rs⟩ := store (vs := vs) (ds := ds) (v := .ref a) gA.wf h5 h7 (set_id h31) q1 q2 q3
          refine ⟨a, vs, k, j, rfl, rfl, ha, by rw [rl.len]; exact e5, kk _ _ _ A' (gA.trans gs) rs fun _ => rfl⟩
theorem ok_app {s : Nat} {o e : Expr} {m : Env → Out Pl.D} {apos cpos pos : Pos} (hK : X.K = K) (po : PE X o (tVar s)) (ho : attributeBase o "append" X.env (eval o X.env) = eval o X.env) (hl : (apos.endLine == cpos.line) = true) (he : hd e = true) (oe : OkV K ad fld X W e m) :
    OkS K ad fld kz X W (.Expr (.Call (.Attribute o "append" apos) [e] [] cpos) pos) (fun ρ => match getD ρ s with
      | some (.l _) => sbnd (m ρ) fun d ρ1 => match getD ρ1 s with
        | some (.l ds) => match decide (ds.length < 16777216) with
          | true => .nx (ρ1.set s (some (.l (ds ++ [d]))))
          | false => .bad
        | _ => .bad
      | _ => .bad) := by
  intro ρ F H σ A D w re h
  have pb := pe_bm (cpos := cpos) (apos := apos) PySem.F.plainAttrs_list PySem.F.slot_list_append PySem.F.type_list_append mt_append po (pa_cons (es := []) (pw (X := X) (e := e)) pa_nil (hd_star he)) ho (by rw [hd_star he]; rfl) hl (hd_star he) rfl
  refine ws (ps_expr pb (no_swap rfl)) ?_
  cases e0 : getD ρ s with
  | none => simp only [e0] at h; exact (show False from h).elim
  | some d0 =>
    cases d0 with
    | p x => simp only [e0] at h; exact (show False from h).elim
    | d ks xs => simp only [e0] at h; exact (show False from h).elim
    | l ds0 =>
      simp only [e0] at h
      obtain ⟨v0, B0, R0, h3, h40, _⟩ := re.get (getD_ok e0)
      cases h40 with
      | @l a vs0 _ B3 ha0 rl0 =>
        refine ⟨.ref a, h3, .inl ⟨rfl, vs0, .inl (.inl ha0)⟩, ?_⟩
        refine oe ρ F H σ A _ w re (h.sbnd.mono (fun d ρ1 hh => ?_) fun _ _ _ z => z)
        intro v F1 H1 A1 B g re1 r
        cases e2 : getD ρ1 s with
        | none => simp only [e2] at hh; exact (show False from hh).elim
        | some d2 =>
          cases d2 with
          | p x => simp only [e2] at hh; exact (show False from hh).elim
          | d ks xs => simp only [e2] at hh; exact (show False from hh).elim
          | l ds =>
            simp only [e2] at hh
            cases e5 : decide (ds.length < 16777216) with
            | false => simp only [e5] at hh; exact (show False from hh).elim
            | true =>
              simp only [e5] at hh
              obtain ⟨v2, Bs, R, h31, h4, h5, h6, h7⟩ := re1.get (getD_ok e2)
              have ev : v2 = .ref a := Option.some.inj (Option.some.inj (h31.symm.trans h3))
              subst ev
              cases h4 with
              | @l _ vs ds B3 ha rl =>
                have rl1 : RepL K ad F1 H1 (vs ++ [v]) (ds ++ [d]) (B3 ++ B) := by
                  have := rep_app rl (RepL.cons r (RepL.nil (K := K) (ad := ad)))
                  rw [List.append_nil] at this
                  exact this
                obtain ⟨A', gs, rs⟩ := store (vs := vs) (ds := ds) (v := .ref a) (B0 := B3) g.wf h5 h7 (set_id h31) (List.Sublist.refl _) (List.Perm.refl _) rl1
                exact ⟨a, vs, v, rfl, rfl, ha, by rw [rl.len, sizeLine_eq]; exact of_decide_eq_true e5, hh _ _ _ A' (g.trans gs) rs fun _ => rfl⟩

theorem ok_raise {c : Nat} {x m : Str} {j : Nat} {p p2 pos pos' : Pos} (hc : X.calm = true) (tk : Takes X W) (q : PySem.W.excIn X.K (ad c) [.type "ValueError", .type "Exception", .type "BaseException", .type "object"] "ValueError.__new__" = true) (gC : X.mg x = some (.ref (ad c))) (kC : PySem.W.keepIn X.K (.ref (ad c)) = true)
    (bC : PySem.W.subIn X.K (.ref (ad c)) (.type "BaseException") = some true) (tC : PySem.W.typeIn X.K (.ref (ad c)) = some (.type "type")) (hg : Gl X x) (hd : (x == ("__debug__" : Str)) = false) :
    OkS K ad fld kz X W (.Raise (some (.Call (.Name x p) [.Constant (.str m) j p2] [] pos)) none pos') (fun ρ => .exc c [] ρ) := by
  intro ρ F H σ A D w re h
  refine ws (ps_raise hc tk (pmk_own PySem.F.excBase_ValueError q gC kC (raises_own bC tC) hg hd)) ?_
  exact h none σ F H A (.refl w) re (.inl ⟨rfl, rfl⟩) fun _ => rfl
end
end Pl

set_option Elab.async false
set_option linter.all false
set_option autoImplicit false
set_option maxRecDepth 100000
set_option maxHeartbeats 4000000
namespace Pl
open PySem PySem.Spec PyProof.Rows L2
section
variable {K : PySem.W.Frag} {ad : Nat → Addr} {fld : Nat → Str} {kz : Bool} {X : Cx} {W : WX} {F H F1 H1 : Hp} {A A1 : List Addr} {σ : L2.St} {D : Ends}
theorem ok_opq {st : Stmt} : OkS K ad fld kz X W st (fun _ => .bad) := fun ρ F H σ A D w re h => (show False from h).elim
/-- a new error object -/
theorem ok_mkx {c nc : Nat} {x : Str} {e : Expr} {de : Den} {p pos : Pos} (q : PySem.W.excIn X.K (ad c) [.type "ValueError", .type "Exception", .type "BaseException", .type "object"] "ValueError.__new__" = true) (gC : X.mg x = some (.ref (ad c))) (kC : PySem.W.keepIn X.K (.ref (ad c)) = true) (hg : Gl X x) (hdb : (x == ("__debug__" : Str)) = false) (he : hd e = true)
    (oe : OkV K ad fld X W e de.v) : OkD K ad fld X W (.Call (.Name x p) [e] [] pos) (dMkx c de) := by
  refine OkV.den (fun ρ F H σ A Q w re r => wv (pe_exc1 PySem.F.excBase_ValueError q gC kC hg pw (hd_star he) hdb) ?_) rfl
  refine one_frz oe w re r fun y ρ1 h1 v F1 H1 A1 g1 re1 r1 => ?_
  cases y <;> first | exact (show False from h1).elim | skip
  intro a ha
  have g2 := g1.wf.newP (o := ExO (.ref (ad c)) a) ha
  exact KV.p h1 (g1.trans g2) (re1.mono g2.ff fun b hb => upd_ne fun z => g1.wf.al b hb (by rw [z]; exact ha)) (.exc upd_same (exL_new _ _))
theorem repl_in : ∀ {vs : List V} {ds : List Pl.D} {B : List Addr} {k : Nat} {es : List Pl.D}, RepL K ad F H vs ds B → ds[k]? = some (.l es) → ∃ a2 vs2 B2, vs[k]? = some (.ref a2) ∧ a2 ∈ B ∧ H a2 = some (.lst vs2) ∧ RepL K ad F H vs2 es B2 ∧
    ∀ (j : Nat) (v : V) (x : P), j < es.length → Rp K ad F v x → B.Nodup → ∃ B', B'.Sublist B ∧ RepL K ad F (upd H a2 (.lst (vs2.set j v))) vs (ds.set k (.l (es.set j (.p x)))) B'
  | _, _, _, _, _, .nil, h => by simp at h
  | _, _, _, 0, es, .cons (A := A0) (B := B0) r k, h => by
    have e0 := Option.some.inj (show some _ = some (Pl.D.l es) by simpa using h)
    subst e0
    cases r with
    | @l a vs2 _ B2 ha rl =>
      refine ⟨a, vs2, B2, by simp, by simp, ha, rl, fun j v x hj rv nd => ?_⟩
      obtain ⟨B', B1, h1, h2, h3⟩ := repl_set rl hj (.p rv : Rep K ad F H v (.p x) [])
      rw [List.append_nil] at h2
      have nd1 := List.nodup_append.mp nd
      have nd2 := List.nodup_cons.mp nd1.1
      have h4 : ∀ b ∈ B', b ≠ a := fun b hb z => nd2.1 (by rw [← z]; exact h1.subset (h2.mem_iff.mp hb))
      have h5 : ∀ b ∈ B0, b ≠ a := fun b hb z => nd1.2.2 a (by simp) b hb z.symm
      obtain ⟨B3, h6, h7⟩ : ∃ B3 : List Addr, B3.Sublist B2 ∧ RepL K ad F H (vs2.set j v) (es.set j (.p x)) B3 := by
        exact repl_sub rl hj rv
      have h8 : ∀ b ∈ B3, b ≠ a := fun b hb z => nd2.1 (by rw [← z]; exact h6.subset hb)
      exact ⟨(a :: B3) ++ B0, List.Sublist.append (List.Sublist.cons_cons _ h6) (List.Sublist.refl _), .cons (.l upd_same (h7.mono (.refl _) fun b hb => upd_ne (h8 b hb))) (k.mono (.refl _) fun b hb => upd_ne (h5 b hb))⟩
  | _, _, _, i + 1, es, .cons (A := A0) (B := B0) r k, h => by
    obtain ⟨a2, vs2, B2, h1, h2, h3, h4, h5⟩ := repl_in (k := i) (es := es) k (by simpa using h)
    refine ⟨a2, vs2, B2, by simpa using h1, List.mem_append.mpr (.inr h2), h3, h4, fun j v x hj rv nd => ?_⟩
    have nd1 := List.nodup_append.mp nd
    obtain ⟨B', q1, q2⟩ := h5 j v x hj rv nd1.2.1
    have ne : ∀ b ∈ A0, b ≠ a2 := fun b hb z => nd1.2.2 b hb a2 h2 z
    exact ⟨A0 ++ B', List.Sublist.append (List.Sublist.refl _) q1, .cons (r.mono (.refl _) fun b hb => upd_ne (ne b hb)) q2⟩
where repl_sub : ∀ {vs : List V} {ds : List Pl.D} {B : List Addr} {j : Nat} {v : V} {x : P}, RepL K ad F H vs ds B → j < ds.length → Rp K ad F v x → ∃ B3 : List Addr, B3.Sublist B ∧ RepL K ad F H (vs.set j v) (ds.set j (.p x)) B3
  | _, _, _, _, _, _, .nil, h, _ => by simp at h
  | _, _, _, 0, v, x, .cons (A := A0) (B := B0) r k, _, rv => ⟨B0, List.sublist_append_right _ _, by
      have := RepL.cons (.p rv : Rep K ad F H v (.p x) []) k
      simpa using this⟩
  | _, _, _, j + 1, v, x, .cons (A := A0) (B := B0) r k, h, rv => by
    obtain ⟨B3, h1, h2⟩ := repl_sub (j := j) k (by simpa using h) rv
    exact ⟨A0 ++ B3, List.Sublist.append (List.Sublist.refl _) h1, .cons r h2⟩
theorem RepL.len2 : ∀ {vs : List V} {ds : List Pl.D} {B : List Addr}, RepL K ad F H vs ds B → vs.length = ds.length
  | _, _, _, .nil => rfl
  | _, _, _, .cons _ k => by simp [RepL.len2 k]
theorem RepL.getP : ∀ {vs : List V} {ds : List Pl.D} {B : List Addr} {k : Nat} {x : P}, RepL K ad F H vs ds B → ds[k]? = some (.p x) → ∃ v, vs[k]? = some v ∧ Rp K ad F v x
  | _, _, _, _, _, .nil, h => by simp at h
  | _, _, _, 0, x, .cons r k, h => by
    have e0 := Option.some.inj (show some _ = some (Pl.D.p x) by simpa using h)
    subst e0
    cases r with
    | p r => exact ⟨_, by simp, r⟩
  | _, _, _, i + 1, x, .cons r k, h => by
    obtain ⟨v, h1, h2⟩ := RepL.getP (k := i) k (by simpa using h)
    exact ⟨v, by simpa using h1, h2⟩
theorem atI_ix {α : Type} {xs : List α} {i : Int} {x : α} (h : atI xs i = some x) : ∃ j, ixN xs.length i = some j ∧ xs[j]? = some x := Option.bind_eq_some_iff.mp h
theorem ix_atI {α : Type} {xs : List α} {n : Nat} {i : Int} {j : Nat} {x : α} (hn : n = xs.length) (h : ixN n i = some j) (h2 : xs[j]? = some x) : atI xs i = some x := by
  subst hn
  exact Option.bind_eq_some_iff.mpr ⟨j, h, h2⟩
/-- an index that is a name or a number -/
def tAt : Ex → TE
  | .var t => tVar t
  | .lit (.int i) => fun _ H Q => Q (.int i) H
  | _ => fun _ _ _ => False
theorem tAt_ok {j : Ex} {ρ : Env} {m : Int} {Q : VK} (re : RE K ad F H σ ρ A) (h : atomI ρ j = some m) (q : Q (.int m) H) : tAt j σ H Q := by
  unfold atomI at h
  split at h
  · cases h; exact q
  · rename_i s
    obtain ⟨x, e1, e2⟩ := Option.bind_eq_some_iff.mp h
    obtain ⟨v, B, R, h3, h4, _⟩ := re.get (getP_ok e1)
    cases x <;> first | (cases e2; done) | skip
    cases e2
    cases h4 with
    | p r =>
      cases r
      exact ⟨_, h3, q⟩
  · cases h
theorem ok_idx2 {s : Nat} {jx : Ex} {o i j : Expr} {di : Den} {pos pos' : Pos} (hK : X.K = K) (po : PE X o (tVar s)) (hi : hd i = true) (hj : hd j = true) (oi : OkV K ad fld X W i di.v) (pj : PE X j (tAt jx)) :
    OkD K ad fld X W (.Subscript (.Subscript o i pos) j pos') (dIdx2 s di jx) := by
  refine OkV.den (fun ρ F H σ A Q w re r => wv (pe_ix (ixAll hK) (pe_ix (ixAll hK) po pw (hd_ix hi)) pj (hd_ix hj)) ?_) rfl
  cases e1 : getD ρ s with
  | none =>
    have r' : Res (match getD ρ s with | some _ => _ | none => Out.bad) _ _ := r
    rw [e1] at r'
    exact (show False from r').elim
  | some d0 =>
    have r' : Res (match getD ρ s with | some _ => bndF (di.v ρ) fun k ρ1 => (match k with | .int k => fin (idx2P ρ1 s jx k) ρ1 | _ => .bad) | none => Out.bad) (KV K ad F H A σ Q) (KX K ad fld F H A σ W) := r
    rw [e1] at r'
    obtain ⟨v0, B0, R0, h3, _⟩ := re.get (getD_ok e1)
    refine ⟨v0, h3, ?_⟩
    refine one_frz oi w re r' fun x ρ1 h1 v F1 H1 A1 g1 re1 rx => ?_
    cases x <;> first | exact (show False from h1).elim | skip
    rename_i k
    cases rx
    obtain ⟨d, e2, kk⟩ := Res.fin h1
    unfold idx2P at e2
    obtain ⟨d1, e3, e4⟩ := Option.bind_eq_some_iff.mp e2
    obtain ⟨v1, Bs, R, h31, h4, h5, h6, h7⟩ := re1.get (getD_ok e3)
    have ev : v1 = v0 := Option.some.inj (Option.some.inj (h31.symm.trans h3))
    subst ev
    cases h4 with
    | p r0 => cases e4
    | d _ _ _ => cases e4
    | @l a vs ds B3 ha rl =>
      obtain ⟨en, e5, e6⟩ := Option.bind_eq_some_iff.mp e4
      cases en with
      | p y => cases e6
      | d _ _ => cases e6
      | l es =>
        obtain ⟨k', e7, e8⟩ := atI_ix e5
        obtain ⟨a2, vs2, B2, q1, q2, q3, q4, q5⟩ := repl_in rl e8
        obtain ⟨m, e9, e10⟩ := Option.bind_eq_some_iff.mp e6
        obtain ⟨rr, e11, e12⟩ := Option.bind_eq_some_iff.mp e10
        cases rr with
        | l _ => cases e12
        | d _ _ => cases e12
        | p z =>
          cases e12
          obtain ⟨m', e13, e14⟩ := atI_ix e11
          obtain ⟨u, q6, q7⟩ := q4.getP e14
          refine .inl ⟨a, vs, k, .ref a2, rfl, rfl, .inl (.inl ha), ix_atI rl.len2.symm e7 q1, ?_⟩
          refine tAt_ok re1 e9 ?_
          exact .inl ⟨a2, vs2, m, u, rfl, rfl, .inl (.inl q3), ix_atI q4.len2.symm e13 q6, KV.p kk g1 re1 q7⟩
theorem ok_set2 {s : Nat} {jx : Ex} {o i j e : Expr} {di : Den} {m : Env → Out Pl.D} {pos pos' pos2 : Pos} (hK : X.K = K) (po : PE X o (tVar s)) (hn : notComp e = true) (hi : hd i = true) (hj : hd j = true) (oi : OkV K ad fld X W i di.v) (pj : PE X j (tAt jx)) (oe : OkV K ad fld X W e m) :
    OkS K ad fld kz X W (.Assign [.Subscript (.Subscript o i pos) j pos'] e pos2) (fun ρ => sbnd (m ρ) fun d ρ1 => match d, getD ρ1 s with
      | .p x, some _ => Pl.sbndF (di.v ρ1) fun k ρ2 => match k with
        | .int k => sfin (set2P ρ2 s jx k x)
        | _ => .bad
      | _, _ => .bad) := by
  intro ρ F H σ A D w re h
  have hw : swappedStores [.Subscript (.Subscript o i pos) j pos'] e X.env = pure none := by cases e <;> rfl
  have ha : ∀ v : Value, assign (.Subscript (.Subscript o i pos) j pos') X.env v = (do let ov ← holding [v] (eval (.Subscript o i pos) X.env); let iv ← holding [v, ov] (eval j X.env); standAt pos'; holding [v, ov, iv] (setItem ov iv v); release [v, ov, iv] []) := by
    intro v
    cases j <;> first | (cases hj; done) | rfl
  have hsw : swapsWithSole [.Subscript (.Subscript o i pos) j pos'] e pos2.line X.env = pure false := by
    show swapsWith e (some (.Subscript (.Subscript o i pos) j pos')) pos2.line X.env = pure false
    exact no_swap hn
  refine ws (ps_asg pw (pg_sub (pe_ix (ixAll hK) po pw (hd_ix hi)) pj set_list ha) hsw hw rfl) ?_
  refine oe ρ F H σ A _ w re (h.sbnd.mono (fun d ρ1 hh => ?_) fun _ _ _ z => z)
  intro v F1 H1 A1 B g re1 r
  cases d with
  | l ds0 => exact (show False from hh).elim
  | d ks0 xs0 => exact (show False from hh).elim
  | p x =>
    cases r with
    | p rv =>
      cases e1 : getD ρ1 s with
      | none => simp only [e1] at hh; exact (show False from hh).elim
      | some d0 =>
        simp only [e1] at hh
        obtain ⟨v0, B0, R0, h3, _⟩ := re1.get (getD_ok e1)
        have g' : Go F H A F1 H1 A1 := by simpa using g
        refine ⟨v0, h3, ?_⟩
        refine one_sf oi g'.wf re1 (hh.go g' fun _ => rfl) fun y ρ2 hk u F2 H2 A2 g2 re2 ru => ?_
        cases y <;> first | exact (show False from hk).elim | skip
        rename_i k
        cases ru
        obtain ⟨ρ', e3, kk⟩ := SR.fin hk
        unfold set2P at e3
        obtain ⟨d1, e4, e5⟩ := Option.bind_eq_some_iff.mp e3
        obtain ⟨v1, Bs, R, h31, h4, h5, h6, h7⟩ := re2.get (getD_ok e4)
        have ev : v1 = v0 := Option.some.inj (Option.some.inj (h31.symm.trans h3))
        subst ev
        cases h4 with
        | p r0 => cases e5
        | d _ _ _ => cases e5
        | @l a vs ds B3 ha2 rl =>
          obtain ⟨en, e6, e7⟩ := Option.bind_eq_some_iff.mp e5
          cases en with
          | p y => cases e7
          | d _ _ => cases e7
          | l es =>
            obtain ⟨k', e8, e9⟩ := atI_ix e6
            obtain ⟨a2, vs2, B2, q1, q2, q3, q4, q5⟩ := repl_in rl e9
            obtain ⟨m0, e10, e11⟩ := Option.bind_eq_some_iff.mp e7
            obtain ⟨es', e12, e13⟩ := Option.bind_eq_some_iff.mp e11
            obtain ⟨ds', e14, rfl⟩ := Option.map_eq_some_iff.mp e13
            unfold setL at e12 e14
            obtain ⟨j1, e15, rfl⟩ := Option.map_eq_some_iff.mp e12
            obtain ⟨k1, e16, rfl⟩ := Option.map_eq_some_iff.mp e14
            have ek : k1 = k' := Option.some.inj (e16.symm.trans e8)
            subst ek
            have nd : (a :: B3).Nodup := (g2.wf.perm h5).left.nd
            obtain ⟨B', q6, q7⟩ := q5 j1 v x (ixN_lt e15) (rv.mono g2.ff) (List.nodup_cons.mp nd).2
            refine .inl ⟨a, vs, k, .ref a2, rfl, rfl, .inl (.inl ha2), ix_atI rl.len2.symm e8 q1, ?_⟩
            refine tAt_ok re2 e10 ?_
            refine ⟨a2, vs2, m0, j1, rfl, rfl, q3, by rw [q4.len2]; exact e15, ?_⟩
            have hne : a ≠ a2 := fun z => (List.nodup_cons.mp nd).1 (by rw [z]; exact q2)
            have wp := g2.wf.perm h5
            have ha2A : a2 ∈ A2 := h5.mem_iff.mpr (List.mem_append.mpr (.inl (List.mem_cons_of_mem _ q2)))
            have gp := g2.wf.put (o := .lst (vs2.set j1 v)) ha2A
            have ndA := List.nodup_append.mp wp.nd
            obtain ⟨A', pA, rA⟩ := h7 (F' := F2) (H' := upd H2 a2 (.lst (vs2.set j1 v))) (.l ((upd_ne hne).trans ha2) q7) (.refl _) fun b hb => upd_ne fun z => ndA.2.2 a2 (List.mem_cons_of_mem _ q2) b hb z.symm
            rw [set_id h31] at rA
            have gA : Go F2 H2 A2 F2 (upd H2 a2 (.lst (vs2.set j1 v))) A' := by
              refine ((gp.permR h5).drop (A2 := (a :: B') ++ R) ?_).permR pA.symm
              exact List.Sublist.append (List.Sublist.cons_cons _ q6) (List.Sublist.refl _)
            exact kk _ _ _ A' (g2.trans gA) rA fun _ => rfl
end
end Pl

set_option Elab.async false
set_option linter.all false
set_option autoImplicit false
set_option maxRecDepth 100000
set_option maxHeartbeats 4000000
namespace Pl
open PySem PySem.Spec PyProof.Rows L2
section
variable {K : PySem.W.Frag} {ad : Nat → Addr} {fld : Nat → Str} {X : Cx} {W : WX}
theorem rangeDn_len : ∀ (n : Nat) (hi : Int), (rangeDn hi n).length = n
  | 0, _ => rfl
  | n + 1, hi => by
    show (rangeDn (hi - 1) n).length + 1 = _
    rw [rangeDn_len n]
theorem rangeDn_get : ∀ (n : Nat) (hi : Int) (i : Nat), i < n → (rangeDn hi n)[i]? = some (.int (hi - i))
  | 0, _, _, h => by omega
  | n + 1, hi, 0, _ => by simp [rangeDn]
  | n + 1, hi, i + 1, h => by
    show (rangeDn (hi - 1) n)[i]? = _
    rw [rangeDn_get n (hi - 1) i (by omega)]
    congr 2
    omega
theorem walk_dn {F : Hp} (hi : Int) (n : Nat) : WalkP K ad F (Itc hi (-1) n) (rangeDn hi n) := by
  have w := walk_rangeC (lo := hi) (c := -1) (n := n)
  unfold WalkP
  rw [rangeDn_len]
  refine w.mono (fun H _ => trivial) fun i H x H' hi2 _ y => .inl ⟨y.1, _, rangeDn_get n hi i hi2, ?_⟩
  rw [y.2]
  show Rp K ad F (V.int (hi + ((i : Nat) : Int) * (-1))) _
  rw [show hi + ((i : Nat) : Int) * (-1) = hi - (i : Int) by omega]
  exact .int _
theorem oki_r3 {tg a b c : Expr} {da db dc : Den} {p pos : Pos} (hg : Gl X "range") (hm : X.mg "range" = none) (ha : hd a = true) (hb : hd b = true) (hc : hd c = true) (oa : OkV K ad fld X W a da.v) (ob : OkV K ad fld X W b db.v) (oc : OkV K ad fld X W c dc.v) :
    OkI K ad fld X W tg (.Call (.Name "range" p) [a, b, c] [] pos) (dRng3 da db dc).i := by
  refine ⟨_, pi_range3 hg hm (pa_cons pw (pa_cons pw (pa_cons pw pa_nil (hd_star hc)) (hd_star hb)) (hd_star ha)) (hd_star ha) (by rw [hd_star hb, hd_star hc]; rfl), fun ρ F H σ A R w re r => ?_⟩
  simp only [dRng3, ofI] at r
  refine one_frz oa w re r fun x ρ1 h1 v F1 H1 A1 g1 re1 rx => ?_
  refine one_frz ob g1.wf re1 (h1.mono (fun _ _ z => z) fun _ _ _ z => KX.go g1 z) fun y ρ2 h2 u F2 H2 A2 g2 re2 ry => ?_
  have g12 := g1.trans g2
  refine one_frz oc g2.wf re2 (h2.mono (fun _ _ z => z) fun _ _ _ z => KX.go g2 z) fun z ρ3 h3 t F3 H3 A3 g3 re3 rz => ?_
  cases x <;> first | exact (show False from h3).elim | skip
  cases y <;> first | exact (show False from h3).elim | skip
  cases z <;> first | exact (show False from h3).elim | skip
  rename_i i j k
  cases rx
  cases ry
  cases rz
  cases e : inR i && inR j && decide (k = -1) with
  | false => simp only [e] at h3; exact (show False from h3).elim
  | true =>
    simp only [e] at h3
    rw [Bool.and_eq_true, Bool.and_eq_true] at e
    obtain ⟨⟨e1, e2⟩, e3⟩ := e
    have e3 := of_decide_eq_true e3
    subst e3
    unfold inR at e1 e2
    rw [Bool.and_eq_true] at e1 e2
    exact ⟨i, j, -1, (i - j).toNat, rfl, RgC.neg (of_decide_eq_true e1.1) (of_decide_eq_true e1.2) (of_decide_eq_true e2.1) (of_decide_eq_true e2.2), h3 _ F3 H3 A3 (g12.trans g3) re3 (walk_dn i _)⟩
theorem ok_cnt {s : Nat} {o b : Expr} {db : Den} {apos pos : Pos} (hK : X.K = K) (po : PE X o (tVar s)) (ho : attributeBase o "count" X.env (eval o X.env) = eval o X.env) (hl : (apos.endLine == pos.line) = true) (hb : hd b = true) (ob : OkV K ad fld X W b db.v) :
    OkD K ad fld X W (.Call (.Attribute o "count" apos) [b] [] pos) (dCnt s db) := by
  have pb := pe_bm (cpos := pos) (apos := apos) PySem.F.plainAttrs_list PySem.F.slot_list_count PySem.F.type_list_count mt_lcount po (pa_cons (es := []) (pw (X := X) (e := b)) pa_nil (hd_star hb)) ho (by rw [hd_star hb]; rfl) hl (hd_star hb) rfl
  refine OkV.den (fun ρ F H σ A Q w re r => wv pb ?_) rfl
  cases e0 : (getD ρ s).bind flatD with
  | none => simp only [dCnt, ofV, e0] at r; exact (show False from r).elim
  | some x0 =>
    cases x0 <;> first | (simp only [dCnt, ofV, e0] at r; exact (show False from r).elim) | skip
    rename_i xs0
    simp only [dCnt, ofV, e0] at r
    obtain ⟨d0, e1, e2⟩ := Option.bind_eq_some_iff.mp e0
    obtain ⟨v0, B0, R0, h3, h40, _⟩ := re.get (getD_ok e1)
    obtain ⟨a, vs, rfl, ha, _⟩ := (flat_ok h40 e2).lst w.sub
    subst hK
    refine ⟨.ref a, h3, .inl ⟨rfl, vs, .inl (.inl ha)⟩, ?_⟩
    refine one_frz ob w re r fun y ρ1 h1 u F1 H1 A1 g1 re1 ry => ?_
    obtain ⟨d, q1, k⟩ := Res.fin h1
    obtain ⟨x1, q2, q3⟩ := Option.bind_eq_some_iff.mp q1
    obtain ⟨d1, q4, q5⟩ := Option.bind_eq_some_iff.mp q2
    obtain ⟨v1, B1, R1, h31, h41, _⟩ := re1.get (getD_ok q4)
    have ev : v1 = .ref a := Option.some.inj (Option.some.inj (h31.symm.trans h3))
    subst ev
    unfold cntP at q3
    split at q3
    · rename_i xs k'
      obtain ⟨ns, q6, rfl⟩ := Option.map_eq_some_iff.mp q3
      obtain ⟨a1, vs1, e5, ha1, rl⟩ := (flat_ok h41 q5).lst g1.wf.sub
      cases e5
      have ei := ints_ok rl q6
      subst ei
      cases ry
      exact ⟨a, ns, k', rfl, rfl, .inl (.inl ha1), KV.p k g1 re1 (.int _)⟩
    · cases q3
theorem RE.view {F H F' : Hp} (w : Ex' F H) (e : Ex' F F') {σ : L2.St} {ρ : Env} {A : List Addr} (r : RE K ad F H σ ρ A) : (∀ a ∈ A, F' a = H a) → RE K ad F' H σ (viewE ρ) [] := by
  induction r with
  | nil => exact fun _ => .nil
  | skip _ ih => exact fun q => .skip (ih q)
  | cons h _ ih =>
    intro q
    exact .cons (A := []) (B := []) (.p (h.view w e fun a ha => q a (List.mem_append.mpr (.inl ha)))) (ih fun a ha => q a (List.mem_append.mpr (.inr ha)))
theorem go_view {F H F' H' : Hp} {A A' : List Addr} (w : Wf F H A) (g : Go (froz F H A) H [] F' H' A') (e : Ex' F (froz F H A)) : Go F H A F H' A := by
  have al : ∀ a o, H a = some o → H' a = some o := fun a o h => g.fr a o h (by simp)
  refine ⟨⟨fun a o h => g.wf.sub a o (g.ff a o (e a o h)), w.nd, w.dj, fun a ha => ?_⟩, Ex'.refl _, fun a o h _ => al a o h, fun a h => .inl h, fun a h => .inl h⟩
  cases q : H a with
  | none => exact absurd q (w.al a ha)
  | some o => rw [al a o q]; exact fun z => by cases z
theorem re_view {F H F' H' : Hp} {A A' : List Addr} {σ : L2.St} {ρ : Env} (w : Wf F H A) (re : RE K ad F H σ ρ A) (g : Go (froz F H A) H [] F' H' A') : RE K ad F H' σ ρ A :=
  re.mono (Ex'.refl _) fun a ha => by
    cases q : H a with
    | none => exact absurd q (w.al a ha)
    | some o => exact g.fr a o q (by simp)
theorem rp_flat {F F' : Hp} {v : V} {x : P} (h : x.flat = true) (r : Rp K ad F v x) : Rp K ad F' v x := by
  cases r <;> first | (cases h; done) | constructor
theorem ok_view {e : Expr} {d : Den} (o : OkD K ad fld X W e d) : OkD K ad fld X W e (dView d) := by
  have fz : ∀ {F H : Hp} {A : List Addr}, Wf F H A → Go F H A (froz F H A) H [] := fun {F H A} w => Wf.froz (A := []) (B := A) w
  have vw : ∀ {F H : Hp} {A : List Addr} {σ : L2.St} {ρ : Env}, Wf F H A → RE K ad F H σ ρ A → RE K ad (froz F H A) H σ (viewE ρ) [] := fun {F H A σ ρ} w re =>
    re.view w.sub (fz w).ff fun a ha => by unfold Pl.froz; rw [if_pos ha]
  refine ⟨fun ρ F H σ A Q w re r => ?_, fun ρ F H σ A Q w re r => ?_⟩
  · refine o.v (viewE ρ) (froz F H A) H σ [] Q (fz w).wf (vw w re) ?_
    simp only [dView] at r
    cases q : d.v (viewE ρ) with
    | bad => rw [q] at r; exact r
    | exc c fs ρ' => rw [q] at r; exact (show False from r).elim
    | ok x ρ' =>
      rw [q] at r
      cases x with
      | l ds => exact (show False from r).elim
      | d ks xs => exact (show False from r).elim
      | p x =>
        unfold flatOut at r
        simp only at r
        cases hf : x.flat with
        | false => rw [hf] at r; exact (show False from r).elim
        | true =>
          rw [hf] at r
          intro v F' H' A' B g re' rp
          cases rp with
          | p rp =>
            have k : KV K ad F H A σ Q (.p x) ρ := r
            refine k v F H' A [] ?_ (re_view w re g) (.p (rp_flat hf rp))
            rw [List.append_nil]
            exact go_view w g (fz w).ff
  · refine o.t (viewE ρ) (froz F H A) H σ [] Q (fz w).wf (vw w re) ?_
    simp only [dView] at r
    cases q : d.t (viewE ρ) with
    | bad => rw [q] at r; exact r
    | exc c fs ρ' => rw [q] at r; exact (show False from r).elim
    | ok b ρ' =>
      rw [q] at r
      intro F' H' A' g re'
      have k : KT K ad F H A σ Q b ρ := r
      exact k F H' A (go_view w g (fz w).ff) (re_view w re g)
end
end Pl

set_option Elab.async false
set_option linter.all false
set_option autoImplicit false
set_option maxRecDepth 100000
set_option maxHeartbeats 4000000
namespace Pl
open PySem PySem.Spec PyProof.Rows L2
section
variable {K : PySem.W.Frag} {ad : Nat → Addr} {fld : Nat → Str} {kz : Bool} {X : Cx} {W : WX} {F H F1 H1 : Hp} {A A1 : List Addr} {σ : L2.St} {D : Ends}
theorem ok_dnil {pos : Pos} : OkD K ad fld X W (.Dict [] [] pos) dDnil := by
  refine OkV.den (fun ρ F H σ A Q w re r => wv pe_dnewK fun p hp => ?_) rfl
  have k : KV K ad F H A σ Q (.d [] []) ρ := r
  have ne : ∀ a ∈ A, a ≠ p := fun a ha z => w.al a ha (by rw [z]; exact hp)
  exact k (.ref p) F (upd H p (.dK [])) A [p] ((w.newL (o := .dK []) hp).permR (List.perm_append_comm (l₁ := [p]) (l₂ := A))) (re.mono (.refl _) fun a ha => upd_ne (ne a ha)) (.d upd_same rfl .nil)
theorem kV_rp (k : Key) : Rp K ad F (kV k) (kP k) := by
  cases k with
  | inl i => exact .int i
  | inr s => exact .str s
theorem kV_rpl : ∀ kvs : List (Key × V), RpL K ad F (kvs.map fun kv => kV kv.1) ((kvs.map (·.1)).map kP)
  | [] => .nil
  | kv :: kvs => .cons (kV_rp kv.1) (kV_rpl kvs)
theorem ok_keys {s : Nat} {o : Expr} {p pos : Pos} (hc : X.calm = true) (hg : Gl X "list") (hm : X.mg "list" = none) (po : PE X o (tVar s)) (ho : hd o = true) : OkD K ad fld X W (.Call (.Name "list" p) [o] [] pos) (dKeys s) := by
  refine OkV.den (fun ρ F H σ A Q w re r => ?_) rfl
  have pe := pe_callTy (p := p) (pos := pos) (call_listD hc) hg hm (bi_boot .list).1 (pa_cons (es := []) po pa_nil (hd_star ho)) (bi_boot .list).2.1 (bi_boot .list).2.2 (hd_star ho) rfl
  refine wv pe ?_
  cases e0 : getD ρ s with
  | none => simp only [dKeys, ofV, e0] at r; exact (show False from r).elim
  | some d0 =>
    cases d0 with
    | p x => simp only [dKeys, ofV, e0] at r; exact (show False from r).elim
    | l ds => simp only [dKeys, ofV, e0] at r; exact (show False from r).elim
    | d ks xs =>
      simp only [dKeys, ofV, e0] at r
      obtain ⟨v0, B0, R0, h3, h40, _⟩ := re.get (getD_ok e0)
      cases h40 with
      | @d a kvs _ _ ha hk rl =>
        refine ⟨.ref a, h3, a, kvs, rfl, .inl ha, fun q hq => ?_⟩
        have k : KV K ad F H A σ Q (.l (ks.map fun k => .p (kP k))) ρ := r
        have e : (ks.map fun k => Pl.D.p (kP k)) = (ks.map kP).map Pl.D.p := by rw [List.map_map]; rfl
        rw [e, ← hk] at k
        exact KV.newLst k (.refl w) re (kV_rpl kvs) hq
theorem has_any (k : Key) (kvs : List (Key × V)) : hasK k (kvs.map (·.1)) = kvs.any fun kv => decide (kv.1 = k) := by
  unfold hasK
  rw [List.any_map]
  rfl
theorem put_keys (k : Key) (v : V) (kvs : List (Key × V)) : (L2.putK kvs k v).map (·.1) = putKs k (kvs.map (·.1)) := by
  unfold L2.putK putKs
  rw [has_any]
  split
  · rw [List.map_map]
    refine List.map_congr_left fun kv _ => ?_
    show (if kv.1 = k then (kv.1, v) else kv).1 = kv.1
    split <;> rfl
  · rw [List.map_append]
    rfl
theorem put_map {k : Key} {v : V} {x : P} (rv : Rp K ad F v x) : ∀ {kvs : List (Key × V)} {xs : List P}, RpL K ad F (kvs.map (·.2)) xs → RpL K ad F ((kvs.map fun kv => if kv.1 = k then (kv.1, v) else kv).map (·.2)) (List.zipWith (fun k1 y => if k1 = k then x else y) (kvs.map (·.1)) xs)
  | [], _, .nil => .nil
  | kv :: kvs, _, .cons r rs => by
    refine .cons ?_ (put_map rv rs)
    show Rp K ad F (if kv.1 = k then (kv.1, v) else kv).2 (if kv.1 = k then x else _)
    by_cases h : kv.1 = k
    · rw [if_pos h, if_pos h]; exact rv
    · rw [if_neg h, if_neg h]; exact r
theorem put_vals {k : Key} {v : V} {x : P} (rv : Rp K ad F v x) {kvs : List (Key × V)} {xs : List P} (rl : RpL K ad F (kvs.map (·.2)) xs) : RpL K ad F ((L2.putK kvs k v).map (·.2)) (putXs k x (kvs.map (·.1)) xs) := by
  unfold L2.putK putXs
  rw [has_any]
  split
  · exact put_map rv rl
  · rw [List.map_append]
    exact rl.append (.cons rv .nil)
theorem keyP_ok {y : P} {k : Key} {u : V} (h : keyP y = some k) (r : Rp K ad F u y) : u = kV k := by
  cases r <;> first | (cases h; done) | (cases h; rfl)
theorem ok_dset {s : Nat} {o i e : Expr} {di : Den} {m : Env → Out Pl.D} {pos pos' : Pos} (hu : X.A.units + 1 < cLine) (po : PE X o (tVar s)) (hn : notComp e = true) (oi : OkV K ad fld X W i di.v) (oe : OkV K ad fld X W e m) :
    OkS K ad fld kz X W (.Assign [.Subscript o i pos'] e pos) (fun ρ => sbnd (m ρ) fun d ρ1 => match d, getD ρ1 s with
      | .p x, some _ => Pl.sbndF (di.v ρ1) fun k ρ2 => match keyP k, getD ρ2 s with
        | some k, some (.d ks xs) => match decide (ks.length < 16777216) with
          | true => .nx (ρ2.set s (some (.d (putKs k ks) (putXs k x ks xs))))
          | false => .bad
        | _, _ => .bad
      | _, _ => .bad) := by
  intro ρ F H σ A D w re h
  refine ws (ps_dput hu po pw pw (no_swap hn)) ?_
  refine oe ρ F H σ A _ w re (h.sbnd.mono (fun d ρ1 hh => ?_) fun _ _ _ z => z)
  intro v F1 H1 A1 B g re1 r
  cases d with
  | l ds => exact (show False from hh).elim
  | d ks xs => exact (show False from hh).elim
  | p x =>
    cases r with
    | p rv =>
      rw [List.append_nil] at g
      cases e1 : getD ρ1 s with
      | none => simp only [e1] at hh; exact (show False from hh).elim
      | some d0 =>
        simp only [e1] at hh
        obtain ⟨v0, B0, R0, h3, _⟩ := re1.get (getD_ok e1)
        refine ⟨v0, h3, ?_⟩
        have hres := hh.sbf
        refine oi ρ1 F1 H1 σ A1 _ g.wf re1 (hres.mono (fun kd ρ2 hk => ?_) fun _ _ _ z => KX.go g z)
        intro u F2 H2 A2 B2 g2 re2 ru
        have gz : Go F1 H1 A1 (froz F2 H2 B2) H2 A2 := g2.trans g2.wf.froz
        have rz := ru.froz g2.wf
        have gA : Go F H A (froz F2 H2 B2) H2 A2 := g.trans gz
        have rv2 : Rp K ad (froz F2 H2 B2) v x := rv.mono gz.ff
        have re3 : RE K ad (froz F2 H2 B2) H2 σ ρ2 A2 := re2.mono g2.wf.froz.ff fun _ _ => rfl
        revert hk rz
        generalize frz kd = y
        intro hk rz
        cases e3 : keyP y with
        | none => simp only [e3] at hk; exact (show False from hk).elim
        | some k =>
          cases e2 : getD ρ2 s with
          | none => simp only [e3, e2] at hk; exact (show False from hk).elim
          | some d2 =>
            cases d2 with
            | p x => simp only [e3, e2] at hk; exact (show False from hk).elim
            | l ds => simp only [e3, e2] at hk; exact (show False from hk).elim
            | d ks xs =>
              simp only [e3, e2] at hk
              cases e5 : decide (ks.length < 16777216) with
              | false => simp only [e5] at hk; exact (show False from hk).elim
              | true =>
                simp only [e5] at hk
                obtain ⟨v2, Bs, R, h31, h4, h5, h6, h7⟩ := re3.get (getD_ok e2)
                have ev : v2 = v0 := Option.some.inj (Option.some.inj (h31.symm.trans h3))
                subst ev
                cases h4 with
                | @d a kvs _ _ ha hks rl =>
                  have hlen : kvs.length < sizeLine := by
                    have := of_decide_eq_true e5
                    rw [← hks, List.length_map] at this
                    rw [sizeLine_eq]
                    exact this
                  rw [keyP_ok e3 rz]
                  refine ⟨a, _, rfl, DPut.k ha hlen, ?_⟩
                  have w2 := gA.wf.perm h5
                  have hin : a ∈ [a] ++ R := List.mem_append.mpr (.inl List.mem_cons_self)
                  have gp := w2.put (o := .dK (L2.putK kvs k v)) hin
                  have ne : ∀ z ∈ R, z ≠ a := fun z hz e => by
                    subst e
                    exact (List.nodup_cons.mp (show (z :: R).Nodup from w2.nd)).1 hz
                  obtain ⟨A', pA, rA⟩ := h7 (F' := froz F2 H2 B2) (H' := upd H2 a (.dK (L2.putK kvs k v))) (d' := .d (putKs k ks) (putXs k x ks xs)) (.d upd_same (by rw [put_keys, hks]) (by rw [← hks]; exact put_vals rv2 rl)) (.refl _) fun z hz => upd_ne (ne z hz)
                  rw [set_id h31] at rA
                  exact hk σ _ _ A' (gA.trans ((gp.permL h5.symm).permR pA.symm)) rA fun _ => rfl
end
end Pl

set_option Elab.async false
set_option linter.all false
set_option autoImplicit false
set_option maxRecDepth 100000
set_option maxHeartbeats 4000000
namespace Pl
open PySem PySem.Spec PyProof.Rows L2

/-- a program's text in short -/
structure Pg where
  nf : Nat
  fn : Nat → Fn
  fname : Nat → Str
  fps : Nat → List Str
  ng : Nat
  glob : Nat → P
  gname : Nat → Str
  nc : Nat
  na : Nat
  cname : Nat → Str
  fld : Nat → Str
  pats : List (Nat × Nat × List Nat)
/-- what the top has left, by names -/
structure Gf (G : Pg) (K : PySem.W.Frag) (mg : Str → Option Value) (ad fa : Nat → Addr) (fd : Nat → FuncData) : Prop where
  fm : ∀ f, f < G.nf → mg (G.fname f) = some (.ref (fa f))
  fk : ∀ f, f < G.nf → PySem.W.keepIn K (.ref (fa f)) = true
  fb : ∀ f m ks, (f, m, ks) ∈ G.pats → BindK K (fd f) (G.fps f) (G.fn f).np m ks (ks.map fun k => ((G.fps f)[k]?).getD "")
  gm : ∀ g, g < G.ng → ∃ u v, mg (G.gname g) = some u ∧ RelV v u ∧ ∀ F, Rp K ad F v (G.glob g)
  bn : ∀ b : Bi, mg (biName b) = none
  ty : ∀ t : Ty, t.own = false → mg (tyStr t) = none
  isi : mg "isinstance" = none
  rng : mg "range" = none
  ver : mg "ValueError" = none
  enu : mg "enumerate" = none
  zip : mg "zip" = none
  na : G.nc ≤ G.na
  cm : ∀ c, c < G.na → mg (G.cname c) = some (.ref (ad c))
  cx : ∀ c, c < G.nc → PySem.W.excIn K (ad c) [.type "ValueError", .type "Exception", .type "BaseException", .type "object"] "ValueError.__new__" = true
  ck : ∀ c, c < G.nc → PySem.W.keepIn K (.ref (ad c)) = true
  cb : ∀ c, c < G.nc → PySem.W.subIn K (.ref (ad c)) (.type "BaseException") = some true
  ct : ∀ c, c < G.nc → PySem.W.typeIn K (.ref (ad c)) = some (.type "type")
  cc : ∀ c, c < G.nc → ExcC K (ad c)
  ki : ∀ k c, k < G.nc → c < G.na → PySem.W.kitOne K (.ref (ad k)) (.ref (ad c)) = some (isTy (.cls c) (.exc k []))
  ke : ∀ k c, k < G.nc → c < G.nc → PySem.W.exmOne K (.ref (ad k)) (.ref (ad c)) = some (decide (c = 0) || decide (c = k))
  kv : ∀ k, k < G.nc → PySem.W.kitOne K (.ref (ad k)) (.type "ValueError") = some true
  kb : ∀ k t, k < G.nc → t.own = false → PySem.W.kitOne K (.ref (ad k)) (.type (tyName t)) = some false

structure Mx where
  N : List Str
  sc : Scope
  fnb : Str → Bool
def visB (sc : Scope) (x : Str) : Bool := match sc.names.lookup x with
  | some .local => true
  | some .cell => true
  | some .free => true
  | _ => false
def locB (sc : Scope) (x : Str) : Bool := match sc.names.lookup x with
  | some .local => true
  | some .cell => true
  | _ => false
def isLocal (sc : Scope) (x : Str) : Bool := match sc.names.lookup x with
  | some .local => true
  | _ => false
def glB (sc : Scope) (x : Str) : Bool := match sc.names.lookup x with
  | some .globalImplicit => true
  | _ => false
def slotB (M : Mx) (i : Nat) (x : Str) : Bool := decide (M.N[i]? = some x) && visB M.sc x && !(x == ("__debug__" : Str)) && !(x == ("__classdict__" : Str))
def tgB (M : Mx) (i : Nat) (x : Str) : Bool := decide (M.N[i]? = some x) && locB M.sc x && (M.fnb x || isLocal M.sc x)
mutual
def mPat (M : Mx) : Pat → Expr → Bool
  | .v i, .Name x _ => tgB M i x
  | .t ps, .Tuple es _ _ => mPats M ps es
  | _, _ => false
def mPats (M : Mx) : List Pat → List Expr → Bool
  | [], [] => true
  | p :: ps, e :: es => mPat M p e && mPats M ps es
  | _, _ => false
end
def tyNB (G : Pg) (sc : Scope) (x : Str) : Ty → Bool
  | .cls c => decide (c < G.na) && decide (x = G.cname c) && glB sc x && !(x == ("__debug__" : Str))
  | .verr => decide (x = "ValueError") && glB sc x
  | t => decide (x = tyStr t) && glB sc x && !t.own
def tyB (G : Pg) (sc : Scope) (t : Ty) : Expr → Bool
  | .Name x _ => tyNB G sc x t
  | _ => false
def tysB (G : Pg) (sc : Scope) : List Ty → List Expr → Bool
  | [], [] => true
  | t :: ts, e :: es => tyB G sc t e && tysB G sc ts es
  | _, _ => false
def inner (M : Mx) (scope : Scope) : Mx := ⟨M.N, relS scope M.sc, fun x => scope.names.lookup x == some .cell⟩
def ownS (N : List Str) (own : List Nat) : List (Str × Nat) := own.map fun i => ((N[i]?).getD "", i)
def kwB (G : Pg) (f : Nat) : List Nat → List Keyword → Bool
  | [], [] => true
  | k :: ks, ⟨some n, _, _⟩ :: kws => decide ((G.fps f)[k]? = some n) && kwB G f ks kws
  | _, _ => false
def patIn (p : Nat × Nat × List Nat) : List (Nat × Nat × List Nat) → Bool
  | [] => false
  | q :: qs => decide (p = q) || patIn p qs
def Ex.pairy : Ex → Bool
  | .enum _ => true
  | .zip _ _ => true
  | _ => false
def isTup : Expr → Bool
  | .Tuple _ _ _ => true
  | _ => false
def mAt (M : Mx) : Ex → Expr → Bool
  | .var t, .Name y _ => slotB M t y
  | .lit (.int k), .Constant (.int k') _ _ => k == k'
  | _, _ => false
section
variable (G : Pg)
mutual
def mE (M : Mx) : Ex → Expr → Bool
  | .lit x, .Constant c _ _ => litC x c
  | .var i, .Name x _ => slotB M i x
  | .glob g, .Name x _ => decide (g < G.ng) && decide (x = G.gname g) && glB M.sc x && !(x == ("__debug__" : Str))
  | .bin op a b, .BinOp a' op' b' _ => decide (op = op') && mE M a a' && mE M b b'
  | .neg a, .UnaryOp .USub a' _ => mE M a a'
  | .not a, .UnaryOp .Not a' _ => mE M a a'
  | .cmp op a b, .Compare a' [op'] [b'] _ => decide (op = op') && mE M a a' && mE M b b'
  | .chain o1 o2 a b c, .Compare a' [p1, p2] [b', c'] _ => decide (o1 = p1) && decide (o2 = p2) && mE M a a' && mE M b b' && mE M c c'
  | .and es, .BoolOp .And es' _ => mL M es es' && decide (2 ≤ es.length)
  | .or es, .BoolOp .Or es' _ => mL M es es' && decide (2 ≤ es.length)
  | .ife c a b, .IfExp c' a' b' _ => mE M c c' && mE M a a' && mE M b b'
  | .tup es, .Tuple es' _ _ => mL M es es'
  | .lst es, .List es' _ => mL M es es'
  | .idx a i, .Subscript a' i' _ => mE M a a' && mE M i i'
  | .slc a lo hi, .Subscript a' (.Slice lo' hi' none _) _ => mE M a a' && mO M lo lo' && mO M hi hi'
  | .call f es ks kes, .Call (.Name x _) es' kws _ => decide (f < G.nf) && decide (x = G.fname f) && glB M.sc x && !(x == ("__debug__" : Str)) && mL M es es' && kwB G f ks kws && mL M kes (kws.map (·.value)) && patIn (f, es.length, ks) G.pats
  | .bi b es, .Call (.Name x _) es' [] _ => decide (x = biName b) && glB M.sc x && mL M es es' && !es.isEmpty
  | .isi e ts par nc, .Call (.Name x _) [e', t'] [] _ => decide (nc = G.nc) && decide (x = "isinstance") && glB M.sc x && mE M e e' && (match par, ts with
    | false, [t] => tyB G M.sc t t'
    | true, ts => decide (ts.length ≤ 16) && (match t' with | .Tuple es _ _ => tysB G M.sc ts es | _ => false)
    | _, _ => false)
  | .idx2 s i j, .Subscript (.Subscript (.Name x _) i' _) j' _ => slotB M s x && mE M i i' && mAt M j j'
  | .mkx c e, .Call (.Name x _) [e'] [] _ => decide (c < G.nc) && decide (x = G.cname c) && glB M.sc x && !(x == ("__debug__" : Str)) && mE M e e'
  | .enum a, .Call (.Name x _) [a'] [] _ => decide (x = "enumerate") && glB M.sc x && mE M a a'
  | .zip a b, .Call (.Name x _) [a', b'] [] _ => decide (x = "zip") && glB M.sc x && mE M a a' && mE M b b'
  | .rng3 a b c, .Call (.Name x _) [a', b', c'] [] _ => decide (x = "range") && glB M.sc x && mE M a a' && mE M b b' && mE M c c'
  | .cnt s b, .Call (.Attribute (.Name x _) m apos) [b'] [] pos => decide (m = "count") && (apos.endLine == pos.line) && slotB M s x && mE M b b'
  | .dnil, .Dict [] [] _ => true
  | .keys s, .Call (.Name x _) [.Name y _] [] _ => decide (x = "list") && glB M.sc x && slotB M s y
  | .view a, e => mE M a e
  | .opq, e => hd e
  | .comp elt pt own it cs, .ListComp elt' [⟨tg, it', ifs, isa⟩] scope _ => decide (isa = 0) && mE M it it' && (!it.pairy || isTup tg) && mPat (inner M scope) pt tg && mE (inner M scope) elt elt' && mL (inner M scope) cs ifs && decide (cs.length ≤ 1) && blkC M.N M.sc scope (ownS M.N own)
  | .rng1 a, .Call (.Name x _) [a'] [] _ => decide (x = "range") && glB M.sc x && mE M a a'
  | .rng2 a b, .Call (.Name x _) [a', b'] [] _ => decide (x = "range") && glB M.sc x && mE M a a' && mE M b b'
  | _, _ => false
def mL (M : Mx) : List Ex → List Expr → Bool
  | [], [] => true
  | e :: es, e' :: es' => mE M e e' && mL M es es'
  | _, _ => false
def mO (M : Mx) : Option Ex → Option Expr → Bool
  | none, none => true
  | some e, some e' => mE M e e'
  | _, _ => false
end
end

/-- the context is as the check takes it; the defs called from it keep their promises -/
structure Cc (G : Pg) (K : PySem.W.Frag) (mg : Str → Option Value) (ad fa : Nat → Addr) (fd : Nat → FuncData) (cf : Nat → List D → Ret) (n : Nat) (M : Mx) (X : Cx) : Prop where
  hK : X.K = K
  hm : X.mg = mg
  hN : X.N = M.N
  hs : X.env.scope = M.sc
  nd : M.N.Nodup
  calm : X.calm = true
  fn : ∀ x, M.fnb x = true → X.fn x = true
  room : Room n X.A
  call : ∀ f, f < G.nf → FnOk X.prog X.w X.K X.mg X.base (L2.CX X.prog X.w) n (fa f) (fd f) (G.fps f) (spF K ad G.fld (G.fn f).np (cf f))
structure OkA (K : PySem.W.Frag) (ad : Nat → Addr) (fld : Nat → Str) (X : Cx) (W : WX) (x : Ex) (e : Expr) (dn : Den) : Prop where
  d : OkD K ad fld X W e dn
  h : hd e = true
  i : ∀ tg, (x.pairy = true → isTup tg = true) → OkI K ad fld X W tg e dn.i
  v : ∀ s, x.isVar = some s → PE X e (tVar s)
theorem OkA.o {K : PySem.W.Frag} {ad : Nat → Addr} {fld : Nat → Str} {X : Cx} {W : WX} {x : Ex} {e : Expr} {d : Den} (h : OkA K ad fld X W x e d) : OkO K ad fld X W e x.isVar d.v := by
  cases q : x.isVar with
  | some s => exact h.v s q
  | none => exact h.d.v
theorem oki_bad {K : PySem.W.Frag} {ad : Nat → Addr} {fld : Nat → Str} {X : Cx} {W : WX} {tg e : Expr} : OkI K ad fld X W tg e (fun _ => .bad) := ⟨_, ⟨fun _ _ _ _ _ _ h => (show False from h).elim⟩, fun _ _ _ _ _ _ _ _ r => r.elim⟩
section
variable {G : Pg} {K : PySem.W.Frag} {mg : Str → Option Value} {ad fa : Nat → Addr} {fd : Nat → FuncData} {cf : Nat → List D → Ret} {n : Nat} {M : Mx} {X : Cx} {W : WX}
theorem Cc.gl (C : Cc G K mg ad fa fd cf n M X) {x : Str} (h : glB M.sc x = true) : Gl X x := by
  unfold Gl Env.kindOf
  rw [C.hs]
  unfold glB at h
  split at h
  · assumption
  · cases h
theorem Cc.units (C : Cc G K mg ad fa fd cf n M X) : X.A.units + 65 < cLine := by have := C.room.un; omega
theorem Cc.slot (C : Cc G K mg ad fa fd cf n M X) {i : Nat} {x : Str} {pos : Pos} (h : slotB M i x = true) : PE X (.Name x pos) (tVar i) := by
  unfold slotB at h
  rw [Bool.and_eq_true, Bool.and_eq_true, Bool.and_eq_true, Bool.not_eq_true', Bool.not_eq_true'] at h
  obtain ⟨⟨⟨h1, h2⟩, h3⟩, h4⟩ := h
  refine pe_var (by rw [C.hN]; exact of_decide_eq_true h1) ?_ h3 h4
  unfold Vis
  rw [C.hs]
  unfold visB at h2
  split at h2
  · exact .inl (by assumption)
  · exact .inr (.inl (by assumption))
  · exact .inr (.inr (by assumption))
  · cases h2
theorem Cc.tg (C : Cc G K mg ad fa fd cf n M X) {i : Nat} {x : Str} {pos : Pos} (h : tgB M i x = true) : PG X (.Name x pos) (gName i) := by
  unfold tgB at h
  rw [Bool.and_eq_true, Bool.and_eq_true, Bool.or_eq_true] at h
  obtain ⟨⟨h1, h2⟩, h3⟩ := h
  refine pg_name (by rw [C.hN]; exact C.nd) (by rw [C.hN]; exact of_decide_eq_true h1) ?_ ?_
  · unfold L2.Loc
    rw [C.hs]
    unfold locB at h2
    split at h2
    · exact .inl (by assumption)
    · exact .inr (by assumption)
    · cases h2
  · rcases h3 with h3 | h3
    · exact .inl (C.fn x h3)
    · right
      rw [C.hs]
      unfold isLocal at h3
      split at h3
      · assumption
      · cases h3
mutual
theorem Cc.pat (C : Cc G K mg ad fa fd cf n M X) : ∀ {pt : Pat} {e : Expr}, mPat M pt e = true → PatOk X pt e
  | .v i, e, h => by
    unfold mPat at h
    split at h
    · rename_i i' x pos e1
      cases e1
      exact .v (C.tg h)
    · rename_i e1; cases e1
    · cases h
  | .t ps, e, h => by
    unfold mPat at h
    split at h
    · rename_i e1; cases e1
    · rename_i ps' es k pos e1
      cases e1
      exact .t (Cc.pats C h)
    · cases h
theorem Cc.pats (C : Cc G K mg ad fa fd cf n M X) : ∀ {ps : List Pat} {es : List Expr}, mPats M ps es = true → PatsOk X ps es
  | [], es, h => by
    unfold mPats at h
    split at h
    · exact .nil
    · rename_i e1; cases e1
    · cases h
  | p :: ps, es, h => by
    unfold mPats at h
    split at h
    · rename_i e1; cases e1
    · rename_i p' ps' e es' e1
      cases e1
      rw [Bool.and_eq_true] at h
      exact .cons (Cc.pat C h.1) (Cc.pats C h.2)
    · cases h
end
end
end Pl

set_option Elab.async false
set_option linter.all false
set_option autoImplicit false
set_option maxRecDepth 100000
set_option maxHeartbeats 4000000
namespace Pl
open PySem PySem.Spec PyProof.Rows L2
section
variable {G : Pg} {K : PySem.W.Frag} {mg : Str → Option Value} {ad fa : Nat → Addr} {fd : Nat → FuncData} {cf : Nat → List D → Ret} {n : Nat}
/-- an ordinary value's three meanings -/
theorem okA_v {X : Cx} {W : WX} {x : Ex} {e : Expr} {m : Env → Out D} (hK : X.K = K) (h : OkD K ad G.fld X W e (ofV m)) (hh : hd e = true) (hv : x.isVar = none) : OkA K ad G.fld X W x e (ofV m) := ⟨h, hh, fun tg _ => oki_v hK h.v, fun s z => by rw [hv] at z; cases z⟩
theorem okA_n {X : Cx} {W : WX} {x : Ex} {e : Expr} {m : Env → Out D} (hK : X.K = K) (h : OkD K ad G.fld X W e (ofVn m)) (hh : hd e = true) (hv : x.isVar = none) : OkA K ad G.fld X W x e (ofVn m) := ⟨h, hh, fun tg _ => oki_v hK h.v, fun s z => by rw [hv] at z; cases z⟩
/-- rows of them -/
inductive OkAs (K : PySem.W.Frag) (ad : Nat → Addr) (fld : Nat → Str) (X : Cx) (W : WX) : List Ex → List Expr → List Den → Prop
  | nil : OkAs K ad fld X W [] [] []
  | cons {x : Ex} {e : Expr} {d : Den} {xs : List Ex} {es : List Expr} {ds : List Den} : OkA K ad fld X W x e d → OkAs K ad fld X W xs es ds → OkAs K ad fld X W (x :: xs) (e :: es) (d :: ds)
theorem OkAs.ds {fld : Nat → Str} {X : Cx} {W : WX} : ∀ {xs : List Ex} {es : List Expr} {ds : List Den}, OkAs K ad fld X W xs es ds → OkDs K ad fld X W es ds
  | _, _, _, .nil => .nil
  | _, _, _, .cons h k => .cons h.h h.d (OkAs.ds k)
theorem OkAs.len {fld : Nat → Str} {X : Cx} {W : WX} : ∀ {xs : List Ex} {es : List Expr} {ds : List Den}, OkAs K ad fld X W xs es ds → xs.length = es.length
  | _, _, _, .nil => rfl
  | _, _, _, .cons h k => by simp [OkAs.len k]
theorem kwB_ok {f : Nat} : ∀ {ks : List Nat} {kws : List Keyword}, kwB G f ks kws = true → kwNames kws = (ks.map fun k => ((G.fps f)[k]?).getD ("" : Str)).map some ∧ kws.length = ks.length
  | [], [], _ => ⟨rfl, rfl⟩
  | [], _ :: _, h => by cases h
  | _ :: _, [], h => by cases h
  | k :: ks, ⟨none, _, _⟩ :: kws, h => by cases h
  | k :: ks, ⟨some nm, _, _⟩ :: kws, h => by
    unfold kwB at h
    rw [Bool.and_eq_true] at h
    obtain ⟨h1, h2⟩ := kwB_ok h.2
    have h3 := of_decide_eq_true h.1
    refine ⟨?_, by rw [List.length_cons, List.length_cons, h2]⟩
    show some nm :: kwNames kws = _
    rw [h1, List.map_cons, List.map_cons, h3]
    rfl
theorem patIn_ok {p : Nat × Nat × List Nat} : ∀ {qs : List (Nat × Nat × List Nat)}, patIn p qs = true → p ∈ qs
  | [], h => by cases h
  | q :: qs, h => by
    unfold patIn at h
    rw [Bool.or_eq_true] at h
    rcases h with h | h
    · rw [of_decide_eq_true h]; exact List.mem_cons_self
    · exact List.mem_cons_of_mem _ (patIn_ok h)
theorem okA_opq {fld : Nat → Str} {X : Cx} {W : WX} {e : Expr} (hh : hd e = true) : OkA K ad fld X W .opq e dNone := ⟨⟨fun _ _ _ _ _ _ _ _ r => r.elim, fun _ _ _ _ _ _ _ _ r => r.elim⟩, hh, fun tg _ => oki_bad, fun s z => by cases z⟩
theorem Gf.kit (gf : Gf G K mg ad fa fd) : KitF K ad G.nc G.na where
  kc := fun k t hk ht => by
    cases t with
    | cls c => exact gf.ki k c hk (ht c rfl)
    | verr => exact gf.kv k hk
    | int => exact gf.kb k .int hk rfl
    | bool => exact gf.kb k .bool hk rfl
    | str => exact gf.kb k .str hk rfl
    | list => exact gf.kb k .list hk rfl
    | tuple => exact gf.kb k .tuple hk rfl
  cc := gf.cc
theorem tyNB_ok {M : Mx} {X : Cx} (gf : Gf G K mg ad fa fd) (C : Cc G K mg ad fa fd cf n M X) {t : Ty} {x : Str} {p : Pos} (h : tyNB G M.sc x t = true) : TyN ad G.na X t (.Name x p) := by
  have bt : ∀ t : Ty, t.own = false → (decide (x = tyStr t) && glB M.sc x && !t.own) = true → PE X (.Name x p) (fun _ H Q => Q (V.ty (tyName t)) H) := by
    intro t ho h
    rw [Bool.and_eq_true, Bool.and_eq_true] at h
    have e := of_decide_eq_true h.1.1
    subst e
    have tb := ty_boot t ho
    exact pe_bltn (v := .ty (tyName t)) (C.gl h.1.2) (by rw [C.hm]; exact gf.ty t ho) tb.1 rfl tb.2.1 tb.2.2
  cases t with
  | cls c =>
    unfold tyNB at h
    rw [Bool.and_eq_true, Bool.and_eq_true, Bool.and_eq_true, Bool.not_eq_true'] at h
    obtain ⟨⟨⟨h1, h2⟩, h3⟩, h4⟩ := h
    have e := of_decide_eq_true h2
    subst e
    have hc := of_decide_eq_true h1
    exact ⟨pe_glob (v := .ref (ad c)) (C.gl h3) (by rw [C.hm]; exact gf.cm c hc) rfl h4, fun c' z => by cases z; exact hc⟩
  | verr =>
    unfold tyNB at h
    rw [Bool.and_eq_true] at h
    have e := of_decide_eq_true h.1
    subst e
    exact ⟨pe_bltn (v := .ty "ValueError") (C.gl h.2) (by rw [C.hm]; exact gf.ver) ver_boot rfl (by decide) (by decide), fun c z => by cases z⟩
  | int => exact ⟨bt .int rfl h, fun c z => by cases z⟩
  | bool => exact ⟨bt .bool rfl h, fun c z => by cases z⟩
  | str => exact ⟨bt .str rfl h, fun c z => by cases z⟩
  | list => exact ⟨bt .list rfl h, fun c z => by cases z⟩
  | tuple => exact ⟨bt .tuple rfl h, fun c z => by cases z⟩
theorem tyB_ok {M : Mx} {X : Cx} (gf : Gf G K mg ad fa fd) (C : Cc G K mg ad fa fd cf n M X) {t : Ty} {e : Expr} (h : tyB G M.sc t e = true) : TyN ad G.na X t e ∧ ∀ es, starEach (e :: es) X.env = (false, eval e X.env) :: starEach es X.env := by
  unfold tyB at h
  split at h
  · exact ⟨tyNB_ok gf C h, fun es => rfl⟩
  · cases h
theorem tysB_ok {M : Mx} {X : Cx} (gf : Gf G K mg ad fa fd) (C : Cc G K mg ad fa fd cf n M X) : ∀ {ts : List Ty} {es : List Expr}, tysB G M.sc ts es = true → TyNs ad G.na X ts es
  | [], [], _ => .nil
  | [], _ :: _, h => by cases h
  | _ :: _, [], h => by cases h
  | t :: ts, e :: es, h => by
    unfold tysB at h
    rw [Bool.and_eq_true] at h
    have q := tyB_ok gf C h.1
    exact .cons q.1 (q.2 es) (tysB_ok gf C h.2)
theorem mAt_ok {M : Mx} {X : Cx} (C : Cc G K mg ad fa fd cf n M X) {j : Ex} {e : Expr} (h : mAt M j e = true) : PE X e (tAt j) ∧ hd e = true := by
  unfold mAt at h
  split at h
  · exact ⟨C.slot h, rfl⟩
  · rw [beq_iff_eq] at h
    subst h
    exact ⟨pe_int, rfl⟩
  · cases h
theorem Cc.blk {M : Mx} {X : Cx} (C : Cc G K mg ad fa fd cf n M X) (scope : Scope) (s : Shared) (H : Hp) (c : Addr) (cl : List (Str × Addr)) (fp : List Addr) : Cc G K mg ad fa fd cf n (inner M scope) (Xb X scope s H c cl fp) where
  hK := C.hK
  hm := C.hm
  hN := C.hN
  hs := by
    show relabel scope X.env = relS scope M.sc
    rw [← C.hs]
    rfl
  nd := C.nd
  calm := C.calm
  fn := fun x h => h
  room := C.room
  call := C.call
variable (hl : ∀ f as, cf f as ≠ .bad → as.length = (G.fn f).np) (gf : Gf G K mg ad fa fd)
include hl gf
mutual
theorem sE : ∀ (x : Ex) {M : Mx} {X : Cx} {W : WX}, Cc G K mg ad fa fd cf n M X → Takes X W → ∀ {e : Expr}, mE G M x e = true → OkA K ad G.fld X W x e (ev G.fn G.glob cf x)
  | .lit x, M, X, W, C, tk, e, h => by
    unfold mE at h
    split at h <;> rename_i hx <;> first | (cases hx; done) | (cases h; done) | skip
    cases hx
    exact okA_v C.hK (ok_lit h) rfl rfl
  | .var i, M, X, W, C, tk, e, h => by
    unfold mE at h
    split at h <;> rename_i hx <;> first | (cases hx; done) | (cases h; done) | skip
    cases hx
    rename_i _ _ x pos
    have p : PE X (.Name x pos) (tVar i) := C.slot h
    exact ⟨OkV.den (okV_var p) rfl, rfl, fun tg _ => oki_v C.hK (okV_var p), fun s z => by cases z; exact p⟩
  | .glob g, M, X, W, C, tk, e, h => by
    unfold mE at h
    split at h <;> rename_i hx <;> first | (cases hx; done) | (cases h; done) | skip
    cases hx
    rename_i _ _ x pos
    rw [Bool.and_eq_true, Bool.and_eq_true, Bool.and_eq_true, Bool.not_eq_true'] at h
    obtain ⟨⟨⟨h1, h2⟩, h3⟩, h4⟩ := h
    have e2 := of_decide_eq_true h2
    subst e2
    obtain ⟨u, v, a1, a2, a3⟩ := gf.gm g (of_decide_eq_true h1)
    exact okA_v C.hK (OkV.den (okV_val (pe_glob (C.gl h3) (by rw [C.hm]; exact a1) a2 h4) a3) rfl) rfl rfl
  | .bin op a b, M, X, W, C, tk, e, h => by
    unfold mE at h
    split at h <;> rename_i hx <;> first | (cases hx; done) | (cases h; done) | skip
    cases hx
    rename_i _ _ a' op' b' pos
    rw [Bool.and_eq_true, Bool.and_eq_true] at h
    obtain ⟨⟨h1, h2⟩, h3⟩ := h
    have e1 := of_decide_eq_true h1
    subst e1
    exact okA_v C.hK (ok_bin C.hK (sE a C tk h2).o (sE b C tk h3).o) rfl rfl
  | .neg a, M, X, W, C, tk, e, h => by
    unfold mE at h
    split at h <;> rename_i hx <;> first | (cases hx; done) | (cases h; done) | skip
    cases hx
    rename_i _ _ a' pos
    exact okA_v C.hK (ok_neg (sE a C tk h).d.v) rfl rfl
  | .not a, M, X, W, C, tk, e, h => by
    unfold mE at h
    split at h <;> rename_i hx <;> first | (cases hx; done) | (cases h; done) | skip
    cases hx
    rename_i _ _ a' pos
    exact ⟨ok_not (sE a C tk h).d, rfl, fun tg _ => oki_bad, fun s z => by cases z⟩
  | .cmp op a b, M, X, W, C, tk, e, h => by
    unfold mE at h
    split at h <;> rename_i hx <;> first | (cases hx; done) | (cases h; done) | skip
    cases hx
    rename_i _ _ a' op' b' pos
    rw [Bool.and_eq_true, Bool.and_eq_true] at h
    obtain ⟨⟨h1, h2⟩, h3⟩ := h
    have e1 := of_decide_eq_true h1
    subst e1
    have hb := sE b C tk h3
    exact okA_v C.hK (ok_cmp C.hK C.units hb.h (sE a C tk h2).o hb.o) rfl rfl
  | .chain o1 o2 a b c, M, X, W, C, tk, e, h => by
    unfold mE at h
    split at h <;> rename_i hx <;> first | (cases hx; done) | (cases h; done) | skip
    cases hx
    rename_i _ _ a' p1 p2 b' c' pos
    rw [Bool.and_eq_true, Bool.and_eq_true, Bool.and_eq_true, Bool.and_eq_true] at h
    obtain ⟨⟨⟨⟨h1, h2⟩, h3⟩, h4⟩, h5⟩ := h
    have e1 := of_decide_eq_true h1
    subst e1
    have e2 := of_decide_eq_true h2
    subst e2
    have hb := sE b C tk h4
    have hc := sE c C tk h5
    exact okA_v C.hK (ok_chain C.hK C.units hb.h hc.h (sE a C tk h3).d.v hb.d.v hc.d.v) rfl rfl
  | .and es, M, X, W, C, tk, e, h => by
    unfold mE at h
    split at h <;> rename_i hx <;> first | (cases hx; done) | (cases h; done) | skip
    cases hx
    rename_i _ _ es' pos
    rw [Bool.and_eq_true] at h
    have q := (sL es C tk h.1).ds
    have hl2 := of_decide_eq_true h.2
    refine ⟨ok_and q, rfl, fun tg _ => ?_, fun s z => by cases z⟩
    match es, hl2 with
    | a :: b :: r, _ => exact oki_bad
  | .or es, M, X, W, C, tk, e, h => by
    unfold mE at h
    split at h <;> rename_i hx <;> first | (cases hx; done) | (cases h; done) | skip
    cases hx
    rename_i _ _ es' pos
    rw [Bool.and_eq_true] at h
    have q := (sL es C tk h.1).ds
    have hl2 := of_decide_eq_true h.2
    refine ⟨ok_or q, rfl, fun tg _ => ?_, fun s z => by cases z⟩
    match es, hl2 with
    | a :: b :: r, _ => exact oki_bad
  | .ife c a b, M, X, W, C, tk, e, h => by
    unfold mE at h
    split at h <;> rename_i hx <;> first | (cases hx; done) | (cases h; done) | skip
    cases hx
    rename_i _ _ c' a' b' pos
    rw [Bool.and_eq_true, Bool.and_eq_true] at h
    exact okA_n C.hK (ok_if (sE c C tk h.1.1).d.t (sE a C tk h.1.2).d.v (sE b C tk h.2).d.v) rfl rfl
  | .tup es, M, X, W, C, tk, e, h => by
    unfold mE at h
    split at h <;> rename_i hx <;> first | (cases hx; done) | (cases h; done) | skip
    cases hx
    rename_i _ _ es' k pos
    exact okA_v C.hK (ok_tup (sL es C tk h).ds) rfl rfl
  | .lst es, M, X, W, C, tk, e, h => by
    unfold mE at h
    split at h <;> rename_i hx <;> first | (cases hx; done) | (cases h; done) | skip
    cases hx
    rename_i _ _ es' pos
    exact okA_v C.hK (ok_lst (sL es C tk h).ds) rfl rfl
  | .idx a i, M, X, W, C, tk, e, h => by
    unfold mE at h
    split at h <;> rename_i hx <;> first | (cases hx; done) | (cases h; done) | skip
    cases hx
    rename_i _ _ a' i' pos
    rw [Bool.and_eq_true] at h
    have hi := sE i C tk h.2
    exact okA_v C.hK (ok_idx C.hK hi.h (sE a C tk h.1).o hi.d.v) rfl rfl
  | .idx2 s i j, M, X, W, C, tk, e, h => by
    unfold mE at h
    split at h <;> rename_i hx <;> first | (cases hx; done) | (cases h; done) | skip
    cases hx
    rename_i _ _ x p i' p2 j' pos
    rw [Bool.and_eq_true, Bool.and_eq_true] at h
    obtain ⟨⟨h1, h2⟩, h3⟩ := h
    have qi := sE i C tk h2
    have qj := mAt_ok C h3
    exact okA_v C.hK (ok_idx2 C.hK (C.slot h1) qi.h qj.2 qi.d.v qj.1) rfl rfl
  | .slc a lo hi, M, X, W, C, tk, e, h => by
    unfold mE at h
    split at h <;> rename_i hx <;> first | (cases hx; done) | (cases h; done) | skip
    cases hx
    rename_i _ _ a' lo' hi' p2 pos
    rw [Bool.and_eq_true, Bool.and_eq_true] at h
    exact okA_v C.hK (ok_slc C.hK (sE a C tk h.1.1).o (sO lo C tk h.1.2) (sO hi C tk h.2)) rfl rfl
  | .call f es ks kes, M, X, W, C, tk, e, h => by
    unfold mE at h
    split at h <;> rename_i hx <;> first | (cases hx; done) | (cases h; done) | skip
    cases hx
    rename_i _ _ x p es' kws pos
    rw [Bool.and_eq_true, Bool.and_eq_true, Bool.and_eq_true, Bool.and_eq_true, Bool.and_eq_true, Bool.and_eq_true, Bool.and_eq_true, Bool.not_eq_true'] at h
    obtain ⟨⟨⟨⟨⟨⟨⟨h1, h2⟩, h3⟩, h4⟩, h5⟩, h6⟩, h7⟩, h8⟩ := h
    have e1 := of_decide_eq_true h2
    subst e1
    have hf := of_decide_eq_true h1
    have q := sL es C tk h5
    have qk := sL kes C tk h7
    obtain ⟨k1, k2⟩ := kwB_ok h6
    have hb := gf.fb f es.length ks (patIn_ok h8)
    rw [q.len] at hb
    refine okA_v C.hK (ok_call (C.call f hf) (hl f) C.room tk (by rw [C.hK]; exact hb) (C.gl h3) (by rw [C.hm]; exact gf.fm f hf) (by rw [C.hK]; exact gf.fk f hf) h4 (by rw [List.length_map]) k1 q.ds qk.ds k2 ?_) rfl rfl
    intro s e0 r z ez
    subst ez
    cases q with
    | cons a0 _ => exact a0.v s z
  | .bi b es, M, X, W, C, tk, e, h => by
    unfold mE at h
    split at h <;> rename_i hx <;> first | (cases hx; done) | (cases h; done) | skip
    cases hx
    rename_i _ _ x p es' pos
    rw [Bool.and_eq_true, Bool.and_eq_true, Bool.and_eq_true] at h
    obtain ⟨⟨⟨h1, h2⟩, h3⟩, h4⟩ := h
    have e1 := of_decide_eq_true h1
    subst e1
    have q := sL es C tk h3
    have hm : X.mg (biName b) = none := by rw [C.hm]; exact gf.bn b
    cases q with
    | nil => cases h4
    | @cons x0 e0 d0 xs es2 ds a0 k =>
      cases k with
      | nil => exact okA_v C.hK (ok_bi1 C.hK C.calm (C.gl h2) hm a0.h a0.o) rfl rfl
      | cons a1 k1 => exact okA_v C.hK (ok_bi C.hK C.calm (C.gl h2) hm (by simp) (OkAs.cons a0 (.cons a1 k1)).ds) rfl rfl
  | .isi e0 ts par nc, M, X, W, C, tk, e, h => by
    unfold mE at h
    split at h <;> rename_i hx <;> first | (cases hx; done) | (cases h; done) | skip
    cases hx
    rename_i _ _ x p e' t' pos
    rw [Bool.and_eq_true, Bool.and_eq_true, Bool.and_eq_true, Bool.and_eq_true] at h
    obtain ⟨⟨⟨⟨h0, h1⟩, h2⟩, h3⟩, h4⟩ := h
    have e0 := of_decide_eq_true h0
    subst e0
    have e1 := of_decide_eq_true h1
    subst e1
    have q := sE e0 C tk h3
    have hm : X.mg "isinstance" = none := by rw [C.hm]; exact gf.isi
    split at h4
    · rename_i t
      have h5 := tyB_ok gf C h4
      exact okA_v C.hK (ok_isi1 C.hK gf.kit h5.1 (C.gl h2) hm q.h (h5.2 []) q.d.v) rfl rfl
    · rw [Bool.and_eq_true] at h4
      obtain ⟨h5, h6⟩ := h4
      split at h6
      · exact okA_v C.hK (ok_isiT C.hK gf.kit (of_decide_eq_true h5) (C.gl h2) hm (tysB_ok gf C h6) q.h q.d.v) rfl rfl
      · cases h6
    · cases h4
  | .mkx c e0, M, X, W, C, tk, e, h => by
    unfold mE at h
    split at h <;> rename_i hx <;> first | (cases hx; done) | (cases h; done) | skip
    cases hx
    rename_i _ _ x p e' pos
    rw [Bool.and_eq_true, Bool.and_eq_true, Bool.and_eq_true, Bool.and_eq_true, Bool.not_eq_true'] at h
    obtain ⟨⟨⟨⟨h1, h2⟩, h3⟩, h4⟩, h5⟩ := h
    have hc := of_decide_eq_true h1
    have e2 := of_decide_eq_true h2
    subst e2
    have q := sE e0 C tk h5
    exact okA_v C.hK (ok_mkx (nc := G.nc) (by rw [C.hK]; exact gf.cx c hc) (by rw [C.hm]; exact gf.cm c (Nat.lt_of_lt_of_le hc gf.na)) (by rw [C.hK]; exact gf.ck c hc) (C.gl h3) h4 q.h q.d.v) rfl rfl
  | .comp elt pt own it cs, M, X, W, C, tk, e, h => by
    unfold mE at h
    split at h <;> rename_i hx <;> first | (cases hx; done) | (cases h; done) | skip
    cases hx
    rename_i _ _ elt' tg it' ifs isa scope pos
    rw [Bool.and_eq_true, Bool.and_eq_true, Bool.and_eq_true, Bool.and_eq_true, Bool.and_eq_true, Bool.and_eq_true, Bool.and_eq_true] at h
    obtain ⟨⟨⟨⟨⟨⟨⟨h1, h2⟩, h2b⟩, h3⟩, h4⟩, h5⟩, h6⟩, h7⟩ := h
    have e1 := of_decide_eq_true h1
    subst e1
    have qi := sE it C tk h2
    have L : LcOk K ad G.fld X W elt' tg it' ifs scope pt (ev G.fn G.glob cf it) (evL G.fn G.glob cf cs) (ev G.fn G.glob cf elt) := by
      refine ⟨qi.i tg fun z => ?_, fun s H c cl fp => PatOk.run (X := Xb X scope s H c cl fp) C.hK C.calm ((C.blk scope s H c cl fp).pat h3), ?_, fun s H c cl fp => (sE elt (C.blk scope s H c cl fp) takes0 h4).d.v⟩
      · rw [z] at h2b; exact h2b
      · have hlen := of_decide_eq_true h6
        match cs, ifs, h5, hlen with
        | [], [], _, _ => exact .inl ⟨rfl, rfl⟩
        | [], _ :: _, h5, _ => cases h5
        | [c], [], h5, _ => cases h5
        | [c], [c'], h5, _ =>
          refine .inr ⟨c', ev G.fn G.glob cf c, rfl, rfl, fun s H cc cl fp => ?_⟩
          unfold mL at h5
          rw [Bool.and_eq_true] at h5
          exact (sE c (C.blk scope s H cc cl fp) takes0 h5.1).d.t
        | [c], _ :: _ :: _, h5, _ =>
          unfold mL at h5
          rw [Bool.and_eq_true] at h5
          cases h5.2
        | _ :: _ :: _, _, _, hlen => simp at hlen
    have hb : BlkOk X.N X.env.scope scope (ownS M.N own) := by rw [C.hN, C.hs]; exact blkOk_by h7
    have := ok_comp (pos := pos) C.calm (by rw [C.hN]; exact C.nd) hb qi.h L
    have eo : (ownS M.N own).map (·.2) = own := by unfold ownS; rw [List.map_map]; exact List.map_id own
    rw [eo] at this
    exact okA_v C.hK this rfl rfl
  | .rng1 a, M, X, W, C, tk, e, h => by
    unfold mE at h
    split at h <;> rename_i hx <;> first | (cases hx; done) | (cases h; done) | skip
    cases hx
    rename_i _ _ x p a' pos
    rw [Bool.and_eq_true, Bool.and_eq_true] at h
    obtain ⟨⟨h1, h2⟩, h3⟩ := h
    have e1 := of_decide_eq_true h1
    subst e1
    have q := sE a C tk h3
    exact ⟨⟨fun _ _ _ _ _ _ _ _ r => r.elim, fun _ _ _ _ _ _ _ _ r => r.elim⟩, rfl, fun tg _ => oki_r1 (C.gl h2) (by rw [C.hm]; exact gf.rng) q.h q.d.v, fun s z => by cases z⟩
  | .rng2 a b, M, X, W, C, tk, e, h => by
    unfold mE at h
    split at h <;> rename_i hx <;> first | (cases hx; done) | (cases h; done) | skip
    cases hx
    rename_i _ _ x p a' b' pos
    rw [Bool.and_eq_true, Bool.and_eq_true, Bool.and_eq_true] at h
    obtain ⟨⟨⟨h1, h2⟩, h3⟩, h4⟩ := h
    have e1 := of_decide_eq_true h1
    subst e1
    have q := sE a C tk h3
    have q2 := sE b C tk h4
    exact ⟨⟨fun _ _ _ _ _ _ _ _ r => r.elim, fun _ _ _ _ _ _ _ _ r => r.elim⟩, rfl, fun tg _ => oki_r2 (C.gl h2) (by rw [C.hm]; exact gf.rng) q.h q2.h q.d.v q2.d.v, fun s z => by cases z⟩
  | .enum a, M, X, W, C, tk, e, h => by
    unfold mE at h
    split at h <;> rename_i hx <;> first | (cases hx; done) | (cases h; done) | skip
    cases hx
    rename_i _ _ x p a' pos
    rw [Bool.and_eq_true, Bool.and_eq_true] at h
    obtain ⟨⟨h1, h2⟩, h3⟩ := h
    have e1 := of_decide_eq_true h1
    subst e1
    have q := sE a C tk h3
    refine ⟨⟨fun _ _ _ _ _ _ _ _ r => r.elim, fun _ _ _ _ _ _ _ _ r => r.elim⟩, rfl, fun tg z => ?_, fun s z => by cases z⟩
    have z' := z rfl
    cases tg <;> first | (cases z'; done) | skip
    exact oki_enum C.hK (C.gl h2) (by rw [C.hm]; exact gf.enu) q.h q.d.v
  | .zip a b, M, X, W, C, tk, e, h => by
    unfold mE at h
    split at h <;> rename_i hx <;> first | (cases hx; done) | (cases h; done) | skip
    cases hx
    rename_i _ _ x p a' b' pos
    rw [Bool.and_eq_true, Bool.and_eq_true, Bool.and_eq_true] at h
    obtain ⟨⟨⟨h1, h2⟩, h3⟩, h4⟩ := h
    have e1 := of_decide_eq_true h1
    subst e1
    have q := sE a C tk h3
    have q2 := sE b C tk h4
    refine ⟨⟨fun _ _ _ _ _ _ _ _ r => r.elim, fun _ _ _ _ _ _ _ _ r => r.elim⟩, rfl, fun tg z => ?_, fun s z => by cases z⟩
    have z' := z rfl
    cases tg <;> first | (cases z'; done) | skip
    exact oki_zip C.hK (C.gl h2) (by rw [C.hm]; exact gf.zip) q.h q2.h q.d.v q2.d.v
  | .rng3 a b c, M, X, W, C, tk, e, h => by
    unfold mE at h
    split at h <;> rename_i hx <;> first | (cases hx; done) | (cases h; done) | skip
    cases hx
    rename_i _ _ x p a' b' c' pos
    rw [Bool.and_eq_true, Bool.and_eq_true, Bool.and_eq_true, Bool.and_eq_true] at h
    obtain ⟨⟨⟨⟨h1, h2⟩, h3⟩, h4⟩, h5⟩ := h
    have e1 := of_decide_eq_true h1
    subst e1
    have q := sE a C tk h3
    have q2 := sE b C tk h4
    have q3 := sE c C tk h5
    exact ⟨⟨fun _ _ _ _ _ _ _ _ r => r.elim, fun _ _ _ _ _ _ _ _ r => r.elim⟩, rfl, fun tg _ => oki_r3 (C.gl h2) (by rw [C.hm]; exact gf.rng) q.h q2.h q3.h q.d.v q2.d.v q3.d.v, fun s z => by cases z⟩
  | .cnt s b, M, X, W, C, tk, e, h => by
    unfold mE at h
    split at h <;> rename_i hx <;> first | (cases hx; done) | (cases h; done) | skip
    cases hx
    rename_i _ _ x p m apos b' pos
    rw [Bool.and_eq_true, Bool.and_eq_true, Bool.and_eq_true] at h
    obtain ⟨⟨⟨h1, h2⟩, h3⟩, h4⟩ := h
    have e1 := of_decide_eq_true h1
    subst e1
    have q := sE b C tk h4
    exact okA_v C.hK (ok_cnt C.hK (C.slot h3) rfl h2 q.h q.d.v) rfl rfl
  | .dnil, M, X, W, C, tk, e, h => by
    unfold mE at h
    split at h <;> rename_i hx <;> first | (cases hx; done) | (cases h; done) | skip
    exact okA_v C.hK ok_dnil rfl rfl
  | .keys s, M, X, W, C, tk, e, h => by
    unfold mE at h
    split at h <;> rename_i hx <;> first | (cases hx; done) | (cases h; done) | skip
    cases hx
    rename_i _ _ x p y p2 pos
    rw [Bool.and_eq_true, Bool.and_eq_true] at h
    obtain ⟨⟨h1, h2⟩, h3⟩ := h
    have e1 := of_decide_eq_true h1
    subst e1
    exact okA_v C.hK (ok_keys C.calm (C.gl h2) (by rw [C.hm]; exact gf.bn .list) (C.slot h3) rfl) rfl rfl
  | .view a, M, X, W, C, tk, e, h => by
    unfold mE at h
    have q := sE a C tk h
    exact ⟨ok_view q.d, q.h, fun tg _ => oki_bad, fun s z => by cases z⟩
  | .opq, M, X, W, C, tk, e, h => by
    unfold mE at h
    exact okA_opq h
theorem sL : ∀ (xs : List Ex) {M : Mx} {X : Cx} {W : WX}, Cc G K mg ad fa fd cf n M X → Takes X W → ∀ {es : List Expr}, mL G M xs es = true → OkAs K ad G.fld X W xs es (evL G.fn G.glob cf xs)
  | [], M, X, W, C, tk, es, h => by
    cases es with
    | nil => exact .nil
    | cons => cases h
  | x :: xs, M, X, W, C, tk, es, h => by
    cases es with
    | nil => cases h
    | cons e es =>
      unfold mL at h
      rw [Bool.and_eq_true] at h
      exact .cons (sE x C tk h.1) (sL xs C tk h.2)
theorem sO : ∀ (o : Option Ex) {M : Mx} {X : Cx} {W : WX}, Cc G K mg ad fa fd cf n M X → Takes X W → ∀ {e : Option Expr}, mO G M o e = true → OkP K ad G.fld X W e (evO G.fn G.glob cf o)
  | none, M, X, W, C, tk, e, h => by
    cases e with
    | none => exact trivial
    | some => cases h
  | some x, M, X, W, C, tk, e, h => by
    cases e with
    | none => cases h
    | some e => exact (sE x C tk h).d.v
end
/-- a comprehension's parts -/
theorem sC {M : Mx} {X : Cx} {W : WX} {elt it : Ex} {pt : Pat} {own : List Nat} {cs : List Ex} {elt' tg it' : Expr} {ifs : List Expr} {isa : Int} {scope : Scope} {pos : Pos} (C : Cc G K mg ad fa fd cf n M X) (tk : Takes X W) (h : mE G M (.comp elt pt own it cs) (.ListComp elt' [⟨tg, it', ifs, isa⟩] scope pos) = true) :
    isa = 0 ∧ hd it' = true ∧ BlkOk X.N X.env.scope scope (ownS M.N own) ∧ LcOk K ad G.fld X W elt' tg it' ifs scope pt (ev G.fn G.glob cf it) (evL G.fn G.glob cf cs) (ev G.fn G.glob cf elt) := by
  unfold mE at h
  rw [Bool.and_eq_true, Bool.and_eq_true, Bool.and_eq_true, Bool.and_eq_true, Bool.and_eq_true, Bool.and_eq_true, Bool.and_eq_true] at h
  obtain ⟨⟨⟨⟨⟨⟨⟨h1, h2⟩, h2b⟩, h3⟩, h4⟩, h5⟩, h6⟩, h7⟩ := h
  have e1 := of_decide_eq_true h1
  have qi := sE hl gf it C tk h2
  refine ⟨e1, qi.h, by rw [C.hN, C.hs]; exact blkOk_by h7, qi.i tg fun z => ?_, fun s H c cl fp => PatOk.run (X := Xb X scope s H c cl fp) C.hK C.calm ((C.blk scope s H c cl fp).pat h3), ?_, fun s H c cl fp => (sE hl gf elt (C.blk scope s H c cl fp) takes0 h4).d.v⟩
  · rw [z] at h2b; exact h2b
  · have hlen := of_decide_eq_true h6
    match cs, ifs, h5, hlen with
    | [], [], _, _ => exact .inl ⟨rfl, rfl⟩
    | [], _ :: _, h5, _ => cases h5
    | [c], [], h5, _ => cases h5
    | [c], [c'], h5, _ =>
      refine .inr ⟨c', ev G.fn G.glob cf c, rfl, rfl, fun s H cc cl fp => ?_⟩
      unfold mL at h5
      rw [Bool.and_eq_true] at h5
      exact (sE hl gf c (C.blk scope s H cc cl fp) takes0 h5.1).d.t
    | [c], _ :: _ :: _, h5, _ =>
      unfold mL at h5
      rw [Bool.and_eq_true] at h5
      cases h5.2
    | _ :: _ :: _, _, _, hlen => simp at hlen
end
end Pl

set_option Elab.async false
set_option linter.all false
set_option autoImplicit false
set_option maxRecDepth 100000
set_option maxHeartbeats 4000000
namespace Pl
open PySem PySem.Spec PyProof.Rows L2

def lineOf : Expr → Nat
  | .Name _ p => p.line
  | _ => 0
theorem not_star : ∀ {e : Expr}, hd e = true → (match e with | .Starred value pos => true | _ => false) = false := by
  intro e h
  cases e <;> first | (cases h; done) | rfl
theorem swapped2 {x y : Str} {px py pt pt2 : Pos} {kt k2 : Nat} {a b : Expr} {env : PySem.Env} (hk : env.scope.kind = .function) (hx : env.scope.names.lookup x = some .local) (hy : env.scope.names.lookup y = some .local) (hl : py.line = px.line) (hne : x ≠ y) (ha : hd a = true) (hb : hd b = true)
    (hf : (foldedForSure 8 a && foldedForSure 8 b) = false) (hc : (constantsAlone 8 a && constantsAlone 8 b) = false) : swappedStores [.Tuple [.Name x px, .Name y py] kt pt] (.Tuple [a, b] k2 pt2) env = pure (some [x, y]) := by
  have hbk : env.blockKind = .function := by
    unfold Env.blockKind
    rw [hk]
    rfl
  have kx : env.kindOf x = some .local := hx
  have ky : env.kindOf y = some .local := hy
  have s1 := not_star ha
  have s2 := not_star hb
  have hd2 : ([x, y] : List Str).eraseDups.length = 2 := by
    have : ([x, y] : List Str).eraseDups = [x, y] := by simp [List.eraseDups_cons, hne.symm]
    rw [this]; rfl
  have p1 : (Expr.Name x px).pos = px := rfl
  unfold swappedStores
  simp [hbk, kx, ky, s1, s2, hl, hd2, p1]
  simp only [Bool.and_eq_false_iff] at hf hc
  have h1 : ¬ (foldedForSure 8 a = true ∧ foldedForSure 8 b = true) := by
    rintro ⟨q1, q2⟩
    rcases hf with z | z <;> simp_all
  have h2 : ¬ (constantsAlone 8 a = true ∧ constantsAlone 8 b = true) := by
    rintro ⟨q1, q2⟩
    rcases hc with z | z <;> simp_all
  rw [if_neg h1, if_neg h2]
  refine if_neg ?_
  rintro (q | q)
  · exact Bool.false_ne_true (s1.symm.trans q)
  · exact Bool.false_ne_true (s2.symm.trans q)
theorem swapped3 {x y z : Str} {px py pz pt pt2 : Pos} {kt k2 : Nat} {a b c : Expr} {env : PySem.Env} (hk : env.scope.kind = .function) (hx : env.scope.names.lookup x = some .local) (hy : env.scope.names.lookup y = some .local) (hz : env.scope.names.lookup z = some .local) (hl : py.line = px.line) (hl2 : pz.line = px.line) (hne : x ≠ y) (hne2 : x ≠ z) (hne3 : y ≠ z) (ha : hd a = true) (hb : hd b = true) (hcc : hd c = true)
    (hf : (foldedForSure 8 a && foldedForSure 8 b && foldedForSure 8 c) = false) (hc : (constantsAlone 8 a && constantsAlone 8 b && constantsAlone 8 c) = false) : swappedStores [.Tuple [.Name x px, .Name y py, .Name z pz] kt pt] (.Tuple [a, b, c] k2 pt2) env = pure (some [x, y, z]) := by
  have hbk : env.blockKind = .function := by
    unfold Env.blockKind
    rw [hk]
    rfl
  have kx : env.kindOf x = some .local := hx
  have ky : env.kindOf y = some .local := hy
  have kz : env.kindOf z = some .local := hz
  have s1 := not_star ha
  have s2 := not_star hb
  have s3 := not_star hcc
  have hd2 : ([x, y, z] : List Str).eraseDups.length = 3 := by
    have : ([x, y, z] : List Str).eraseDups = [x, y, z] := by simp [List.eraseDups_cons, hne.symm, hne2.symm, hne3.symm]
    rw [this]; rfl
  have p1 : (Expr.Name x px).pos = px := rfl
  unfold swappedStores
  simp [hbk, kx, ky, kz, s1, s2, s3, hl, hl2, hd2, p1]
  simp only [Bool.and_eq_false_iff] at hf hc
  have h1 : ¬ (foldedForSure 8 a = true ∧ foldedForSure 8 b = true ∧ foldedForSure 8 c = true) := by
    rintro ⟨q1, q2, q3⟩
    rcases hf with (z | z) | z <;> simp_all
  have h2 : ¬ (constantsAlone 8 a = true ∧ constantsAlone 8 b = true ∧ constantsAlone 8 c = true) := by
    rintro ⟨q1, q2, q3⟩
    rcases hc with (z | z) | z <;> simp_all
  rw [if_neg h1, if_neg h2]
  refine if_neg ?_
  rintro (q | q | q)
  · exact Bool.false_ne_true (s1.symm.trans q)
  · exact Bool.false_ne_true (s2.symm.trans q)
  · exact Bool.false_ne_true (s3.symm.trans q)
end Pl

set_option Elab.async false
set_option linter.all false
set_option autoImplicit false
set_option maxRecDepth 100000
set_option maxHeartbeats 4000000
namespace Pl
open PySem PySem.Spec PyProof.Rows L2
section
variable {G : Pg} {K : PySem.W.Frag} {mg : Str → Option Value} {ad fa : Nat → Addr} {fd : Nat → FuncData} {cf : Nat → List D → Ret} {n : Nat} {M : Mx} {X : Cx} {W : WX} {kz : Bool}
/-- isinstance(e, C), C an own error class or ValueError -/
def is1 (G : Pg) (M : Mx) (i : Nat) (t : Ty) : Expr → Bool
  | .Call (.Name x _) [.Name y _, .Name z _] [] _ => decide (x = "isinstance") && glB M.sc x && slotB M i y && glB M.sc z && (match t with
    | .cls c => decide (c < G.nc) && decide (z = G.cname c) && !(z == ("__debug__" : Str))
    | .verr => decide (z = "ValueError")
    | _ => false)
  | _ => false
def isAll (G : Pg) (M : Mx) (i : Nat) : List Ty → List Expr → Bool
  | [], [] => true
  | t :: ts, e :: es => is1 G M i t e && isAll G M i ts es
  | _, _ => false
def mIs (G : Pg) (M : Mx) (i : Nat) (ts : List Ty) : Expr → Bool
  | .BoolOp .And es _ => isAll G M i ts es && decide (2 ≤ ts.length)
  | e => match ts with
    | [t] => is1 G M i t e
    | _ => false
theorem Cc.slotS (C : Cc G K mg ad fa fd cf n M X) {i : Nat} {x : Str} {pos : Pos} {a : Addr} {pn : List (Addr × Obj)} (h : slotB M i x = true) : PE (X.suite a pn) (.Name x pos) (tVar i) := by
  unfold slotB at h
  rw [Bool.and_eq_true, Bool.and_eq_true, Bool.and_eq_true, Bool.not_eq_true', Bool.not_eq_true'] at h
  obtain ⟨⟨⟨h1, h2⟩, h3⟩, h4⟩ := h
  refine pe_var (X := X.suite a pn) (by show X.N[i]? = some x; rw [C.hN]; exact of_decide_eq_true h1) ?_ h3 h4
  show Vis X.env.scope x
  unfold Vis
  rw [C.hs]
  unfold visB at h2
  split at h2
  · exact .inl (by assumption)
  · exact .inr (.inl (by assumption))
  · exact .inr (.inr (by assumption))
  · cases h2
theorem is1_ok (gf : Gf G K mg ad fa fd) (C : Cc G K mg ad fa fd cf n M X) {i k : Nat} {t : Ty} {e : Expr} (h : is1 G M i t e = true) (hk : k < G.nc) {a : Addr} {oe : Obj} {pn : List (Addr × Obj)} (hz : Zc (.ref (ad k)) none oe) (hf : ∃ vs, oe.data = .fields vs) {σ : L2.St} {H : Hp} {Q : VK} (hσ : σ[i]? = some (some (.ref a))) (q : Q (.bl (isTy t (.exc k []))) H) :
    WV (X.suite a ((a, oe) :: pn)) e σ H Q := by
  unfold is1 at h
  split at h
  · rename_i x p1 y p2 z p3 pos
    rw [Bool.and_eq_true, Bool.and_eq_true, Bool.and_eq_true, Bool.and_eq_true] at h
    obtain ⟨⟨⟨⟨h1, h2⟩, h3⟩, h4⟩, h5⟩ := h
    have e1 := of_decide_eq_true h1
    subst e1
    have hm : X.mg "isinstance" = none := by rw [C.hm]; exact gf.isi
    have ec : ExcC X.K (ad k) := by rw [C.hK]; exact gf.cc k hk
    split at h5
    · rename_i c
      rw [Bool.and_eq_true, Bool.and_eq_true, Bool.not_eq_true'] at h5
      obtain ⟨⟨c1, c2⟩, c3⟩ := h5
      have e2 := of_decide_eq_true c2
      subst e2
      have hc := of_decide_eq_true c1
      refine wv (pe_callB (X := X.suite a ((a, oe) :: pn)) (id := "isinstance") (call_isE ec hz hf) (C.gl h2) hm isi_boot (pa_cons (C.slotS h3) (pa_cons (pe_glob (X := X.suite a ((a, oe) :: pn)) (v := .ref (ad c)) (C.gl h4) (by show X.mg _ = _; rw [C.hm]; exact gf.cm c (Nat.lt_of_lt_of_le hc gf.na)) rfl c3) pa_nil)) (by decide) (by decide) rfl rfl) ?_
      exact ⟨.ref a, hσ, .ref (ad c), .ref (ad c), _, rfl, fun u hu => hu, by rw [C.hK]; exact gf.ki k c hk (Nat.lt_of_lt_of_le hc gf.na), q⟩
    · have e2 := of_decide_eq_true h5
      subst e2
      refine wv (pe_callB (X := X.suite a ((a, oe) :: pn)) (id := "isinstance") (call_isE ec hz hf) (C.gl h2) hm isi_boot (pa_cons (C.slotS h3) (pa_cons (pe_bltn (X := X.suite a ((a, oe) :: pn)) (v := .ty "ValueError") (C.gl h4) (by show X.mg _ = _; rw [C.hm]; exact gf.ver) ver_boot rfl (by decide) (by decide)) pa_nil)) (by decide) (by decide) rfl rfl) ?_
      exact ⟨.ref a, hσ, .ty "ValueError", .type "ValueError", _, rfl, fun u hu => hu, by rw [C.hK]; exact gf.kv k hk, q⟩
    · cases h5
  · cases h
theorem isAll_ok (gf : Gf G K mg ad fa fd) (C : Cc G K mg ad fa fd cf n M X) {i k : Nat} (hk : k < G.nc) {a : Addr} {oe : Obj} {pn : List (Addr × Obj)} (hz : Zc (.ref (ad k)) none oe) (hf : ∃ vs, oe.data = .fields vs) {σ : L2.St} {H : Hp} (hσ : σ[i]? = some (some (.ref a))) {pos : Pos} :
    ∀ {ts : List Ty} {es : List Expr} {Q : VK}, isAll G M i ts es = true → ts ≠ [] → Q (.bl (ts.all fun t => isTy t (.exc k []))) H → WV (X.suite a ((a, oe) :: pn)) (.BoolOp .And es pos) σ H Q
  | [], _, _, _, hne, _ => absurd rfl hne
  | [t], es, Q, h, _, q => by
    match es, h with
    | [e], h =>
      unfold isAll at h
      rw [Bool.and_eq_true] at h
      refine wv (pe_one pw) (is1_ok gf C h.1 hk hz hf hσ ?_)
      have : (isTy t (.exc k []) && true) = isTy t (.exc k []) := Bool.and_true _
      rw [← this]
      exact q
    | e :: e2 :: es, h =>
      unfold isAll at h
      rw [Bool.and_eq_true] at h
      cases h.2
  | t :: t2 :: ts, es, Q, h, _, q => by
    match es, h with
    | e :: e2 :: es, h =>
      unfold isAll at h
      rw [Bool.and_eq_true] at h
      refine wv (pe_and pw pw) (is1_ok gf C h.1 hk hz hf hσ ⟨_, rfl, ?_⟩)
      have q' : Q (.bl (isTy t (.exc k []) && (t2 :: ts).all fun t => isTy t (.exc k []))) H := q
      cases e1 : isTy t (.exc k []) with
      | false => rw [e1] at q'; exact iteF q'
      | true => rw [e1] at q'; exact iteT (isAll_ok gf C hk hz hf hσ h.2 (by simp) q')
    | [e], h =>
      unfold isAll at h
      rw [Bool.and_eq_true] at h
      cases h.2
theorem mIs_ok (gf : Gf G K mg ad fa fd) (C : Cc G K mg ad fa fd cf n M X) {i k : Nat} {ts : List Ty} {e : Expr} (h : mIs G M i ts e = true) (hk : k < G.nc) {a : Addr} {oe : Obj} {pn : List (Addr × Obj)} (hz : Zc (.ref (ad k)) none oe) (hf : ∃ vs, oe.data = .fields vs) {σ : L2.St} {H : Hp} {Q : VK} (hσ : σ[i]? = some (some (.ref a))) (q : Q (.bl (ts.all fun t => isTy t (.exc k []))) H) :
    WV (X.suite a ((a, oe) :: pn)) e σ H Q := by
  unfold mIs at h
  split at h
  · rw [Bool.and_eq_true] at h
    refine isAll_ok gf C hk hz hf hσ h.1 (fun z => ?_) q
    rw [z] at h
    have := of_decide_eq_true h.2
    simp at this
  · split at h
    · rename_i t
      refine is1_ok gf C h hk hz hf hσ ?_
      have : (isTy t (.exc k []) && true) = isTy t (.exc k []) := Bool.and_true _
      rw [← this]
      exact q
    · cases h
def Xt (X : Cx) (body : List Stmt) (W : WX) : TS := fun D σ H => ∀ (pn : List (Addr × Obj)) (xe : Value → Shared → Prop), Takes (X.tr pn xe) W → PassesOwn (model X.prog X.w) X.A X.env xe → WB (X.tr pn xe) body D σ H
def Xs (X : Cx) (suite : List Stmt) (a : Addr) (cls : Value) (d : Option Addr) : TS := fun D σ H => ∀ (oe : Obj) (pn : List (Addr × Obj)), Zc cls d oe → (∃ vs, oe.data = .fields vs) → WB (X.suite a ((a, oe) :: pn)) suite D σ H
theorem pXt {body : List Stmt} : ∀ (W : WX) (pn : List (Addr × Obj)) (xe : Value → Shared → Prop), Takes (X.tr pn xe) W → PassesOwn (model X.prog X.w) X.A X.env xe → PSs (X.tr pn xe) body (Xt X body W) := fun W pn xe tk po => ⟨fun pins s σ H D I h => h pn xe tk po pins s I⟩
theorem pXs {suite : List Stmt} : ∀ (a : Addr) (oe : Obj) (cls : Value) (d : Option Addr) (pn : List (Addr × Obj)), Zc cls d oe → (∃ vs, oe.data = .fields vs) → PSs (X.suite a ((a, oe) :: pn)) suite (Xs X suite a cls d) := fun a oe cls d pn hz hf => ⟨fun pins s σ H D I h => h oe pn hz hf pins s I⟩
theorem SR.try {o : SOut} {c nc : Nat} {su : Su} {F H : Hp} {A : List Addr} {σ : L2.St} {D : Ends} {W' : WX} (h : SR K ad G.fld kz F H A σ D W (tryGo c nc su o))
    (q : ∀ k fs ρ1, k < nc → SR K ad G.fld kz F H A σ D W (match decide (c = 0) || decide (c = k) with | true => suRun su k fs ρ1 | false => .exc k fs ρ1) → ∀ dd σ' F' H' A', Go F H A F' H' A' → RE K ad F' H' σ' ρ1 A' → XR K ad G.fld F' k fs dd → (kz = true → σ'[0]? = σ[0]?) → W' (.ref (ad k)) dd σ' H') : SR K ad G.fld kz F H A σ D W' o := by
  cases o with
  | nx ρ' => exact h
  | bk ρ' => exact h
  | ct ρ' => exact h
  | rt d ρ' => exact h
  | bad => exact h
  | exc k fs ρ1 =>
    cases e : decide (k < nc) with
    | false =>
      unfold tryGo at h
      simp only [e] at h
      exact (show False from h).elim
    | true =>
      refine q k fs ρ1 (of_decide_eq_true e) ?_
      unfold tryGo at h
      simp only [e] at h
      cases e2 : decide (c = 0) || decide (c = k) <;> simp only [e2] at h ⊢ <;> exact h
theorem ok_try_is (gf : Gf G K mg ad fa fd) (C : Cc G K mg ad fa fd cf n M X) (stk : X.stack = X.env :: X.outer) (frm : X.env.frame = some X.env.locals) {x nm : Str} {c i : Nat} {ts : List Ty} {body : List Stmt} {E : Expr} {rp np pos pos' : Pos} {mb : Env → SOut} (tk : Takes X W) (hi : X.N[i]? = some nm) (hl : X.env.kindOf nm = some .local) (hc : c < G.nc) (hx : x = G.cname c) (hg : glB M.sc x = true) (hdb : (x == ("__debug__" : Str)) = false) (hk0 : kz = true → own0.contains i = true) (hE : mIs G M i ts E = true)
    (ob : ∀ (W' : WX) (pn : List (Addr × Obj)) (xe : Value → Shared → Prop), Takes (X.tr pn xe) W' → PassesOwn (model X.prog X.w) X.A X.env xe → OkB K ad G.fld kz (X.tr pn xe) W' body mb) :
    OkS K ad G.fld kz X W (.Try body [.ExceptHandler (some (.Name x np)) (some nm) [.Return (some E) rp] pos'] [] [] pos) (fun ρ => tryGo c G.nc (.retIs i ts) (mb ρ)) := by
  intro ρ F H σ A D w re h
  have hnm : Names X x (.ref (ad c)) := ⟨C.gl hg, hdb, .inl (by rw [C.hm, hx]; exact gf.cm c (Nat.lt_of_lt_of_le hc gf.na))⟩
  refine ws (ps_try_as stk frm (by rw [C.hN]; exact C.nd) hi hl hnm tk pXt pXs) ?_
  intro pn xe tk' po'
  refine ob _ pn xe tk' po' ρ F H σ A D w re (SR.try h fun k fs ρ1 hk hs dd σ' F' H' A' g' re' xr kp => ?_)
  refine ⟨_, by rw [C.hK]; exact gf.ke k c hk hc, fun hb a ha => ?_, fun hb => ?_⟩
  · simp only [hb] at hs
    intro oe pn2 hz hf
    cases fs with
    | cons => exact (show False from hs).elim
    | nil =>
      have ed : dd = none := by
        rcases xr with ⟨_, z⟩ | ⟨_, _, _, z, _⟩
        · exact z
        · cases z
      subst ed
      refine wb (pss_cons (ps_ret pw) pss_nil) ?_
      unfold suRun at hs
      cases ei : decide (i < ρ1.length) with
      | false => simp only [ei] at hs; exact (show False from hs).elim
      | true =>
      simp only [ei] at hs
      have hil : i < σ'.length := by
        rw [re'.len]
        exact of_decide_eq_true ei
      refine mIs_ok gf C hE hk hz hf (by rw [List.getElem?_set_self hil]) ?_
      obtain ⟨A2, s2, r2⟩ := re'.lose i (some (.ref a))
      exact hs (.bl _) _ F' H' A2 [] (by rw [List.append_nil]; exact g'.drop s2) r2 (.p (.bl _)) fun z => by rw [set0 (hk0 z)]; exact kp z
  · simp only [hb] at hs
    exact hs dd σ' F' H' A' g' re' xr kp
end
end Pl

set_option Elab.async false
set_option linter.all false
set_option autoImplicit false
set_option maxRecDepth 100000
set_option maxHeartbeats 4000000
namespace Pl
open PySem PySem.Spec PyProof.Rows L2
/-- an error object that was raised and caught -/
def ExK (cls : Value) (a : Addr) : HO := .ext fun h => ∃ (oe : Obj) (vs : Array Value), h.get? a = some oe ∧ Zc cls none oe ∧ oe.data = .fields vs
theorem exK_L (cls : Value) (a : Addr) : ExL cls a (ExK cls a) := ⟨_, rfl, fun _ z => z⟩
section
variable {X : Cx} {pins : List (Addr × Obj)} {σ : L2.St} {H : Hp} {s : Shared}
/-- the suite is left, its error stays pinned -/
theorem unsuiteK {a : Addr} {q : Addr × Obj} {pn' : List (Addr × Obj)} (I : Inv (X.suite a (q :: (X.pn ++ pins))) pn' σ H s) (ok : X.Ok) : Inv X (pins ++ [q]) σ H s := by
  refine ⟨ok, I.os, I.bare, I.base, I.loc, I.cell, I.free, I.freeC, fun p hp => I.pin p ?_, I.hok, I.len⟩
  refine List.mem_append_left _ ?_
  rcases List.mem_append.mp hp with h | h
  · exact List.mem_cons_of_mem _ (List.mem_append_left _ h)
  · rcases List.mem_append.mp h with h | h
    · exact List.mem_cons_of_mem _ (List.mem_append_right _ h)
    · rw [List.mem_singleton.mp h]
      exact List.mem_cons_self
/-- .. and is tracked from here on -/
theorem trackK {cls : Value} {a : Addr} {oe : Obj} {vs : Array Value} (I : Inv X (pins ++ [(a, oe)]) σ H s) (hz : Zc cls none oe) (hd : oe.data = .fields vs) (n0 : ∀ o, X.s_0.heap.get? a = some o → a ∈ X.ex) (np : ∀ p ∈ X.pn ++ pins, p.1 ≠ a) :
    Inv X pins σ (upd H a (ExK cls a)) s := by
  obtain ⟨ha, na, nL, nF, _⟩ := I.pin (a, oe) (List.mem_append_right _ (List.mem_append_right _ List.mem_cons_self))
  have B := I.base
  refine ⟨I.ok, I.os, I.bare, ⟨B.keep, B.slot, fun b o e n hb => ?_, B.there, fun b xs e => ?_, fun b o u e => ?_, fun b ps e => ?_⟩, I.loc, I.cell, ?_, fun x c e => ?_, fun p hp => ?_, ?_, I.len⟩
  · rw [upd_ne fun z => by subst z; exact hb (n0 o e)]
    exact B.free b o e n hb
  · have q := B.tups b xs e
    rw [upd_ne fun z => by rw [z, na] at q; cases q]
    exact q
  · have q := B.frzs b o u e
    rw [upd_ne fun z => by rw [z, na] at q; cases q]
    exact q
  · obtain ⟨m, q⟩ := B.tbls b ps e
    exact ⟨m, by rw [upd_ne fun z => by rw [z, na] at q; cases q]; exact q⟩
  · rw [upd_ne nL.symm]
    exact I.free
  · rw [upd_ne fun z => ?_]
    · exact I.freeC x c e
    · obtain ⟨v, o, ho, hc⟩ := I.cell x c e
      rw [z, show s.heap.get? a = some oe from ha] at ho
      cases ho
      rw [hd] at hc
      cases hc
  · obtain ⟨e, n, ne, nf, d⟩ := I.pin p (by
      rcases List.mem_append.mp hp with h | h
      · exact List.mem_append_left _ h
      · exact List.mem_append_right _ (List.mem_append_left _ h))
    exact ⟨e, by rw [upd_ne (np p hp)]; exact n, ne, nf, d⟩
  · exact I.hok.laidN (fun b u e => e) na ⟨⟨oe, vs, ha, hz, hd⟩, ⟨oe, ha⟩, fun h1 h2 ⟨o, v, q, r⟩ k => ⟨o, v, k o q, r⟩⟩
end
/-- what the clause 'except x as n' wishes, where n's object is kept and the suite ends -/
def wKp (K : PySem.W.Frag) (c : Value) (i : Nat) (ts : Addr → Value → Option Addr → TS) (Wout : WX) (D : Ends) : WX := fun cls d σ H =>
  ∃ b, PySem.W.exmOne K cls c = some b ∧ (b = true → d = none ∧ ∀ a, H a = none → ts a cls d ⟨fun σ' H' => D.nx (σ'.set i none) (upd H' a (ExK cls a)), fun _ _ => False, fun _ _ => False, fun _ _ => False⟩ (σ.set i (some (.ref a))) H) ∧ (b = false → Wout cls d σ H)
section
variable {X : Cx} {x n : Str} {c : Value} {i : Nat} {body suite : List Stmt} {b₀ : Stmt} {np pos pos' : Pos} {tb : WX → TS} {ts : Addr → Value → Option Addr → TS} {Wout : WX}
theorem ps_try_keep (hs : X.stack = X.env :: X.outer) (hf : X.env.frame = some X.env.locals) (hN : X.N.Nodup) (hi : X.N[i]? = some n) (hln : X.env.kindOf n = some .local) (hc : Names X x c) (tk : Takes X Wout)
    (tryB : ∀ (W : WX) (pn : List (Addr × Obj)) (xe : Value → Shared → Prop), Takes (X.tr pn xe) W → PassesOwn (model X.prog X.w) X.A X.env xe → PSs (X.tr pn xe) body (tb W))
    (suB : ∀ (a : Addr) (oe : Obj) (cls : Value) (d : Option Addr) (pn : List (Addr × Obj)), Zc cls d oe → (∃ vs, oe.data = .fields vs) → PSs (X.suite a ((a, oe) :: pn)) (b₀ :: suite) (ts a cls d)) :
    PS X (.Try body [.ExceptHandler (some (.Name x np)) (some n) (b₀ :: suite) pos'] [] [] pos) (fun D σ H => tb (wKp X.K c i ts Wout D) D σ H) := by
  refine ⟨fun pins st σ H D I hh => ?_⟩
  have okX := I.ok
  have frX : X.A.frames = some (X.env :: X.outer) := by rw [okX.frames, hs]
  refine wpAny_Try_except ?_
  refine wpAny_mono ((tryB (wKp X.K c i ts Wout D) (X.pn ++ pins) (fun e t1 => wpAny (model X.prog X.w) X.A (noteFrame e X.env) (fun _ t2 => wpAny (model X.prog X.w) X.A (setFlight e none) (fun _ t3 => wpAny (model X.prog X.w) X.A (handleBy e X.env [.ExceptHandler (some (.Name x np)) (some n) (b₀ :: suite) pos']) (SP X pins D) X.xe t3) X.xe t2) X.xe t1) (fun u t' air => ?_) PassesOwn.looking).run [] st σ H D (I.toTry _) hh) (fun f t1 fine => ?_) (fun _ _ z => z)
  · obtain ⟨a, B, sI, pins', σ', H', cls, d, rfl, Jt, nb, up, sky, na, os, ag, b, bt, yes, no⟩ := air
    have J : Inv X pins σ' H' sI := Jt.ofTry okX
    have skyX : Sky B (X.env :: X.outer) a (Zc cls d) X.env.locals t'.heap := hs ▸ sky
    refine Sky.land Zc.steady frX hf skyX fun h3 fl3 up3 => ?_
    have J3 : Inv X pins σ' H' { t' with heap := h3 } := J.landed nb fl3.1 (up.trans up3) os ag
    obtain ⟨oe3, vs3, he3, hz3, hd3⟩ := fl3.there
    have nfr : a ∉ frs (X.env :: X.outer) := fun hm => by
      obtain ⟨_, o2, e2, hnf⟩ := fl3.2.2.1.mem hm
      rw [he3] at e2
      cases e2
      exact hnf _ hd3
    have nL : a ≠ X.env.locals := fun z => nfr (List.mem_filterMap.mpr ⟨X.env, List.mem_cons_self, by rw [hf, z]⟩)
    have nF : a ∉ X.fs := fun hm => by
      obtain ⟨e, hin, q⟩ := List.mem_filterMap.mp hm
      exact nfr (List.mem_filterMap.mpr ⟨e, List.mem_cons_of_mem _ hin, q⟩)
    have aB : B.get? a = none := fl3.2.1
    have aI : ∀ o, sI.heap.get? a ≠ some o := fun o e => by
      have z := nb a o e (hs ▸ nfr)
      rw [aB] at z
      cases z
    have n0 : ∀ o, X.s_0.heap.get? a = some o → a ∈ X.ex := fun o e => Classical.byContradiction fun hx => by
      obtain ⟨o2, e2⟩ := J.base.there a o e hx
      exact aI o2 e2
    have npn : ∀ p ∈ X.pn ++ pins, p.1 ≠ a := fun p hp z => by
      have e := (J.pin p hp).1
      rw [z] at e
      exact aI _ e
    have S3 := J3.suite he3 hd3 na nL nF
    refine wpAny_handleBy_cons (codeAny_handlers_test ?_) (by intro q; cases q)
    have lookT : PySem.W.Looks (model X.prog X.w) h3 (typeOf (.ref a)) cls := fun A Q E s k q => wpAny_typeOf_ref (k _ _ he3) (by rw [hz3.1]; exact q)
    have lookM := PySem.W.exm_one (M := model X.prog X.w) J3.kIn lookT bt
    have clause : ∀ {Q : Value → Shared → Prop} {E : Value → Shared → Prop}, Q c { t' with heap := h3 } → wpAny (model X.prog X.w) (X.A.mark (some (.ref a))) (eval (.Name x np) X.env) Q E { t' with heap := h3 } := fun {Q E} q => by
      obtain ⟨g1, g2, g3 | ⟨g3, g4, g5⟩⟩ := hc
      · exact ld_glob (X := X.suite a ((a, oe3) :: (X.pn ++ pins))) S3 g1 g3 q g2
      · exact ld_blt (X := X.suite a ((a, oe3) :: (X.pn ++ pins))) S3 g1 g3 g4 q g5 g2
    refine clause (lookM.here ?_)
    cases b with
    | true =>
      obtain ⟨dn, go⟩ := yes rfl
      subst dn
      refine codeAny_handlers_suite_as (HandSPX.lands_againZ fl3 fun h4 fl4 up4 => ?_)
      have J4 : Inv X pins σ' H' { t' with heap := h4 } := J.landed nb fl4.1 ((up.trans up3).trans up4) os ag
      obtain ⟨oe4, vs4, he4, hz4, hd4⟩ := fl4.there
      have S4 := J4.suite he4 hd4 na nL nF
      refine store_ok (X := X.suite a ((a, oe4) :: (X.pn ++ pins))) (v := .ref a) S4 hN hi (.inl hln) rfl (fun s5 S5 => ?_) (.inr hln)
      refine wpAny_mono ((suB a oe4 cls none (X.pn ++ pins) hz4 ⟨_, hd4⟩).run [] s5 _ H' _ S5 (go a na)) (fun f s6 r6 => ?_) (fun _ _ z => False.elim z)
      cases f with
      | next =>
        obtain ⟨σ6, H6, S6, q6⟩ := r6
        exact gone_ok (unsuiteK S6 okX) hN hi hln fun s7 J7 => ⟨_, _, trackK J7 hz4 hd4 n0 npn, q6⟩
      | brk =>
        obtain ⟨σ6, H6, S6, q6⟩ := r6
        exact q6.elim
      | cont =>
        obtain ⟨σ6, H6, S6, q6⟩ := r6
        exact q6.elim
      | ret u =>
        obtain ⟨v6, σ6, H6, S6, r6, q6⟩ := r6
        exact q6.elim
    | false =>
      refine wpAny_handleBy_nil ?_
      obtain ⟨k1, k2, k3, oe, vs, T, oT, ts', he, hz, hd, h1, hr⟩ := id fl3
      unfold PySem.passOn
      refine wpAny_bind (wpAny_field he hd h1 ?_)
      rw [if_neg (show ¬ ((Value.ref T == Value.none) = true) by simp)]
      have on : wpAny (model X.prog X.w) X.A (setFlight (.ref a) X.env.frame) (fun _ s4 => wpAny (model X.prog X.w) X.A (throw (.ref a) : Sem Flow) (SP X pins D) X.xe s4) X.xe { t' with heap := h3 } := by
        rw [hf]
        exact HandSPX.setFlight_upZ fl3 fun h4 hh4 up4 => wpAny_throw (tk _ _ ⟨a, B, sI, pins, σ', H', cls, d, rfl, J, nb, (up.trans up3).trans up4, .inr (.inr (by rw [hs]; exact hh4)), na, os, ag, no rfl⟩)
      first
        | exact wpAny_bind (wpAny_pure (wpAny_bind on))
        | exact wpAny_bind on
  · cases f with
    | next =>
      obtain ⟨σ', H', J', q⟩ := fine
      exact wpAny_execs_nil ⟨σ', H', J'.ofTry okX, q⟩
    | brk =>
      obtain ⟨σ', H', J', q⟩ := fine
      exact ⟨σ', H', J'.ofTry okX, q⟩
    | cont =>
      obtain ⟨σ', H', J', q⟩ := fine
      exact ⟨σ', H', J'.ofTry okX, q⟩
    | ret u =>
      obtain ⟨v, σ', H', J', r, q⟩ := fine
      exact ⟨v, σ', H', J'.ofTry okX, r, q⟩
end
section
variable {G : Pg} {K : PySem.W.Frag} {mg : Str → Option Value} {ad fa : Nat → Addr} {fd : Nat → FuncData} {cf : Nat → List D → Ret} {n : Nat} {M : Mx} {X : Cx} {W : WX} {kz : Bool}
theorem ok_try_keep (gf : Gf G K mg ad fa fd) (C : Cc G K mg ad fa fd cf n M X) (stk : X.stack = X.env :: X.outer) (frm : X.env.frame = some X.env.locals) {x nm y : Str} {c i j : Nat} {body : List Stmt} {yp ep rp np pos pos' : Pos} {mb : Env → SOut} (tk : Takes X W) (hi : X.N[i]? = some nm) (hl : X.env.kindOf nm = some .local) (hc : c < G.nc) (hx : x = G.cname c) (hg : glB M.sc x = true) (hdb : (x == ("__debug__" : Str)) = false) (hk0 : kz = true → own0.contains i = true) (hk1 : kz = true → own0.contains j = true)
    (hsl : slotB M i nm = true) (hj : X.N[j]? = some y) (hjl : X.env.kindOf y = some .local) (hij : i ≠ j)
    (ob : ∀ (W' : WX) (pn : List (Addr × Obj)) (xe : Value → Shared → Prop), Takes (X.tr pn xe) W' → PassesOwn (model X.prog X.w) X.A X.env xe → OkB K ad G.fld kz (X.tr pn xe) W' body mb) :
    OkS K ad G.fld kz X W (.Try body [.ExceptHandler (some (.Name x np)) (some nm) [.Assign [.Name y yp] (.Name nm ep) rp] pos'] [] [] pos) (fun ρ => tryGo c G.nc (.keep i j) (mb ρ)) := by
  intro ρ F H σ A D w re h
  have hnm : Names X x (.ref (ad c)) := ⟨C.gl hg, hdb, .inl (by rw [C.hm, hx]; exact gf.cm c (Nat.lt_of_lt_of_le hc gf.na))⟩
  refine ws (ps_try_keep stk frm (by rw [C.hN]; exact C.nd) hi hl hnm tk pXt pXs) ?_
  intro pn xe tk' po'
  refine ob _ pn xe tk' po' ρ F H σ A D w re (SR.try h fun k fs ρ1 hk hs dd σ' F' H' A' g' re' xr kp => ?_)
  refine ⟨_, by rw [C.hK]; exact gf.ke k c hk hc, fun hb => ?_, fun hb => ?_⟩
  · simp only [hb] at hs
    cases fs with
    | cons => exact (show False from hs).elim
    | nil =>
      have ed : dd = none := by
        rcases xr with ⟨_, z⟩ | ⟨_, _, _, z, _⟩
        · exact z
        · cases z
      subst ed
      refine ⟨rfl, fun a ha oe pn2 hz hf => ?_⟩
      unfold suRun at hs
      cases ei : decide (i < ρ1.length) && decide (j < ρ1.length) && decide (i ≠ j) with
      | false => simp only [ei] at hs; exact (show False from hs).elim
      | true =>
      simp only [ei] at hs
      rw [Bool.and_eq_true, Bool.and_eq_true] at ei
      have hil : i < σ'.length := by
        rw [re'.len]
        exact of_decide_eq_true ei.1.1
      have hY : (X.suite a ((a, oe) :: pn2)).env.scope.names.lookup y = some .local := hjl
      refine wb (pss_cons (ps_set (X := X.suite a ((a, oe) :: pn2)) (i := j) (by show X.N.Nodup; rw [C.hN]; exact C.nd) hj (.inl hjl) (C.slotS hsl) rfl (.inr hY)) pss_nil) ?_
      refine ⟨.ref a, by rw [List.getElem?_set_self hil], ?_⟩
      have g2 := g'.wf.newP (o := ExK (.ref (ad k)) a) ha
      have re2 := re'.mono g2.ff (H' := upd H' a (ExK (.ref (ad k)) a)) fun b hb => upd_ne fun z => g'.wf.al b hb (by rw [z]; exact ha)
      obtain ⟨A2, s2, r2⟩ := re2.lose i (some (.ref a))
      have g3 := (g'.trans g2).drop s2
      obtain ⟨A3, g4, r3⟩ := RE.putP g3.wf r2 j (v := .ref a) (x := .exc k []) (.exc upd_same (exK_L _ _))
      obtain ⟨A4, s4, r4⟩ := r3.lose i none
      have er : ((ρ1.set i none).set j (some (.p (.exc k [])))).set i none = (ρ1.set j (some (.p (.exc k [])))).set i none := by
        rw [List.set_comm _ _ hij, List.set_set]
      rw [er] at r4
      exact hs _ _ _ A4 ((g3.trans g4).drop s4) r4 fun z => by rw [set0 (hk0 z), set0 (hk1 z), set0 (hk0 z)]; exact kp z
  · simp only [hb] at hs
    exact hs dd σ' F' H' A' g' re' xr kp
end
end Pl

set_option Elab.async false
set_option linter.all false
set_option autoImplicit false
set_option maxRecDepth 100000
set_option maxHeartbeats 4000000
namespace Pl
open PySem PySem.Spec PyProof.Rows L2
/-- no plain local name -/
def notLoc (sc : Scope) : Expr → Bool
  | .Name x _ => !(sc.names.lookup x == some .local)
  | _ => true
/-- no store goes another way than by the tuple -/
def nsB (sc : Scope) : Expr → Expr → Bool
  | .Tuple ts _ _, .Tuple _ _ _ => !(ts.length == 2 || ts.length == 3) || ts.any (notLoc sc)
  | .List _ _, _ => false
  | _, _ => true
theorem fm_short {α β : Type} {f : α → Option β} : ∀ {xs : List α}, xs.any (fun x => (f x).isNone) = true → (xs.filterMap f).length < xs.length
  | [], h => by cases h
  | x :: xs, h => by
    have hl := List.length_filterMap_le f xs
    rw [List.filterMap_cons]
    cases e : f x with
    | none => simp only [List.length_cons]; omega
    | some y =>
      rw [List.any_cons, e] at h
      have := fm_short (f := f) (xs := xs) (by simpa using h)
      simp only [List.length_cons]
      omega
theorem nsB_ok {sc : Scope} {tg e : Expr} {env : PySem.Env} (hs : env.scope = sc) (h : nsB sc tg e = true) : swappedStores [tg] e env = pure none := by
  unfold nsB at h
  split at h
  · rename_i ts _ _ vs _ _
    rw [Bool.or_eq_true] at h
    rcases h with h' | h'
    · unfold swappedStores
      simp only [h', Bool.true_or, if_true]
    · unfold swappedStores
      simp only
      split
      · rfl
      split
      · rfl
      have key : ∀ line : Nat, ((ts.filterMap fun | .Name id pos => if env.kindOf id == some .local && pos.line == line then some id else none | _ => none).length != ts.length) = true := by
        intro line
        refine bne_iff_ne.mpr (Nat.ne_of_lt (fm_short ?_))
        rw [List.any_eq_true] at h' ⊢
        obtain ⟨t, ht, hn⟩ := h'
        refine ⟨t, ht, ?_⟩
        unfold notLoc at hn
        split at hn
        · rename_i x pos
          have hk : (env.kindOf x == some .local) = false := by
            unfold Env.kindOf
            rw [hs]
            simpa using hn
          simp only [hk, Bool.false_and, Bool.false_eq_true, if_false, Option.isNone_none]
        · rename_i hne
          cases t <;> first | rfl | exact absurd rfl (hne _ _)
      refine if_pos ?_
      rw [Bool.or_eq_true]
      exact .inl (key _)
  · cases h
  · rename_i h1 h2
    cases tg <;> first | rfl | skip
    · exact absurd rfl (h1 _ _)
    · cases e <;> first | rfl | exact (h2 _ _ _ _ _ _ rfl rfl).elim
/-- a comprehension is stored as any value where the name is no plain local one -/
def swB (sc : Scope) : Expr → Expr → Bool
  | .Name t _, .ListComp _ _ _ _ => !isLocal sc t
  | _, e => notComp e
theorem swB_ok {sc : Scope} {tg e : Expr} {l : Nat} {env : PySem.Env} (hs : env.scope = sc) (h : swB sc tg e = true) : swapsWithSole [tg] e l env = pure false := by
  unfold swB at h
  split at h
  · rename_i t p elt gs scope pos
    show swapsWith (.ListComp elt gs scope pos) (some (.Name t p)) l env = pure false
    have hk : (env.kindOf t == some .local) = false := by
      unfold Env.kindOf
      rw [hs]
      unfold isLocal at h
      split at h
      · cases h
      · rename_i hn
        cases e : List.lookup t sc.names with
        | none => rfl
        | some k =>
          cases k <;> first | rfl | exact absurd e hn
    unfold swapsWith
    simp only [hk, Bool.and_false, Bool.false_and]
  · show swapsWith e (some tg) l env = pure false
    exact no_swap h
def pair2 (M : Mx) (i j : Nat) : Expr → Expr → Bool
  | .Tuple [.Name x px, .Name y py] _ _, .Tuple [a, b] _ _ => decide (M.N[i]? = some x) && decide (M.N[j]? = some y) && isLocal M.sc x && isLocal M.sc y && decide (py.line = px.line) && decide (x ≠ y) && decide (i ≠ j) && !(foldedForSure 8 a && foldedForSure 8 b) && !(constantsAlone 8 a && constantsAlone 8 b)
  | _, _ => false
def pair3 (M : Mx) (i j l : Nat) : Expr → Expr → Bool
  | .Tuple [.Name x px, .Name y py, .Name z pz] _ _, .Tuple [a, b, c] _ _ => decide (M.N[i]? = some x) && decide (M.N[j]? = some y) && decide (M.N[l]? = some z) && isLocal M.sc x && isLocal M.sc y && isLocal M.sc z && decide (py.line = px.line) && decide (pz.line = px.line) && decide (x ≠ y) && decide (x ≠ z) && decide (y ≠ z) && decide (i ≠ j) && decide (i ≠ l) && decide (j ≠ l)
    && !(foldedForSure 8 a && foldedForSure 8 b && foldedForSure 8 c) && !(constantsAlone 8 a && constantsAlone 8 b && constantsAlone 8 c)
  | _, _ => false
def tupEs : Expr → List Expr
  | .Tuple es _ _ => es
  | _ => []
def kzP (kz : Bool) (pt : Pat) : Bool := !kz || pt.within own0
def kzI (kz : Bool) (i : Nat) : Bool := !kz || own0.contains i
theorem kzP_ok {kz : Bool} {pt : Pat} (h : kzP kz pt = true) : kz = true → pt.within own0 = true := fun z => by
  unfold kzP at h
  rw [z] at h
  exact h
theorem kzI_ok {kz : Bool} {i : Nat} (h : kzI kz i = true) : kz = true → own0.contains i = true := fun z => by
  unfold kzI at h
  rw [z] at h
  exact h
def mSu (G : Pg) (kz : Bool) (M : Mx) : Su → Option Str → List Stmt → Bool
  | .retIs i ts, some nm, [.Return (some e) _] => decide (M.N[i]? = some nm) && isLocal M.sc nm && kzI kz i && mIs G M i ts e
  | .keep i j, some nm, [.Assign [.Name y _] (.Name z _) _] => decide (M.N[i]? = some nm) && isLocal M.sc nm && kzI kz i && kzI kz j && decide (z = nm) && slotB M i nm && decide (M.N[j]? = some y) && isLocal M.sc y && decide (i ≠ j)
  | _, _, _ => false
section
variable (G : Pg) (kz : Bool) (M : Mx)
mutual
def mS : Sm → Stmt → Bool
  | .asg pt e, .Assign [tg] e' _ => mPat M pt tg && mE G M e e' && kzP kz pt && swB M.sc tg e' && nsB M.sc tg e'
  | .par [i, j] es, .Assign [tg] e' _ => pair2 M i j tg e' && mL G M es (tupEs e') && kzI kz i && kzI kz j
  | .par [i, j, l] es, .Assign [tg] e' _ => pair3 M i j l tg e' && mL G M es (tupEs e') && kzI kz i && kzI kz j && kzI kz l
  | .asgL i (.comp elt pt own it cs), .Assign [.Name y py] (.ListComp elt' [⟨tg, it', ifs, isa⟩] scope pos) _ => mE G M (.comp elt pt own it cs) (.ListComp elt' [⟨tg, it', ifs, isa⟩] scope pos) && decide (M.N[i]? = some y) && isLocal M.sc y && kzI kz i && (py.line == pos.line) && !(scope.names.any fun (n, k) => n == y && (k == .local || k == .cell))
  | .set s i e, .Assign [.Subscript (.Name x _) i' _] e' _ => slotB M s x && mE G M i i' && mE G M e e' && notComp e'
  | .set2 s i j e, .Assign [.Subscript (.Subscript (.Name x _) i' _) j' _] e' _ => slotB M s x && mE G M i i' && mAt M j j' && mE G M e e' && notComp e'
  | .dset s i e, .Assign [.Subscript (.Name x _) i' _] e' _ => slotB M s x && mE G M i i' && mE G M e e' && notComp e'
  | .aug i op e, .AugAssign (.Name x _) op' e' _ => decide (op = op') && (decide (op = .Add) || decide (op = .Sub)) && tgB M i x && mE G M e e' && kzI kz i
  | .app s e, .Expr (.Call (.Attribute (.Name x _) m apos) [e'] [] cpos) _ => decide (m = "append") && slotB M s x && mE G M e e' && (apos.endLine == cpos.line)
  | .expr e, .Expr e' _ => mE G M e e' && notComp e'
  | .ife c a b, .If c' a' b' _ => mE G M c c' && mB a a' && mB b b'
  | .for_ pt it b, .For tg it' b' [] _ => mPat M pt tg && mE G M it it' && (!it.pairy || isTup tg) && kzP kz pt && mB b b'
  | .while_ c b, .While c' b' [] _ => mE G M c c' && mB b b'
  | .ret e, .Return (some e') _ => mE G M e e'
  | .retV i, .Return (some (.Name x _)) _ => slotB M i x
  | .raise c msg, .Raise (some (.Call (.Name x _) [.Constant (.str m) _ _] [] _)) none _ => decide (c < G.nc) && decide (x = G.cname c) && decide (msg = m) && glB M.sc x && !(x == ("__debug__" : Str))
  | .try_ b c nc su, .Try b' [.ExceptHandler (some (.Name x _)) nm suite _] [] [] _ => decide (nc = G.nc) && decide (c < G.nc) && decide (x = G.cname c) && glB M.sc x && !(x == ("__debug__" : Str)) && mB b b' && mSu G kz M su nm suite
  | .pass, .Pass _ => true
  | .brk, .Break _ => true
  | .cont, .Continue _ => true
  | .opq, _ => true
  | _, _ => false
def mB : List Sm → List Stmt → Bool
  | [], [] => true
  | .frz _ :: ss, sts => mB ss sts
  | s :: ss, st :: sts => mS s st && mB ss sts
  | _, _ => false
end
end
/-- the context of a def's statements -/
structure Cs (G : Pg) (K : PySem.W.Frag) (mg : Str → Option Value) (ad fa : Nat → Addr) (fd : Nat → FuncData) (cf : Nat → List D → Ret) (n : Nat) (M : Mx) (X : Cx) : Prop extends Cc G K mg ad fa fd cf n M X where
  po : PassesOwn (model X.prog X.w) X.A X.env X.xe
  stk : X.stack = X.env :: X.outer
  frm : X.env.frame = some X.env.locals
  knd : M.sc.kind = .function
theorem Cs.tr {G : Pg} {K : PySem.W.Frag} {mg : Str → Option Value} {ad fa : Nat → Addr} {fd : Nat → FuncData} {cf : Nat → List D → Ret} {n : Nat} {M : Mx} {X : Cx} (C : Cs G K mg ad fa fd cf n M X) (pn : List (Addr × Obj)) (xe : Value → Shared → Prop) (po : PassesOwn (model X.prog X.w) X.A X.env xe) : Cs G K mg ad fa fd cf n M (X.tr pn xe) where
  hK := C.hK
  hm := C.hm
  hN := C.hN
  hs := C.hs
  nd := C.nd
  calm := C.calm
  fn := C.fn
  room := C.room
  call := C.call
  po := po
  stk := C.stk
  frm := C.frm
  knd := C.knd
theorem isLocal_ok {sc : Scope} {x : Str} (h : isLocal sc x = true) : sc.names.lookup x = some .local := by
  unfold isLocal at h
  split at h
  · assumption
  · cases h
section
variable {G : Pg} {K : PySem.W.Frag} {mg : Str → Option Value} {ad fa : Nat → Addr} {fd : Nat → FuncData} {cf : Nat → List D → Ret} {n : Nat} {kz : Bool} {wf : Nat}
variable (hl : ∀ f as, cf f as ≠ .bad → as.length = (G.fn f).np) (gf : Gf G K mg ad fa fd)
include hl gf
mutual
theorem sS : ∀ (s : Sm) {M : Mx} {X : Cx} {W : WX}, Cs G K mg ad fa fd cf n M X → Takes X W → ∀ {st : Stmt}, mS G kz M s st = true → OkS K ad G.fld kz X W st (evS G.fn G.glob cf wf s)
  | .asg pt e, M, X, W, C, tk, st, h => by
    unfold mS at h
    split at h <;> rename_i hx <;> first | (cases hx; done) | (cases h; done) | skip
    cases hx
    rename_i _ _ tg e' pos
    rw [Bool.and_eq_true, Bool.and_eq_true, Bool.and_eq_true, Bool.and_eq_true] at h
    obtain ⟨⟨⟨⟨h1, h2⟩, h3⟩, h4⟩, h5⟩ := h
    exact ok_asg C.hK C.calm (C.toCc.pat h1) (kzP_ok h3) (swB_ok C.hs h4) (nsB_ok C.hs h5) (sE hl gf e C.toCc tk h2).d.v
  | .par is es, M, X, W, C, tk, st, h => by
    unfold mS at h
    split at h <;> rename_i hx <;> first | (cases hx; done) | (cases h; done) | skip
    · cases hx
      rename_i i j _ _ tg e' pos
      rw [Bool.and_eq_true, Bool.and_eq_true, Bool.and_eq_true] at h
      obtain ⟨⟨⟨h1, h2⟩, h3⟩, h4⟩ := h
      unfold pair2 at h1
      split at h1
      · rename_i x px y py k1 p1 a b k2 p2
        rw [Bool.and_eq_true, Bool.and_eq_true, Bool.and_eq_true, Bool.and_eq_true, Bool.and_eq_true, Bool.and_eq_true, Bool.and_eq_true, Bool.and_eq_true, Bool.not_eq_true', Bool.not_eq_true'] at h1
        obtain ⟨⟨⟨⟨⟨⟨⟨⟨q1, q2⟩, q3⟩, q4⟩, q5⟩, q6⟩, q7⟩, q8⟩, q9⟩ := h1
        have hs := sL hl gf es C.toCc tk h2
        have hds := hs.ds
        have hh : hd a = true ∧ hd b = true := by
          have := hds.allHd
          simp [tupEs] at this
          exact this
        have l1 : X.env.scope.names.lookup x = some .local := by rw [C.hs]; exact isLocal_ok q3
        have l2 : X.env.scope.names.lookup y = some .local := by rw [C.hs]; exact isLocal_ok q4
        exact ok_par C.calm (by rw [C.hN]; exact C.nd) (by rw [C.hN]; exact of_decide_eq_true q1) (by rw [C.hN]; exact of_decide_eq_true q2) (of_decide_eq_true q7) l1 l2 (swapped2 (by rw [C.hs]; exact C.knd) l1 l2 (of_decide_eq_true q5) (of_decide_eq_true q6) hh.1 hh.2 q8 q9) (fun z => ⟨kzI_ok h3 z, kzI_ok h4 z⟩) hds
      · cases h1
    · cases hx
      rename_i i j l _ _ tg e' pos
      rw [Bool.and_eq_true, Bool.and_eq_true, Bool.and_eq_true, Bool.and_eq_true] at h
      obtain ⟨⟨⟨⟨h1, h2⟩, h3⟩, h4⟩, h5⟩ := h
      unfold pair3 at h1
      split at h1
      · rename_i x px y py z pz k1 p1 a b c k2 p2
        simp only [Bool.and_eq_true, Bool.not_eq_true'] at h1
        obtain ⟨⟨⟨⟨⟨⟨⟨⟨⟨⟨⟨⟨⟨⟨⟨q1, q2⟩, q3⟩, q4⟩, q5⟩, q6⟩, q7⟩, q8⟩, q9⟩, r1⟩, r2⟩, r3⟩, r4⟩, r5⟩, r6⟩, r7⟩ := h1
        have hs := sL hl gf es C.toCc tk h2
        have hds := hs.ds
        have hh : hd a = true ∧ hd b = true ∧ hd c = true := by
          have := hds.allHd
          simp [tupEs] at this
          exact this
        have l1 : X.env.scope.names.lookup x = some .local := by rw [C.hs]; exact isLocal_ok q4
        have l2 : X.env.scope.names.lookup y = some .local := by rw [C.hs]; exact isLocal_ok q5
        have l3 : X.env.scope.names.lookup z = some .local := by rw [C.hs]; exact isLocal_ok q6
        exact ok_par3 C.calm (by rw [C.hN]; exact C.nd) (by rw [C.hN]; exact of_decide_eq_true q1) (by rw [C.hN]; exact of_decide_eq_true q2) (by rw [C.hN]; exact of_decide_eq_true q3) (of_decide_eq_true r3) (of_decide_eq_true r4) (of_decide_eq_true r5) l1 l2 l3 (swapped3 (by rw [C.hs]; exact C.knd) l1 l2 l3 (of_decide_eq_true q7) (of_decide_eq_true q8) (of_decide_eq_true q9) (of_decide_eq_true r1) (of_decide_eq_true r2) hh.1 hh.2.1 hh.2.2 r6 r7) (fun z => ⟨kzI_ok h3 z, kzI_ok h4 z, kzI_ok h5 z⟩) hds
      · cases h1
  | .asgL i e, M, X, W, C, tk, st, h => by
    unfold mS at h
    split at h <;> rename_i hx <;> first | (cases hx; done) | (cases h; done) | skip
    cases hx
    rename_i _ _ elt pt own it cs y py elt' tg it' ifs isa scope pos spos
    rw [Bool.and_eq_true, Bool.and_eq_true, Bool.and_eq_true, Bool.and_eq_true, Bool.and_eq_true, Bool.not_eq_true'] at h
    obtain ⟨⟨⟨⟨⟨h1, h2⟩, h3⟩, h4⟩, h5⟩, h6⟩ := h
    have hc := sC hl gf C.toCc tk h1
    obtain ⟨e0, qh, hb, L⟩ := hc
    subst e0
    have l1 : X.env.scope.names.lookup y = some .local := by rw [C.hs]; exact isLocal_ok h3
    have eo : (ownS M.N own).map (·.2) = own := by unfold ownS; rw [List.map_map]; exact List.map_id own
    have := ok_asgL (kz := kz) (spos := spos) C.hK C.calm (by rw [C.hN]; exact C.nd) (by rw [C.hN]; exact of_decide_eq_true h2) l1 (sw_true (by rw [C.hs]; exact C.knd) l1 h5 h6) hb qh (kzI_ok h4) L
    rw [eo] at this
    exact this
  | .set s i e, M, X, W, C, tk, st, h => by
    unfold mS at h
    split at h <;> rename_i hx <;> first | (cases hx; done) | (cases h; done) | skip
    cases hx
    rename_i _ _ x p i' p' e' pos
    rw [Bool.and_eq_true, Bool.and_eq_true, Bool.and_eq_true] at h
    obtain ⟨⟨⟨h1, h2⟩, h3⟩, h4⟩ := h
    have qi := sE hl gf i C.toCc tk h2
    exact ok_set (C.toCc.slot h1) h4 qi.h qi.d.v (sE hl gf e C.toCc tk h3).d.v
  | .dset s i e, M, X, W, C, tk, st, h => by
    unfold mS at h
    split at h <;> rename_i hx <;> first | (cases hx; done) | (cases h; done) | skip
    cases hx
    rename_i _ _ x p i' p' e' pos
    rw [Bool.and_eq_true, Bool.and_eq_true, Bool.and_eq_true] at h
    obtain ⟨⟨⟨h1, h2⟩, h3⟩, h4⟩ := h
    have hu := C.toCc.units
    exact ok_dset (by omega) (C.toCc.slot h1) h4 (sE hl gf i C.toCc tk h2).d.v (sE hl gf e C.toCc tk h3).d.v
  | .set2 s i j e, M, X, W, C, tk, st, h => by
    unfold mS at h
    split at h <;> rename_i hx <;> first | (cases hx; done) | (cases h; done) | skip
    cases hx
    rename_i _ _ x p i' p2 j' p3 e' pos
    rw [Bool.and_eq_true, Bool.and_eq_true, Bool.and_eq_true, Bool.and_eq_true] at h
    obtain ⟨⟨⟨⟨h1, h2⟩, h3⟩, h4⟩, h5⟩ := h
    have qi := sE hl gf i C.toCc tk h2
    have qj := mAt_ok C.toCc h3
    exact ok_set2 C.hK (C.toCc.slot h1) h5 qi.h qj.2 qi.d.v qj.1 (sE hl gf e C.toCc tk h4).d.v
  | .aug i op e, M, X, W, C, tk, st, h => by
    unfold mS at h
    split at h <;> rename_i hx <;> first | (cases hx; done) | (cases h; done) | skip
    cases hx
    rename_i _ _ x p op' e' pos
    rw [Bool.and_eq_true, Bool.and_eq_true, Bool.and_eq_true, Bool.and_eq_true, Bool.or_eq_true] at h
    obtain ⟨⟨⟨⟨h1, h2⟩, h3⟩, h4⟩, h5⟩ := h
    have e1 := of_decide_eq_true h1
    subst e1
    unfold tgB at h3
    rw [Bool.and_eq_true, Bool.and_eq_true, Bool.or_eq_true] at h3
    obtain ⟨⟨q1, q2⟩, q3⟩ := h3
    refine ok_aug (h2.imp of_decide_eq_true of_decide_eq_true) (by rw [C.hN]; exact C.nd) (by rw [C.hN]; exact of_decide_eq_true q1) ?_ ?_ (kzI_ok h5) (sE hl gf e C.toCc tk h4).d.v
    · unfold L2.Loc
      rw [C.hs]
      unfold locB at q2
      split at q2
      · exact .inl (by assumption)
      · exact .inr (by assumption)
      · cases q2
    · rcases q3 with q3 | q3
      · exact .inl (C.fn x q3)
      · exact .inr (by rw [C.hs]; exact isLocal_ok q3)
  | .app s e, M, X, W, C, tk, st, h => by
    unfold mS at h
    split at h <;> rename_i hx <;> first | (cases hx; done) | (cases h; done) | skip
    cases hx
    rename_i _ _ x p m apos e' cpos pos
    rw [Bool.and_eq_true, Bool.and_eq_true, Bool.and_eq_true] at h
    obtain ⟨⟨⟨h1, h2⟩, h3⟩, h4⟩ := h
    have e1 := of_decide_eq_true h1
    subst e1
    have q := sE hl gf e C.toCc tk h3
    exact ok_app C.hK (C.toCc.slot h2) rfl h4 q.h q.d.v
  | .expr e, M, X, W, C, tk, st, h => by
    unfold mS at h
    split at h <;> rename_i hx <;> first | (cases hx; done) | (cases h; done) | skip
    cases hx
    rename_i _ _ e' pos
    rw [Bool.and_eq_true] at h
    exact ok_expr h.2 (sE hl gf e C.toCc tk h.1).d.v
  | .ife c a b, M, X, W, C, tk, st, h => by
    unfold mS at h
    split at h <;> rename_i hx <;> first | (cases hx; done) | (cases h; done) | skip
    cases hx
    rename_i _ _ c' a' b' pos
    rw [Bool.and_eq_true, Bool.and_eq_true] at h
    exact ok_ifS (sE hl gf c C.toCc tk h.1.1).d.t (sB a C tk h.1.2) (sB b C tk h.2)
  | .for_ pt it b, M, X, W, C, tk, st, h => by
    unfold mS at h
    split at h <;> rename_i hx <;> first | (cases hx; done) | (cases h; done) | skip
    cases hx
    rename_i _ _ tg it' b' pos
    rw [Bool.and_eq_true, Bool.and_eq_true, Bool.and_eq_true, Bool.and_eq_true] at h
    obtain ⟨⟨⟨⟨h1, h2⟩, h3⟩, h4⟩, h5⟩ := h
    have q := sE hl gf it C.toCc tk h2
    exact ok_for C.hK C.calm C.po (C.toCc.pat h1) (kzP_ok h4) q.h (q.i tg fun z => by rw [z] at h3; exact h3) (sB b C tk h5)
  | .while_ c b, M, X, W, C, tk, st, h => by
    unfold mS at h
    split at h <;> rename_i hx <;> first | (cases hx; done) | (cases h; done) | skip
    cases hx
    rename_i _ _ c' b' pos
    rw [Bool.and_eq_true] at h
    exact ok_while C.po (sE hl gf c C.toCc tk h.1).d.t (sB b C tk h.2)
  | .ret e, M, X, W, C, tk, st, h => by
    unfold mS at h
    split at h <;> rename_i hx <;> first | (cases hx; done) | (cases h; done) | skip
    cases hx
    rename_i _ _ e' pos
    exact ok_ret (sE hl gf e C.toCc tk h).d.v
  | .retV i, M, X, W, C, tk, st, h => by
    unfold mS at h
    split at h <;> rename_i hx <;> first | (cases hx; done) | (cases h; done) | skip
    cases hx
    rename_i _ _ x p pos
    exact ok_retV (C.toCc.slot h)
  | .raise c msg, M, X, W, C, tk, st, h => by
    unfold mS at h
    split at h <;> rename_i hx <;> first | (cases hx; done) | (cases h; done) | skip
    cases hx
    rename_i _ _ x p m j p2 p3 pos
    rw [Bool.and_eq_true, Bool.and_eq_true, Bool.and_eq_true, Bool.and_eq_true, Bool.not_eq_true'] at h
    obtain ⟨⟨⟨⟨h1, h2⟩, h3⟩, h4⟩, h5⟩ := h
    have hc := of_decide_eq_true h1
    have e2 := of_decide_eq_true h2
    subst e2
    exact ok_raise C.calm tk (by rw [C.hK]; exact gf.cx c hc) (by rw [C.hm]; exact gf.cm c (Nat.lt_of_lt_of_le hc gf.na)) (by rw [C.hK]; exact gf.ck c hc) (by rw [C.hK]; exact gf.cb c hc) (by rw [C.hK]; exact gf.ct c hc) (C.toCc.gl h4) h5
  | .raiseF c e, M, X, W, C, tk, st, h => by
    unfold mS at h
    cases h
  | .try_ b c nc su, M, X, W, C, tk, st, h => by
    unfold mS at h
    split at h <;> rename_i hx <;> first | (cases hx; done) | (cases h; done) | skip
    cases hx
    rename_i _ _ b' x p nm suite p2 pos
    rw [Bool.and_eq_true, Bool.and_eq_true, Bool.and_eq_true, Bool.and_eq_true, Bool.and_eq_true, Bool.and_eq_true, Bool.not_eq_true'] at h
    obtain ⟨⟨⟨⟨⟨⟨h0, h1⟩, h2⟩, h3⟩, h4⟩, h5⟩, h6⟩ := h
    have e0 := of_decide_eq_true h0
    subst e0
    have hc := of_decide_eq_true h1
    unfold mSu at h6
    split at h6
    · rename_i i ts nm e rp
      rw [Bool.and_eq_true, Bool.and_eq_true, Bool.and_eq_true] at h6
      obtain ⟨⟨⟨q1, q2⟩, q3⟩, q4⟩ := h6
      exact ok_try_is gf C.toCc C.stk C.frm tk (by rw [C.hN]; exact of_decide_eq_true q1) (by unfold Env.kindOf; rw [C.hs]; exact isLocal_ok q2) hc (of_decide_eq_true h2) h3 h4 (kzI_ok q3) q4 (fun W' pn xe tk' po' => sB b (C.tr pn xe po') tk' h5)
    · rename_i i j nm y yp z ep rp
      simp only [Bool.and_eq_true] at h6
      obtain ⟨⟨⟨⟨⟨⟨⟨⟨q1, q2⟩, q3⟩, q4⟩, q5⟩, q6⟩, q7⟩, q8⟩, q9⟩ := h6
      have ez := of_decide_eq_true q5
      subst ez
      exact ok_try_keep gf C.toCc C.stk C.frm tk (by rw [C.hN]; exact of_decide_eq_true q1) (by unfold Env.kindOf; rw [C.hs]; exact isLocal_ok q2) hc (of_decide_eq_true h2) h3 h4 (kzI_ok q3) (kzI_ok q4) q6 (by rw [C.hN]; exact of_decide_eq_true q7) (by unfold Env.kindOf; rw [C.hs]; exact isLocal_ok q8) (of_decide_eq_true q9) (fun W' pn xe tk' po' => sB b (C.tr pn xe po') tk' h5)
    · cases h6
  | .pass, M, X, W, C, tk, st, h => by
    unfold mS at h
    split at h <;> rename_i hx <;> first | (cases hx; done) | (cases h; done) | skip
    cases hx
    exact ok_pass
  | .brk, M, X, W, C, tk, st, h => by
    unfold mS at h
    split at h <;> rename_i hx <;> first | (cases hx; done) | (cases h; done) | skip
    cases hx
    exact ok_brk
  | .cont, M, X, W, C, tk, st, h => by
    unfold mS at h
    split at h <;> rename_i hx <;> first | (cases hx; done) | (cases h; done) | skip
    cases hx
    exact ok_cont
  | .opq, M, X, W, C, tk, st, h => ok_opq
  | .frz i, M, X, W, C, tk, st, h => by
    unfold mS at h
    cases h
theorem sB : ∀ (ss : List Sm) {M : Mx} {X : Cx} {W : WX}, Cs G K mg ad fa fd cf n M X → Takes X W → ∀ {sts : List Stmt}, mB G kz M ss sts = true → OkB K ad G.fld kz X W sts (evB G.fn G.glob cf wf ss)
  | [], M, X, W, C, tk, sts, h => by
    cases sts with
    | nil => exact okb_nil
    | cons => unfold mB at h; cases h
  | s :: ss, M, X, W, C, tk, sts, h => by
    have key : ∀ {st : Stmt} {sts : List Stmt}, (mS G kz M s st && mB G kz M ss sts) = true → OkB K ad G.fld kz X W (st :: sts) (evB G.fn G.glob cf wf (s :: ss)) := by
      intro st sts h
      rw [Bool.and_eq_true] at h
      exact okb_cons (sS s C tk h.1) (sB ss C tk h.2)
    unfold mB at h
    split at h <;> rename_i hx <;> first | (cases hx; done) | (cases h; done) | skip
    · cases hx
      exact okb_frz (sB ss C tk h)
    · cases hx
      exact key h
end
end
end Pl

set_option Elab.async false
set_option linter.all false
set_option autoImplicit false
set_option maxRecDepth 100000
set_option maxHeartbeats 4000000
namespace Pl
open PySem PySem.Spec PyProof.Rows L2
structure Tx where
  st : Nat → Stmt
  N : Nat → List Str
def nodupS : List Str → Bool
  | [] => true
  | x :: xs => !(xs.any fun y => decide (y = x)) && nodupS xs
theorem nodupS_ok : ∀ {xs : List Str}, nodupS xs = true → xs.Nodup
  | [], _ => List.nodup_nil
  | x :: xs, h => by
    unfold nodupS at h
    rw [Bool.and_eq_true, Bool.not_eq_true'] at h
    refine List.nodup_cons.mpr ⟨fun z => ?_, nodupS_ok h.2⟩
    have : (xs.any fun y => decide (y = x)) = true := List.any_eq_true.mpr ⟨x, z, decide_eq_true rfl⟩
    rw [h.1] at this
    cases this
def scopeB (N ps : List Str) (sc : Scope) : Bool := decide (sc.kind = .function) && !sc.isCoroutine && !sc.isGenerator && nodupS N && decide (N.take ps.length = ps) && ps.all (locB sc) && sc.names.all fun y => decide (y.2 ≠ .free)
theorem scopeB_ok {N ps : List Str} {sc : Scope} (h : scopeB N ps sc = true) : FnScope N ps sc := by
  unfold scopeB at h
  simp only [Bool.and_eq_true, Bool.not_eq_true'] at h
  obtain ⟨⟨⟨⟨⟨⟨h1, h2⟩, h3⟩, h4⟩, h5⟩, h6⟩, h7⟩ := h
  refine ⟨of_decide_eq_true h1, h2, h3, nodupS_ok h4, of_decide_eq_true h5, fun x hx => ?_, fun y hy => of_decide_eq_true (List.all_eq_true.mp h7 y hy)⟩
  have h8 := List.all_eq_true.mp h6 x hx
  unfold locB at h8
  split at h8
  · exact .inl (by assumption)
  · exact .inr (by assumption)
  · cases h8
def defB (G : Pg) (T : Tx) (f : Nat) : Bool := scopeB (T.N f) (G.fps f) (defScope (T.st f)) && decide ((T.N f).length = (G.fn f).ns) && decide ((G.fps f).length = (G.fn f).np) && mB G (G.fn f).mt ⟨T.N f, defScope (T.st f), fun _ => true⟩ (G.fn f).body (defBody (T.st f))
section
variable {G : Pg} {T : Tx} {P : Program} {w : World} {K : PySem.W.Frag} {mg : Str → Option Value} {base : Heap} {ad fa : Nat → Addr} {fd : Nat → FuncData} {wf : Nat}
theorem callN_len (n f : Nat) (as : List D) (h : callN G.fn G.glob wf n f as ≠ .bad) : as.length = (G.fn f).np := by
  cases n with
  | zero => exact absurd rfl h
  | succ n =>
    unfold callN runFn at h
    cases e : decide (as.length = (G.fn f).np) with
    | false => rw [e] at h; exact absurd rfl h
    | true => exact of_decide_eq_true e
theorem re_start : ∀ {F H : Hp} {vs : List V} {as : List D} {A : List Addr} (k : Nat), RepL K ad F H vs as A → RE K ad F H (vs.map some ++ List.replicate k none) (as.map some ++ List.replicate k none) A
  | _, _, _, _, _, 0, .nil => .nil
  | F, H, _, _, _, k + 1, .nil => by
    show RE K ad F H (none :: ([] ++ List.replicate k none)) (none :: ([] ++ List.replicate k none)) []
    exact .skip (re_start k .nil)
  | _, _, _, _, _, k, .cons r q => .cons r (re_start k q)
/-- the end of a def: what holds of its first parameter -/
theorem ro_end {F H F' H' : Hp} {A A' B : List Addr} {vs : List V} {σ' : L2.St} {ρ' : Env} {mt : Bool} (g : Go F H A F' H' (A' ++ B)) (re : RE K ad F' H' σ' ρ' A') (hl : 0 < vs.length) (k : mt = true → σ'[0]? = (vs.map some)[0]?) :
    ∃ A'', Go F H A F' H' (A'' ++ B) ∧ RO K ad F' H' vs (if mt then getD ρ' 0 else none) A'' := by
  cases mt with
  | false => exact ⟨[], g.drop (List.sublist_append_right _ _), rfl⟩
  | true =>
    cases e : getD ρ' 0 with
    | none =>
      refine ⟨[], g.drop (List.sublist_append_right _ _), ?_⟩
      rw [if_pos rfl]
      rfl
    | some d =>
      obtain ⟨v, B0, R, h3, h4, h5, _⟩ := re.get (getD_ok e)
      refine ⟨B0, (g.permR (List.Perm.append_right B h5)).drop (List.Sublist.append (List.sublist_append_left _ _) (List.Sublist.refl _)), ?_⟩
      rw [if_pos rfl]
      cases vs with
      | nil => simp at hl
      | cons v0 r =>
        have := k rfl
        rw [h3] at this
        simp at this
        exact ⟨v, r, by rw [this], h4⟩
theorem fn_step (gf : Gf G K mg ad fa fd) {n f : Nat} {nm : Str} (hF : FunD K nm nm (defArgs (T.st f)) (defBody (T.st f)) (defScope (T.st f)) [] [] (fa f) (fd f)) (hd : defB G T f = true) (hm : (G.fn f).mt = true → 0 < (G.fn f).np)
    (ih : ∀ g, g < G.nf → FnOk P w K mg base (L2.CX P w) n (fa g) (fd g) (G.fps g) (spF K ad G.fld (G.fn g).np (callN G.fn G.glob wf n g))) :
    FnOk P w K mg base (L2.CX P w) (n + 1) (fa f) (fd f) (G.fps f) (spF K ad G.fld (G.fn f).np (callN G.fn G.glob wf (n + 1) f)) := by
  unfold defB at hd
  rw [Bool.and_eq_true, Bool.and_eq_true, Bool.and_eq_true] at hd
  obtain ⟨⟨⟨h1, h2⟩, h3⟩, h4⟩ := hd
  have S := scopeB_ok h1
  have e2 := of_decide_eq_true h2
  have e3 := of_decide_eq_true h3
  refine hF.ok S (fun vs H Q E h => by rw [e3]; exact h.1) fun cdv A outer s H vs Q E hr hsp => ⟨_, pwb, ?_⟩
  obtain ⟨hlen, F, A0, as, wfh, r, m⟩ := hsp
  have C : Cs G K mg ad fa fd (callN G.fn G.glob wf n) n ⟨T.N f, defScope (T.st f), fun _ => true⟩ (cxOf (L2.CX P w) P w K mg base (T.N f) nm (defScope (T.st f)) (fa f) cdv A outer s H E) :=
    { hK := rfl, hm := rfl, hN := rfl, hs := rfl, nd := S.nd, calm := rfl, fn := fun _ _ => rfl, room := hr, call := ih, po := passes_of rfl, stk := rfl, frm := rfl, knd := S.kind }
  have tk : Takes (cxOf (L2.CX P w) P w K mg base (T.N f) nm (defScope (T.st f)) (fa f) cdv A outer s H E) (fun cls d _ H => E cls d H) := takes_of rfl rfl rfl rfl
  have ob := sB (kz := (G.fn f).mt) (wf := wf) (fun g as => callN_len n g as) gf (G.fn f).body C tk h4
  have hal : as.length = vs.length := r.len.symm
  have re0 : RE K ad F H (L2.start (T.N f) vs) (as.map some ++ List.replicate ((G.fn f).ns - as.length) none) A0 := by
    unfold L2.start
    rw [hal, ← e2]
    exact re_start _ r
  have np0 : (G.fn f).mt = true → 0 < vs.length := fun z => by rw [hlen]; exact hm z
  have st0 : 0 < vs.length → (L2.start (T.N f) vs)[0]? = (vs.map some)[0]? := fun z => by
    unfold L2.start
    rw [List.getElem?_append_left (by rw [List.length_map]; exact z)]
  refine ob _ F H _ A0 _ wfh re0 ?_
  unfold callN runFn at m
  rw [decide_eq_true (hal.trans hlen)] at m
  dsimp only at m
  revert m
  generalize evB G.fn G.glob (callN G.fn G.glob wf n) wf (G.fn f).body (as.map some ++ List.replicate ((G.fn f).ns - as.length) none) = o
  intro m
  have key : ∀ {d : D} {ρ' : Env}, (∀ v F' H' A' B, Go F H A0 F' H' (A' ++ B) → RO K ad F' H' vs (if (G.fn f).mt then getD ρ' 0 else none) A' → Rep K ad F' H' v d B → Q v H') → ∀ v σ' F' H' A' B, Go F H A0 F' H' (A' ++ B) → RE K ad F' H' σ' ρ' A' → Rep K ad F' H' v d B → ((G.fn f).mt = true → σ'[0]? = (L2.start (T.N f) vs)[0]?) → Q v H' := by
    intro d ρ' mm v σ' F' H' A' B g re rv k
    cases em : (G.fn f).mt with
    | false =>
      rw [em] at mm
      exact mm v F' H' [] B (g.drop (List.sublist_append_right _ _)) rfl rv
    | true =>
      obtain ⟨A'', g2, ro⟩ := ro_end (mt := true) g re (np0 em) fun _ => (k em).trans (st0 (np0 em))
      rw [em] at mm
      exact mm v F' H' A'' B g2 ro rv
  cases o with
  | nx ρ' => exact fun σ' F' H' A' g re k => key m .non σ' F' H' A' [] (by rw [List.append_nil]; exact g) re (.p .non) k
  | rt d ρ' => exact fun v σ' F' H' A' B g re rv k => key m v σ' F' H' A' B g re rv k
  | exc c fs ρ' => exact fun dd σ' F' H' A' g re xr k => m dd F' H' A' g xr
  | bk ρ' => exact m.elim
  | ct ρ' => exact m.elim
  | bad => exact m.elim
theorem fn_all (gf : Gf G K mg ad fa fd) (hF : ∀ f, f < G.nf → ∃ nm, FunD K nm nm (defArgs (T.st f)) (defBody (T.st f)) (defScope (T.st f)) [] [] (fa f) (fd f)) (hd : ∀ f, f < G.nf → defB G T f = true ∧ ((G.fn f).mt = true → 0 < (G.fn f).np)) :
    ∀ n f, f < G.nf → FnOk P w K mg base (L2.CX P w) n (fa f) (fd f) (G.fps f) (spF K ad G.fld (G.fn f).np (callN G.fn G.glob wf n f))
  | 0, f, _ => ⟨fun vs H Q E h => by obtain ⟨_, _, _, _, _, _, m⟩ := h; exact m.elim, fun A outer s H args us vs Q E _ _ _ _ h => by obtain ⟨_, _, _, _, _, _, m⟩ := h; exact m.elim⟩
  | n + 1, f, hf => by
    obtain ⟨nm, h1⟩ := hF f hf
    exact fn_step gf h1 (hd f hf).1 (hd f hf).2 (fn_all gf hF hd n)
/-- the law: called with the script it gives True -/
theorem law_sp {f n : Nat} (h1 : (G.fn f).np = 1) (hv : ∀ ns : List Int, ns.length ≤ 63 → ∃ out, callN G.fn G.glob wf n f [.p (.scr (ns.map .int))] = .ok (.p (.bl true)) out) (H : Hp) (a : Addr) (ns : List Int) (hl : ns.length ≤ 63) (hS : SqL K H a (ns.map V.int)) :
    spF K ad G.fld (G.fn f).np (callN G.fn G.glob wf n f) [.ref a] H (fun v _ => v = .bl true) fun _ _ _ => False := by
  have ri : ∀ ns : List Int, RpL K ad H (ns.map V.int) (ns.map P.int) := by
    intro ns
    induction ns with
    | nil => exact .nil
    | cons n ns ih => exact .cons (.int n) ih
  obtain ⟨out, e⟩ := hv ns hl
  refine ⟨by rw [h1]; rfl, H, [], [.p (.scr (ns.map .int))], (show Wf H H [] from ⟨Ex'.refl _, List.nodup_nil, fun _ h => (List.not_mem_nil h).elim, fun _ h => (List.not_mem_nil h).elim⟩), .cons (A := []) (B := []) (.p (.scr hS (ri ns))) .nil, ?_⟩
  rw [e]
  intro v F' H' A' B _ _ rv
  cases rv with
  | p r => cases r; rfl
end
abbrev AlP : Type := Bool × List He.FnW
def obsP (B : PySem.W.Frag → Bool) (fn : List He.DefD) (K : PySem.W.Frag) : AlP := (B K && fn.all fun d => d.ok K, fn.map fun d => He.fnW K d.at_)
def valP (fn : List He.DefD) : AlP := (true, fn.map He.DefD.val)
def SaysP (B : PySem.W.Frag → Bool) (fn : List He.DefD) (K : PySem.W.Frag) : Prop := obsP B fn K = valP fn
def obsPG (n : Nat) (B : PySem.W.Frag → Bool) (fn : List He.DefD) (g : Addr → Option Obj) : AlP := obsP B fn (He.frG g (He.asD g n))
def hookP (n : Nat) (B : PySem.W.Frag → Bool) (fn : List He.DefD) : PySem.W.Hook where
  α := AlP
  obs := fun s => obsPG n B fn s.heap.get?
  val := fun _ => valP fn
  says := fun _ h => ∃ K : PySem.W.Frag, K.In h ∧ SaysP B fn K
  of := fun _ _ e => ⟨_, He.frG_in, e⟩
  keeps := fun _ _ _ ⟨K, hK, c⟩ k => ⟨K, PySem.W.Frag.In.keeps hK k, c⟩
theorem obsPG_eq {n : Nat} {B : PySem.W.Frag → Bool} {fn : List He.DefD} {g : Addr → Option Obj} {s : Shared} (h : ∀ a, g a = s.heap.get? a) : obsPG n B fn g = (hookP n B fn).obs s := by
  have e : g = s.heap.get? := funext h
  rw [e] <;> rfl
section
variable {B : PySem.W.Frag → Bool} {fn : List He.DefD} {K : PySem.W.Frag}
theorem SaysP.fact (c : SaysP B fn K) : B K = true := (Bool.and_eq_true_iff.mp (show (B K && fn.all fun d => d.ok K) = true from congrArg (fun z : AlP => z.1) c)).1
theorem SaysP.def_ (c : SaysP B fn K) (i : Nat) {d : He.DefD} (h : fn[i]? = some d) : ∃ fd, FunD K d.name d.qual d.params d.body d.scope (d.dvs K) (d.kws K) (He.fAd K d.at_) fd := by
  have c2 := (Bool.and_eq_true_iff.mp (show (B K && fn.all fun d => d.ok K) = true from congrArg (fun z : AlP => z.1) c)).2
  have e : fn.map (fun d => He.fnW K d.at_) = fn.map He.DefD.val := congrArg (fun z : AlP => z.2) c
  have e2 : (fn.map fun d => He.fnW K d.at_)[i]? = (fn.map He.DefD.val)[i]? := by rw [e]
  rw [List.getElem?_map, List.getElem?_map, h] at e2
  exact He.DefD.funD (Option.some.inj e2) (List.all_eq_true.mp c2 d (List.mem_of_getElem? h))
end
end Pl

set_option Elab.async false
set_option linter.all false
set_option autoImplicit false
set_option maxRecDepth 100000
set_option maxHeartbeats 4000000
namespace Pl
open PySem PySem.Spec PyProof.Rows L2
def allBi : List Bi := [.len, .abs, .max2, .min2, .int, .divmod, .list, .tuple, .sum, .all, .any, .maxL, .minL, .sorted]
def allTy : List Ty := [.int, .bool, .str, .list, .tuple]
def dvP : P → He.Dv
  | .bl b => .bl b | .int i => .int i | .str s => .str s | _ => .non
def globB (K : PySem.W.Frag) (x : Str) : P → Bool
  | .int i => (He.Fa.int x i).ok K
  | .str s => (He.Fa.str x s).ok K
  | .tup xs => xs.all P.flat && (He.Fa.glo x).ok K && He.tupB K x (xs.map dvP)
  | _ => false
def clsB (K : PySem.W.Frag) (C : Addr) : Bool := PySem.W.excIn K C [.type "ValueError", .type "Exception", .type "BaseException", .type "object"] "ValueError.__new__" && PySem.W.keepIn K (.ref C) && decide (PySem.W.subIn K (.ref C) (.type "BaseException") = some true) && decide (PySem.W.typeIn K (.ref C) = some (.type "type"))
  && He.eqO (PySem.W.findIn K (.ref C) "__getattribute__") (some (some (.builtin "BaseException.__getattribute__"))) && He.eqO (PySem.W.findIn K (.ref C) "__getattr__") (some none) && PySem.W.hasDictIn K C && He.eqO (PySem.W.findIn K (.ref C) "__class__") (some (some (.builtin "object.__class__")))
  && He.eqO (PySem.W.specialIn K (.builtin "object.__class__") "__get__") (some (some (.builtin "getset_descriptor.__get__"))) && decide (PySem.W.takesIn K (.builtin "object.__class__") = some true) && decide (PySem.W.mroIn K C (.type "object") = some true) && decide (PySem.W.kitOne K (.ref C) (.type "ValueError") = some true)
def relC (K : PySem.W.Frag) (Ck Cc : Addr) (b : Bool) : Bool := decide (PySem.W.kitOne K (.ref Ck) (.ref Cc) = some b) && decide (PySem.W.exmOne K (.ref Ck) (.ref Cc) = some b)
def factB (G : Pg) (K : PySem.W.Frag) : Bool := ((List.range G.nf).all fun f => (He.Fa.glo (G.fname f)).ok K) && ((List.range G.ng).all fun g => globB K (G.gname g) (G.glob g)) && (allBi.all fun b => (He.Fa.free (biName b)).ok K) && (allTy.all fun t => (He.Fa.free (tyStr t)).ok K) && ((["isinstance", "range", "ValueError", "enumerate", "zip"] : List Str).all fun x => (He.Fa.free x).ok K)
  && ((List.range G.nc).all fun c => (He.Fa.glo (G.cname c)).ok K && clsB K (He.ga K (G.cname c))) && ((List.range G.nc).all fun k => (List.range G.na).all fun c => relC K (He.ga K (G.cname k)) (He.ga K (G.cname c)) (decide (c = 0) || decide (c = k)))
  && ((List.range G.nc).all fun k => allTy.all fun t => decide (PySem.W.kitOne K (.ref (He.ga K (G.cname k))) (.type (tyName t)) = some false))
  && ((List.range G.na).all fun c => (He.Fa.glo (G.cname c)).ok K) && decide (G.nc ≤ G.na)
def BindP (G : Pg) (T : Tx) (f m : Nat) (ks : List Nat) : Prop := ∀ (kV doc pm : Value) (an : Option Addr) (cdv ct : Value) (us ws as : List Value), us.length = m → ws.length = ks.length → arrange (G.fn f).np us ks ws = some as →
  bindArgs (PySem.W.fnOf (G.fname f) (G.fname f) (defArgs (T.st f)) (defBody (T.st f)) (defScope (T.st f)) .none kV doc pm an cdv ct) ⟨us, (ks.map fun k => ((G.fps f)[k]?).getD ("" : Str)).zip ws⟩ = pure ((G.fps f).zip as)
theorem flat_rpl {K : PySem.W.Frag} {ad : Nat → Addr} {F : Hp} : ∀ {xs : List P}, xs.all P.flat = true → RpL K ad F ((xs.map dvP).map (He.Dv.v K)) xs
  | [], _ => .nil
  | x :: xs, h => by
    rw [List.all_cons, Bool.and_eq_true] at h
    have r := flat_rpl (F := F) (ad := ad) (K := K) h.2
    cases x <;> first | (cases h.1; done) | skip
    · exact .cons .non r
    · exact .cons (.bl _) r
    · exact .cons (.int _) r
    · exact .cons (.str _) r
section
variable {G : Pg} {T : Tx} {K : PySem.W.Frag} {h : Heap} {mg : Str → Option Value}
theorem gf_of (X : K.In h) (N : h.Ns mainGlobals mg) (c : factB G K = true) {fd : Nat → FuncData} (hF : ∀ f, f < G.nf → FunD K (G.fname f) (G.fname f) (defArgs (T.st f)) (defBody (T.st f)) (defScope (T.st f)) [] [] (He.ga K (G.fname f)) (fd f)) (hp : ∀ f m ks, (f, m, ks) ∈ G.pats → f < G.nf ∧ BindP G T f m ks) :
    Gf G K mg (fun c => He.ga K (G.cname c)) (fun f => He.ga K (G.fname f)) fd := by
  unfold factB at c
  simp only [Bool.and_eq_true] at c
  obtain ⟨⟨⟨⟨⟨⟨⟨⟨⟨c1, c2⟩, c3⟩, c4⟩, c5⟩, c6⟩, c7⟩, c8⟩, c9⟩, c10⟩ := c
  have hna : G.nc ≤ G.na := of_decide_eq_true c10
  have r9 : ∀ k, k < G.na → (He.Fa.glo (G.cname k)).ok K = true := fun k hk => List.all_eq_true.mp c9 k (List.mem_range.mpr hk)
  have r1 : ∀ f, f < G.nf → (He.Fa.glo (G.fname f)).ok K = true := fun f hf => List.all_eq_true.mp c1 f (List.mem_range.mpr hf)
  have r6 : ∀ k, k < G.nc → (He.Fa.glo (G.cname k)).ok K = true ∧ clsB K (He.ga K (G.cname k)) = true := fun k hk => Bool.and_eq_true_iff.mp (List.all_eq_true.mp c6 k (List.mem_range.mpr hk))
  have r7 : ∀ k c, k < G.nc → c < G.na → relC K (He.ga K (G.cname k)) (He.ga K (G.cname c)) (decide (c = 0) || decide (c = k)) = true := fun k c hk hc => List.all_eq_true.mp (List.all_eq_true.mp c7 k (List.mem_range.mpr hk)) c (List.mem_range.mpr hc)
  have r5 : ∀ x : Str, x ∈ (["isinstance", "range", "ValueError", "enumerate", "zip"] : List Str) → mg x = none := fun x hx => He.free_ok X N (List.all_eq_true.mp c5 x hx)
  have cls : ∀ k, k < G.nc → _ := fun k hk => by
    have := (r6 k hk).2
    unfold clsB at this
    simp only [Bool.and_eq_true] at this
    exact this
  refine ⟨fun f hf => He.glo_ok X N (r1 f hf), fun f hf => (hF f hf).kp, fun f m ks hm => ?_, fun g hg => ?_, fun b => ?_, fun t ht => ?_, r5 _ (by simp), r5 _ (by simp), r5 _ (by simp), r5 _ (by simp), r5 _ (by simp), hna, fun k hk => He.glo_ok X N (r9 k hk), fun k hk => ?_, fun k hk => ?_, fun k hk => ?_, fun k hk => ?_, fun k hk => ?_, fun k c hk hc => ?_, fun k c hk hc => ?_, fun k hk => ?_, fun k t hk ht => ?_⟩
  · obtain ⟨hf, hb⟩ := hp f m ks hm
    obtain ⟨oc, od, dV, kV, doc, pm, an, cdv, ct, osl, e, lk, hcd, hd, hk⟩ := (hF f hf).ex
    have hd0 : dV = .none := by
      rcases hd with ⟨_, z⟩ | ⟨z, _⟩
      · exact z
      · exact absurd rfl z
    subst hd0
    intro s us ws as _ h1 h2 h3
    rw [e]
    exact .of_eq (hb kV doc pm an cdv ct us ws as h1 h2 h3)
  · have := List.all_eq_true.mp c2 g (List.mem_range.mpr hg)
    cases eg : G.glob g with
    | int i =>
      rw [eg] at this
      obtain ⟨t, ht⟩ := He.int_ok X N (show (He.Fa.int (G.gname g) i).ok K = true from this)
      exact ⟨_, .int i, ht, ⟨t, rfl⟩, fun F => .int i⟩
    | str z =>
      rw [eg] at this
      obtain ⟨t, ht⟩ := He.str_ok X N (show (He.Fa.str (G.gname g) z).ok K = true from this)
      exact ⟨_, .str z, ht, ⟨t, rfl⟩, fun F => .str z⟩
    | tup xs =>
      rw [eg] at this
      have this' : (xs.all P.flat && (He.Fa.glo (G.gname g)).ok K && He.tupB K (G.gname g) (xs.map dvP)) = true := this
      rw [Bool.and_eq_true, Bool.and_eq_true] at this'
      exact ⟨_, .ref (He.ga K (G.gname g)), He.glo_ok X N this'.1.2, rfl, fun F => .tup (He.tupB_ok this'.2 F) (flat_rpl this'.1.1)⟩
    | _ => rw [eg] at this; cases this
  · exact He.free_ok X N (List.all_eq_true.mp c3 b (by cases b <;> decide))
  · exact He.free_ok X N (List.all_eq_true.mp c4 t (by cases t <;> first | (cases ht; done) | decide))
  · exact (cls k hk).1.1.1.1.1.1.1.1.1.1.1
  · exact (cls k hk).1.1.1.1.1.1.1.1.1.1.2
  · exact of_decide_eq_true (cls k hk).1.1.1.1.1.1.1.1.1.2
  · exact of_decide_eq_true (cls k hk).1.1.1.1.1.1.1.1.2
  · exact ⟨He.eqO_ok (cls k hk).1.1.1.1.1.1.1.2, He.eqO_ok (cls k hk).1.1.1.1.1.1.2, of_decide_eq_true (cls k hk).1.1.1.1.1.1.1.1.1.2, (cls k hk).1.1.1.1.1.2, He.eqO_ok (cls k hk).1.1.1.1.2, He.eqO_ok (cls k hk).1.1.1.2, of_decide_eq_true (cls k hk).1.1.2, of_decide_eq_true (cls k hk).1.2⟩
  · exact of_decide_eq_true (Bool.and_eq_true_iff.mp (r7 k c hk hc)).1
  · exact of_decide_eq_true (Bool.and_eq_true_iff.mp (r7 k c hk (Nat.lt_of_lt_of_le hc hna))).2
  · exact of_decide_eq_true (cls k hk).2
  · exact of_decide_eq_true (List.all_eq_true.mp (List.all_eq_true.mp c8 k (List.mem_range.mpr hk)) t (by cases t <;> first | (cases ht; done) | decide))
/-- the defs as the head sees them -/
def defD (G : Pg) (T : Tx) (f : Nat) : He.DefD := ⟨(G.fname f, none), G.fname f, G.fname f, defArgs (T.st f), defBody (T.st f), defScope (T.st f), [], []⟩
def defDs (G : Pg) (T : Tx) : List He.DefD := (List.range G.nf).map (defD G T)
/-- all from the head's facts -/
theorem facts_of {P : Program} {w : World} {wf n fl : Nat} {x : Str} (X : K.In h) (N : h.Ns mainGlobals mg) {a : Addr} (hfl : fl < G.nf) (hfa : mg (G.fname fl) = some (.ref a)) (c : SaysP (factB G) (defDs G T) K) (hp : ∀ f m ks, (f, m, ks) ∈ G.pats → f < G.nf ∧ BindP G T f m ks)
    (hd : ∀ f, f < G.nf → defB G T f = true ∧ ((G.fn f).mt = true → 0 < (G.fn f).np)) (h1 : (G.fn fl).np = 1) (hps : G.fps fl = [x]) (hpl : (fl, 1, []) ∈ G.pats) (hv : ∀ ns : List Int, ns.length ≤ 63 → ∃ out, callN G.fn G.glob wf n fl [.p (.scr (ns.map .int))] = .ok (.p (.bl true)) out) :
    ∃ (fd : FuncData) (sp : Sp), (∀ (s : Shared) (u : Value), BindsTo s fd ⟨[u], []⟩ [(x, u)]) ∧ (∀ (H : Hp) (a : Addr) (ns : List Int), ns.length ≤ 63 → Only H → SqL K H a (ns.map V.int) → sp [.ref a] H (fun v _ => v = .bl true) fun _ _ _ => False) ∧
      ∀ base : Heap, K.In base → base.Ns mainGlobals mg → FnOk P w K mg base (L2.CX P w) n a fd [x] sp := by
  have hF : ∀ f, ∃ fd, f < G.nf → FunD K (G.fname f) (G.fname f) (defArgs (T.st f)) (defBody (T.st f)) (defScope (T.st f)) [] [] (He.ga K (G.fname f)) fd := by
    intro f
    by_cases hf : f < G.nf
    · obtain ⟨fd, q⟩ := c.def_ f (d := defD G T f) (by unfold defDs; rw [List.getElem?_map, List.getElem?_range hf]; rfl)
      exact ⟨fd, fun _ => q⟩
    · obtain ⟨fd, q⟩ := c.def_ fl (d := defD G T fl) (by unfold defDs; rw [List.getElem?_map, List.getElem?_range hfl]; rfl)
      exact ⟨fd, fun z => absurd z hf⟩
  obtain ⟨fd, hfd⟩ := Classical.skolem.mp hF
  have gf := gf_of X N c.fact hfd hp
  have ea : a = He.ga K (G.fname fl) := by
    have := hfa.symm.trans (gf.fm fl hfl)
    cases this
    rfl
  subst ea
  refine ⟨fd fl, spF K (fun c => He.ga K (G.cname c)) G.fld (G.fn fl).np (callN G.fn G.glob wf n fl), fun s u => ?_, fun H a ns hl _ hS => law_sp h1 hv H a ns hl hS, fun base hb hN => ?_⟩
  · obtain ⟨_, hb⟩ := hp fl 1 [] hpl
    obtain ⟨oc, od, dV, kV, doc, pm, an, cdv, ct, osl, e, lk, hcd, hd', hk⟩ := (hfd fl hfl).ex
    have hd0 : dV = .none := by
      rcases hd' with ⟨_, z⟩ | ⟨z, _⟩
      · exact z
      · exact absurd rfl z
    subst hd0
    rw [e]
    have := hb kV doc pm an cdv ct [u] [] [u] rfl rfl (by rw [h1]; rfl)
    rw [hps] at this
    exact .of_eq this
  · have := fn_all (P := P) (w := w) (base := base) (wf := wf) (T := T) gf (fun f hf => ⟨_, hfd f hf⟩) hd n fl hfl
    rw [hps] at this
    exact this
end
/-- the law's end, errors as the world has them -/
theorem walk_w {l : PySem.W.OpenLaw} {n k : Nat} {q : Program} {loose : List Str} {XP : (Str → Option Value) → Heap → Prop} {YP : World → Heap → Prop} {d : DefRec} {x : Str}
    (hn : l.most = some n) (hn2 : n ≤ sizeLine) (hdf : d.params.defaults = []) (hr : Room k callerA)
    (F : ∀ (w : World) (mg : Str → Option Value) (fa : Addr) (h : Heap), YP w h → h.Ns mainGlobals mg → mg d.name = some (.ref fa) →
      ∃ (K : PySem.W.Frag) (fd : FuncData) (sp : Sp), K.In h ∧ (∀ (s : Shared) (u : Value), BindsTo s fd ⟨[u], []⟩ [(x, u)]) ∧
        (∀ (H : Hp) (a : Addr) (ns : List Int), ns.length ≤ n → Only H → SqL K H a (ns.map V.int) → sp [.ref a] H (fun v _ => v = .bl true) fun _ _ _ => False) ∧
        ∀ base : Heap, K.In base → base.Ns mainGlobals mg → FnOk l.prog w K mg base (L2.CX l.prog w) k fa fd [x] sp) :
    PySem.W.WalkO q loose XP YP l.row.toRowW d [] (fun f vs => PySem.call f vs) := by
  refine Att.attach_call hn hdf fun w s₀ s₁ mg mb fa o pm cd doc a vs ns G Y ho hd hcd hmg hobj hints hlen hg => ?_
  obtain ⟨K, fd, sp, KX, hb, hsp, hF⟩ := F w mg fa _ Y G.T.g hmg
  exact law_call KX G.T.g G.T.b G.T.builtins G.T.nolimit hg hobj hints (Nat.le_trans hlen hn2) hr hF hb (fun H hO hS => hsp H a ns hlen hO hS) fun H e s' z => by
    obtain ⟨_, _, _, _, _, _, _, _, _, _, _, _, q⟩ := z
    exact q
end Pl

set_option Elab.async false
set_option linter.all false
set_option autoImplicit false
set_option maxRecDepth 100000
set_option maxHeartbeats 4000000
namespace Pl
open PySem
theorem q_add (i j : Int) : binop .Add (.int i) (.int j) = some (.p (.int (i + j))) := rfl
theorem q_sub (i j : Int) : binop .Sub (.int i) (.int j) = some (.p (.int (i - j))) := rfl
theorem q_mul (i j : Int) (h : mulOk i j = true) : binop .Mult (.int i) (.int j) = some (.p (.int (i * j))) := by
  show (if mulOk i j then _ else _) = _
  rw [if_pos h]
theorem q_div (i j : Int) (h : divOk j = true) : binop .FloorDiv (.int i) (.int j) = some (.p (.int (i / j))) := by
  show (if divOk j then _ else _) = _
  rw [if_pos h]
theorem q_mod (i j : Int) (h : 0 < j) : binop .Mod (.int i) (.int j) = some (.p (.int (i % j))) := by
  show (if decide (0 < j) then _ else _) = _
  rw [if_pos (decide_eq_true h)]
theorem q_pow (i j : Int) (h : powOk i j = true) : binop .Pow (.int i) (.int j) = some (.p (.int (i ^ j.toNat))) := by
  show (if powOk i j then _ else _) = _
  rw [if_pos h]
theorem q_lt (i j : Int) : cmpop .Lt (.int i) (.int j) = some (decide (i < j)) := rfl
theorem q_le (i j : Int) : cmpop .LtE (.int i) (.int j) = some (decide (i ≤ j)) := rfl
theorem q_gt (i j : Int) : cmpop .Gt (.int i) (.int j) = some (decide (j < i)) := rfl
theorem q_ge (i j : Int) : cmpop .GtE (.int i) (.int j) = some (decide (j ≤ i)) := rfl
theorem q_eq (i j : Int) : cmpop .Eq (.int i) (.int j) = some (decide (i = j)) := rfl
theorem q_ne (i j : Int) : cmpop .NotEq (.int i) (.int j) = some (!decide (i = j)) := rfl
theorem mulOk_l {i j : Int} (h : i.natAbs < 2 ^ 64) : mulOk i j = true := by
  unfold mulOk
  rw [decide_eq_true h]
  rfl
theorem mulOk_r {i j : Int} (h : j.natAbs < 2 ^ 64) : mulOk i j = true := by
  unfold mulOk
  rw [decide_eq_true h, Bool.or_true]
  rfl
theorem divOk_s {j : Int} (h1 : 0 < j) (h2 : j < 2 ^ 64) : divOk j = true := by
  unfold divOk
  rw [decide_eq_true h1, decide_eq_true h2]
  rfl
section
variable {fns : Nat → Fn} {globs : Nat → P} {cf : Nat → List D → Ret} {wf : Nat} {ρ ρ' : Env} {ss : List Sm}
theorem b_nil : evB fns globs cf wf [] ρ = .nx ρ := rfl
theorem b_step {s : Sm} (h : evS fns globs cf wf s ρ = .nx ρ') : evB fns globs cf wf (s :: ss) ρ = evB fns globs cf wf ss ρ' := by
  show (evS fns globs cf wf s ρ).andThen _ = _
  rw [h]
  rfl
theorem b_ret {s : Sm} {d : D} (h : evS fns globs cf wf s ρ = .rt d ρ') : evB fns globs cf wf (s :: ss) ρ = .rt d ρ' := by
  show (evS fns globs cf wf s ρ).andThen _ = _
  rw [h]
  rfl
theorem b_exc {s : Sm} {c : Nat} {fs : List P} (h : evS fns globs cf wf s ρ = .exc c fs ρ') : evB fns globs cf wf (s :: ss) ρ = .exc c fs ρ' := by
  show (evS fns globs cf wf s ρ).andThen _ = _
  rw [h]
  rfl
/-- if: the test is known -/
theorem b_if {c : Ex} {x y : List Sm} {b : Bool} (h : (ev fns globs cf c).t ρ = .ok b ρ') : evB fns globs cf wf (.ife c x y :: ss) ρ = (cond b (evB fns globs cf wf x ρ') (evB fns globs cf wf y ρ')).andThen (evB fns globs cf wf ss) := by
  show (sbnd ((ev fns globs cf c).t ρ) _).andThen _ = _
  rw [h]
  cases b <;> rfl
theorem b_ifT {c : Ex} {x y : List Sm} (h : (ev fns globs cf c).t ρ = .ok true ρ') : evB fns globs cf wf (.ife c x y :: ss) ρ = (evB fns globs cf wf x ρ').andThen (evB fns globs cf wf ss) := b_if h
theorem b_ifF {c : Ex} {x y : List Sm} (h : (ev fns globs cf c).t ρ = .ok false ρ') : evB fns globs cf wf (.ife c x y :: ss) ρ = (evB fns globs cf wf y ρ').andThen (evB fns globs cf wf ss) := b_if h
/-- if without else, whose body goes away -/
theorem b_skip {c : Ex} {x : List Sm} (h : (ev fns globs cf c).t ρ = .ok false ρ') : evB fns globs cf wf (.ife c x [] :: ss) ρ = evB fns globs cf wf ss ρ' := b_if h
theorem b_takeR {c : Ex} {x y : List Sm} {d : D} {ρ2 : Env} (h : (ev fns globs cf c).t ρ = .ok true ρ') (hx : evB fns globs cf wf x ρ' = .rt d ρ2) : evB fns globs cf wf (.ife c x y :: ss) ρ = .rt d ρ2 := by
  rw [b_ifT h, hx]
  rfl
/-- a conditional value -/
theorem v_if {c a b : Ex} {t : Bool} (h : (ev fns globs cf c).t ρ = .ok t ρ') : (ev fns globs cf (.ife c a b)).v ρ = cond t ((ev fns globs cf a).v ρ') ((ev fns globs cf b).v ρ') := by
  show bnd ((ev fns globs cf c).t ρ) _ = _
  rw [h]
  cases t <;> rfl
theorem v_ifI {c a b : Ex} {p : Prop} [Decidable p] {x y : Int} (h : (ev fns globs cf c).t ρ = .ok (decide p) ρ) (ha : (ev fns globs cf a).v ρ = .ok (.p (.int x)) ρ) (hb : (ev fns globs cf b).v ρ = .ok (.p (.int y)) ρ) : (ev fns globs cf (.ife c a b)).v ρ = .ok (.p (.int (if p then x else y))) ρ := by
  rw [v_if h, ha, hb]
  by_cases q : p
  · rw [decide_eq_true q, if_pos q]; rfl
  · rw [decide_eq_false q, if_neg q]; rfl
theorem s_asg {pt : Pat} {e : Ex} {d : D} {ρ2 : Env} (h : (ev fns globs cf e).v ρ = .ok d ρ') (h2 : asgD pt d ρ' = some ρ2) : evS fns globs cf wf (.asg pt e) ρ = .nx ρ2 := by
  show sbnd ((ev fns globs cf e).v ρ) _ = _
  rw [h]
  show sfin (asgD pt d ρ') = _
  rw [h2]
  rfl
theorem s_ret {e : Ex} {d : D} (h : (ev fns globs cf e).v ρ = .ok d ρ') : evS fns globs cf wf (.ret e) ρ = .rt d ρ' := by
  show sbnd ((ev fns globs cf e).v ρ) _ = _
  rw [h]
  rfl
theorem s_expr {e : Ex} {d : D} (h : (ev fns globs cf e).v ρ = .ok d ρ') : evS fns globs cf wf (.expr e) ρ = .nx ρ' := by
  show sbnd ((ev fns globs cf e).v ρ) _ = _
  rw [h]
  rfl
end
def fromS (mt : Bool) (o : SOut) : Ret := match o with
  | .nx ρ => .ok (.p .non) (if mt then getD ρ 0 else none)
  | .rt d ρ => .ok d (if mt then getD ρ 0 else none)
  | .exc c fs _ => .exc c fs
  | _ => .bad
theorem call_eq {fns : Nat → Fn} {globs : Nat → P} {wf n f : Nat} {as : List D} {np ns : Nat} {mt : Bool} {b : List Sm} (h : fns f = ⟨np, mt, ns, b⟩) (hl : as.length = np) :
    callN fns globs wf (n + 1) f as = fromS mt (evB fns globs (callN fns globs wf n) wf b (as.map some ++ List.replicate (ns - as.length) none)) := by
  unfold callN runFn
  rw [h]
  dsimp only
  rw [decide_eq_true hl]
  dsimp only
  generalize evB fns globs (callN fns globs wf n) wf b _ = o
  cases o <;> rfl
section
variable {fns : Nat → Fn} {globs : Nat → P} {cf : Nat → List D → Ret} {ρ ρ1 ρ2 ρ3 : Env}
theorem sq_nil : seqV (evL fns globs cf []) ρ = .ok [] ρ := rfl
theorem sq_cons {e : Ex} {es : List Ex} {d : D} {ds : List D} (h : (ev fns globs cf e).v ρ = .ok d ρ1) (h2 : seqV (evL fns globs cf es) ρ1 = .ok ds ρ2) : seqV (evL fns globs cf (e :: es)) ρ = .ok (d :: ds) ρ2 := by
  show bnd ((ev fns globs cf e).v ρ) _ = _
  rw [h]
  show bnd (seqV (evL fns globs cf es) ρ1) _ = _
  rw [h2]
  rfl
theorem v_tup {es : List Ex} {ds : List D} (h : seqV (evL fns globs cf es) ρ = .ok ds ρ1) (hl : szOk ds.length = true) : (ev fns globs cf (.tup es)).v ρ = .ok (.p (.tup (frzL ds))) ρ1 := by
  show bnd (seqV (evL fns globs cf es) ρ) _ = _
  rw [h]
  show (match szOk ds.length with | true => _ | false => _) = _
  rw [hl]
theorem v_lst {es : List Ex} {ds : List D} (h : seqV (evL fns globs cf es) ρ = .ok ds ρ1) (hl : szOk ds.length = true) : (ev fns globs cf (.lst es)).v ρ = .ok (.l ds) ρ1 := by
  show bnd (seqV (evL fns globs cf es) ρ) _ = _
  rw [h]
  show (match szOk ds.length with | true => _ | false => _) = _
  rw [hl]
theorem o_v {v : Env → Out D} {d : D} {i : Option Nat} (h : v ρ = .ok d ρ1) (hi : i = none) : opd i v ρ = .ok (frz d) ρ1 := by
  subst hi
  show bndF (v ρ) _ = _
  rw [h]
  rfl
theorem v_bin {op : Operator} {a b : Ex} {x y : P} {z : D} (h1 : opd a.isVar (ev fns globs cf a).v ρ = .ok x ρ1) (h2 : opd b.isVar (ev fns globs cf b).v ρ1 = .ok y ρ2) (h3 : ((res a.isVar x ρ2).bind fun x => (res b.isVar y ρ2).bind fun y => binop op x y) = some z) : (ev fns globs cf (.bin op a b)).v ρ = .ok z ρ2 := by
  show bnd (opd a.isVar (ev fns globs cf a).v ρ) _ = _
  rw [h1]
  show bnd (opd b.isVar (ev fns globs cf b).v ρ1) _ = _
  rw [h2]
  show fin _ _ = _
  rw [h3]
  rfl
theorem v_cmp {op : CmpOp} {a b : Ex} {x y : P} {z : Bool} (h1 : opd a.isVar (ev fns globs cf a).v ρ = .ok x ρ1) (h2 : opd b.isVar (ev fns globs cf b).v ρ1 = .ok y ρ2) (h3 : ((res a.isVar x ρ2).bind fun x => (res b.isVar y ρ2).bind fun y => cmpop op x y) = some z) : (ev fns globs cf (.cmp op a b)).v ρ = .ok (.p (.bl z)) ρ2 := by
  show bnd (opd a.isVar (ev fns globs cf a).v ρ) _ = _
  rw [h1]
  show bnd (opd b.isVar (ev fns globs cf b).v ρ1) _ = _
  rw [h2]
  show fin _ _ = _
  revert h3
  cases res a.isVar x ρ2 with
  | none => intro h; cases h
  | some x' =>
    cases res b.isVar y ρ2 with
    | none => intro h; cases h
    | some y' =>
      intro h
      have h' : cmpop op x' y' = some z := h
      show fin ((cmpop op x' y').map _) _ = _
      rw [h']
      rfl
theorem t_v {v : Env → Out D} {b : Bool} (h : v ρ = .ok (.p (.bl b)) ρ1) : (ofV v).t ρ = .ok b ρ1 := by
  show tOfV v ρ = _
  unfold tOfV
  rw [h]
  rfl
theorem t_cmp {op : CmpOp} {a b : Ex} {x y : P} {z : Bool} (h1 : opd a.isVar (ev fns globs cf a).v ρ = .ok x ρ1) (h2 : opd b.isVar (ev fns globs cf b).v ρ1 = .ok y ρ2) (h3 : ((res a.isVar x ρ2).bind fun x => (res b.isVar y ρ2).bind fun y => cmpop op x y) = some z) : (ev fns globs cf (.cmp op a b)).t ρ = .ok z ρ2 := t_v (v_cmp h1 h2 h3)
/-- a call of a def that changes nothing -/
theorem v_call {f : Nat} {es kes : List Ex} {ks : List Nat} {ds zs : List D} {d : D} {o : Option D} (hm : (fns f).mt = false) (h1 : seqV (evL fns globs cf es) ρ = .ok ds ρ1) (h2 : seqV (evL fns globs cf kes) ρ1 = .ok zs ρ2) (h3 : callArgs cf f (fns f).np [] ds ks zs = .ok d o) : (ev fns globs cf (.call f es ks kes)).v ρ = .ok d ρ2 := by
  show (dCall cf f (fns f) _ _ ks _).v ρ = _
  unfold dCall ofV
  rw [hm]
  dsimp only
  rw [h1]
  show bnd (seqV (evL fns globs cf kes) ρ1) _ = _
  rw [h2]
  show retTo none _ _ = _
  rw [h3]
  rfl
theorem t_call {f : Nat} {es kes : List Ex} {ks : List Nat} {ds zs : List D} {b : Bool} {o : Option D} (hm : (fns f).mt = false) (h1 : seqV (evL fns globs cf es) ρ = .ok ds ρ1) (h2 : seqV (evL fns globs cf kes) ρ1 = .ok zs ρ2) (h3 : callArgs cf f (fns f).np [] ds ks zs = .ok (.p (.bl b)) o) : (ev fns globs cf (.call f es ks kes)).t ρ = .ok b ρ2 := t_v (v_call hm h1 h2 h3)
theorem x_call {f : Nat} {es kes : List Ex} {ks : List Nat} {ds zs : List D} {c : Nat} {fs : List P} (hm : (fns f).mt = false) (h1 : seqV (evL fns globs cf es) ρ = .ok ds ρ1) (h2 : seqV (evL fns globs cf kes) ρ1 = .ok zs ρ2) (h3 : callArgs cf f (fns f).np [] ds ks zs = .exc c fs) : (ev fns globs cf (.call f es ks kes)).v ρ = .exc c fs ρ2 := by
  show (dCall cf f (fns f) _ _ ks _).v ρ = _
  unfold dCall ofV
  rw [hm]
  dsimp only
  rw [h1]
  show bnd (seqV (evL fns globs cf kes) ρ1) _ = _
  rw [h2]
  show retTo none _ _ = _
  rw [h3]
  rfl
/-- a call that changes the slot s -/
theorem v_callM {f s : Nat} {es kes : List Ex} {ks : List Nat} {ds zs : List D} {d0 d1 d : D} {o : Option D} (hm : (fns f).mt = true) (hs : getD ρ s = some d0) (h1 : seqV (evL fns globs cf es) ρ = .ok ds ρ1) (h2 : seqV (evL fns globs cf kes) ρ1 = .ok zs ρ2) (hs2 : getD ρ2 s = some d1) (h3 : callArgs cf f (fns f).np [d1] ds ks zs = .ok d o) : (ev fns globs cf (.call f (.var s :: es) ks kes)).v ρ = .ok d (ρ2.set s o) := by
  show (dCall cf f (fns f) (some s) (ev fns globs cf (.var s) :: evL fns globs cf es) ks _).v ρ = _
  unfold dCall ofV
  rw [hm]
  dsimp only
  rw [hs]
  dsimp only
  rw [h1]
  show bnd (seqV (evL fns globs cf kes) ρ1) _ = _
  rw [h2]
  show (match getD ρ2 s with | some d => _ | none => _) = _
  rw [hs2]
  show retTo _ _ _ = _
  rw [h3]
  rfl
theorem t_not {e : Ex} {b : Bool} (h : (ev fns globs cf e).t ρ = .ok b ρ1) : (ev fns globs cf (.not e)).t ρ = .ok (!b) ρ1 := by
  show bnd ((ev fns globs cf e).t ρ) _ = _
  rw [h]
  rfl
theorem t_or2F {a b : Ex} {r : List Ex} {x : Bool} (h : (ev fns globs cf a).t ρ = .ok false ρ1) (h2 : (ev fns globs cf (.or (b :: r))).t ρ1 = .ok x ρ2) : (ev fns globs cf (.or (a :: b :: r))).t ρ = .ok x ρ2 := by
  show bnd ((ev fns globs cf a).t ρ) _ = _
  rw [h]
  exact h2
theorem t_or2T {a b : Ex} {r : List Ex} (h : (ev fns globs cf a).t ρ = .ok true ρ1) : (ev fns globs cf (.or (a :: b :: r))).t ρ = .ok true ρ1 := by
  show bnd ((ev fns globs cf a).t ρ) _ = _
  rw [h]
  rfl
theorem t_and2F {a b : Ex} {r : List Ex} (h : (ev fns globs cf a).t ρ = .ok false ρ1) : (ev fns globs cf (.and (a :: b :: r))).t ρ = .ok false ρ1 := by
  show bnd ((ev fns globs cf a).t ρ) _ = _
  rw [h]
  rfl
theorem t_and2T {a b : Ex} {r : List Ex} {x : Bool} (h : (ev fns globs cf a).t ρ = .ok true ρ1) (h2 : (ev fns globs cf (.and (b :: r))).t ρ1 = .ok x ρ2) : (ev fns globs cf (.and (a :: b :: r))).t ρ = .ok x ρ2 := by
  show bnd ((ev fns globs cf a).t ρ) _ = _
  rw [h]
  exact h2
theorem t_or1 {a : Ex} : (ev fns globs cf (.or [a])).t ρ = (ev fns globs cf a).t ρ := rfl
theorem t_and1 {a : Ex} : (ev fns globs cf (.and [a])).t ρ = (ev fns globs cf a).t ρ := rfl
theorem t_andP {a b : Ex} {r : List Ex} {x y : Bool} (h : (ev fns globs cf a).t ρ = .ok x ρ) (h2 : (ev fns globs cf (.and (b :: r))).t ρ = .ok y ρ) : (ev fns globs cf (.and (a :: b :: r))).t ρ = .ok (x && y) ρ := by
  cases x
  · exact t_and2F h
  · exact t_and2T h h2
theorem t_orP {a b : Ex} {r : List Ex} {x y : Bool} (h : (ev fns globs cf a).t ρ = .ok x ρ) (h2 : (ev fns globs cf (.or (b :: r))).t ρ = .ok y ρ) : (ev fns globs cf (.or (a :: b :: r))).t ρ = .ok (x || y) ρ := by
  cases x
  · exact t_or2F h h2
  · exact t_or2T h
theorem v_andP {a b : Ex} {r : List Ex} {x y : Bool} (h : (ev fns globs cf a).v ρ = .ok (.p (.bl x)) ρ) (h2 : (ev fns globs cf (.and (b :: r))).v ρ = .ok (.p (.bl y)) ρ) : (ev fns globs cf (.and (a :: b :: r))).v ρ = .ok (.p (.bl (x && y))) ρ := by
  show (dAnd (ev fns globs cf a) (dAndL (evL fns globs cf (b :: r)))).v ρ = _
  unfold dAnd
  dsimp only
  rw [h]
  cases x
  · rfl
  · exact h2
theorem v_orP {a b : Ex} {r : List Ex} {x y : Bool} (h : (ev fns globs cf a).v ρ = .ok (.p (.bl x)) ρ) (h2 : (ev fns globs cf (.or (b :: r))).v ρ = .ok (.p (.bl y)) ρ) : (ev fns globs cf (.or (a :: b :: r))).v ρ = .ok (.p (.bl (x || y))) ρ := by
  show (dOr (ev fns globs cf a) (dOrL (evL fns globs cf (b :: r)))).v ρ = _
  unfold dOr
  dsimp only
  rw [h]
  cases x
  · exact h2
  · rfl
theorem t_or2 {a b : Ex} {x y : Bool} (h : (ev fns globs cf a).t ρ = .ok x ρ) (h2 : (ev fns globs cf b).t ρ = .ok y ρ) : (ev fns globs cf (.or [a, b])).t ρ = .ok (x || y) ρ := t_orP h h2
theorem t_and2 {a b : Ex} {x y : Bool} (h : (ev fns globs cf a).t ρ = .ok x ρ) (h2 : (ev fns globs cf b).t ρ = .ok y ρ) : (ev fns globs cf (.and [a, b])).t ρ = .ok (x && y) ρ := t_andP h h2
theorem t_chain {o1 o2 : CmpOp} {a b c : Ex} {x y z : P} {p q : Bool} (h1 : (ev fns globs cf a).v ρ = .ok (.p x) ρ) (h2 : (ev fns globs cf b).v ρ = .ok (.p y) ρ) (h3 : cmpop o1 x y = some p) (h4 : p = true → (ev fns globs cf c).v ρ = .ok (.p z) ρ ∧ cmpop o2 y z = some q) : (ev fns globs cf (.chain o1 o2 a b c)).t ρ = .ok (p && q) ρ := by
  refine t_v (?_ : (ev fns globs cf (.chain o1 o2 a b c)).v ρ = _)
  show (dChain o1 o2 (ev fns globs cf a) (ev fns globs cf b) (ev fns globs cf c)).v ρ = _
  unfold dChain ofV
  dsimp only
  rw [h1]
  dsimp only [bndF, frz]
  rw [h2]
  dsimp only [bndF, frz]
  rw [h3]
  cases p
  · rfl
  · obtain ⟨h5, h6⟩ := h4 rfl
    dsimp only
    rw [h5]
    dsimp only [bndF, frz]
    rw [h6]
    rfl
end
section
variable {fns : Nat → Fn} {globs : Nat → P} {cf : Nat → List D → Ret} {wf : Nat} {ρ ρ1 : Env}
/-- a for whose turns all go on, by an invariant -/
theorem forGo_inv {pt : Pat} {body : Env → SOut} (I : Env → Prop) : ∀ (xs : List P), (∀ x ∈ xs, ∀ ρ, I ρ → ∃ ρ1, bindPat pt x ρ = some ρ1 ∧ ∃ ρ2, body ρ1 = .nx ρ2 ∧ I ρ2) → ∀ ρ, I ρ → ∃ ρ2, forGo pt body xs ρ = .nx ρ2 ∧ I ρ2
  | [], _, ρ, h => ⟨ρ, rfl, h⟩
  | x :: xs, hs, ρ, h => by
    obtain ⟨ρ1, h1, ρ2, h2, h3⟩ := hs x (List.mem_cons_self ..) ρ h
    obtain ⟨ρ3, h4, h5⟩ := forGo_inv I xs (fun y hy => hs y (List.mem_cons_of_mem _ hy)) ρ2 h3
    refine ⟨ρ3, ?_, h5⟩
    show (match bindPat pt x ρ with | none => _ | some ρ1 => _) = _
    rw [h1]
    dsimp only
    rw [h2]
    exact h4
theorem s_for {pt : Pat} {it : Ex} {b : List Sm} {xs : List P} (h : (ev fns globs cf it).i ρ = .ok xs ρ1) : evS fns globs cf wf (.for_ pt it b) ρ = forGo pt (evB fns globs cf wf b) xs ρ1 := by
  show sbnd ((ev fns globs cf it).i ρ) _ = _
  rw [h]
  rfl
theorem s_while {c : Ex} {b : List Sm} {o : SOut} (h : whileGo (ev fns globs cf c).t (evB fns globs cf wf b) wf ρ = o) : evS fns globs cf wf (.while_ c b) ρ = o := h
theorem whileGo_step {test : Env → Out Bool} {body : Env → SOut} {n : Nat} {ρ ρ1 ρ2 : Env} (h1 : test ρ = .ok true ρ1) (h2 : body ρ1 = .nx ρ2) : whileGo test body (n + 1) ρ = whileGo test body n ρ2 := by
  show sbnd (test ρ) _ = _
  rw [h1]
  show (match body ρ1 with | .nx ρ2 => _ | .ct ρ2 => _ | .bk ρ2 => _ | .rt d ρ2 => _ | .exc c fs ρ2 => _ | .bad => _) = _
  rw [h2]
theorem whileGo_end {test : Env → Out Bool} {body : Env → SOut} {n : Nat} {ρ ρ1 : Env} (h1 : test ρ = .ok false ρ1) : whileGo test body (n + 1) ρ = .nx ρ1 := by
  show sbnd (test ρ) _ = _
  rw [h1]
  rfl
end
theorem retN {fns : Nat → Fn} {globs : Nat → P} {cf : Nat → List D → Ret} {wf : Nat} {ρ ρ' : Env} {ss : List Sm} {e : Ex} {d : D} (h : (ev fns globs cf e).v ρ = .ok d ρ') : fromS false (evB fns globs cf wf (.ret e :: ss) ρ) = .ok d none := by
  rw [b_ret (s_ret h)]
  rfl
theorem retM {fns : Nat → Fn} {globs : Nat → P} {cf : Nat → List D → Ret} {wf : Nat} {ρ ρ' : Env} {ss : List Sm} {e : Ex} {d : D} (h : (ev fns globs cf e).v ρ = .ok d ρ') : fromS true (evB fns globs cf wf (.ret e :: ss) ρ) = .ok d (getD ρ' 0) := by
  rw [b_ret (s_ret h)]
  rfl
end Pl

set_option Elab.async false
set_option linter.all false
set_option autoImplicit false
namespace Pu
abbrev Bn := Nat × Nat × Int
def relax (s : Nat → Int) (b : Bn) : Nat → Int := if s b.2.1 + b.2.2 < s b.1 then (fun x => if x = b.1 then s b.2.1 + b.2.2 else s x) else s
def round (bs : List Bn) (s : Nat → Int) : Nat → Int := bs.foldl relax s
def rounds (bs : List Bn) (s : Nat → Int) : Nat → Nat → Int
  | 0 => s
  | t + 1 => round bs (rounds bs s t)
def Sat (bs : List Bn) (x : Nat → Int) : Prop := ∀ b ∈ bs, x b.1 ≤ x b.2.1 + b.2.2
theorem relax_le (s : Nat → Int) (b : Bn) (x : Nat) : relax s b x ≤ s x := by
  unfold relax
  split
  · show (if x = b.1 then _ else _) ≤ _
    split
    · rename_i h e
      subst e
      exact Int.le_of_lt h
    · exact Int.le_refl _
  · exact Int.le_refl _
theorem relax_b (s : Nat → Int) (b : Bn) : relax s b b.1 ≤ s b.2.1 + b.2.2 := by
  unfold relax
  split
  · show (if b.1 = b.1 then _ else _) ≤ _
    rw [if_pos rfl]
    exact Int.le_refl _
  · omega
theorem round_le : ∀ (bs : List Bn) (s : Nat → Int) (x : Nat), round bs s x ≤ s x
  | [], s, x => Int.le_refl _
  | b :: bs, s, x => Int.le_trans (round_le bs (relax s b) x) (relax_le s b x)
theorem round_b : ∀ (bs : List Bn) (s : Nat → Int) (b : Bn), b ∈ bs → round bs s b.1 ≤ s b.2.1 + b.2.2
  | c :: bs, s, b, h => by
    rcases List.mem_cons.mp h with e | e
    · subst e
      exact Int.le_trans (round_le bs _ _) (relax_b s b)
    · have h1 := round_b bs (relax s c) b e
      have h2 := relax_le s c b.2.1
      show round bs (relax s c) b.1 ≤ _
      omega
theorem relax_lo {s x : Nat → Int} {b : Bn} (hx : x b.1 ≤ x b.2.1 + b.2.2) (h : ∀ i, x i ≤ s i) (i : Nat) : x i ≤ relax s b i := by
  unfold relax
  split
  · show x i ≤ if i = b.1 then _ else _
    split
    · rename_i e
      subst e
      have := h b.2.1
      omega
    · exact h i
  · exact h i
theorem round_lo : ∀ (bs : List Bn) (s x : Nat → Int), Sat bs x → (∀ i, x i ≤ s i) → ∀ i, x i ≤ round bs s i
  | [], s, x, _, h, i => h i
  | b :: bs, s, x, hx, h, i => round_lo bs (relax s b) x (fun c hc => hx c (List.mem_cons_of_mem _ hc)) (fun i => relax_lo (hx b List.mem_cons_self) h i) i
theorem rounds_lo (bs : List Bn) (s x : Nat → Int) (hx : Sat bs x) (h : ∀ i, x i ≤ s i) : ∀ t i, x i ≤ rounds bs s t i
  | 0, i => h i
  | t + 1, i => round_lo bs _ x hx (rounds_lo bs s x hx h t) i
theorem rounds_add (bs : List Bn) (s : Nat → Int) (t : Nat) : ∀ k, rounds bs s (t + k) = rounds bs (rounds bs s t) k
  | 0 => rfl
  | k + 1 => by
    show round bs (rounds bs s (t + k)) = round bs (rounds bs (rounds bs s t) k)
    rw [rounds_add bs s t k]
theorem rounds_mono (bs : List Bn) (s : Nat → Int) (t : Nat) : ∀ k i, rounds bs s (t + k) i ≤ rounds bs s t i
  | 0, i => Int.le_refl _
  | k + 1, i => Int.le_trans (round_le bs _ i) (rounds_mono bs s t k i)
/-- a round that changes nothing: all bounds are kept -/
theorem stable_sat {bs : List Bn} {s : Nat → Int} (h : ∀ i, round bs s i = s i) : Sat bs s := fun b hb => by
  have := round_b bs s b hb
  rw [h] at this
  exact this
/-- only points of bounds change -/
theorem relax_out {n : Nat} {s : Nat → Int} {b : Bn} (hb : b.1 < n) (i : Nat) (hi : n ≤ i) : relax s b i = s i := by
  unfold relax
  split
  · show (if i = b.1 then _ else _) = _
    rw [if_neg (by omega)]
  · rfl
theorem round_out {n : Nat} : ∀ (bs : List Bn) (s : Nat → Int), (∀ b ∈ bs, b.1 < n) → ∀ i, n ≤ i → round bs s i = s i
  | [], s, _, i, _ => rfl
  | b :: bs, s, h, i, hi => by
    show round bs (relax s b) i = _
    rw [round_out bs (relax s b) (fun c hc => h c (List.mem_cons_of_mem _ hc)) i hi, relax_out (h b List.mem_cons_self) i hi]
def tot (s q : Nat → Int) : Nat → Int
  | 0 => 0
  | n + 1 => tot s q n + (s n - q n)
theorem tot_nn {s q : Nat → Int} (h : ∀ i, q i ≤ s i) : ∀ n, 0 ≤ tot s q n
  | 0 => Int.le_refl _
  | n + 1 => by
    have := tot_nn h n
    have := h n
    show 0 ≤ tot s q n + (s n - q n)
    omega
theorem tot_le {s s' q : Nat → Int} (h : ∀ i, s' i ≤ s i) : ∀ n, tot s' q n ≤ tot s q n
  | 0 => Int.le_refl _
  | n + 1 => by
    have := tot_le (q := q) h n
    have := h n
    show tot s' q n + (s' n - q n) ≤ tot s q n + (s n - q n)
    omega
theorem tot_lt {s s' q : Nat → Int} (h : ∀ i, s' i ≤ s i) : ∀ n j, j < n → s' j < s j → tot s' q n < tot s q n
  | 0, j, hj, _ => absurd hj (Nat.not_lt_zero j)
  | n + 1, j, hj, hlt => by
    show tot s' q n + (s' n - q n) < tot s q n + (s n - q n)
    by_cases e : j = n
    · subst e
      have := tot_le (q := q) h j
      omega
    · have := tot_lt (q := q) h n j (by omega) hlt
      have := h n
      omega
theorem ends (bs : List Bn) (n : Nat) (hb : ∀ b ∈ bs, b.1 < n) (q : Nat → Int) (hq : Sat bs q) : ∀ (M : Nat) (s : Nat → Int), (∀ i, q i ≤ s i) → tot s q n ≤ M → ∃ N, ∀ i, round bs (rounds bs s N) i = rounds bs s N i
  | 0, s, hs, hM => by
    refine ⟨0, fun i => ?_⟩
    show round bs s i = s i
    by_cases hi : i < n
    · by_cases e : round bs s i = s i
      · exact e
      · have h1 := tot_lt (q := q) (round_le bs s) n i hi (by have := round_le bs s i; omega)
        have h2 := tot_nn (round_lo bs s q hq hs) n
        omega
    · exact round_out bs s hb i (by omega)
  | M + 1, s, hs, hM => by
    by_cases h : ∀ i, round bs s i = s i
    · exact ⟨0, h⟩
    · have : ∃ i, round bs s i ≠ s i := Classical.not_forall.mp h
      obtain ⟨i, hi⟩ := this
      have hin : i < n := by
        by_cases z : i < n
        · exact z
        · exact absurd (round_out bs s hb i (by omega)) hi
      have h1 := tot_lt (q := q) (round_le bs s) n i hin (by have := round_le bs s i; omega)
      obtain ⟨N, hN⟩ := ends bs n hb q hq M (round bs s) (round_lo bs s q hq hs) (by omega)
      refine ⟨N + 1, ?_⟩
      have e : rounds bs s (N + 1) = rounds bs (round bs s) N := by
        rw [show N + 1 = 1 + N by omega, rounds_add bs s 1 N]
        rfl
      rw [e]
      exact hN
def cnt (p : Nat → Bool) : Nat → Nat
  | 0 => 0
  | n + 1 => cnt p n + (if p n then 1 else 0)
theorem cnt_le (p : Nat → Bool) : ∀ n, cnt p n ≤ n
  | 0 => Nat.le_refl _
  | n + 1 => by
    have := cnt_le p n
    show cnt p n + (if p n then 1 else 0) ≤ n + 1
    split <;> omega
theorem cnt_mono {p q : Nat → Bool} (h : ∀ i, p i = true → q i = true) : ∀ n, cnt p n ≤ cnt q n
  | 0 => Nat.le_refl _
  | n + 1 => by
    have := cnt_mono h n
    show cnt p n + (if p n then 1 else 0) ≤ cnt q n + (if q n then 1 else 0)
    by_cases hp : p n = true
    · rw [if_pos hp, if_pos (h n hp)]; omega
    · rw [if_neg hp]; omega
theorem cnt_lt {p q : Nat → Bool} (h : ∀ i, p i = true → q i = true) : ∀ n j, j < n → p j = false → q j = true → cnt p n < cnt q n
  | 0, j, hj, _, _ => absurd hj (Nat.not_lt_zero j)
  | n + 1, j, hj, hp, hq => by
    show cnt p n + (if p n then 1 else 0) < cnt q n + (if q n then 1 else 0)
    by_cases e : j = n
    · subst e
      have := cnt_mono h j
      rw [hp, hq]
      simp
      omega
    · have := cnt_lt h n j (by omega) hp hq
      by_cases hp2 : p n = true
      · rw [if_pos hp2, if_pos (h n hp2)]; omega
      · rw [if_neg hp2]; omega
theorem cnt_zero {p : Nat → Bool} : ∀ n, cnt p n = 0 → ∀ i, i < n → p i = false
  | 0, _, i, hi => absurd hi (Nat.not_lt_zero i)
  | n + 1, h, i, hi => by
    have h' : cnt p n + (if p n then 1 else 0) = 0 := h
    by_cases e : i = n
    · subst e
      cases hp : p i with
      | false => rfl
      | true => rw [hp] at h'; simp at h'
    · exact cnt_zero n (by omega) i (by omega)
theorem exists_max (p : Nat → Int) : ∀ n : Nat, ∃ C : Int, ∀ i, i < n → p i ≤ C
  | 0 => ⟨0, fun i h => absurd h (Nat.not_lt_zero i)⟩
  | n + 1 => by
    obtain ⟨C, hC⟩ := exists_max p n
    refine ⟨max C (p n), fun i hi => ?_⟩
    by_cases e : i = n
    · subst e; omega
    · have := hC i (by omega); omega
/-- where a world is, one of the first n rounds changes nothing -/
theorem settles (bs : List Bn) (n : Nat) (hn : 1 ≤ n) (hb : ∀ b ∈ bs, b.1 < n ∧ b.2.1 < n) (p : Nat → Int) (hp : Sat bs p) : ∃ t, t < n ∧ ∀ i, round bs (rounds bs (fun _ => 0) t) i = rounds bs (fun _ => 0) t i := by
  obtain ⟨C, hC⟩ := exists_max p n
  let q : Nat → Int := fun i => if i < n then p i - C else 0
  have q_in : ∀ i, i < n → q i = p i - C := fun i hi => if_pos hi
  have q0 : ∀ i, q i ≤ 0 := fun i => by
    by_cases hi : i < n
    · rw [q_in i hi]; have := hC i hi; omega
    · show (if i < n then _ else _) ≤ _; rw [if_neg hi]; exact Int.le_refl _
  have hq : Sat bs q := fun b hbm => by
    obtain ⟨h1, h2⟩ := hb b hbm
    rw [q_in _ h1, q_in _ h2]
    have := hp b hbm
    omega
  have hb1 : ∀ b ∈ bs, b.1 < n := fun b h => (hb b h).1
  obtain ⟨N, hN⟩ := ends bs n hb1 q hq (tot (fun _ => 0) q n).toNat (fun _ => 0) q0 (by
    have := tot_nn (s := fun _ => 0) (q := q) q0 n
    omega)
  generalize hL : rounds bs (fun _ => 0) N = L at hN
  have satL : Sat bs L := stable_sat hN
  have fix : ∀ k, rounds bs L k = L := by
    intro k
    induction k with
    | zero => rfl
    | succ k ih =>
      show round bs (rounds bs L k) = L
      rw [ih]
      exact funext hN
  have lo : ∀ t i, L i ≤ rounds bs (fun _ => 0) t i := by
    intro t i
    by_cases h : t ≤ N
    · have := rounds_mono bs (fun _ => 0) t (N - t) i
      rw [show t + (N - t) = N by omega, hL] at this
      exact this
    · have e : rounds bs (fun _ => 0) t = L := by
        rw [show t = N + (t - N) by omega, rounds_add, hL]
        exact fix _
      rw [e]
      exact Int.le_refl _
  have mx : ∀ t x, Sat bs x → (∀ i, x i ≤ rounds bs (fun _ => 0) t i) → ∀ i, x i ≤ L i := by
    intro t x hx h i
    have h1 := rounds_lo bs _ x hx h N i
    rw [← rounds_add bs _ t N, show t + N = N + t by omega, rounds_add, hL, fix] at h1
    exact h1
  let U : Nat → Nat → Bool := fun t i => decide (L i < rounds bs (fun _ => 0) t i)
  have less : ∀ t, (∃ i, i < n ∧ U t i = true) → cnt (U (t + 1)) n < cnt (U t) n := by
    intro t hU
    have sub : ∀ i, U (t + 1) i = true → U t i = true := fun i h => by
      have h1 := of_decide_eq_true h
      have h2 := round_le bs (rounds bs (fun _ => 0) t) i
      exact decide_eq_true (Int.lt_of_lt_of_le h1 h2)
    by_cases h : ∃ i, i < n ∧ U t i = true ∧ U (t + 1) i = false
    · obtain ⟨i, h1, h2, h3⟩ := h
      exact cnt_lt sub n i h1 h3 h2
    · exfalso
      obtain ⟨i0, hi0, hu0⟩ := hU
      have all : ∀ i, i < n → U t i = true → L i < rounds bs (fun _ => 0) (t + 1) i := fun i hi hu => by
        cases e : U (t + 1) i with
        | true => exact of_decide_eq_true e
        | false => exact absurd ⟨i, hi, hu, e⟩ h
      let x : Nat → Int := fun i => if i < n ∧ L i < rounds bs (fun _ => 0) t i then L i + 1 else L i
      have x1 : ∀ i, i < n → L i < rounds bs (fun _ => 0) t i → x i = L i + 1 := fun i a b => if_pos ⟨a, b⟩
      have x2 : ∀ i, ¬ (i < n ∧ L i < rounds bs (fun _ => 0) t i) → x i = L i := fun i a => if_neg a
      have x3 : ∀ i, L i ≤ x i := fun i => by
        by_cases a : i < n ∧ L i < rounds bs (fun _ => 0) t i
        · rw [x1 i a.1 a.2]; omega
        · rw [x2 i a]; exact Int.le_refl _
      have satx : Sat bs x := fun b hbm => by
        obtain ⟨h1, h2⟩ := hb b hbm
        have hl := satL b hbm
        by_cases a : b.1 < n ∧ L b.1 < rounds bs (fun _ => 0) t b.1
        · rw [x1 _ a.1 a.2]
          by_cases c : b.2.1 < n ∧ L b.2.1 < rounds bs (fun _ => 0) t b.2.1
          · rw [x1 _ c.1 c.2]; omega
          · rw [x2 _ c]
            have g1 := all b.1 h1 (decide_eq_true a.2)
            have g2 := round_b bs (rounds bs (fun _ => 0) t) b hbm
            have g2' : rounds bs (fun _ => 0) (t + 1) b.1 ≤ rounds bs (fun _ => 0) t b.2.1 + b.2.2 := g2
            have g3 : rounds bs (fun _ => 0) t b.2.1 = L b.2.1 := by
              have := lo t b.2.1
              have : ¬ (L b.2.1 < rounds bs (fun _ => 0) t b.2.1) := fun z => c ⟨h2, z⟩
              omega
            omega
        · rw [x2 _ a]
          have := x3 b.2.1
          omega
      have xs : ∀ i, x i ≤ rounds bs (fun _ => 0) t i := fun i => by
        by_cases a : i < n ∧ L i < rounds bs (fun _ => 0) t i
        · rw [x1 i a.1 a.2]; omega
        · rw [x2 i a]; exact lo t i
      have := mx t x satx xs i0
      rw [x1 i0 hi0 (of_decide_eq_true hu0)] at this
      omega
  have first : cnt (U 0) n ≤ n - 1 := by
    by_cases h : ∃ i, i < n ∧ U 0 i = false
    · obtain ⟨i, hi, hu⟩ := h
      have := cnt_lt (p := U 0) (q := fun _ => true) (fun _ _ => rfl) n i hi hu rfl
      have := cnt_le (fun _ => true) n
      omega
    · exfalso
      have all : ∀ i, i < n → L i < 0 := fun i hi => by
        cases e : U 0 i with
        | true => exact of_decide_eq_true e
        | false => exact absurd ⟨i, hi, e⟩ h
      have satx : Sat bs fun i => if i < n then L i + 1 else L i := fun b hbm => by
        obtain ⟨h1, h2⟩ := hb b hbm
        have hl := satL b hbm
        show (if b.1 < n then _ else _) ≤ (if b.2.1 < n then _ else _) + _
        rw [if_pos h1, if_pos h2]
        omega
      have := mx 0 _ satx (fun i => by
        show (if i < n then _ else _) ≤ (0 : Int)
        by_cases hi : i < n
        · rw [if_pos hi]; have := all i hi; omega
        · rw [if_neg hi]; exact lo 0 i) 0
      rw [if_pos (by omega)] at this
      omega
  have down : ∀ t, cnt (U t) n ≤ n - 1 - t := by
    intro t
    induction t with
    | zero => exact first
    | succ t ih =>
      by_cases h : ∃ i, i < n ∧ U t i = true
      · have := less t h; omega
      · have z : ∀ i, U (t + 1) i = true → (fun i => decide (n ≤ i)) i = true := fun i hi => by
          by_cases hin : i < n
          · have h1 := of_decide_eq_true hi
            have h2 := round_le bs (rounds bs (fun _ => 0) t) i
            exact absurd ⟨i, hin, decide_eq_true (Int.lt_of_lt_of_le h1 h2)⟩ h
          · exact decide_eq_true (by omega)
        have h1 := cnt_mono z n
        have h2 : ∀ m, m ≤ n → cnt (fun i => decide (n ≤ i)) m = 0 := by
          intro m
          induction m with
          | zero => intro _; rfl
          | succ m ihm =>
            intro hm
            show cnt _ m + (if decide (n ≤ m) then 1 else 0) = 0
            rw [ihm (by omega), decide_eq_false (by omega)]
            rfl
        rw [h2 n (Nat.le_refl _)] at h1
        omega
  refine ⟨n - 1, by omega, ?_⟩
  have hz := cnt_zero n (by have := down (n - 1); omega : cnt (U (n - 1)) n = 0)
  have e : ∀ i, rounds bs (fun _ => 0) (n - 1) i = L i := fun i => by
    by_cases hi : i < n
    · have h1 : ¬ (L i < rounds bs (fun _ => 0) (n - 1) i) := of_decide_eq_false (hz i hi)
      have := lo (n - 1) i
      omega
    · have o : ∀ t, rounds bs (fun _ => 0) t i = 0 := by
        intro t
        induction t with
        | zero => rfl
        | succ t ih => exact (round_out bs _ hb1 i (by omega)).trans ih
      rw [← hL, o, o]
  have e2 : rounds bs (fun _ => 0) (n - 1) = L := funext e
  rw [e2]
  exact hN
end Pu

set_option Elab.async false
set_option linter.all false
set_option autoImplicit false
namespace Pu
def lesser : Option Int → Option Int → Option Int
  | none, o => o
  | some a, none => some a
  | some a, some b => some (if b < a then b else a)
def addO : Option Int → Option Int → Option Int
  | some a, some b => some (a + b)
  | _, _ => none
theorem lesser_none (o : Option Int) : lesser o none = o := by cases o <;> rfl
abbrev Mat := Nat → Nat → Option Int
def put (f : Mat) (i j : Nat) (v : Option Int) : Mat := fun a b => if a = i ∧ b = j then v else f a b
def base : Mat := fun i j => if i = j then some 0 else none
def addB (f : Mat) (b : Bn) : Mat := put f b.1 b.2.1 (lesser (f b.1 b.2.1) (some b.2.2))
def start (bs : List Bn) : Mat := bs.foldl addB base
def step (k : Nat) (f : Mat) : Mat := fun i j => lesser (f i j) (addO (f i k) (f k j))
def steps (f : Mat) : Nat → Mat
  | 0 => f
  | k + 1 => step k (steps f k)
/-- what is kept where p is a world: no sum of a chain is too small, each point is at 0 from itself -/
structure Good (p : Nat → Int) (f : Mat) : Prop where
  dg : ∀ i, f i i = some 0
  lo : ∀ i j v, f i j = some v → p i - p j ≤ v
theorem good_base (p : Nat → Int) : Good p base := ⟨fun i => by unfold base; rw [if_pos rfl], fun i j v h => by
  unfold base at h
  split at h
  · rename_i e
    subst e
    cases h
    omega
  · cases h⟩
theorem lesser_lo {a b : Option Int} {c : Int} (ha : ∀ v, a = some v → c ≤ v) (hb : ∀ v, b = some v → c ≤ v) : ∀ v, lesser a b = some v → c ≤ v := by
  intro v h
  cases a with
  | none => exact hb v h
  | some x =>
    cases b with
    | none => exact ha v h
    | some y =>
      have h' : (if y < x then y else x) = v := Option.some.inj h
      have := ha x rfl
      have := hb y rfl
      split at h' <;> omega
theorem good_addB {p : Nat → Int} {f : Mat} {b : Bn} (g : Good p f) (hb : p b.1 - p b.2.1 ≤ b.2.2) (hne : b.1 ≠ b.2.1) : Good p (addB f b) := by
  refine ⟨fun i => ?_, fun i j v h => ?_⟩
  · unfold addB put
    rw [if_neg (fun z => hne (z.1.symm.trans z.2))]
    exact g.dg i
  · unfold addB put at h
    split at h
    · rename_i e
      rw [e.1, e.2]
      refine lesser_lo (fun w hw => g.lo _ _ w hw) (fun w hw => ?_) v h
      cases hw
      exact hb
    · exact g.lo i j v h
theorem good_start {p : Nat → Int} : ∀ (bs : List Bn) (f : Mat), Good p f → (∀ b ∈ bs, p b.1 - p b.2.1 ≤ b.2.2 ∧ b.1 ≠ b.2.1) → Good p (bs.foldl addB f)
  | [], f, g, _ => g
  | b :: bs, f, g, h => good_start bs (addB f b) (good_addB g (h b List.mem_cons_self).1 (h b List.mem_cons_self).2) fun c hc => h c (List.mem_cons_of_mem _ hc)
theorem addO_lo {p : Nat → Int} {f : Mat} (g : Good p f) (i k j : Nat) : ∀ v, addO (f i k) (f k j) = some v → p i - p j ≤ v := by
  intro v h
  cases h1 : f i k with
  | none => rw [h1] at h; cases h
  | some a =>
    cases h2 : f k j with
    | none => rw [h1, h2] at h; cases h
    | some b =>
      rw [h1, h2] at h
      have e : a + b = v := Option.some.inj h
      have := g.lo i k a h1
      have := g.lo k j b h2
      omega
theorem good_step {p : Nat → Int} {f : Mat} (g : Good p f) (k : Nat) : Good p (step k f) := by
  refine ⟨fun i => ?_, fun i j => lesser_lo (g.lo i j) (addO_lo g i k j)⟩
  have h1 := addO_lo g i k i
  unfold step
  rw [g.dg i]
  cases h : addO (f i k) (f k i) with
  | none => rfl
  | some v =>
    have := h1 v h
    show some (if v < 0 then v else 0) = some 0
    rw [if_neg (by omega)]
theorem good_steps {p : Nat → Int} {f : Mat} (g : Good p f) : ∀ k, Good p (steps f k)
  | 0 => g
  | k + 1 => good_step (good_steps g k) k
/-- the row and the column of the middle point stay -/
theorem step_row {p : Nat → Int} {f : Mat} (g : Good p f) (k j : Nat) : step k f k j = f k j := by
  unfold step
  rw [g.dg k]
  cases f k j with
  | none => rfl
  | some v =>
    show some (if 0 + v < v then 0 + v else v) = some v
    rw [if_neg (by omega)]
theorem step_col {p : Nat → Int} {f : Mat} (g : Good p f) (k i : Nat) : step k f i k = f i k := by
  unfold step
  rw [g.dg k]
  cases f i k with
  | none => rfl
  | some v =>
    show some (if v + 0 < v then v + 0 else v) = some v
    rw [if_neg (by omega)]
end Pu

set_option Elab.async false
set_option linter.all false
set_option autoImplicit false
namespace Pu
/-- a is at most b, none being greater than all -/
def leO (a b : Option Int) : Prop := ∀ v, b = some v → ∃ u, a = some u ∧ u ≤ v
theorem leO_refl (a : Option Int) : leO a a := fun v h => ⟨v, h, Int.le_refl _⟩
theorem leO_trans {a b c : Option Int} (h1 : leO a b) (h2 : leO b c) : leO a c := fun v h => by
  obtain ⟨u, e, l⟩ := h2 v h
  obtain ⟨w, e2, l2⟩ := h1 u e
  exact ⟨w, e2, by omega⟩
theorem lesser_l (a b : Option Int) : leO (lesser a b) a := fun v h => by
  subst h
  cases b with
  | none => exact ⟨v, by rw [lesser_none], Int.le_refl _⟩
  | some b =>
    by_cases q : b < v
    · exact ⟨b, by simp [lesser]; omega, by omega⟩
    · exact ⟨v, by simp [lesser]; omega, by omega⟩
theorem lesser_r (a b : Option Int) : leO (lesser a b) b := fun v h => by
  subst h
  cases a with
  | none => exact ⟨v, rfl, Int.le_refl _⟩
  | some a =>
    by_cases q : v < a
    · exact ⟨v, by simp [lesser]; omega, by omega⟩
    · exact ⟨a, by simp [lesser]; omega, by omega⟩
theorem lesser_or (a b : Option Int) : lesser a b = a ∨ lesser a b = b := by
  cases a with
  | none => exact .inr (by cases b <;> rfl)
  | some a =>
    cases b with
    | none => exact .inl (lesser_none _)
    | some b =>
      by_cases q : b < a
      · exact .inr (by simp [lesser]; omega)
      · exact .inl (by simp [lesser]; omega)
theorem addO_some {a b : Option Int} {v : Int} (h : addO a b = some v) : ∃ x y, a = some x ∧ b = some y ∧ v = x + y := by
  cases a with
  | none => cases h
  | some x =>
    cases b with
    | none => cases h
    | some y => cases h; exact ⟨x, y, rfl, rfl, rfl⟩
/-- the triangles over the middle points below t -/
def Tri (f : Mat) (t : Nat) : Prop := ∀ i k j, k < t → leO (f i j) (addO (f i k) (f k j))
theorem tri_step {p : Nat → Int} {f : Mat} (g : Good p f) (t : Nat) (h : Tri f t) : Tri (step t f) (t + 1) := fun i k j hk v hv => by
  obtain ⟨x, y, hx, hy, rfl⟩ := addO_some hv
  have lo : leO (step t f i j) (f i j) := lesser_l _ _
  have lr : leO (step t f i j) (addO (f i t) (f t j)) := lesser_r _ _
  by_cases e : k = t
  · subst e
    rw [step_col g] at hx
    rw [step_row g] at hy
    exact lr _ (by rw [hx, hy]; rfl)
  · have hkt : k < t := by omega
    rcases lesser_or (f i k) (addO (f i t) (f t k)) with c1 | c1 <;> rcases lesser_or (f k j) (addO (f k t) (f t j)) with c2 | c2
    · have hx' : f i k = some x := by rw [← c1]; exact hx
      have hy' : f k j = some y := by rw [← c2]; exact hy
      exact leO_trans lo (h i k j hkt) _ (by rw [hx', hy']; rfl)
    · have hx' : f i k = some x := by rw [← c1]; exact hx
      have hy' : addO (f k t) (f t j) = some y := by rw [← c2]; exact hy
      obtain ⟨a, b, ha, hb, rfl⟩ := addO_some hy'
      obtain ⟨u, e1, l1⟩ := h i k t hkt (x + a) (by rw [hx', ha]; rfl)
      obtain ⟨w, e2, l2⟩ := lr (u + b) (by rw [e1, hb]; rfl)
      exact ⟨w, e2, by omega⟩
    · have hx' : addO (f i t) (f t k) = some x := by rw [← c1]; exact hx
      have hy' : f k j = some y := by rw [← c2]; exact hy
      obtain ⟨a, b, ha, hb, rfl⟩ := addO_some hx'
      obtain ⟨u, e1, l1⟩ := h t k j hkt (b + y) (by rw [hb, hy']; rfl)
      obtain ⟨w, e2, l2⟩ := lr (a + u) (by rw [ha, e1]; rfl)
      exact ⟨w, e2, by omega⟩
    · have hx' : addO (f i t) (f t k) = some x := by rw [← c1]; exact hx
      have hy' : addO (f k t) (f t j) = some y := by rw [← c2]; exact hy
      obtain ⟨a, b, ha, hb, rfl⟩ := addO_some hx'
      obtain ⟨c, d, hc, hd, rfl⟩ := addO_some hy'
      have l1 := g.lo t k b hb
      have l2 := g.lo k t c hc
      obtain ⟨w, e2, l3⟩ := lr (a + d) (by rw [ha, hd]; rfl)
      exact ⟨w, e2, by omega⟩
theorem tri_steps {p : Nat → Int} {f : Mat} (g : Good p f) : ∀ t, Tri (steps f t) t
  | 0 => fun i k j hk => absurd hk (by omega)
  | t + 1 => tri_step (good_steps g t) t (tri_steps g t)
theorem steps_le (f : Mat) (i j : Nat) : ∀ t, leO (steps f t i j) (f i j)
  | 0 => leO_refl _
  | t + 1 => leO_trans (lesser_l _ _) (steps_le f i j t)
theorem addB_le (f : Mat) (b : Bn) (i j : Nat) : leO (addB f b i j) (f i j) := by
  unfold addB put
  split
  · rename_i h
    rw [h.1, h.2]
    exact lesser_l _ _
  · exact leO_refl _
theorem start_le : ∀ (bs : List Bn) (f : Mat) (i j : Nat), leO (bs.foldl addB f i j) (f i j)
  | [], f, i, j => leO_refl _
  | b :: bs, f, i, j => leO_trans (start_le bs (addB f b) i j) (addB_le f b i j)
theorem start_b : ∀ (bs : List Bn) (f : Mat) (b : Bn), b ∈ bs → leO (bs.foldl addB f b.1 b.2.1) (some b.2.2)
  | c :: bs, f, b, h => by
    rcases List.mem_cons.mp h with e | e
    · subst e
      refine leO_trans (start_le bs _ _ _) ?_
      unfold addB put
      rw [if_pos ⟨rfl, rfl⟩]
      exact lesser_r _ _
    · exact start_b bs (addB f c) b e
/-- the tied bounds of two points -/
def tied (i j : Nat) (d : Int) : List Bn := if i = j then [] else [(i, j, d), (j, i, -d)]
theorem comes {bs : List Bn} {N : Nat} {p : Nat → Int} (hb : ∀ b ∈ bs, b.1 < N ∧ b.2.1 < N) (hp : Sat bs p) (g : Good p (start bs)) {i j : Nat} (hi : i < N) (hj : j < N) {d : Int} (h1 : ∀ v, steps (start bs) N i j = some v → d ≤ v) (h2 : ∀ v, steps (start bs) N j i = some v → -v ≤ d) : ∃ x, Sat (bs ++ tied i j d) x := by
  have gT := good_steps g N
  have tri := tri_steps g N
  have hw : ∀ b ∈ bs, ∀ q v, steps (start bs) N b.2.1 q = some v → ∃ u, steps (start bs) N b.1 q = some u ∧ u ≤ b.2.2 + v := fun b h q v e => by
    obtain ⟨w, e1, l1⟩ := leO_trans (steps_le (start bs) b.1 b.2.1 N) (start_b bs base b h) _ rfl
    obtain ⟨u, e2, l2⟩ := tri b.1 b.2.1 q (hb b h).2 (w + v) (by rw [e1, e]; rfl)
    exact ⟨u, e2, by omega⟩
  generalize steps (start bs) N = T at *
  obtain ⟨C, hC1, hC2⟩ : ∃ C : Int, 0 ≤ p j + C ∧ d ≤ p i + C := ⟨(p j).natAbs + (p i).natAbs + d.natAbs, by omega, by omega⟩
  let x : Nat → Int := fun q => min (p q + C) (min (match T q j with | some v => v | none => p q + C) (match T q i with | some v => v + d | none => p q + C))
  have x0 : ∀ q, x q ≤ p q + C := fun q => Int.min_le_left _ _
  have x1 : ∀ q v, T q j = some v → x q ≤ v := fun q v e => by
    have : x q ≤ _ := Int.le_trans (Int.min_le_right _ _) (Int.min_le_left _ _)
    rw [e] at this
    exact this
  have x2 : ∀ q v, T q i = some v → x q ≤ v + d := fun q v e => by
    have : x q ≤ _ := Int.le_trans (Int.min_le_right _ _) (Int.min_le_right _ _)
    rw [e] at this
    exact this
  have x3 : ∀ q, x q = p q + C ∨ (∃ v, T q j = some v ∧ x q = v) ∨ ∃ v, T q i = some v ∧ x q = v + d := fun q => by
    have e : x q = min (p q + C) (min (match T q j with | some v => v | none => p q + C) (match T q i with | some v => v + d | none => p q + C)) := rfl
    cases c1 : T q j with
    | none =>
      cases c2 : T q i with
      | none => rw [c1, c2] at e; left; dsimp only at e; omega
      | some v =>
        rw [c1, c2] at e
        dsimp only at e
        by_cases l : v + d < p q + C
        · exact .inr (.inr ⟨v, rfl, by omega⟩)
        · exact .inl (by omega)
    | some u =>
      cases c2 : T q i with
      | none =>
        rw [c1, c2] at e
        dsimp only at e
        by_cases l : u < p q + C
        · exact .inr (.inl ⟨u, rfl, by omega⟩)
        · exact .inl (by omega)
      | some v =>
        rw [c1, c2] at e
        dsimp only at e
        by_cases l : u < p q + C
        · by_cases l2 : v + d < u
          · exact .inr (.inr ⟨v, rfl, by omega⟩)
          · exact .inr (.inl ⟨u, rfl, by omega⟩)
        · by_cases l2 : v + d < p q + C
          · exact .inr (.inr ⟨v, rfl, by omega⟩)
          · exact .inl (by omega)
  have xj : x j = 0 := by
    have l := x1 j 0 (gT.dg j)
    rcases x3 j with e | ⟨v, e1, e⟩ | ⟨v, e1, e⟩
    · omega
    · rw [gT.dg j] at e1
      cases e1
      exact e
    · have := h2 v e1
      omega
  have xi : x i = d := by
    have l := x2 i 0 (gT.dg i)
    rcases x3 i with e | ⟨v, e1, e⟩ | ⟨v, e1, e⟩
    · omega
    · have := h1 v e1
      omega
    · rw [gT.dg i] at e1
      cases e1
      omega
  refine ⟨x, fun b h => ?_⟩
  rcases List.mem_append.mp h with h | h
  · rcases x3 b.2.1 with e | ⟨v, e1, e⟩ | ⟨v, e1, e⟩
    · have := x0 b.1
      have := hp b h
      omega
    · obtain ⟨u, e2, l⟩ := hw b h j v e1
      have := x1 b.1 u e2
      omega
    · obtain ⟨u, e2, l⟩ := hw b h i v e1
      have := x2 b.1 u e2
      omega
  · unfold tied at h
    split at h
    · cases h
    · simp only [List.mem_cons, List.not_mem_nil, or_false] at h
      rcases h with e | e
      · subst e
        show x i ≤ x j + d
        omega
      · subst e
        show x j ≤ x i + -d
        omega
def Up (p : Nat → Int) (B : Int) (f : Mat) : Prop := ∀ i j v, f i j = some v → v ≤ p i - p j + B
theorem up_step {p : Nat → Int} {B : Int} {f : Mat} (h0 : 0 ≤ B) (h : Up p B f) (t : Nat) : Up p (2 * B) (step t f) := fun i j v e => by
  rcases lesser_or (f i j) (addO (f i t) (f t j)) with c | c
  · have := h i j v (by rw [← c]; exact e)
    omega
  · obtain ⟨x, y, hx, hy, rfl⟩ := addO_some (show addO (f i t) (f t j) = some v by rw [← c]; exact e)
    have := h i t x hx
    have := h t j y hy
    omega
theorem up_steps {p : Nat → Int} {B : Int} {f : Mat} (h0 : 0 ≤ B) (h : Up p B f) : ∀ t, Up p (2 ^ t * B) (steps f t)
  | 0 => by rw [Int.pow_zero, Int.one_mul]; exact h
  | t + 1 => by
    have q := up_step (Int.mul_nonneg (Int.pow_nonneg (by decide)) h0) (up_steps h0 h t) t
    rw [← Int.mul_assoc, show (2 : Int) * 2 ^ t = 2 ^ (t + 1) by rw [Int.pow_succ, Int.mul_comm]] at q
    exact q
theorem up_start {p : Nat → Int} {B : Int} : ∀ (bs : List Bn) (f : Mat), Up p B f → (∀ b ∈ bs, b.2.2 ≤ p b.1 - p b.2.1 + B) → Up p B (bs.foldl addB f)
  | [], f, h, _ => h
  | b :: bs, f, h, hb => up_start bs (addB f b) (fun i j v e => by
      unfold addB put at e
      split at e
      · rename_i z
        rw [z.1, z.2]
        rcases lesser_or (f b.1 b.2.1) (some b.2.2) with c | c
        · exact h b.1 b.2.1 v (by rw [← c]; exact e)
        · rw [c] at e
          cases e
          exact hb b List.mem_cons_self
      · exact h i j v e) fun c hc => hb c (List.mem_cons_of_mem _ hc)
theorem up_base {p : Nat → Int} {B : Int} (h0 : 0 ≤ B) : Up p B base := fun i j v e => by
  unfold base at e
  split at e
  · rename_i z
    cases e
    rw [z]
    omega
  · cases e
theorem rounds_still {bs : List Bn} {s : Nat → Int} {t : Nat} (h : round bs (rounds bs s t) = rounds bs s t) : ∀ m, rounds bs s (t + m) = rounds bs s t
  | 0 => rfl
  | m + 1 => by
    show round bs (rounds bs s (t + m)) = _
    rw [rounds_still h m]
    exact h
end Pu

set_option Elab.async false
set_option linter.all false
set_option autoImplicit false
set_option maxRecDepth 100000
set_option maxHeartbeats 4000000
namespace Pl
open PySem
/-- equal, not to be looked through -/
def Is {α : Type} (a b : α) : Prop := a = b
theorem nr {α : Sort _} {a b : α} (h : a = b) : a = b := h
abbrev Tie {α : Sort _} (a : α) : Type := Unit
abbrev Tie2 {α β : Sort _} (a : α) (b : β) : Type := Unit
abbrev Tie3 {α β γ : Sort _} (a : α) (b : β) (c : γ) : Type := Unit
abbrev Tie4 {α β γ δ : Sort _} (a : α) (b : β) (c : γ) (d : δ) : Type := Unit
def OW {α : Type} (o : Out α) (K : α → Env → Prop) (X : Nat → List P → Env → Prop) (_u : Tie2 K X := ()) : Prop := match o with
  | .ok a ρ => K a ρ
  | .exc c fs ρ => X c fs ρ
  | .bad => False
def optW {α : Type} (o : Option α) (K : α → Prop) (_u : Tie K := ()) : Prop := match o with
  | some a => K a
  | none => False
def RW (r : Ret) (K : D → Option D → Prop) (X : Nat → List P → Prop) (_u : Tie2 K X := ()) : Prop := match r with
  | .ok d o => K d o
  | .exc c fs => X c fs
  | .bad => False
def condW (b : Bool) (A B : Prop) (_u : Tie2 A B := ()) : Prop := match b with
  | true => A
  | false => B
def getW (ρ : Env) (i : Nat) (K : D → Prop) (_u : Tie K := ()) : Prop := optW (getD ρ i) K
def getPW (ρ : Env) (i : Nat) (K : P → Prop) (_u : Tie K := ()) : Prop := optW (getP ρ i) K
def setW (ρ : Env) (i : Nat) (v : Option D) (K : Env → Prop) (_u : Tie2 v K := ()) : Prop := K (ρ.set i v)
def frzW (d : D) (K : P → Prop) (_u : Tie K := ()) : Prop := K (frz d)
def frzLW (ds : List D) (K : List P → Prop) (_u : Tie K := ()) : Prop := K (frzL ds)
def flatW (d : D) (K : P → Prop) (_u : Tie K := ()) : Prop := optW (flatD d) K
def flatLW (ds : List D) (K : List P → Prop) (_u : Tie K := ()) : Prop := optW (flatD.flatL ds) K
def bindW (pt : Pat) (x : P) (ρ : Env) (K : Env → Prop) (_u : Tie2 ρ K := ()) : Prop := optW (bindPat pt x ρ) K
def bindsW (pts : List Pat) (xs : List P) (ρ : Env) (K : Env → Prop) (_u : Tie2 ρ K := ()) : Prop := optW (bindPats pts xs ρ) K
def wipeW (ρ : Env) (is : List Nat) (K : Env → Prop) (_u : Tie K := ()) : Prop := K (wipeE ρ is)
theorem OW_mono {α : Type} {o : Out α} {K K' : α → Env → Prop} {X X' : Nat → List P → Env → Prop} (h : OW o K X) (hk : ∀ a ρ, K a ρ → K' a ρ) (hx : ∀ c fs ρ, X c fs ρ → X' c fs ρ) : OW o K' X' := by
  cases o with
  | ok a ρ => exact hk _ _ h
  | exc c fs ρ => exact hx _ _ _ h
  | bad => exact h
theorem RW_mono {r : Ret} {K K' : D → Option D → Prop} {X X' : Nat → List P → Prop} (h : RW r K X) (hk : ∀ a o, K a o → K' a o) (hx : ∀ c fs, X c fs → X' c fs) : RW r K' X' := by
  cases r with
  | ok a ρ => exact hk _ _ h
  | exc c fs => exact hx _ _ h
  | bad => exact h
theorem OW_ext {α : Type} {o : Out α} {K K1 : α → Env → Prop} {X : Nat → List P → Env → Prop} (h : ∀ a ρ, K a ρ = K1 a ρ) : OW o K X = OW o K1 X := by
  have e : K = K1 := funext fun a => funext fun ρ => h a ρ
  subst e
  rfl
theorem optW_ext {α : Type} {o : Option α} {K K1 : α → Prop} (h : ∀ a, K a = K1 a) : optW o K = optW o K1 := by
  have e : K = K1 := funext fun a => h a
  subst e
  rfl
theorem OW_bnd {α β : Type} (o : Out α) (f : α → Env → Out β) (K : β → Env → Prop) (X : Nat → List P → Env → Prop) : OW (bnd o f) K X = OW o (fun a ρ => OW (f a ρ) K X) X := by
  cases o <;> rfl
theorem OW_bndF {β : Type} (o : Out D) (f : P → Env → Out β) (K : β → Env → Prop) (X : Nat → List P → Env → Prop) : OW (bndF o f) K X = OW o (fun a ρ => frzW a fun x => OW (f x ρ) K X) X := by
  cases o <;> rfl
theorem OW_fin {α : Type} (o : Option α) (ρ : Env) (K : α → Env → Prop) (X : Nat → List P → Env → Prop) : OW (fin o ρ) K X = optW o fun a => K a ρ := by
  cases o <;> rfl
theorem optW_bind {α β : Type} (o : Option α) (f : α → Option β) (K : β → Prop) : optW (o.bind f) K = optW o fun a => optW (f a) K := by
  cases o <;> rfl
theorem optW_map {α β : Type} (o : Option α) (f : α → β) (K : β → Prop) : optW (o.map f) K = optW o fun a => K (f a) := by
  cases o <;> rfl
theorem sbnd_q {α : Type} (o : Out α) (f : α → Env → SOut) (Q : SOut → Prop) : Q (sbnd o f) = OW o (fun a ρ => Q (f a ρ)) (fun c fs ρ => Q (.exc c fs ρ)) ∨ o = .bad := by
  cases o
  · exact Or.inl rfl
  · exact Or.inl rfl
  · exact Or.inr rfl
section
variable (fns : Nat → Fn) (globs : Nat → P) (cf : Nat → List D → Ret) (wf : Nat)
def VW (e : Ex) (ρ : Env) (K : D → Env → Prop) (X : Nat → List P → Env → Prop) (_u : Tie4 e ρ K X := ()) : Prop := OW ((ev fns globs cf e).v ρ) K X
def TW (e : Ex) (ρ : Env) (K : Bool → Env → Prop) (X : Nat → List P → Env → Prop) (_u : Tie4 e ρ K X := ()) : Prop := OW ((ev fns globs cf e).t ρ) K X
def IW (e : Ex) (ρ : Env) (K : List P → Env → Prop) (X : Nat → List P → Env → Prop) (_u : Tie4 e ρ K X := ()) : Prop := OW ((ev fns globs cf e).i ρ) K X
def OPW (e : Ex) (ρ : Env) (K : P → Env → Prop) (X : Nat → List P → Env → Prop) (_u : Tie4 e ρ K X := ()) : Prop := OW (opd e.isVar (ev fns globs cf e).v ρ) K X
def SQW (es : List Ex) (ρ : Env) (K : List D → Env → Prop) (X : Nat → List P → Env → Prop) (_u : Tie4 es ρ K X := ()) : Prop := OW (seqV (evL fns globs cf es) ρ) K X
def OIW (e : Option Ex) (ρ : Env) (K : Option Int → Env → Prop) (X : Nat → List P → Env → Prop) (_u : Tie4 e ρ K X := ()) : Prop := OW (optI (evO fns globs cf e) ρ) K X
def CW (elt : Ex) (pt : Pat) (own : List Nat) (cs : List Ex) (xs : List P) (ρ : Env) (acc : List D) (K : List D → Env → Prop) (_u : Tie4 elt cs ρ K := ()) : Prop :=
  OW (compGo pt own (testC (evL fns globs cf cs)) (ev fns globs cf elt).v xs ρ acc) K (fun _ _ _ => False)
/-- what stands in a promise about a block: nothing known is no promise -/
def QW (Q : SOut → Prop) (o : SOut) : Prop := match o with
  | .bad => False
  | o => Q o
def BW (ss : List Sm) (ρ : Env) (Q : SOut → Prop) (_u : Tie3 ss ρ Q := ()) : Prop := QW Q (evB fns globs cf wf ss ρ)
def FW (pt : Pat) (b : List Sm) (xs : List P) (ρ : Env) (Q : SOut → Prop) (_u : Tie3 b ρ Q := ()) : Prop := QW Q (forGo pt (evB fns globs cf wf b) xs ρ)
def WW (c : Ex) (b : List Sm) (n : Nat) (ρ : Env) (Q : SOut → Prop) (_u : Tie4 c b ρ Q := ()) : Prop := QW Q (whileGo (ev fns globs cf c).t (evB fns globs cf wf b) n ρ)
end
def RSW (e : Ex) (x : P) (ρ : Env) (K : P → Prop) (_u : Tie3 e ρ K := ()) : Prop := optW (res e.isVar x ρ) K
def tyW (x : P) (K : Bool → Prop) (_u : Tie K := ()) : Prop := match x with
  | .bl b => K b
  | _ => False
def intW (x : P) (K : Int → Prop) (_u : Tie K := ()) : Prop := match x with
  | .int b => K b
  | _ => False
def itW (x : P) (K : List P → Prop) (_u : Tie K := ()) : Prop := match x with
  | .lst xs => K xs
  | .tup xs => K xs
  | .scr xs => K xs
  | _ => False
def lW (d : D) (K : List D → Prop) (_u : Tie K := ()) : Prop := match d with
  | .l xs => K xs
  | _ => False
section
variable {fns : Nat → Fn} {globs : Nat → P} {cf : Nat → List D → Ret} {wf : Nat} {ρ : Env} {X : Nat → List P → Env → Prop}
theorem w_some {α : Type} (a : α) (K : α → Prop) : optW (some a) K = K a := nr rfl
theorem w_none {α : Type} (K : α → Prop) : optW none K = False := nr rfl
theorem w_frzp (x : P) (K : P → Prop) : frzW (.p x) K = K x := nr rfl
theorem w_frzl (ds : List D) (K : P → Prop) : frzW (.l ds) K = frzLW ds fun xs => K (.lst xs) := nr rfl
theorem w_fzL0 (K : List P → Prop) : frzLW [] K = K [] := nr rfl
theorem w_fzL1 (x : P) (ds : List D) (K : List P → Prop) : frzLW (.p x :: ds) K = frzLW ds fun xs => K (x :: xs) := nr rfl
theorem w_fzL2 (es ds : List D) (K : List P → Prop) : frzLW (.l es :: ds) K = frzLW es fun ys => frzLW ds fun xs => K (.lst ys :: xs) := nr rfl
theorem w_flp (x : P) (K : P → Prop) : flatW (.p x) K = K x := nr rfl
theorem w_fll (ds : List D) (K : P → Prop) : flatW (.l ds) K = flatLW ds fun xs => K (.lst xs) := by
  show optW (Option.map _ _) _ = _
  rw [optW_map]
  rfl
theorem w_flnil (K : List P → Prop) : flatLW [] K = K [] := nr rfl
theorem w_flcons (x : P) (ds : List D) (K : List P → Prop) : flatLW (.p x :: ds) K = flatLW ds fun xs => K (x :: xs) := by
  show optW (Option.map _ _) _ = _
  rw [optW_map]
  rfl
theorem flatL_map : ∀ (xs : List P), flatD.flatL (xs.map .p) = some xs
  | [] => rfl
  | x :: xs => by
    show Option.map _ (flatD.flatL (xs.map .p)) = _
    rw [flatL_map xs]
    rfl
theorem frzL_map : ∀ (xs : List P), frzL (xs.map .p) = xs
  | [] => rfl
  | x :: xs => by
    show frz (.p x) :: frzL (xs.map .p) = _
    rw [frzL_map xs]
    rfl
theorem w_fzLm (xs : List P) (K : List P → Prop) : frzLW (xs.map .p) K = K xs := by
  unfold frzLW
  rw [frzL_map]
theorem w_flmap (xs : List P) (K : List P → Prop) : flatLW (xs.map .p) K = K xs := by
  unfold flatLW
  rw [flatL_map]
  rfl
theorem w_get0 (d : D) (ρ : Env) (K : D → Prop) : getW (some d :: ρ) 0 K = K d := nr rfl
theorem w_getS (d : Option D) (ρ : Env) (n : Nat) (K : D → Prop) : getW (d :: ρ) (n + 1) K = getW ρ n K := nr rfl
theorem w_getP0 (x : P) (ρ : Env) (K : P → Prop) : getPW (some (.p x) :: ρ) 0 K = K x := nr rfl
theorem w_getPS (d : Option D) (ρ : Env) (n : Nat) (K : P → Prop) : getPW (d :: ρ) (n + 1) K = getPW ρ n K := nr rfl
theorem w_set0 (d v : Option D) (ρ : Env) (K : Env → Prop) : setW (d :: ρ) 0 v K = K (v :: ρ) := nr rfl
theorem w_setS (d v : Option D) (ρ : Env) (n : Nat) (K : Env → Prop) : setW (d :: ρ) (n + 1) v K = setW ρ n v fun ρ1 => K (d :: ρ1) := nr rfl
theorem w_wipe0 (ρ : Env) (K : Env → Prop) : wipeW ρ [] K = K ρ := nr rfl
theorem w_wipe1 (ρ : Env) (i : Nat) (is : List Nat) (K : Env → Prop) : wipeW ρ (i :: is) K = wipeW ρ is fun ρ1 => setW ρ1 i none K := nr rfl
theorem w_condT (A B : Prop) : condW true A B = A := nr rfl
theorem w_condF (A B : Prop) : condW false A B = B := nr rfl
theorem w_condN (b : Bool) (A B : Prop) : condW (!b) A B = condW b B A := by cases b <;> rfl
theorem w_condD (p : Prop) [Decidable p] (A B : Prop) : condW (decide p) A B = ((p → A) ∧ (¬ p → B)) := by
  by_cases h : p
  · rw [decide_eq_true h]
    exact propext ⟨fun a => ⟨fun _ => a, fun z => absurd h z⟩, fun a => a.1 h⟩
  · rw [decide_eq_false h]
    exact propext ⟨fun a => ⟨fun z => absurd z h, fun _ => a⟩, fun a => a.2 h⟩
theorem w_tyb (b : Bool) (K : Bool → Prop) : tyW (.bl b) K = K b := nr rfl
theorem w_inti (i : Int) (K : Int → Prop) : intW (.int i) K = K i := nr rfl
theorem w_itl (xs : List P) (K : List P → Prop) : itW (.lst xs) K = K xs := nr rfl
theorem w_itt (xs : List P) (K : List P → Prop) : itW (.tup xs) K = K xs := nr rfl
theorem w_its (xs : List P) (K : List P → Prop) : itW (.scr xs) K = K xs := nr rfl
theorem w_ll (xs : List D) (K : List D → Prop) : lW (.l xs) K = K xs := nr rfl
theorem w_bindv (i : Nat) (x : P) (ρ : Env) (K : Env → Prop) : bindW (.v i) x ρ K = setW ρ i (some (.p x)) K := nr rfl
theorem w_bindt (ps : List Pat) (xs : List P) (ρ : Env) (K : Env → Prop) : bindW (.t ps) (.tup xs) ρ K = bindsW ps xs ρ K := nr rfl
theorem w_bindl (ps : List Pat) (xs : List P) (ρ : Env) (K : Env → Prop) : bindW (.t ps) (.lst xs) ρ K = bindsW ps xs ρ K := nr rfl
theorem w_binds0 (ρ : Env) (K : Env → Prop) : bindsW [] [] ρ K = K ρ := nr rfl
theorem w_binds1 (p : Pat) (ps : List Pat) (x : P) (xs : List P) (ρ : Env) (K : Env → Prop) : bindsW (p :: ps) (x :: xs) ρ K = bindW p x ρ fun ρ1 => bindsW ps xs ρ1 K := by
  show optW (Option.bind _ _) _ = _
  rw [optW_bind]
  rfl
theorem w_lit (x : P) (K : D → Env → Prop) : VW fns globs cf (.lit x) ρ K X = K (.p x) ρ := nr rfl
theorem w_var (i : Nat) (K : D → Env → Prop) : VW fns globs cf (.var i) ρ K X = getPW ρ i fun x => K (.p x) ρ := by
  show OW (fin (Option.map _ _) _) _ _ = _
  rw [OW_fin, optW_map]
  rfl
theorem w_glob (g : Nat) (K : D → Env → Prop) : VW fns globs cf (.glob g) ρ K X = K (.p (globs g)) ρ := nr rfl
theorem o_var (s : Nat) (K : P → Env → Prop) : OPW fns globs cf (.var s) ρ K X = getW ρ s fun _ => K .non ρ := by
  show OW (match getD ρ s with | some _ => _ | none => _) K X = _
  unfold getW
  cases getD ρ s <;> rfl
theorem r_var (s : Nat) (x : P) (K : P → Prop) : RSW (.var s) x ρ K = getW ρ s fun d => flatW d K := by
  show optW (Option.bind _ _) _ = _
  rw [optW_bind]
  rfl
theorem o_lit (x : P) (Ko : P → Env → Prop) : OPW fns globs cf (.lit x) ρ Ko X = VW fns globs cf (.lit x) ρ (fun d ρ1 => frzW d fun x => Ko x ρ1) X := OW_bndF ((ev fns globs cf (.lit x)).v ρ) (fun x ρ1 => .ok x ρ1) Ko X
theorem r_lit (x : P) (y : P) (K : P → Prop) : RSW (.lit x) y ρ K = K y := nr rfl
theorem o_glob (g : Nat) (Ko : P → Env → Prop) : OPW fns globs cf (.glob g) ρ Ko X = VW fns globs cf (.glob g) ρ (fun d ρ1 => frzW d fun x => Ko x ρ1) X := OW_bndF ((ev fns globs cf (.glob g)).v ρ) (fun x ρ1 => .ok x ρ1) Ko X
theorem r_glob (g : Nat) (y : P) (K : P → Prop) : RSW (.glob g) y ρ K = K y := nr rfl
theorem o_bin (op : Operator) (a b : Ex) (Ko : P → Env → Prop) : OPW fns globs cf (.bin op a b) ρ Ko X = VW fns globs cf (.bin op a b) ρ (fun d ρ1 => frzW d fun x => Ko x ρ1) X := OW_bndF ((ev fns globs cf (.bin op a b)).v ρ) (fun x ρ1 => .ok x ρ1) Ko X
theorem r_bin (op : Operator) (a b : Ex) (y : P) (K : P → Prop) : RSW (.bin op a b) y ρ K = K y := nr rfl
theorem o_neg (a : Ex) (Ko : P → Env → Prop) : OPW fns globs cf (.neg a) ρ Ko X = VW fns globs cf (.neg a) ρ (fun d ρ1 => frzW d fun x => Ko x ρ1) X := OW_bndF ((ev fns globs cf (.neg a)).v ρ) (fun x ρ1 => .ok x ρ1) Ko X
theorem r_neg (a : Ex) (y : P) (K : P → Prop) : RSW (.neg a) y ρ K = K y := nr rfl
theorem o_not (a : Ex) (Ko : P → Env → Prop) : OPW fns globs cf (.not a) ρ Ko X = VW fns globs cf (.not a) ρ (fun d ρ1 => frzW d fun x => Ko x ρ1) X := OW_bndF ((ev fns globs cf (.not a)).v ρ) (fun x ρ1 => .ok x ρ1) Ko X
theorem r_not (a : Ex) (y : P) (K : P → Prop) : RSW (.not a) y ρ K = K y := nr rfl
theorem o_cmp (op : CmpOp) (a b : Ex) (Ko : P → Env → Prop) : OPW fns globs cf (.cmp op a b) ρ Ko X = VW fns globs cf (.cmp op a b) ρ (fun d ρ1 => frzW d fun x => Ko x ρ1) X := OW_bndF ((ev fns globs cf (.cmp op a b)).v ρ) (fun x ρ1 => .ok x ρ1) Ko X
theorem r_cmp (op : CmpOp) (a b : Ex) (y : P) (K : P → Prop) : RSW (.cmp op a b) y ρ K = K y := nr rfl
theorem o_chain (o1 o2 : CmpOp) (a b c : Ex) (Ko : P → Env → Prop) : OPW fns globs cf (.chain o1 o2 a b c) ρ Ko X = VW fns globs cf (.chain o1 o2 a b c) ρ (fun d ρ1 => frzW d fun x => Ko x ρ1) X := OW_bndF ((ev fns globs cf (.chain o1 o2 a b c)).v ρ) (fun x ρ1 => .ok x ρ1) Ko X
theorem r_chain (o1 o2 : CmpOp) (a b c : Ex) (y : P) (K : P → Prop) : RSW (.chain o1 o2 a b c) y ρ K = K y := nr rfl
theorem o_and (es : List Ex) (Ko : P → Env → Prop) : OPW fns globs cf (.and es) ρ Ko X = VW fns globs cf (.and es) ρ (fun d ρ1 => frzW d fun x => Ko x ρ1) X := OW_bndF ((ev fns globs cf (.and es)).v ρ) (fun x ρ1 => .ok x ρ1) Ko X
theorem r_and (es : List Ex) (y : P) (K : P → Prop) : RSW (.and es) y ρ K = K y := nr rfl
theorem o_or (es : List Ex) (Ko : P → Env → Prop) : OPW fns globs cf (.or es) ρ Ko X = VW fns globs cf (.or es) ρ (fun d ρ1 => frzW d fun x => Ko x ρ1) X := OW_bndF ((ev fns globs cf (.or es)).v ρ) (fun x ρ1 => .ok x ρ1) Ko X
theorem r_or (es : List Ex) (y : P) (K : P → Prop) : RSW (.or es) y ρ K = K y := nr rfl
theorem o_ife (c a b : Ex) (Ko : P → Env → Prop) : OPW fns globs cf (.ife c a b) ρ Ko X = VW fns globs cf (.ife c a b) ρ (fun d ρ1 => frzW d fun x => Ko x ρ1) X := OW_bndF ((ev fns globs cf (.ife c a b)).v ρ) (fun x ρ1 => .ok x ρ1) Ko X
theorem r_ife (c a b : Ex) (y : P) (K : P → Prop) : RSW (.ife c a b) y ρ K = K y := nr rfl
theorem o_tup (es : List Ex) (Ko : P → Env → Prop) : OPW fns globs cf (.tup es) ρ Ko X = VW fns globs cf (.tup es) ρ (fun d ρ1 => frzW d fun x => Ko x ρ1) X := OW_bndF ((ev fns globs cf (.tup es)).v ρ) (fun x ρ1 => .ok x ρ1) Ko X
theorem r_tup (es : List Ex) (y : P) (K : P → Prop) : RSW (.tup es) y ρ K = K y := nr rfl
theorem o_lst (es : List Ex) (Ko : P → Env → Prop) : OPW fns globs cf (.lst es) ρ Ko X = VW fns globs cf (.lst es) ρ (fun d ρ1 => frzW d fun x => Ko x ρ1) X := OW_bndF ((ev fns globs cf (.lst es)).v ρ) (fun x ρ1 => .ok x ρ1) Ko X
theorem r_lst (es : List Ex) (y : P) (K : P → Prop) : RSW (.lst es) y ρ K = K y := nr rfl
theorem o_idx (a i : Ex) (Ko : P → Env → Prop) : OPW fns globs cf (.idx a i) ρ Ko X = VW fns globs cf (.idx a i) ρ (fun d ρ1 => frzW d fun x => Ko x ρ1) X := OW_bndF ((ev fns globs cf (.idx a i)).v ρ) (fun x ρ1 => .ok x ρ1) Ko X
theorem r_idx (a i : Ex) (y : P) (K : P → Prop) : RSW (.idx a i) y ρ K = K y := nr rfl
theorem o_idx2 (s : Nat) (i j : Ex) (Ko : P → Env → Prop) : OPW fns globs cf (.idx2 s i j) ρ Ko X = VW fns globs cf (.idx2 s i j) ρ (fun d ρ1 => frzW d fun x => Ko x ρ1) X := OW_bndF ((ev fns globs cf (.idx2 s i j)).v ρ) (fun x ρ1 => .ok x ρ1) Ko X
theorem r_idx2 (s : Nat) (i j : Ex) (y : P) (K : P → Prop) : RSW (.idx2 s i j) y ρ K = K y := nr rfl
theorem o_slc (a : Ex) (lo hi : Option Ex) (Ko : P → Env → Prop) : OPW fns globs cf (.slc a lo hi) ρ Ko X = VW fns globs cf (.slc a lo hi) ρ (fun d ρ1 => frzW d fun x => Ko x ρ1) X := OW_bndF ((ev fns globs cf (.slc a lo hi)).v ρ) (fun x ρ1 => .ok x ρ1) Ko X
theorem r_slc (a : Ex) (lo hi : Option Ex) (y : P) (K : P → Prop) : RSW (.slc a lo hi) y ρ K = K y := nr rfl
theorem o_call (f : Nat) (es : List Ex) (ks : List Nat) (kes : List Ex) (Ko : P → Env → Prop) : OPW fns globs cf (.call f es ks kes) ρ Ko X = VW fns globs cf (.call f es ks kes) ρ (fun d ρ1 => frzW d fun x => Ko x ρ1) X := OW_bndF ((ev fns globs cf (.call f es ks kes)).v ρ) (fun x ρ1 => .ok x ρ1) Ko X
theorem r_call (f : Nat) (es : List Ex) (ks : List Nat) (kes : List Ex) (y : P) (K : P → Prop) : RSW (.call f es ks kes) y ρ K = K y := nr rfl
theorem o_bi (b : Bi) (es : List Ex) (Ko : P → Env → Prop) : OPW fns globs cf (.bi b es) ρ Ko X = VW fns globs cf (.bi b es) ρ (fun d ρ1 => frzW d fun x => Ko x ρ1) X := OW_bndF ((ev fns globs cf (.bi b es)).v ρ) (fun x ρ1 => .ok x ρ1) Ko X
theorem r_bi (b : Bi) (es : List Ex) (y : P) (K : P → Prop) : RSW (.bi b es) y ρ K = K y := nr rfl
theorem o_isi (e : Ex) (ts : List Ty) (p : Bool) (nc : Nat) (Ko : P → Env → Prop) : OPW fns globs cf (.isi e ts p nc) ρ Ko X = VW fns globs cf (.isi e ts p nc) ρ (fun d ρ1 => frzW d fun x => Ko x ρ1) X := OW_bndF ((ev fns globs cf (.isi e ts p nc)).v ρ) (fun x ρ1 => .ok x ρ1) Ko X
theorem r_isi (e : Ex) (ts : List Ty) (p : Bool) (nc : Nat) (y : P) (K : P → Prop) : RSW (.isi e ts p nc) y ρ K = K y := nr rfl
theorem o_mkx (c : Nat) (e : Ex) (Ko : P → Env → Prop) : OPW fns globs cf (.mkx c e) ρ Ko X = VW fns globs cf (.mkx c e) ρ (fun d ρ1 => frzW d fun x => Ko x ρ1) X := OW_bndF ((ev fns globs cf (.mkx c e)).v ρ) (fun x ρ1 => .ok x ρ1) Ko X
theorem r_mkx (c : Nat) (e : Ex) (y : P) (K : P → Prop) : RSW (.mkx c e) y ρ K = K y := nr rfl
theorem o_comp (elt : Ex) (pt : Pat) (own : List Nat) (it : Ex) (cs : List Ex) (Ko : P → Env → Prop) : OPW fns globs cf (.comp elt pt own it cs) ρ Ko X = VW fns globs cf (.comp elt pt own it cs) ρ (fun d ρ1 => frzW d fun x => Ko x ρ1) X := OW_bndF ((ev fns globs cf (.comp elt pt own it cs)).v ρ) (fun x ρ1 => .ok x ρ1) Ko X
theorem r_comp (elt : Ex) (pt : Pat) (own : List Nat) (it : Ex) (cs : List Ex) (y : P) (K : P → Prop) : RSW (.comp elt pt own it cs) y ρ K = K y := nr rfl
theorem o_rng1 (a : Ex) (Ko : P → Env → Prop) : OPW fns globs cf (.rng1 a) ρ Ko X = VW fns globs cf (.rng1 a) ρ (fun d ρ1 => frzW d fun x => Ko x ρ1) X := OW_bndF ((ev fns globs cf (.rng1 a)).v ρ) (fun x ρ1 => .ok x ρ1) Ko X
theorem r_rng1 (a : Ex) (y : P) (K : P → Prop) : RSW (.rng1 a) y ρ K = K y := nr rfl
theorem o_rng2 (a b : Ex) (Ko : P → Env → Prop) : OPW fns globs cf (.rng2 a b) ρ Ko X = VW fns globs cf (.rng2 a b) ρ (fun d ρ1 => frzW d fun x => Ko x ρ1) X := OW_bndF ((ev fns globs cf (.rng2 a b)).v ρ) (fun x ρ1 => .ok x ρ1) Ko X
theorem r_rng2 (a b : Ex) (y : P) (K : P → Prop) : RSW (.rng2 a b) y ρ K = K y := nr rfl
theorem o_enum (a : Ex) (Ko : P → Env → Prop) : OPW fns globs cf (.enum a) ρ Ko X = VW fns globs cf (.enum a) ρ (fun d ρ1 => frzW d fun x => Ko x ρ1) X := OW_bndF ((ev fns globs cf (.enum a)).v ρ) (fun x ρ1 => .ok x ρ1) Ko X
theorem r_enum (a : Ex) (y : P) (K : P → Prop) : RSW (.enum a) y ρ K = K y := nr rfl
theorem o_zip (a b : Ex) (Ko : P → Env → Prop) : OPW fns globs cf (.zip a b) ρ Ko X = VW fns globs cf (.zip a b) ρ (fun d ρ1 => frzW d fun x => Ko x ρ1) X := OW_bndF ((ev fns globs cf (.zip a b)).v ρ) (fun x ρ1 => .ok x ρ1) Ko X
theorem r_zip (a b : Ex) (y : P) (K : P → Prop) : RSW (.zip a b) y ρ K = K y := nr rfl
theorem o_rng3 (a b c : Ex) (Ko : P → Env → Prop) : OPW fns globs cf (.rng3 a b c) ρ Ko X = VW fns globs cf (.rng3 a b c) ρ (fun d ρ1 => frzW d fun x => Ko x ρ1) X := OW_bndF ((ev fns globs cf (.rng3 a b c)).v ρ) (fun x ρ1 => .ok x ρ1) Ko X
theorem r_rng3 (a b c : Ex) (y : P) (K : P → Prop) : RSW (.rng3 a b c) y ρ K = K y := nr rfl
theorem o_view (e : Ex) (Ko : P → Env → Prop) : OPW fns globs cf (.view e) ρ Ko X = VW fns globs cf (.view e) ρ (fun d ρ1 => frzW d fun x => Ko x ρ1) X := OW_bndF ((ev fns globs cf (.view e)).v ρ) (fun x ρ1 => .ok x ρ1) Ko X
theorem r_view (e : Ex) (y : P) (K : P → Prop) : RSW (.view e) y ρ K = K y := nr rfl
theorem o_cnt (s : Nat) (b : Ex) (Ko : P → Env → Prop) : OPW fns globs cf (.cnt s b) ρ Ko X = VW fns globs cf (.cnt s b) ρ (fun d ρ1 => frzW d fun x => Ko x ρ1) X := OW_bndF ((ev fns globs cf (.cnt s b)).v ρ) (fun x ρ1 => .ok x ρ1) Ko X
theorem r_cnt (s : Nat) (b : Ex) (y : P) (K : P → Prop) : RSW (.cnt s b) y ρ K = K y := nr rfl
theorem o_dnil  (Ko : P → Env → Prop) : OPW fns globs cf (.dnil ) ρ Ko X = VW fns globs cf (.dnil ) ρ (fun d ρ1 => frzW d fun x => Ko x ρ1) X := OW_bndF ((ev fns globs cf (.dnil )).v ρ) (fun x ρ1 => .ok x ρ1) Ko X
theorem r_dnil  (y : P) (K : P → Prop) : RSW (.dnil ) y ρ K = K y := nr rfl
theorem o_keys (s : Nat) (Ko : P → Env → Prop) : OPW fns globs cf (.keys s) ρ Ko X = VW fns globs cf (.keys s) ρ (fun d ρ1 => frzW d fun x => Ko x ρ1) X := OW_bndF ((ev fns globs cf (.keys s)).v ρ) (fun x ρ1 => .ok x ρ1) Ko X
theorem r_keys (s : Nat) (y : P) (K : P → Prop) : RSW (.keys s) y ρ K = K y := nr rfl
theorem w_bin (op : Operator) (a b : Ex) (K : D → Env → Prop) : VW fns globs cf (.bin op a b) ρ K X = OPW fns globs cf a ρ (fun x ρ1 => OPW fns globs cf b ρ1 (fun y ρ2 => RSW a x ρ2 fun x1 => RSW b y ρ2 fun y1 => optW (binop op x1 y1) fun z => K z ρ2) X) X := by
  show OW (bnd _ _) _ _ = _
  rw [OW_bnd]
  refine OW_ext fun x ρ1 => ?_
  rw [OW_bnd]
  refine OW_ext fun y ρ2 => ?_
  rw [OW_fin, optW_bind]
  refine optW_ext fun x1 => ?_
  rw [optW_bind]
  rfl
theorem w_cmp (op : CmpOp) (a b : Ex) (K : D → Env → Prop) : VW fns globs cf (.cmp op a b) ρ K X = OPW fns globs cf a ρ (fun x ρ1 => OPW fns globs cf b ρ1 (fun y ρ2 => RSW a x ρ2 fun x1 => RSW b y ρ2 fun y1 => optW (cmpop op x1 y1) fun z => K (.p (.bl z)) ρ2) X) X := by
  show OW (bnd _ _) _ _ = _
  rw [OW_bnd]
  refine OW_ext fun x ρ1 => ?_
  rw [OW_bnd]
  refine OW_ext fun y ρ2 => ?_
  rw [OW_fin, optW_bind]
  refine optW_ext fun x1 => ?_
  rw [optW_bind]
  refine optW_ext fun y1 => ?_
  rw [optW_map]
theorem tOfV_w (v : Env → Out D) (K : Bool → Env → Prop) : OW (tOfV v ρ) K X = OW (v ρ) (fun d ρ1 => frzW d fun x => tyW x fun b => K b ρ1) X := by
  unfold tOfV
  rw [OW_bndF]
  refine OW_ext fun d ρ1 => ?_
  unfold frzW
  cases frz d <;> rfl
theorem iOfV_w (v : Env → Out D) (K : List P → Env → Prop) : OW (iOfV v ρ) K X = OW (v ρ) (fun d ρ1 => frzW d fun x => itW x fun b => K b ρ1) X := by
  unfold iOfV
  rw [OW_bndF]
  refine OW_ext fun d ρ1 => ?_
  unfold frzW
  cases frz d <;> rfl
theorem tv_var (i : Nat) (Kt : Bool → Env → Prop) : TW fns globs cf (.var i) ρ Kt X = VW fns globs cf (.var i) ρ (fun d ρ1 => frzW d fun x => tyW x fun b => Kt b ρ1) X := tOfV_w (ev fns globs cf (.var i)).v Kt
theorem iv_var (i : Nat) (Ki : List P → Env → Prop) : IW fns globs cf (.var i) ρ Ki X = VW fns globs cf (.var i) ρ (fun d ρ1 => frzW d fun x => itW x fun b => Ki b ρ1) X := iOfV_w (ev fns globs cf (.var i)).v Ki
theorem tv_lit (x : Bool) (Kt : Bool → Env → Prop) : TW fns globs cf (.lit (.bl x)) ρ Kt X = Kt x ρ := nr rfl
theorem iv_lit (x : P) (Ki : List P → Env → Prop) : IW fns globs cf (.lit x) ρ Ki X = VW fns globs cf (.lit x) ρ (fun d ρ1 => frzW d fun x => itW x fun b => Ki b ρ1) X := iOfV_w (ev fns globs cf (.lit x)).v Ki
theorem tv_glob (g : Nat) (Kt : Bool → Env → Prop) : TW fns globs cf (.glob g) ρ Kt X = VW fns globs cf (.glob g) ρ (fun d ρ1 => frzW d fun x => tyW x fun b => Kt b ρ1) X := tOfV_w (ev fns globs cf (.glob g)).v Kt
theorem iv_glob (g : Nat) (Ki : List P → Env → Prop) : IW fns globs cf (.glob g) ρ Ki X = VW fns globs cf (.glob g) ρ (fun d ρ1 => frzW d fun x => itW x fun b => Ki b ρ1) X := iOfV_w (ev fns globs cf (.glob g)).v Ki
theorem iv_bin (op : Operator) (a b : Ex) (Ki : List P → Env → Prop) : IW fns globs cf (.bin op a b) ρ Ki X = VW fns globs cf (.bin op a b) ρ (fun d ρ1 => frzW d fun x => itW x fun b => Ki b ρ1) X := iOfV_w (ev fns globs cf (.bin op a b)).v Ki
theorem tv_chain (o1 o2 : CmpOp) (a b c : Ex) (Kt : Bool → Env → Prop) : TW fns globs cf (.chain o1 o2 a b c) ρ Kt X = VW fns globs cf (.chain o1 o2 a b c) ρ (fun d ρ1 => frzW d fun x => tyW x fun b => Kt b ρ1) X := tOfV_w (ev fns globs cf (.chain o1 o2 a b c)).v Kt
theorem iv_ife (c a b : Ex) (Ki : List P → Env → Prop) : IW fns globs cf (.ife c a b) ρ Ki X = VW fns globs cf (.ife c a b) ρ (fun d ρ1 => frzW d fun x => itW x fun b => Ki b ρ1) X := iOfV_w (ev fns globs cf (.ife c a b)).v Ki
theorem iv_tup (es : List Ex) (Ki : List P → Env → Prop) : IW fns globs cf (.tup es) ρ Ki X = VW fns globs cf (.tup es) ρ (fun d ρ1 => frzW d fun x => itW x fun b => Ki b ρ1) X := iOfV_w (ev fns globs cf (.tup es)).v Ki
theorem iv_lst (es : List Ex) (Ki : List P → Env → Prop) : IW fns globs cf (.lst es) ρ Ki X = VW fns globs cf (.lst es) ρ (fun d ρ1 => frzW d fun x => itW x fun b => Ki b ρ1) X := iOfV_w (ev fns globs cf (.lst es)).v Ki
theorem tv_idx (a i : Ex) (Kt : Bool → Env → Prop) : TW fns globs cf (.idx a i) ρ Kt X = VW fns globs cf (.idx a i) ρ (fun d ρ1 => frzW d fun x => tyW x fun b => Kt b ρ1) X := tOfV_w (ev fns globs cf (.idx a i)).v Kt
theorem iv_idx (a i : Ex) (Ki : List P → Env → Prop) : IW fns globs cf (.idx a i) ρ Ki X = VW fns globs cf (.idx a i) ρ (fun d ρ1 => frzW d fun x => itW x fun b => Ki b ρ1) X := iOfV_w (ev fns globs cf (.idx a i)).v Ki
theorem tv_idx2 (s : Nat) (i j : Ex) (Kt : Bool → Env → Prop) : TW fns globs cf (.idx2 s i j) ρ Kt X = VW fns globs cf (.idx2 s i j) ρ (fun d ρ1 => frzW d fun x => tyW x fun b => Kt b ρ1) X := tOfV_w (ev fns globs cf (.idx2 s i j)).v Kt
theorem iv_idx2 (s : Nat) (i j : Ex) (Ki : List P → Env → Prop) : IW fns globs cf (.idx2 s i j) ρ Ki X = VW fns globs cf (.idx2 s i j) ρ (fun d ρ1 => frzW d fun x => itW x fun b => Ki b ρ1) X := iOfV_w (ev fns globs cf (.idx2 s i j)).v Ki
theorem tv_slc (a : Ex) (lo hi : Option Ex) (Kt : Bool → Env → Prop) : TW fns globs cf (.slc a lo hi) ρ Kt X = VW fns globs cf (.slc a lo hi) ρ (fun d ρ1 => frzW d fun x => tyW x fun b => Kt b ρ1) X := tOfV_w (ev fns globs cf (.slc a lo hi)).v Kt
theorem iv_slc (a : Ex) (lo hi : Option Ex) (Ki : List P → Env → Prop) : IW fns globs cf (.slc a lo hi) ρ Ki X = VW fns globs cf (.slc a lo hi) ρ (fun d ρ1 => frzW d fun x => itW x fun b => Ki b ρ1) X := iOfV_w (ev fns globs cf (.slc a lo hi)).v Ki
theorem tv_call (f : Nat) (es : List Ex) (ks : List Nat) (kes : List Ex) (Kt : Bool → Env → Prop) : TW fns globs cf (.call f es ks kes) ρ Kt X = VW fns globs cf (.call f es ks kes) ρ (fun d ρ1 => frzW d fun x => tyW x fun b => Kt b ρ1) X := tOfV_w (ev fns globs cf (.call f es ks kes)).v Kt
theorem iv_call (f : Nat) (es : List Ex) (ks : List Nat) (kes : List Ex) (Ki : List P → Env → Prop) : IW fns globs cf (.call f es ks kes) ρ Ki X = VW fns globs cf (.call f es ks kes) ρ (fun d ρ1 => frzW d fun x => itW x fun b => Ki b ρ1) X := iOfV_w (ev fns globs cf (.call f es ks kes)).v Ki
theorem tv_isi (e : Ex) (ts : List Ty) (p : Bool) (nc : Nat) (Kt : Bool → Env → Prop) : TW fns globs cf (.isi e ts p nc) ρ Kt X = VW fns globs cf (.isi e ts p nc) ρ (fun d ρ1 => frzW d fun x => tyW x fun b => Kt b ρ1) X := tOfV_w (ev fns globs cf (.isi e ts p nc)).v Kt
theorem tv_mkx (c : Nat) (e : Ex) (Kt : Bool → Env → Prop) : TW fns globs cf (.mkx c e) ρ Kt X = VW fns globs cf (.mkx c e) ρ (fun d ρ1 => frzW d fun x => tyW x fun b => Kt b ρ1) X := tOfV_w (ev fns globs cf (.mkx c e)).v Kt
theorem iv_comp (elt : Ex) (pt : Pat) (own : List Nat) (it : Ex) (cs : List Ex) (Ki : List P → Env → Prop) : IW fns globs cf (.comp elt pt own it cs) ρ Ki X = VW fns globs cf (.comp elt pt own it cs) ρ (fun d ρ1 => frzW d fun x => itW x fun b => Ki b ρ1) X := iOfV_w (ev fns globs cf (.comp elt pt own it cs)).v Ki
theorem tv_bi (b : Bi) (a : Ex) (es : List Ex) (Kt : Bool → Env → Prop) : TW fns globs cf (.bi b (a :: es)) ρ Kt X = VW fns globs cf (.bi b (a :: es)) ρ (fun d ρ1 => frzW d fun x => tyW x fun b => Kt b ρ1) X := by
  cases es <;> first | exact tOfV_w (ev fns globs cf (.bi b [a])).v Kt | exact tOfV_w (ev fns globs cf (.bi b (a :: _ :: _))).v Kt
theorem iv_bi (b : Bi) (a : Ex) (es : List Ex) (Ki : List P → Env → Prop) : IW fns globs cf (.bi b (a :: es)) ρ Ki X = VW fns globs cf (.bi b (a :: es)) ρ (fun d ρ1 => frzW d fun x => itW x fun b => Ki b ρ1) X := by
  cases es <;> first | exact iOfV_w (ev fns globs cf (.bi b [a])).v Ki | exact iOfV_w (ev fns globs cf (.bi b (a :: _ :: _))).v Ki
theorem t_cmpW (op : CmpOp) (a b : Ex) (K : Bool → Env → Prop) : TW fns globs cf (.cmp op a b) ρ K X = OPW fns globs cf a ρ (fun x ρ1 => OPW fns globs cf b ρ1 (fun y ρ2 => RSW a x ρ2 fun x1 => RSW b y ρ2 fun y1 => optW (cmpop op x1 y1) fun z => K z ρ2) X) X := by
  have h : TW fns globs cf (.cmp op a b) ρ K X = VW fns globs cf (.cmp op a b) ρ (fun d ρ1 => frzW d fun x => tyW x fun b => K b ρ1) X := tOfV_w (ev fns globs cf (.cmp op a b)).v K
  rw [h, w_cmp]
  rfl
theorem w_neg (a : Ex) (K : D → Env → Prop) : VW fns globs cf (.neg a) ρ K X = VW fns globs cf a ρ (fun d ρ1 => frzW d fun x => intW x fun i => K (.p (.int (-i))) ρ1) X := by
  show OW ((dNeg (ev fns globs cf a)).v ρ) K X = _
  unfold dNeg ofV
  dsimp only
  rw [OW_bndF]
  show _ = OW _ _ _
  refine OW_ext fun d ρ1 => ?_
  unfold frzW
  cases frz d <;> rfl
theorem w_not (a : Ex) (K : D → Env → Prop) : VW fns globs cf (.not a) ρ K X = VW fns globs cf a ρ (fun d ρ1 => frzW d fun x => tyW x fun i => K (.p (.bl (!i))) ρ1) X := by
  show OW ((dNot (ev fns globs cf a)).v ρ) K X = _
  unfold dNot
  dsimp only
  rw [OW_bndF]
  show _ = OW _ _ _
  refine OW_ext fun d ρ1 => ?_
  unfold frzW
  cases frz d <;> rfl
theorem t_notW (a : Ex) (K : Bool → Env → Prop) : TW fns globs cf (.not a) ρ K X = TW fns globs cf a ρ (fun b ρ1 => K (!b) ρ1) X := by
  show OW (bnd _ _) _ _ = _
  rw [OW_bnd]
  rfl
theorem t_and1W (a : Ex) (K : Bool → Env → Prop) : TW fns globs cf (.and [a]) ρ K X = TW fns globs cf a ρ K X := nr rfl
theorem t_andW (a b : Ex) (r : List Ex) (K : Bool → Env → Prop) : TW fns globs cf (.and (a :: b :: r)) ρ K X = TW fns globs cf a ρ (fun x ρ1 => condW x (TW fns globs cf (.and (b :: r)) ρ1 K X) (K false ρ1)) X := by
  show OW (bnd _ _) _ _ = _
  rw [OW_bnd]
  show _ = OW _ _ _
  refine OW_ext fun x ρ1 => ?_
  cases x <;> rfl
theorem t_or1W (a : Ex) (K : Bool → Env → Prop) : TW fns globs cf (.or [a]) ρ K X = TW fns globs cf a ρ K X := nr rfl
theorem t_orW (a b : Ex) (r : List Ex) (K : Bool → Env → Prop) : TW fns globs cf (.or (a :: b :: r)) ρ K X = TW fns globs cf a ρ (fun x ρ1 => condW x (K true ρ1) (TW fns globs cf (.or (b :: r)) ρ1 K X)) X := by
  show OW (bnd _ _) _ _ = _
  rw [OW_bnd]
  show _ = OW _ _ _
  refine OW_ext fun x ρ1 => ?_
  cases x <;> rfl
theorem w_and1 (a : Ex) (K : D → Env → Prop) : VW fns globs cf (.and [a]) ρ K X = VW fns globs cf a ρ K X := nr rfl
theorem w_and (a b : Ex) (r : List Ex) (K : D → Env → Prop) : VW fns globs cf (.and (a :: b :: r)) ρ K X = VW fns globs cf a ρ (fun d ρ1 => frzW d fun x => tyW x fun x => condW x (VW fns globs cf (.and (b :: r)) ρ1 K X) (K (.p (.bl false)) ρ1)) X := by
  show OW ((dAnd (ev fns globs cf a) (dAndL (evL fns globs cf (b :: r)))).v ρ) K X = _
  unfold dAnd
  dsimp only
  rw [OW_bndF]
  show _ = OW _ _ _
  refine OW_ext fun d ρ1 => ?_
  unfold frzW
  rcases frz d with _ | b | _ | _ | _ | _ | _ | _ | _ <;> first | rfl | (cases b <;> rfl)
theorem w_or1 (a : Ex) (K : D → Env → Prop) : VW fns globs cf (.or [a]) ρ K X = VW fns globs cf a ρ K X := nr rfl
theorem w_or (a b : Ex) (r : List Ex) (K : D → Env → Prop) : VW fns globs cf (.or (a :: b :: r)) ρ K X = VW fns globs cf a ρ (fun d ρ1 => frzW d fun x => tyW x fun x => condW x (K (.p (.bl true)) ρ1) (VW fns globs cf (.or (b :: r)) ρ1 K X)) X := by
  show OW ((dOr (ev fns globs cf a) (dOrL (evL fns globs cf (b :: r)))).v ρ) K X = _
  unfold dOr
  dsimp only
  rw [OW_bndF]
  show _ = OW _ _ _
  refine OW_ext fun d ρ1 => ?_
  unfold frzW
  rcases frz d with _ | b | _ | _ | _ | _ | _ | _ | _ <;> first | rfl | (cases b <;> rfl)
theorem w_chain (o1 o2 : CmpOp) (a b c : Ex) (K : D → Env → Prop) : VW fns globs cf (.chain o1 o2 a b c) ρ K X = VW fns globs cf a ρ (fun d ρ1 => frzW d fun x => VW fns globs cf b ρ1 (fun d ρ2 => frzW d fun y => optW (cmpop o1 x y) fun t => condW t (VW fns globs cf c ρ2 (fun d ρ3 => frzW d fun z => optW (cmpop o2 y z) fun r => K (.p (.bl r)) ρ3) X) (K (.p (.bl false)) ρ2)) X) X := by
  show OW ((dChain o1 o2 (ev fns globs cf a) (ev fns globs cf b) (ev fns globs cf c)).v ρ) K X = _
  unfold dChain ofV
  dsimp only
  rw [OW_bndF]
  show _ = OW _ _ _
  refine OW_ext fun d ρ1 => ?_
  unfold frzW
  dsimp only
  rw [OW_bndF]
  show _ = OW _ _ _
  refine OW_ext fun d2 ρ2 => ?_
  unfold frzW
  dsimp only
  rcases cmpop o1 (frz d) (frz d2) with _ | b
  · rfl
  · cases b
    · rfl
    · show OW (bndF _ _) _ _ = OW _ _ _
      rw [OW_bndF]
      refine OW_ext fun d3 ρ3 => ?_
      unfold frzW
      dsimp only
      rw [OW_fin, optW_map]
theorem w_ife (c a b : Ex) (K : D → Env → Prop) : VW fns globs cf (.ife c a b) ρ K X = TW fns globs cf c ρ (fun t ρ1 => condW t (VW fns globs cf a ρ1 K X) (VW fns globs cf b ρ1 K X)) X := by
  show OW (bnd _ _) _ _ = _
  rw [OW_bnd]
  show _ = OW _ _ _
  refine OW_ext fun t ρ1 => ?_
  cases t <;> rfl
theorem s_nil (K : List D → Env → Prop) : SQW fns globs cf [] ρ K X = K [] ρ := nr rfl
theorem s_cons (e : Ex) (es : List Ex) (K : List D → Env → Prop) : SQW fns globs cf (e :: es) ρ K X = VW fns globs cf e ρ (fun d ρ1 => SQW fns globs cf es ρ1 (fun ds ρ2 => K (d :: ds) ρ2) X) X := by
  show OW (bnd _ _) _ _ = _
  rw [OW_bnd]
  refine OW_ext fun d ρ1 => ?_
  rw [OW_bnd]
  rfl
theorem w_tup (es : List Ex) (K : D → Env → Prop) : VW fns globs cf (.tup es) ρ K X = SQW fns globs cf es ρ (fun ds ρ1 => condW (szOk ds.length) (frzLW ds fun xs => K (.p (.tup xs)) ρ1) False) X := by
  show OW (bnd _ _) _ _ = _
  rw [OW_bnd]
  show _ = OW _ _ _
  refine OW_ext fun ds ρ1 => ?_
  cases szOk ds.length <;> rfl
theorem w_lst (es : List Ex) (K : D → Env → Prop) : VW fns globs cf (.lst es) ρ K X = SQW fns globs cf es ρ (fun ds ρ1 => condW (szOk ds.length) (K (.l ds) ρ1) False) X := by
  show OW (bnd _ _) _ _ = _
  rw [OW_bnd]
  show _ = OW _ _ _
  refine OW_ext fun ds ρ1 => ?_
  cases szOk ds.length <;> rfl
theorem w_idx (a i : Ex) (K : D → Env → Prop) : VW fns globs cf (.idx a i) ρ K X = OPW fns globs cf a ρ (fun x ρ1 => VW fns globs cf i ρ1 (fun d ρ2 => frzW d fun k => RSW a x ρ2 fun x1 => optW (idxP x1 k) fun z => K (.p z) ρ2) X) X := by
  show OW (bnd _ _) _ _ = _
  rw [OW_bnd]
  refine OW_ext fun x ρ1 => ?_
  rw [OW_bndF]
  refine OW_ext fun d ρ2 => ?_
  unfold frzW
  dsimp only
  rw [OW_fin, optW_bind]
  refine optW_ext fun x1 => ?_
  rw [optW_map]
def atomW (ρ : Env) (e : Ex) (K : Int → Prop) (_u : Tie2 ρ K := ()) : Prop := optW (atomI ρ e) K
def idxDW (d : D) (i : Int) (K : D → Prop) (_u : Tie K := ()) : Prop := optW (idxD d i) K
def pW (d : D) (K : P → Prop) (_u : Tie K := ()) : Prop := match d with
  | .p x => K x
  | _ => False
theorem w_pp (x : P) (K : P → Prop) : pW (.p x) K = K x := nr rfl
theorem w_atl (i : Int) (K : Int → Prop) : atomW ρ (.lit (.int i)) K = K i := nr rfl
theorem w_atv (s : Nat) (K : Int → Prop) : atomW ρ (.var s) K = getPW ρ s fun x => intW x K := by
  show optW (Option.bind _ _) _ = optW _ _
  rw [optW_bind]
  refine optW_ext fun x => ?_
  cases x <;> rfl
theorem w_idp (x : P) (i : Int) (K : D → Prop) : idxDW (.p x) i K = optW (idxP x (.int i)) fun z => K (.p z) := by
  show optW (Option.map _ _) _ = _
  rw [optW_map]
theorem w_idl (ds : List D) (i : Int) (K : D → Prop) : idxDW (.l ds) i K = optW (L2.atI ds i) K := nr rfl
theorem w_idx2 (s : Nat) (i j : Ex) (K : D → Env → Prop) : VW fns globs cf (.idx2 s i j) ρ K X = getW ρ s fun _ => VW fns globs cf i ρ (fun d ρ1 => frzW d fun k => intW k fun k => optW (idx2P ρ1 s j k) fun z => K z ρ1) X := by
  show OW ((dIdx2 s (ev fns globs cf i) j).v ρ) K X = optW _ _
  unfold dIdx2 ofV
  dsimp only
  cases getD ρ s with
  | none => rfl
  | some d0 =>
    show OW (bndF _ _) _ _ = OW _ _ _
    rw [OW_bndF]
    refine OW_ext fun d ρ1 => ?_
    unfold frzW
    cases frz d with
    | int k =>
      show OW (fin _ _) _ _ = _
      rw [OW_fin]
      rfl
    | _ => rfl
theorem p_idx2P (s : Nat) (j : Ex) (k : Int) (K : D → Prop) : optW (idx2P ρ s j k) K = getW ρ s fun d => lW d fun ds => optW (L2.atI ds k) fun e => lW e fun es => atomW ρ j fun m => optW (L2.atI es m) fun r => pW r fun x => K (.p x) := by
  unfold idx2P getW
  cases getD ρ s with
  | none => rfl
  | some d =>
    cases d with
    | p x => rfl
    | d _ _ => rfl
    | l ds =>
      show optW ((L2.atI ds k).bind _) K = optW (L2.atI ds k) _
      cases L2.atI ds k with
      | none => rfl
      | some e =>
        cases e with
        | p x => rfl
        | d _ _ => rfl
        | l es =>
          show optW ((atomI ρ j).bind _) K = optW (atomI ρ j) _
          cases atomI ρ j with
          | none => rfl
          | some m =>
            show optW ((L2.atI es m).bind _) K = optW (L2.atI es m) _
            cases L2.atI es m with
            | none => rfl
            | some r => cases r <;> rfl
theorem w_oin (K : Option Int → Env → Prop) : OIW fns globs cf none ρ K X = K none ρ := nr rfl
theorem w_ois (e : Ex) (K : Option Int → Env → Prop) : OIW fns globs cf (some e) ρ K X = VW fns globs cf e ρ (fun d ρ1 => frzW d fun x => intW x fun i => K (some i) ρ1) X := by
  show OW (optI (some (ev fns globs cf e)) ρ) K X = _
  unfold optI
  dsimp only
  rw [OW_bndF]
  show _ = OW _ _ _
  refine OW_ext fun d ρ1 => ?_
  unfold frzW
  cases frz d <;> rfl
theorem w_slc (a : Ex) (lo hi : Option Ex) (K : D → Env → Prop) : VW fns globs cf (.slc a lo hi) ρ K X = OPW fns globs cf a ρ (fun x ρ1 => OIW fns globs cf lo ρ1 (fun l ρ2 => OIW fns globs cf hi ρ2 (fun h ρ3 => RSW a x ρ3 fun x1 => optW (sliceP x1 l h) fun z => K z ρ3) X) X) X := by
  show OW (bnd _ _) _ _ = _
  rw [OW_bnd]
  refine OW_ext fun x ρ1 => ?_
  rw [OW_bnd]
  refine OW_ext fun l ρ2 => ?_
  rw [OW_bnd]
  refine OW_ext fun h ρ3 => ?_
  rw [OW_fin, optW_bind]
  rfl
def argW (np : Nat) (as : List D) (ks : List Nat) (zs : List D) (K : List D → Prop) (_u : Tie K := ()) : Prop := optW (arrange np as ks zs) K
def callW (fns : Nat → Fn) (globs : Nat → P) (cf : Nat → List D → Ret) (fn : Fn) (f : Nat) (es : List Ex) (ks : List Nat) (kes : List Ex) (ρ : Env) (K : D → Env → Prop) (X : Nat → List P → Env → Prop) (_u : Tie4 es ρ K X := ()) (_v : Tie kes := ()) : Prop := OW ((dCall cf f fn (es.head?.bind Ex.isVar) (evL fns globs cf es) ks (evL fns globs cf kes)).v ρ) K X
theorem retTo_w (s : Option Nat) (r : Ret) (K : D → Env → Prop) : OW (retTo s r ρ) K X = RW r (fun d o => match s with | none => K d ρ | some s => setW ρ s o fun ρ1 => K d ρ1) (fun c fs => match s with | none => X c fs ρ | some s => setW ρ s none fun ρ1 => X c fs ρ1) := by
  cases r <;> cases s <;> rfl
theorem callArgs_w (f np : Nat) (d0 ds : List D) (ks : List Nat) (zs : List D) (K : D → Option D → Prop) (X : Nat → List P → Prop) : RW (callArgs cf f np d0 ds ks zs) K X = argW np (d0 ++ pz ds) ks (pz zs) fun as => RW (cf f as) K X := by
  unfold callArgs argW
  cases arrange np (d0 ++ pz ds) ks (pz zs) <;> rfl
theorem w_call (f : Nat) (es : List Ex) (ks : List Nat) (kes : List Ex) (K : D → Env → Prop) : VW fns globs cf (.call f es ks kes) ρ K X = callW fns globs cf (fns f) f es ks kes ρ K X := nr rfl
theorem w_callF (np ns : Nat) (bd : List Sm) (f : Nat) (es : List Ex) (ks : List Nat) (kes : List Ex) (K : D → Env → Prop) : callW fns globs cf ⟨np, false, ns, bd⟩ f es ks kes ρ K X = SQW fns globs cf es ρ (fun ds ρ1 => SQW fns globs cf kes ρ1 (fun zs ρ2 => argW np (pz ds) ks (pz zs) fun as => RW (cf f as) (fun d _ => K d ρ2) (fun c fs => X c fs ρ2)) X) X := by
  show OW (bnd _ _) _ _ = _
  rw [OW_bnd]
  refine OW_ext fun ds ρ1 => ?_
  rw [OW_bnd]
  refine OW_ext fun zs ρ2 => ?_
  rw [retTo_w, callArgs_w, List.nil_append]
theorem w_callM (np ns : Nat) (bd : List Sm) (f s : Nat) (es : List Ex) (ks : List Nat) (kes : List Ex) (K : D → Env → Prop) : callW fns globs cf ⟨np, true, ns, bd⟩ f (.var s :: es) ks kes ρ K X = getW ρ s fun _ => SQW fns globs cf es ρ (fun ds ρ1 => SQW fns globs cf kes ρ1 (fun zs ρ2 => getW ρ2 s fun d0 => argW np (d0 :: pz ds) ks (pz zs) fun as => RW (cf f as) (fun d o => setW ρ2 s o fun ρ3 => K d ρ3) (fun c fs => setW ρ2 s none fun ρ3 => X c fs ρ3)) X) X := by
  show OW (match getD ρ s with | some _ => _ | none => _) _ _ = optW _ _
  cases getD ρ s with
  | none => rfl
  | some _ =>
    show OW (bnd _ _) _ _ = _
    rw [OW_bnd]
    refine OW_ext fun ds ρ1 => ?_
    rw [OW_bnd]
    refine OW_ext fun zs ρ2 => ?_
    show _ = optW _ _
    cases getD ρ2 s with
    | none => rfl
    | some d =>
      show OW (retTo _ _ _) _ _ = _
      rw [retTo_w, callArgs_w]
      rfl
theorem w_callM_call (np ns : Nat) (bd : List Sm) (f : Nat) (f2 : Nat) (es2 : List Ex) (ks2 : List Nat) (kes2 : List Ex) (es : List Ex) (ks : List Nat) (kes : List Ex) (K : D → Env → Prop) : callW fns globs cf ⟨np, true, ns, bd⟩ f (.call f2 es2 ks2 kes2 :: es) ks kes ρ K X = VW fns globs cf (.call f2 es2 ks2 kes2) ρ (fun d0 ρ0 => SQW fns globs cf es ρ0 (fun ds ρ1 => SQW fns globs cf kes ρ1 (fun zs ρ2 => argW np (d0 :: pz ds) ks (pz zs) fun as => RW (cf f as) (fun d _ => K d ρ2) (fun c fs => X c fs ρ2)) X) X) X := by
  show OW (bnd _ _) _ _ = _
  rw [OW_bnd]
  refine OW_ext fun d0 ρ0 => ?_
  rw [OW_bnd]
  refine OW_ext fun ds ρ1 => ?_
  rw [OW_bnd]
  refine OW_ext fun zs ρ2 => ?_
  rw [retTo_w, callArgs_w]
  rfl
theorem w_callM_lst (np ns : Nat) (bd : List Sm) (f : Nat) (es2 : List Ex) (es : List Ex) (ks : List Nat) (kes : List Ex) (K : D → Env → Prop) : callW fns globs cf ⟨np, true, ns, bd⟩ f (.lst es2 :: es) ks kes ρ K X = VW fns globs cf (.lst es2) ρ (fun d0 ρ0 => SQW fns globs cf es ρ0 (fun ds ρ1 => SQW fns globs cf kes ρ1 (fun zs ρ2 => argW np (d0 :: pz ds) ks (pz zs) fun as => RW (cf f as) (fun d _ => K d ρ2) (fun c fs => X c fs ρ2)) X) X) X := by
  show OW (bnd _ _) _ _ = _
  rw [OW_bnd]
  refine OW_ext fun d0 ρ0 => ?_
  rw [OW_bnd]
  refine OW_ext fun ds ρ1 => ?_
  rw [OW_bnd]
  refine OW_ext fun zs ρ2 => ?_
  rw [retTo_w, callArgs_w]
  rfl
theorem w_callM_bin (np ns : Nat) (bd : List Sm) (f : Nat) (op : Operator) (a b : Ex) (es : List Ex) (ks : List Nat) (kes : List Ex) (K : D → Env → Prop) : callW fns globs cf ⟨np, true, ns, bd⟩ f (.bin op a b :: es) ks kes ρ K X = VW fns globs cf (.bin op a b) ρ (fun d0 ρ0 => SQW fns globs cf es ρ0 (fun ds ρ1 => SQW fns globs cf kes ρ1 (fun zs ρ2 => argW np (d0 :: pz ds) ks (pz zs) fun as => RW (cf f as) (fun d _ => K d ρ2) (fun c fs => X c fs ρ2)) X) X) X := by
  show OW (bnd _ _) _ _ = _
  rw [OW_bnd]
  refine OW_ext fun d0 ρ0 => ?_
  rw [OW_bnd]
  refine OW_ext fun ds ρ1 => ?_
  rw [OW_bnd]
  refine OW_ext fun zs ρ2 => ?_
  rw [retTo_w, callArgs_w]
  rfl
theorem w_callM_slc (np ns : Nat) (bd : List Sm) (f : Nat) (a : Ex) (lo hi : Option Ex) (es : List Ex) (ks : List Nat) (kes : List Ex) (K : D → Env → Prop) : callW fns globs cf ⟨np, true, ns, bd⟩ f (.slc a lo hi :: es) ks kes ρ K X = VW fns globs cf (.slc a lo hi) ρ (fun d0 ρ0 => SQW fns globs cf es ρ0 (fun ds ρ1 => SQW fns globs cf kes ρ1 (fun zs ρ2 => argW np (d0 :: pz ds) ks (pz zs) fun as => RW (cf f as) (fun d _ => K d ρ2) (fun c fs => X c fs ρ2)) X) X) X := by
  show OW (bnd _ _) _ _ = _
  rw [OW_bnd]
  refine OW_ext fun d0 ρ0 => ?_
  rw [OW_bnd]
  refine OW_ext fun ds ρ1 => ?_
  rw [OW_bnd]
  refine OW_ext fun zs ρ2 => ?_
  rw [retTo_w, callArgs_w]
  rfl
theorem w_callM_bi (np ns : Nat) (bd : List Sm) (f : Nat) (b : Bi) (es2 : List Ex) (es : List Ex) (ks : List Nat) (kes : List Ex) (K : D → Env → Prop) : callW fns globs cf ⟨np, true, ns, bd⟩ f (.bi b es2 :: es) ks kes ρ K X = VW fns globs cf (.bi b es2) ρ (fun d0 ρ0 => SQW fns globs cf es ρ0 (fun ds ρ1 => SQW fns globs cf kes ρ1 (fun zs ρ2 => argW np (d0 :: pz ds) ks (pz zs) fun as => RW (cf f as) (fun d _ => K d ρ2) (fun c fs => X c fs ρ2)) X) X) X := by
  show OW (bnd _ _) _ _ = _
  rw [OW_bnd]
  refine OW_ext fun d0 ρ0 => ?_
  rw [OW_bnd]
  refine OW_ext fun ds ρ1 => ?_
  rw [OW_bnd]
  refine OW_ext fun zs ρ2 => ?_
  rw [retTo_w, callArgs_w]
  rfl
theorem w_callM_comp (np ns : Nat) (bd : List Sm) (f : Nat) (elt : Ex) (pt : Pat) (own : List Nat) (it : Ex) (cs : List Ex) (es : List Ex) (ks : List Nat) (kes : List Ex) (K : D → Env → Prop) : callW fns globs cf ⟨np, true, ns, bd⟩ f (.comp elt pt own it cs :: es) ks kes ρ K X = VW fns globs cf (.comp elt pt own it cs) ρ (fun d0 ρ0 => SQW fns globs cf es ρ0 (fun ds ρ1 => SQW fns globs cf kes ρ1 (fun zs ρ2 => argW np (d0 :: pz ds) ks (pz zs) fun as => RW (cf f as) (fun d _ => K d ρ2) (fun c fs => X c fs ρ2)) X) X) X := by
  show OW (bnd _ _) _ _ = _
  rw [OW_bnd]
  refine OW_ext fun d0 ρ0 => ?_
  rw [OW_bnd]
  refine OW_ext fun ds ρ1 => ?_
  rw [OW_bnd]
  refine OW_ext fun zs ρ2 => ?_
  rw [retTo_w, callArgs_w]
  rfl
theorem w_callM_ife (np ns : Nat) (bd : List Sm) (f : Nat) (c a b : Ex) (es : List Ex) (ks : List Nat) (kes : List Ex) (K : D → Env → Prop) : callW fns globs cf ⟨np, true, ns, bd⟩ f (.ife c a b :: es) ks kes ρ K X = VW fns globs cf (.ife c a b) ρ (fun d0 ρ0 => SQW fns globs cf es ρ0 (fun ds ρ1 => SQW fns globs cf kes ρ1 (fun zs ρ2 => argW np (d0 :: pz ds) ks (pz zs) fun as => RW (cf f as) (fun d _ => K d ρ2) (fun c fs => X c fs ρ2)) X) X) X := by
  show OW (bnd _ _) _ _ = _
  rw [OW_bnd]
  refine OW_ext fun d0 ρ0 => ?_
  rw [OW_bnd]
  refine OW_ext fun ds ρ1 => ?_
  rw [OW_bnd]
  refine OW_ext fun zs ρ2 => ?_
  rw [retTo_w, callArgs_w]
  rfl
theorem w_callM_idx (np ns : Nat) (bd : List Sm) (f : Nat) (a i : Ex) (es : List Ex) (ks : List Nat) (kes : List Ex) (K : D → Env → Prop) : callW fns globs cf ⟨np, true, ns, bd⟩ f (.idx a i :: es) ks kes ρ K X = VW fns globs cf (.idx a i) ρ (fun d0 ρ0 => SQW fns globs cf es ρ0 (fun ds ρ1 => SQW fns globs cf kes ρ1 (fun zs ρ2 => argW np (d0 :: pz ds) ks (pz zs) fun as => RW (cf f as) (fun d _ => K d ρ2) (fun c fs => X c fs ρ2)) X) X) X := by
  show OW (bnd _ _) _ _ = _
  rw [OW_bnd]
  refine OW_ext fun d0 ρ0 => ?_
  rw [OW_bnd]
  refine OW_ext fun ds ρ1 => ?_
  rw [OW_bnd]
  refine OW_ext fun zs ρ2 => ?_
  rw [retTo_w, callArgs_w]
  rfl
theorem a_pos0 (K : List D → Prop) : argW 0 [] [] [] K = K [] := nr rfl
theorem a_pos1 (d0 : D) (K : List D → Prop) : argW 1 [d0] [] [] K = K [d0] := nr rfl
theorem a_pos2 (d0 d1 : D) (K : List D → Prop) : argW 2 [d0, d1] [] [] K = K [d0, d1] := nr rfl
theorem a_pos3 (d0 d1 d2 : D) (K : List D → Prop) : argW 3 [d0, d1, d2] [] [] K = K [d0, d1, d2] := nr rfl
theorem a_pos4 (d0 d1 d2 d3 : D) (K : List D → Prop) : argW 4 [d0, d1, d2, d3] [] [] K = K [d0, d1, d2, d3] := nr rfl
theorem a_pos5 (d0 d1 d2 d3 d4 : D) (K : List D → Prop) : argW 5 [d0, d1, d2, d3, d4] [] [] K = K [d0, d1, d2, d3, d4] := nr rfl
theorem a_pos6 (d0 d1 d2 d3 d4 d5 : D) (K : List D → Prop) : argW 6 [d0, d1, d2, d3, d4, d5] [] [] K = K [d0, d1, d2, d3, d4, d5] := nr rfl
theorem a_pos7 (d0 d1 d2 d3 d4 d5 d6 : D) (K : List D → Prop) : argW 7 [d0, d1, d2, d3, d4, d5, d6] [] [] K = K [d0, d1, d2, d3, d4, d5, d6] := nr rfl
theorem a_pos8 (d0 d1 d2 d3 d4 d5 d6 d7 : D) (K : List D → Prop) : argW 8 [d0, d1, d2, d3, d4, d5, d6, d7] [] [] K = K [d0, d1, d2, d3, d4, d5, d6, d7] := nr rfl
theorem a_pos9 (d0 d1 d2 d3 d4 d5 d6 d7 d8 : D) (K : List D → Prop) : argW 9 [d0, d1, d2, d3, d4, d5, d6, d7, d8] [] [] K = K [d0, d1, d2, d3, d4, d5, d6, d7, d8] := nr rfl
theorem w_RWok (d : D) (o : Option D) (K : D → Option D → Prop) (X : Nat → List P → Prop) : RW (.ok d o) K X = K d o := nr rfl
theorem w_RWexc (c : Nat) (fs : List P) (K : D → Option D → Prop) (X : Nat → List P → Prop) : RW (.exc c fs) K X = X c fs := nr rfl
theorem w_pz0 : pz [] = [] := nr rfl
theorem w_pzp (x : P) (ds : List D) : pz (.p x :: ds) = .p x :: pz ds := nr rfl
theorem w_pzl (xs : List D) (ds : List D) : pz (.l xs :: ds) = .p (.lst (frzL xs)) :: pz ds := nr rfl
theorem w_fz0 : frzL [] = [] := nr rfl
theorem w_fzp (x : P) (ds : List D) : frzL (.p x :: ds) = x :: frzL ds := nr rfl
theorem w_fzl (xs : List D) (ds : List D) : frzL (.l xs :: ds) = .lst (frzL xs) :: frzL ds := nr rfl
theorem w_fzmap (xs : List P) : frzL (xs.map .p) = xs := frzL_map xs
theorem w_bi1 (b : Bi) (a : Ex) (K : D → Env → Prop) : VW fns globs cf (.bi b [a]) ρ K X = OPW fns globs cf a ρ (fun x ρ1 => RSW a x ρ1 fun x1 => optW (biop b [x1]) fun z => K z ρ1) X := by
  show OW (bnd _ _) _ _ = _
  rw [OW_bnd]
  refine OW_ext fun x ρ1 => ?_
  rw [OW_fin, optW_bind]
  rfl
theorem w_bi2 (b : Bi) (a a2 : Ex) (es : List Ex) (K : D → Env → Prop) : VW fns globs cf (.bi b (a :: a2 :: es)) ρ K X = SQW fns globs cf (a :: a2 :: es) ρ (fun ds ρ1 => optW (biop b (frzL ds)) fun z => K z ρ1) X := by
  show OW (bnd _ _) _ _ = _
  rw [OW_bnd]
  refine OW_ext fun ds ρ1 => ?_
  rw [OW_fin]
def isiW (nc : Nat) (ts : List Ty) (x : P) (K : Bool → Prop) (_u : Tie K := ()) : Prop := optW (isiP nc ts x) K
def strW (x : P) (K : Prop) (_u : Tie K := ()) : Prop := match x with
  | .str _ => K
  | _ => False
theorem w_isi (ts : List Ty) (e : Ex) (p : Bool) (nc : Nat) (K : D → Env → Prop) : VW fns globs cf (.isi e ts p nc) ρ K X = VW fns globs cf e ρ (fun d ρ1 => frzW d fun x => isiW nc ts x fun b => K (.p (.bl b)) ρ1) X := by
  show OW ((dIsi nc ts (ev fns globs cf e)).v ρ) K X = _
  unfold dIsi ofV
  dsimp only
  rw [OW_bndF]
  show _ = OW _ _ _
  refine OW_ext fun d ρ1 => ?_
  unfold frzW isiW
  dsimp only
  rw [OW_fin, optW_map]
theorem w_mkx (c : Nat) (e : Ex) (K : D → Env → Prop) : VW fns globs cf (.mkx c e) ρ K X = VW fns globs cf e ρ (fun d ρ1 => frzW d fun x => strW x (K (.p (.exc c [])) ρ1)) X := by
  show OW ((dMkx c (ev fns globs cf e)).v ρ) K X = _
  unfold dMkx ofV
  dsimp only
  rw [OW_bndF]
  show _ = OW _ _ _
  refine OW_ext fun d ρ1 => ?_
  unfold frzW
  cases frz d <;> rfl
theorem w_strs (s : Str) (K : Prop) : strW (.str s) K = K := nr rfl
def getOW (ρ : Env) (i : Nat) (K : Option D → Prop) (_u : Tie K := ()) : Prop := K ((ρ[i]?).bind id)
def compW (b : Bool) (A : Prop) (_u : Tie A := ()) : Prop := match b with
  | true => A
  | false => False
def backW (ρ0 ρ : Env) (is : List Nat) (K : Env → Prop) (_u : Tie K := ()) : Prop := K (backE ρ0 ρ is)
theorem w_getO0 (v : Option D) (ρ : Env) (K : Option D → Prop) : getOW (v :: ρ) 0 K = K v := nr rfl
theorem w_getOS (v : Option D) (ρ : Env) (n : Nat) (K : Option D → Prop) : getOW (v :: ρ) (n + 1) K = getOW ρ n K := nr rfl
theorem w_back0 (ρ0 ρ : Env) (K : Env → Prop) : backW ρ0 ρ [] K = K ρ := nr rfl
theorem w_back1 (ρ0 ρ : Env) (i : Nat) (is : List Nat) (K : Env → Prop) : backW ρ0 ρ (i :: is) K = getOW ρ0 i fun v => setW ρ i v fun ρ1 => backW ρ0 ρ1 is K := nr rfl
theorem w_comp (elt : Ex) (pt : Pat) (own : List Nat) (it : Ex) (cs : List Ex) (K : D → Env → Prop) : VW fns globs cf (.comp elt pt own it cs) ρ K X = IW fns globs cf it ρ (fun xs ρ1 => compW (noOwn ρ1 own && nodupN own && pt.within own) (wipeW ρ1 own fun ρw => CW fns globs cf elt pt own cs xs ρw [] fun ds ρ2 => backW ρ1 ρ2 own fun ρ3 => K (.l ds) ρ3)) X := by
  show OW (bnd _ _) _ _ = _
  rw [OW_bnd]
  show _ = OW _ _ _
  refine OW_ext fun xs ρ1 => ?_
  cases h : (noOwn ρ1 own && nodupN own && pt.within own)
  · refine propext ⟨fun h => ?_, fun h => ?_⟩
    · exact h.elim
    · exact h.elim
  · have e : ∀ o : Out (List D), OW (match o with | .ok ds ρ2 => Out.ok (D.l ds) (backE ρ1 ρ2 own) | _ => Out.bad) K X = OW o (fun ds ρ2 => K (.l ds) (backE ρ1 ρ2 own)) (fun _ _ _ => False) := by
      intro o
      cases o <;> rfl
    exact e _
def CompOk (b : Bool) : Prop := b = true
theorem CompOk.mk {b : Bool} (h : b = true) : CompOk b := h
theorem w_compT (b : Bool) (A : Prop) (h : CompOk b) : compW b A = A := by
  have h2 : b = true := h
  rw [h2]
  rfl
theorem iv_rng1 (a : Ex) (K : List P → Env → Prop) : IW fns globs cf (.rng1 a) ρ K X = VW fns globs cf a ρ (fun d ρ1 => frzW d fun x => intW x fun n => condW (inR n) (K (rangeOf 0 n.toNat) ρ1) False) X := by
  show OW ((dRng1 (ev fns globs cf a)).i ρ) K X = _
  unfold dRng1 ofI
  dsimp only
  rw [OW_bndF]
  show _ = OW _ _ _
  refine OW_ext fun d ρ1 => ?_
  unfold frzW
  cases frz d with
  | int n =>
    show OW (match inR n with | true => _ | false => _) _ _ = condW _ _ _
    cases inR n <;> rfl
  | _ => rfl
theorem iv_rng2 (a b : Ex) (K : List P → Env → Prop) : IW fns globs cf (.rng2 a b) ρ K X = VW fns globs cf a ρ (fun d ρ1 => frzW d fun x => VW fns globs cf b ρ1 (fun d ρ2 => frzW d fun y => intW x fun i => intW y fun j => condW (inR i && inR j) (K (rangeOf i (j - i).toNat) ρ2) False) X) X := by
  show OW ((dRng2 (ev fns globs cf a) (ev fns globs cf b)).i ρ) K X = _
  unfold dRng2 ofI
  dsimp only
  rw [OW_bndF]
  show _ = OW _ _ _
  refine OW_ext fun d ρ1 => ?_
  unfold frzW
  dsimp only
  rw [OW_bndF]
  show _ = OW _ _ _
  refine OW_ext fun d2 ρ2 => ?_
  unfold frzW
  cases frz d with
  | int n =>
    cases frz d2 with
    | int m =>
      show OW (match inR n && inR m with | true => _ | false => _) _ _ = condW _ _ _
      cases inR n && inR m <;> rfl
    | _ => rfl
  | _ => rfl
theorem iv_rng3 (a b c : Ex) (K : List P → Env → Prop) : IW fns globs cf (.rng3 a b c) ρ K X = VW fns globs cf a ρ (fun d ρ1 => frzW d fun x => VW fns globs cf b ρ1 (fun d ρ2 => frzW d fun y => VW fns globs cf c ρ2 (fun d ρ3 => frzW d fun z => intW x fun i => intW y fun j => intW z fun k => condW (inR i && inR j && decide (k = -1)) (K (rangeDn i (i - j).toNat) ρ3) False) X) X) X := by
  show OW ((dRng3 (ev fns globs cf a) (ev fns globs cf b) (ev fns globs cf c)).i ρ) K X = _
  unfold dRng3 ofI
  dsimp only
  rw [OW_bndF]
  show _ = OW _ _ _
  refine OW_ext fun d ρ1 => ?_
  unfold frzW
  dsimp only
  rw [OW_bndF]
  show _ = OW _ _ _
  refine OW_ext fun d2 ρ2 => ?_
  unfold frzW
  dsimp only
  rw [OW_bndF]
  show _ = OW _ _ _
  refine OW_ext fun d3 ρ3 => ?_
  unfold frzW
  cases frz d with
  | int n =>
    cases frz d2 with
    | int m =>
      cases frz d3 with
      | int k =>
        show OW (match inR n && inR m && decide (k = -1) with | true => _ | false => _) _ _ = condW _ _ _
        cases inR n && inR m && decide (k = -1) <;> rfl
      | _ => rfl
    | _ => rfl
  | _ => rfl
theorem w_frzd (ks : List L2.Key) (xs : List P) (K : P → Prop) : frzW (.d ks xs) K = K .any := nr rfl
def dW (d : D) (K : List L2.Key → List P → Prop) (_u : Tie K := ()) : Prop := match d with
  | .d ks xs => K ks xs
  | _ => False
def keyW (x : P) (K : L2.Key → Prop) (_u : Tie K := ()) : Prop := optW (keyP x) K
theorem w_dd (ks : List L2.Key) (xs : List P) (K : List L2.Key → List P → Prop) : dW (.d ks xs) K = K ks xs := nr rfl
theorem w_keyi (i : Int) (K : L2.Key → Prop) : keyW (.int i) K = K (.inl i) := nr rfl
theorem w_keys_ (i : Str) (K : L2.Key → Prop) : keyW (.str i) K = K (.inr i) := nr rfl
theorem w_dnil (K : D → Env → Prop) : VW fns globs cf .dnil ρ K X = K (.d [] []) ρ := nr rfl
theorem w_keys (s : Nat) (K : D → Env → Prop) : VW fns globs cf (.keys s) ρ K X = getW ρ s fun d => dW d fun ks _ => K (.l (ks.map fun k => .p (kP k))) ρ := by
  show OW ((dKeys s).v ρ) K X = optW _ _
  unfold dKeys ofV
  dsimp only
  cases getD ρ s with
  | none => rfl
  | some d => cases d <;> rfl
def viewW (ρ : Env) (K : Env → Prop) (_u : Tie K := ()) : Prop := K (viewE ρ)
theorem w_view0 (K : Env → Prop) : viewW [] K = K [] := nr rfl
theorem w_viewN (ρ : Env) (K : Env → Prop) : viewW (none :: ρ) K = viewW ρ fun ρ1 => K (none :: ρ1) := nr rfl
theorem w_viewS (d : D) (ρ : Env) (K : Env → Prop) : viewW (some d :: ρ) K = frzW d fun x => viewW ρ fun ρ1 => K (some (.p x) :: ρ1) := nr rfl
theorem t_view (e : Ex) (K : Bool → Env → Prop) : TW fns globs cf (.view e) ρ K X = viewW ρ fun ρv => TW fns globs cf e ρv (fun b _ => K b ρ) (fun _ _ _ => False) := by
  show OW (boolOut ((ev fns globs cf e).t (viewE ρ)) ρ) K X = OW ((ev fns globs cf e).t (viewE ρ)) _ _
  cases (ev fns globs cf e).t (viewE ρ) <;> rfl
theorem w_view (e : Ex) (K : D → Env → Prop) : VW fns globs cf (.view e) ρ K X = viewW ρ fun ρv => VW fns globs cf e ρv (fun d _ => pW d fun x => condW x.flat (K (.p x) ρ) False) (fun _ _ _ => False) := by
  show OW (flatOut ((ev fns globs cf e).v (viewE ρ)) ρ) K X = OW ((ev fns globs cf e).v (viewE ρ)) _ _
  rcases (ev fns globs cf e).v (viewE ρ) with ⟨⟨x⟩ | _ | _, _⟩ | _ | _
  · show OW (match x.flat with | true => _ | false => _) K X = condW _ _ _
    cases x.flat <;> rfl
  · rfl
  · rfl
  · rfl
  · rfl
theorem w_flI (i : Int) (A B : Prop) : condW (P.flat (.int i)) A B = A := nr rfl
theorem w_flB (i : Bool) (A B : Prop) : condW (P.flat (.bl i)) A B = A := nr rfl
theorem w_flS (i : Str) (A B : Prop) : condW (P.flat (.str i)) A B = A := nr rfl
theorem w_flN (A B : Prop) : condW (P.flat .non) A B = A := nr rfl
def lstW (x : P) (A : Prop) (_u : Tie A := ()) : Prop := match x with
  | .lst _ => A
  | _ => False
theorem w_lstl (xs : List P) (A : Prop) : lstW (.lst xs) A = A := nr rfl
theorem w_cnt (s : Nat) (b : Ex) (K : D → Env → Prop) : VW fns globs cf (.cnt s b) ρ K X = getW ρ s fun d => flatW d fun x => lstW x (VW fns globs cf b ρ (fun d ρ1 => frzW d fun y => getW ρ1 s fun d => flatW d fun x => optW (cntP x y) fun z => K z ρ1) X) := by
  show OW ((dCnt s (ev fns globs cf b)).v ρ) K X = optW _ _
  unfold dCnt ofV
  dsimp only
  cases getD ρ s with
  | none => rfl
  | some d =>
    show OW (match flatD d with | some (.lst _) => _ | _ => _) K X = optW (flatD d) _
    cases flatD d with
    | none => rfl
    | some x =>
      cases x <;> first | rfl | skip
      show OW (bndF _ _) _ _ = OW _ _ _
      rw [OW_bndF]
      refine OW_ext fun d1 ρ1 => ?_
      unfold frzW
      dsimp only
      rw [OW_fin, optW_bind, optW_bind]
      rfl
theorem iv_enum (a : Ex) (K : List P → Env → Prop) : IW fns globs cf (.enum a) ρ K X = VW fns globs cf a ρ (fun d ρ1 => frzW d fun x => itW x fun xs => K (enumOf 0 xs) ρ1) X := by
  show OW (bnd _ _) _ _ = _
  rw [OW_bnd]
  exact iOfV_w (ev fns globs cf a).v _
def zipW (x y : P) (K : List P → Prop) (_u : Tie K := ()) : Prop := match x, y with
  | .lst xs, .lst ys => K (pairsOf xs ys)
  | .tup xs, .tup ys => K (pairsOf xs ys)
  | _, _ => False
theorem w_zipl (xs ys : List P) (K : List P → Prop) : zipW (.lst xs) (.lst ys) K = K (pairsOf xs ys) := nr rfl
theorem w_zipt (xs ys : List P) (K : List P → Prop) : zipW (.tup xs) (.tup ys) K = K (pairsOf xs ys) := nr rfl
theorem iv_zip (a b : Ex) (K : List P → Env → Prop) : IW fns globs cf (.zip a b) ρ K X = VW fns globs cf a ρ (fun d ρ1 => frzW d fun x => VW fns globs cf b ρ1 (fun d ρ2 => frzW d fun y => zipW x y fun zs => K zs ρ2) X) X := by
  show OW ((dZip (ev fns globs cf a) (ev fns globs cf b)).i ρ) K X = _
  unfold dZip ofI
  dsimp only
  rw [OW_bndF]
  show _ = OW _ _ _
  refine OW_ext fun d ρ1 => ?_
  unfold frzW
  dsimp only
  rw [OW_bndF]
  show _ = OW _ _ _
  refine OW_ext fun d2 ρ2 => ?_
  unfold frzW
  cases frz d <;> cases frz d2 <;> rfl
def seqQ (fns : Nat → Fn) (globs : Nat → P) (cf : Nat → List D → Ret) (wf : Nat) (ss : List Sm) (Q : SOut → Prop) (o : SOut) (_u : Tie2 ss Q := ()) : Prop := match o with
  | .nx ρ => BW fns globs cf wf ss ρ Q
  | o => QW Q o
theorem QW_and (Q : SOut → Prop) (o : SOut) (ss : List Sm) : QW Q (o.andThen (evB fns globs cf wf ss)) = QW (seqQ fns globs cf wf ss Q) o := by
  cases o <;> rfl
theorem QW_sbnd {α : Type} (Q : SOut → Prop) (o : Out α) (f : α → Env → SOut) : QW Q (sbnd o f) = OW o (fun a ρ => QW Q (f a ρ)) (fun c fs ρ => Q (.exc c fs ρ)) := by
  cases o <;> rfl
theorem QW_sbndF (Q : SOut → Prop) (o : Out D) (f : P → Env → SOut) : QW Q (sbndF o f) = OW o (fun a ρ => frzW a fun x => QW Q (f x ρ)) (fun c fs ρ => Q (.exc c fs ρ)) := by
  cases o <;> rfl
theorem QW_sfin (Q : SOut → Prop) (o : Option Env) : QW Q (sfin o) = optW o fun ρ => Q (.nx ρ) := by
  cases o <;> rfl
theorem BW_cons (s : Sm) (ss : List Sm) (Q : SOut → Prop) : BW fns globs cf wf (s :: ss) ρ Q = QW (seqQ fns globs cf wf ss Q) (evS fns globs cf wf s ρ) := QW_and Q _ ss
theorem QW_seq (ss : List Sm) (Q : SOut → Prop) (o : SOut) : QW (seqQ fns globs cf wf ss Q) o = seqQ fns globs cf wf ss Q o := by
  cases o <;> rfl
theorem q_nx (ss : List Sm) (Q : SOut → Prop) (ρ : Env) : seqQ fns globs cf wf ss Q (.nx ρ) = BW fns globs cf wf ss ρ Q := nr rfl
theorem q_rt (ss : List Sm) (Q : SOut → Prop) (d : D) (ρ : Env) : seqQ fns globs cf wf ss Q (.rt d ρ) = Q (.rt d ρ) := nr rfl
theorem q_bk (ss : List Sm) (Q : SOut → Prop) (ρ : Env) : seqQ fns globs cf wf ss Q (.bk ρ) = Q (.bk ρ) := nr rfl
theorem q_ct (ss : List Sm) (Q : SOut → Prop) (ρ : Env) : seqQ fns globs cf wf ss Q (.ct ρ) = Q (.ct ρ) := nr rfl
theorem q_ex (ss : List Sm) (Q : SOut → Prop) (c : Nat) (fs : List P) (ρ : Env) : seqQ fns globs cf wf ss Q (.exc c fs ρ) = Q (.exc c fs ρ) := nr rfl
theorem b_nilW (Q : SOut → Prop) : BW fns globs cf wf [] ρ Q = Q (.nx ρ) := nr rfl
theorem b_asg (i : Nat) (e : Ex) (ss : List Sm) (Q : SOut → Prop) : BW fns globs cf wf (.asg (.v i) e :: ss) ρ Q = VW fns globs cf e ρ (fun d ρ1 => setW ρ1 i (some d) fun ρ2 => BW fns globs cf wf ss ρ2 Q) (fun c fs ρ1 => Q (.exc c fs ρ1)) := by
  rw [BW_cons]
  show QW _ (sbnd _ _) = _
  rw [QW_sbnd]
  rfl
theorem b_asgt (ps : List Pat) (e : Ex) (ss : List Sm) (Q : SOut → Prop) : BW fns globs cf wf (.asg (.t ps) e :: ss) ρ Q = VW fns globs cf e ρ (fun d ρ1 => frzW d fun x => bindW (.t ps) x ρ1 fun ρ2 => BW fns globs cf wf ss ρ2 Q) (fun c fs ρ1 => Q (.exc c fs ρ1)) := by
  rw [BW_cons]
  show QW _ (sbnd _ _) = _
  rw [QW_sbnd]
  show _ = OW _ _ _
  refine OW_ext fun d ρ1 => ?_
  rw [QW_sfin]
  rfl
def parW (is : List Nat) (ds : List D) (ρ : Env) (K : Env → Prop) (_u : Tie2 ρ K := ()) : Prop := optW (parD is ds ρ) K
theorem w_par0 (ρ : Env) (K : Env → Prop) : parW [] [] ρ K = K ρ := nr rfl
theorem w_par1 (i : Nat) (is : List Nat) (d : D) (ds : List D) (ρ : Env) (K : Env → Prop) : parW (i :: is) (d :: ds) ρ K = setW ρ i (some d) fun ρ1 => parW is ds ρ1 K := nr rfl
theorem b_par (is : List Nat) (es : List Ex) (ss : List Sm) (Q : SOut → Prop) : BW fns globs cf wf (.par is es :: ss) ρ Q = SQW fns globs cf es ρ (fun ds ρ1 => parW is ds ρ1 fun ρ2 => BW fns globs cf wf ss ρ2 Q) (fun c fs ρ1 => Q (.exc c fs ρ1)) := by
  rw [BW_cons]
  show QW _ (sbnd _ _) = _
  rw [QW_sbnd]
  show _ = OW _ _ _
  refine OW_ext fun d ρ1 => ?_
  rw [QW_sfin]
  rfl
theorem b_asgL (i : Nat) (e : Ex) (ss : List Sm) (Q : SOut → Prop) : BW fns globs cf wf (.asgL i e :: ss) ρ Q = VW fns globs cf e ρ (fun d ρ1 => setW ρ1 i (some d) fun ρ2 => BW fns globs cf wf ss ρ2 Q) (fun c fs ρ1 => Q (.exc c fs ρ1)) := by
  rw [BW_cons]
  show QW _ (sbnd _ _) = _
  rw [QW_sbnd]
  rfl
def setLW (ds : List D) (i : Int) (d : D) (K : List D → Prop) (_u : Tie K := ()) : Prop := optW (setL ds i d) K
theorem b_set (s : Nat) (i e : Ex) (ss : List Sm) (Q : SOut → Prop) : BW fns globs cf wf (.set s i e :: ss) ρ Q = VW fns globs cf e ρ (fun d ρ1 => getW ρ1 s fun _ => VW fns globs cf i ρ1 (fun k ρ2 => frzW k fun k => intW k fun k => getW ρ2 s fun l => lW l fun ds => setLW ds k d fun ds2 => setW ρ2 s (some (.l ds2)) fun ρ3 => BW fns globs cf wf ss ρ3 Q) (fun c fs ρ1 => Q (.exc c fs ρ1))) (fun c fs ρ1 => Q (.exc c fs ρ1)) := by
  rw [BW_cons]
  show QW _ (sbnd _ _) = _
  rw [QW_sbnd]
  show _ = OW _ _ _
  refine OW_ext fun d ρ1 => ?_
  show _ = optW _ _
  cases getD ρ1 s with
  | none => rfl
  | some _ =>
    show QW _ (sbndF _ _) = _
    rw [QW_sbndF]
    show _ = OW _ _ _
    refine OW_ext fun k ρ2 => ?_
    unfold frzW
    cases frz k with
    | int k =>
      show QW _ (match (P.int k), getD ρ2 s with | .int k, some (.l ds) => _ | _, _ => _) = optW (getD ρ2 s) _
      cases getD ρ2 s with
      | none => rfl
      | some l =>
        cases l with
        | p x => rfl
        | d _ _ => rfl
        | l ds =>
          show QW _ (sfin _) = _
          rw [QW_sfin, optW_map]
          rfl
    | _ => rfl
theorem b_set2 (s : Nat) (i j e : Ex) (ss : List Sm) (Q : SOut → Prop) : BW fns globs cf wf (.set2 s i j e :: ss) ρ Q = VW fns globs cf e ρ (fun d ρ1 => pW d fun x => getW ρ1 s fun _ => VW fns globs cf i ρ1 (fun kd ρ2 => frzW kd fun k => intW k fun k => optW (set2P ρ2 s j k x) fun ρ3 => BW fns globs cf wf ss ρ3 Q) (fun c fs ρ1 => Q (.exc c fs ρ1))) (fun c fs ρ1 => Q (.exc c fs ρ1)) := by
  rw [BW_cons]
  show QW _ (sbnd _ _) = _
  rw [QW_sbnd]
  show _ = OW _ _ _
  refine OW_ext fun d ρ1 => ?_
  cases d with
  | l ds => rfl
  | d _ _ => rfl
  | p x =>
    show QW _ (match D.p x, getD ρ1 s with | .p x, some _ => _ | _, _ => _) = optW (getD ρ1 s) _
    cases getD ρ1 s with
    | none => rfl
    | some d0 =>
      show QW _ (sbndF _ _) = OW _ _ _
      rw [QW_sbndF]
      refine OW_ext fun kd ρ2 => ?_
      unfold frzW
      cases frz kd with
      | int k =>
        show QW _ (sfin _) = _
        rw [QW_sfin]
        rfl
      | _ => rfl
theorem p_set2P (s : Nat) (j : Ex) (k : Int) (x : P) (K : Env → Prop) : optW (set2P ρ s j k x) K = getW ρ s fun d => lW d fun ds => optW (L2.atI ds k) fun e => lW e fun es => atomW ρ j fun m => setLW es m (.p x) fun es2 => setLW ds k (.l es2) fun ds2 => setW ρ s (some (.l ds2)) K := by
  unfold set2P getW
  cases getD ρ s with
  | none => rfl
  | some d =>
    cases d with
    | p x => rfl
    | d _ _ => rfl
    | l ds =>
      show optW ((L2.atI ds k).bind _) K = optW (L2.atI ds k) _
      cases L2.atI ds k with
      | none => rfl
      | some e =>
        cases e with
        | p x => rfl
        | d _ _ => rfl
        | l es =>
          show optW ((atomI ρ j).bind _) K = optW (atomI ρ j) _
          cases atomI ρ j with
          | none => rfl
          | some m =>
            show optW ((setL es m (.p x)).bind _) K = optW (setL es m (.p x)) _
            cases setL es m (.p x) with
            | none => rfl
            | some es2 =>
              show optW ((setL ds k (.l es2)).map _) K = optW (setL ds k (.l es2)) _
              cases setL ds k (.l es2) <;> rfl
theorem b_dset (s : Nat) (i e : Ex) (ss : List Sm) (Q : SOut → Prop) : BW fns globs cf wf (.dset s i e :: ss) ρ Q = VW fns globs cf e ρ (fun d ρ1 => pW d fun x => getW ρ1 s fun _ => VW fns globs cf i ρ1 (fun kd ρ2 => frzW kd fun k => keyW k fun k => getW ρ2 s fun l => dW l fun ks xs => condW (decide (ks.length < 16777216)) (setW ρ2 s (some (.d (putKs k ks) (putXs k x ks xs))) fun ρ3 => BW fns globs cf wf ss ρ3 Q) False) (fun c fs ρ1 => Q (.exc c fs ρ1))) (fun c fs ρ1 => Q (.exc c fs ρ1)) := by
  rw [BW_cons]
  show QW _ (sbnd _ _) = _
  rw [QW_sbnd]
  show OW _ _ _ = OW _ _ _
  refine OW_ext fun d ρ1 => ?_
  cases d with
  | l ds => rfl
  | d ks xs => rfl
  | p x =>
    show QW _ (match D.p x, getD ρ1 s with | .p x, some _ => _ | _, _ => _) = optW (getD ρ1 s) _
    cases getD ρ1 s with
    | none => rfl
    | some d0 =>
      show QW _ (sbndF _ _) = OW _ _ _
      rw [QW_sbndF]
      refine OW_ext fun kd ρ2 => ?_
      unfold frzW
      show QW _ (match keyP (frz kd), getD ρ2 s with | some k, some (.d ks xs) => _ | _, _ => _) = optW (keyP (frz kd)) _
      cases keyP (frz kd) with
      | none => rfl
      | some k =>
        show _ = optW (getD ρ2 s) _
        cases getD ρ2 s with
        | none => rfl
        | some d2 =>
          cases d2 with
          | p x => rfl
          | l ds => rfl
          | d ks xs =>
            show QW _ (match decide (ks.length < 16777216) with | true => _ | false => _) = condW _ _ _
            cases decide (ks.length < 16777216) <;> rfl
theorem b_aug (i : Nat) (op : Operator) (e : Ex) (ss : List Sm) (Q : SOut → Prop) : BW fns globs cf wf (.aug i op e :: ss) ρ Q = getPW ρ i fun x => intW x fun a => VW fns globs cf e ρ (fun d ρ1 => frzW d fun y => optW (augOp op a y) fun z => setW ρ1 i (some (.p (.int z))) fun ρ2 => BW fns globs cf wf ss ρ2 Q) (fun c fs ρ1 => Q (.exc c fs ρ1)) := by
  rw [BW_cons]
  show QW _ (match getP ρ i with | some (.int a) => _ | _ => _) = optW _ _
  cases getP ρ i with
  | none => rfl
  | some x =>
    cases x with
    | int a =>
      show QW _ (sbndF _ _) = _
      rw [QW_sbndF]
      show _ = OW _ _ _
      refine OW_ext fun d ρ1 => ?_
      unfold frzW
      dsimp only
      cases augOp op a (frz d) <;> rfl
    | _ => rfl
theorem b_app (s : Nat) (e : Ex) (ss : List Sm) (Q : SOut → Prop) : BW fns globs cf wf (.app s e :: ss) ρ Q = getW ρ s fun l => lW l fun _ => VW fns globs cf e ρ (fun d ρ1 => getW ρ1 s fun l => lW l fun ds => condW (decide (ds.length < 16777216)) (setW ρ1 s (some (.l (ds ++ [d]))) fun ρ2 => BW fns globs cf wf ss ρ2 Q) False) (fun c fs ρ1 => Q (.exc c fs ρ1)) := by
  rw [BW_cons]
  show QW _ (match getD ρ s with | some (.l _) => _ | _ => _) = optW _ _
  cases getD ρ s with
  | none => rfl
  | some l =>
    cases l with
    | p x => rfl
    | d _ _ => rfl
    | l ds0 =>
      show QW _ (sbnd _ _) = _
      rw [QW_sbnd]
      show _ = OW _ _ _
      refine OW_ext fun d ρ1 => ?_
      show QW _ (match getD ρ1 s with | some (.l ds) => _ | _ => _) = optW _ _
      cases getD ρ1 s with
      | none => rfl
      | some l =>
        cases l with
        | p x => rfl
        | d _ _ => rfl
        | l ds =>
          show QW _ (match decide (ds.length < 16777216) with | true => _ | false => _) = condW _ _ _
          cases decide (ds.length < 16777216) <;> rfl
theorem b_expr (e : Ex) (ss : List Sm) (Q : SOut → Prop) : BW fns globs cf wf (.expr e :: ss) ρ Q = VW fns globs cf e ρ (fun _ ρ1 => BW fns globs cf wf ss ρ1 Q) (fun c fs ρ1 => Q (.exc c fs ρ1)) := by
  rw [BW_cons]
  show QW _ (sbnd _ _) = _
  rw [QW_sbnd]
  rfl
theorem b_ife (c : Ex) (a b : List Sm) (ss : List Sm) (Q : SOut → Prop) : BW fns globs cf wf (.ife c a b :: ss) ρ Q = TW fns globs cf c ρ (fun t ρ1 => condW t (BW fns globs cf wf a ρ1 (seqQ fns globs cf wf ss Q)) (BW fns globs cf wf b ρ1 (seqQ fns globs cf wf ss Q))) (fun c fs ρ1 => Q (.exc c fs ρ1)) := by
  rw [BW_cons]
  show QW _ (sbnd _ _) = _
  rw [QW_sbnd]
  show _ = OW _ _ _
  refine OW_ext fun t ρ1 => ?_
  cases t <;> rfl
theorem b_for (pt : Pat) (it : Ex) (b : List Sm) (ss : List Sm) (Q : SOut → Prop) : BW fns globs cf wf (.for_ pt it b :: ss) ρ Q = IW fns globs cf it ρ (fun xs ρ1 => FW fns globs cf wf pt b xs ρ1 (seqQ fns globs cf wf ss Q)) (fun c fs ρ1 => Q (.exc c fs ρ1)) := by
  rw [BW_cons]
  show QW _ (sbnd _ _) = _
  rw [QW_sbnd]
  rfl
theorem b_while (c : Ex) (b : List Sm) (ss : List Sm) (Q : SOut → Prop) : BW fns globs cf wf (.while_ c b :: ss) ρ Q = WW fns globs cf wf c b wf ρ (seqQ fns globs cf wf ss Q) := by
  rw [BW_cons]
  rfl
theorem b_retW (e : Ex) (ss : List Sm) (Q : SOut → Prop) : BW fns globs cf wf (.ret e :: ss) ρ Q = VW fns globs cf e ρ (fun d ρ1 => Q (.rt d ρ1)) (fun c fs ρ1 => Q (.exc c fs ρ1)) := by
  rw [BW_cons]
  show QW _ (sbnd _ _) = _
  rw [QW_sbnd]
  rfl
theorem b_retV (i : Nat) (ss : List Sm) (Q : SOut → Prop) : BW fns globs cf wf (.retV i :: ss) ρ Q = getW ρ i fun d => setW ρ i none fun ρ1 => Q (.rt d ρ1) := by
  rw [BW_cons]
  show QW _ (match getD ρ i with | some d => _ | none => _) = optW _ _
  cases getD ρ i <;> rfl
theorem b_raise (c : Nat) (m : Str) (ss : List Sm) (Q : SOut → Prop) : BW fns globs cf wf (.raise c m :: ss) ρ Q = Q (.exc c [] ρ) := nr rfl
theorem b_raiseF (c : Nat) (e : Ex) (ss : List Sm) (Q : SOut → Prop) : BW fns globs cf wf (.raiseF c e :: ss) ρ Q = VW fns globs cf e ρ (fun d ρ1 => frzW d fun x => Q (.exc c [x] ρ1)) (fun c fs ρ1 => Q (.exc c fs ρ1)) := by
  rw [BW_cons]
  show QW _ (sbnd _ _) = _
  rw [QW_sbnd]
  rfl
theorem b_pass (ss : List Sm) (Q : SOut → Prop) : BW fns globs cf wf (.pass :: ss) ρ Q = BW fns globs cf wf ss ρ Q := nr rfl
theorem b_brk (ss : List Sm) (Q : SOut → Prop) : BW fns globs cf wf (.brk :: ss) ρ Q = Q (.bk ρ) := nr rfl
theorem b_cont (ss : List Sm) (Q : SOut → Prop) : BW fns globs cf wf (.cont :: ss) ρ Q = Q (.ct ρ) := nr rfl
theorem b_frz (i : Nat) (ss : List Sm) (Q : SOut → Prop) : BW fns globs cf wf (.frz i :: ss) ρ Q = getW ρ i fun d => frzW d fun x => setW ρ i (some (.p x)) fun ρ1 => BW fns globs cf wf ss ρ1 Q := by
  rw [BW_cons]
  show QW _ (match getD ρ i with | some d => _ | none => _) = optW _ _
  cases getD ρ i <;> rfl
def tryQ (c nc : Nat) (su : Su) (Q : SOut → Prop) (o : SOut) (_u : Tie Q := ()) : Prop := QW Q (tryGo c nc su o)
theorem b_try (b : List Sm) (c nc : Nat) (su : Su) (ss : List Sm) (Q : SOut → Prop) : BW fns globs cf wf (.try_ b c nc su :: ss) ρ Q = BW fns globs cf wf b ρ (tryQ c nc su (seqQ fns globs cf wf ss Q)) := by
  rw [BW_cons]
  show QW _ (tryGo c nc su (evB fns globs cf wf b ρ)) = QW _ (evB fns globs cf wf b ρ)
  cases evB fns globs cf wf b ρ <;> rfl
theorem y_nx (c nc : Nat) (su : Su) (Q : SOut → Prop) (ρ : Env) : tryQ c nc su Q (.nx ρ) = Q (.nx ρ) := nr rfl
theorem y_rt (c nc : Nat) (su : Su) (Q : SOut → Prop) (d : D) (ρ : Env) : tryQ c nc su Q (.rt d ρ) = Q (.rt d ρ) := nr rfl
theorem y_bk (c nc : Nat) (su : Su) (Q : SOut → Prop) (ρ : Env) : tryQ c nc su Q (.bk ρ) = Q (.bk ρ) := nr rfl
theorem y_ct (c nc : Nat) (su : Su) (Q : SOut → Prop) (ρ : Env) : tryQ c nc su Q (.ct ρ) = Q (.ct ρ) := nr rfl
structure KeepOk (i j : Nat) (ρ : Env) : Prop where
  ok : (decide (i < ρ.length) && decide (j < ρ.length) && decide (i ≠ j)) = true
theorem y_keep (nc i j k : Nat) (Q : SOut → Prop) (ρ : Env) (hk : k < nc) (hl : KeepOk i j ρ) : tryQ 0 nc (.keep i j) Q (.exc k [] ρ) = setW ρ j (some (.p (.exc k []))) fun ρ1 => setW ρ1 i none fun ρ2 => Q (.nx ρ2) := by
  unfold tryQ tryGo
  dsimp only
  rw [decide_eq_true hk]
  show QW Q (suRun (.keep i j) k [] ρ) = _
  unfold suRun
  simp only [hl.ok]
  rfl
def fnQ (mt : Bool) (K : D → Option D → Prop) (X : Nat → List P → Prop) (o : SOut) (_u : Tie2 K X := ()) : Prop := match o with
  | .nx ρ => K (.p .non) (if mt then getD ρ 0 else none)
  | .rt d ρ => K d (if mt then getD ρ 0 else none)
  | .exc c fs _ => X c fs
  | _ => False
theorem f_nxF (K : D → Option D → Prop) (X : Nat → List P → Prop) (ρ : Env) : fnQ false K X (.nx ρ) = K (.p .non) none := nr rfl
theorem f_rtF (K : D → Option D → Prop) (X : Nat → List P → Prop) (d : D) (ρ : Env) : fnQ false K X (.rt d ρ) = K d none := nr rfl
theorem f_exF (mt : Bool) (K : D → Option D → Prop) (X : Nat → List P → Prop) (c : Nat) (fs : List P) (ρ : Env) : fnQ mt K X (.exc c fs ρ) = X c fs := nr rfl
theorem f_nxT (K : D → Option D → Prop) (X : Nat → List P → Prop) (v : Option D) (ρ : Env) : fnQ true K X (.nx (v :: ρ)) = K (.p .non) v := by
  cases v <;> rfl
theorem f_rtT (K : D → Option D → Prop) (X : Nat → List P → Prop) (d : D) (v : Option D) (ρ : Env) : fnQ true K X (.rt d (v :: ρ)) = K d v := by
  cases v <;> rfl
def initW (as : List D) (n : Nat) (K : Env → Prop) (_u : Tie K := ()) : Prop := K (as.map some ++ List.replicate (n - as.length) none)
theorem w_init0 (K : Env → Prop) : initW [] 0 K = K [] := nr rfl
theorem w_initN (n : Nat) (K : Env → Prop) : initW [] (n + 1) K = initW [] n fun ρ => K (none :: ρ) := nr rfl
theorem w_initS (a : D) (as : List D) (n : Nat) (K : Env → Prop) : initW (a :: as) (n + 1) K = initW as n fun ρ => K (some a :: ρ) := by
  unfold initW
  rw [List.length_cons, Nat.add_sub_add_right]
  rfl
theorem RW_call {n f np ns : Nat} {as : List D} {mt : Bool} {b : List Sm} {K : D → Option D → Prop} {X : Nat → List P → Prop} (h : fns f = ⟨np, mt, ns, b⟩) (hl : as.length = np) :
    RW (callN fns globs wf (n + 1) f as) K X = initW as ns fun ρ => BW fns globs (callN fns globs wf n) wf b ρ (fnQ mt K X) := by
  rw [call_eq h hl]
  unfold BW initW
  dsimp only
  generalize evB fns globs (callN fns globs wf n) wf b _ = o
  cases o <;> rfl
theorem RW_callN {n f np ns : Nat} {as : List D} {mt : Bool} {b : List Sm} {K : D → Option D → Prop} {X : Nat → List P → Prop} (h : fns f = ⟨np, mt, ns, b⟩) (hl : as.length = np) (hn : 1 ≤ n) :
    RW (callN fns globs wf n f as) K X = initW as ns fun ρ => BW fns globs (callN fns globs wf (n - 1)) wf b ρ (fnQ mt K X) := by
  cases n with
  | zero => exact absurd hn (by decide)
  | succ n => exact RW_call h hl
/-- a promise of a value, read off -/
def Ans (d1 : D) (o1 : Option D) (d : D) (o : Option D) : Prop := d1 = d ∧ o1 = o
def AnsX (c1 : Nat) (fs1 : List P) (c : Nat) (fs : List P) : Prop := c1 = c ∧ fs1 = fs
theorem RW_eq {r : Ret} {d : D} {o : Option D} : RW r (fun d1 o1 => Ans d1 o1 d o) (fun _ _ => False) = (r = .ok d o) := by
  cases r with
  | ok d1 o1 => exact propext ⟨fun h => by rw [h.1, h.2], fun h => by cases h; exact ⟨rfl, rfl⟩⟩
  | exc c fs => exact propext ⟨fun h => h.elim, fun h => by cases h⟩
  | bad => exact propext ⟨fun h => h.elim, fun h => by cases h⟩
theorem RW_exc {r : Ret} {c : Nat} {fs : List P} : RW r (fun _ _ => False) (fun c1 fs1 => AnsX c1 fs1 c fs) = (r = .exc c fs) := by
  cases r with
  | ok d1 o1 => exact propext ⟨fun h => h.elim, fun h => by cases h⟩
  | exc c fs => exact propext ⟨fun h => by rw [h.1, h.2], fun h => by cases h; exact ⟨rfl, rfl⟩⟩
  | bad => exact propext ⟨fun h => h.elim, fun h => by cases h⟩
end
def loopQ (N : Env → Prop) (Q : SOut → Prop) (o : SOut) (_u : Tie2 N Q := ()) : Prop := match o with
  | .nx ρ => N ρ
  | .ct ρ => N ρ
  | .bk ρ => Q (.nx ρ)
  | .rt d ρ => Q (.rt d ρ)
  | .exc c fs ρ => Q (.exc c fs ρ)
  | .bad => False
theorem l_nx (N : Env → Prop) (Q : SOut → Prop) (ρ : Env) : loopQ N Q (.nx ρ) = N ρ := nr rfl
theorem l_ct (N : Env → Prop) (Q : SOut → Prop) (ρ : Env) : loopQ N Q (.ct ρ) = N ρ := nr rfl
theorem l_bk (N : Env → Prop) (Q : SOut → Prop) (ρ : Env) : loopQ N Q (.bk ρ) = Q (.nx ρ) := nr rfl
theorem l_rt (N : Env → Prop) (Q : SOut → Prop) (d : D) (ρ : Env) : loopQ N Q (.rt d ρ) = Q (.rt d ρ) := nr rfl
theorem l_ex (N : Env → Prop) (Q : SOut → Prop) (c : Nat) (fs : List P) (ρ : Env) : loopQ N Q (.exc c fs ρ) = Q (.exc c fs ρ) := nr rfl
section
variable {fns : Nat → Fn} {globs : Nat → P} {cf : Nat → List D → Ret} {wf : Nat} {ρ : Env}
theorem FW_nil (pt : Pat) (b : List Sm) (Q : SOut → Prop) : FW fns globs cf wf pt b [] ρ Q = Q (.nx ρ) := rfl
theorem FW_cons (pt : Pat) (b : List Sm) (x : P) (xs : List P) (Q : SOut → Prop) : FW fns globs cf wf pt b (x :: xs) ρ Q = bindW pt x ρ fun ρ1 => BW fns globs cf wf b ρ1 (loopQ (fun ρ2 => FW fns globs cf wf pt b xs ρ2 Q) Q) := by
  show QW Q (match bindPat pt x ρ with | none => _ | some ρ1 => _) = optW _ _
  cases bindPat pt x ρ with
  | none => rfl
  | some ρ1 =>
    show QW Q (match evB fns globs cf wf b ρ1 with | .nx ρ2 => _ | .ct ρ2 => _ | .bk ρ2 => _ | .rt d ρ2 => _ | .exc c fs ρ2 => _ | .bad => _) = QW _ (evB fns globs cf wf b ρ1)
    cases evB fns globs cf wf b ρ1 <;> rfl
theorem BW_mono {b : List Sm} {Q Q1 : SOut → Prop} (h : BW fns globs cf wf b ρ Q) (hq : ∀ o, Q o → Q1 o) : BW fns globs cf wf b ρ Q1 := by
  unfold BW at *
  cases h2 : evB fns globs cf wf b ρ <;> rw [h2] at h <;> first | exact hq _ h | exact h
theorem bindW_mono {pt : Pat} {x : P} {K K1 : Env → Prop} (h : bindW pt x ρ K) (hk : ∀ ρ, K ρ → K1 ρ) : bindW pt x ρ K1 := by
  unfold bindW at *
  cases h2 : bindPat pt x ρ <;> rw [h2] at h <;> first | exact hk _ h | exact h
theorem FW_inv {pt : Pat} {b : List Sm} {Q : SOut → Prop} (I : Nat → Env → Prop) : ∀ (xs : List P) (k0 : Nat) (ρ : Env), I k0 ρ → (∀ k x ρ, xs[k]? = some x → I (k0 + k) ρ → bindW pt x ρ fun ρ1 => BW fns globs cf wf b ρ1 (loopQ (fun ρ2 => I (k0 + k + 1) ρ2) Q)) → (∀ ρ, I (k0 + xs.length) ρ → Q (.nx ρ)) → FW fns globs cf wf pt b xs ρ Q
  | [], k0, ρ, h, _, he => he ρ h
  | x :: xs, k0, ρ, h, hs, he => by
    rw [FW_cons]
    refine bindW_mono (hs 0 x ρ rfl h) fun ρ1 hb => BW_mono hb fun o ho => ?_
    have next : ∀ ρ2, I (k0 + 0 + 1) ρ2 → FW fns globs cf wf pt b xs ρ2 Q := fun ρ2 h2 => FW_inv I xs (k0 + 1) ρ2 h2 (fun k y ρ3 hk hI => by
      have e : k0 + 1 + k = k0 + (k + 1) := by omega
      rw [e] at hI ⊢
      exact hs (k + 1) y ρ3 hk hI) (fun ρ3 h3 => he ρ3 (by rw [List.length_cons]; have e : k0 + (xs.length + 1) = k0 + 1 + xs.length := by omega
                                                           rw [e]; exact h3))
    cases o with
    | nx ρ2 => exact next ρ2 ho
    | ct ρ2 => exact next ρ2 ho
    | bk ρ2 => exact ho
    | rt d ρ2 => exact ho
    | exc c fs ρ2 => exact ho
    | bad => exact ho
theorem FW_invP {pt : Pat} {b : List Sm} {Q : SOut → Prop} (I : Nat → Env → Prop) {xs : List P} (h0 : I 0 ρ) (hs : ∀ k x ρ, xs[k]? = some x → I k ρ → bindW pt x ρ fun ρ1 => BW fns globs cf wf b ρ1 (loopQ (fun ρ2 => I (k + 1) ρ2) Q)) (he : ∀ ρ, I xs.length ρ → Q (.nx ρ)) : FW fns globs cf wf pt b xs ρ Q :=
  FW_inv I xs 0 ρ h0 (fun k x ρ h hI => by rw [Nat.zero_add] at *; exact hs k x ρ h hI) (fun ρ h => he ρ (by rw [Nat.zero_add] at h; exact h))
theorem rangeOf_len : ∀ (lo : Int) (n : Nat), (rangeOf lo n).length = n
  | _, 0 => rfl
  | lo, n + 1 => by
    show (rangeOf (lo + 1) n).length + 1 = _
    rw [rangeOf_len]
theorem rangeOf_get : ∀ (lo : Int) (n k : Nat), k < n → (rangeOf lo n)[k]? = some (.int (lo + k))
  | lo, 0, k, h => absurd h (Nat.not_lt_zero k)
  | lo, n + 1, 0, h => by
    show some (P.int lo) = _
    rw [show lo + ((0 : Nat) : Int) = lo by omega]
  | lo, n + 1, k + 1, h => by
    show (rangeOf (lo + 1) n)[k]? = _
    rw [rangeOf_get (lo + 1) n k (by omega), show lo + 1 + (k : Int) = lo + ((k + 1 : Nat) : Int) by omega]
theorem FW_range {pt : Pat} {b : List Sm} {Q : SOut → Prop} {lo : Int} {n : Nat} (I : Nat → Env → Prop) (h0 : I 0 ρ) (hs : ∀ (k : Nat) ρ, k < n → I k ρ → bindW pt (.int (lo + k)) ρ fun ρ1 => BW fns globs cf wf b ρ1 (loopQ (fun ρ2 => I (k + 1) ρ2) Q)) (he : ∀ ρ, I n ρ → Q (.nx ρ)) : FW fns globs cf wf pt b (rangeOf lo n) ρ Q := by
  refine FW_invP I h0 (fun k x ρ h hI => ?_) (fun ρ h => he ρ (by rw [rangeOf_len] at h; exact h))
  have hk : k < n := by
    have h2 := (List.getElem?_eq_some_iff.mp h).1
    rw [rangeOf_len] at h2
    exact h2
  rw [rangeOf_get lo n k hk] at h
  cases h
  exact hs k ρ hk hI
theorem FW_range0 {pt : Pat} {b : List Sm} {Q : SOut → Prop} {n : Nat} (I : Nat → Env → Prop) (h0 : I 0 ρ) (hs : ∀ (k : Nat) ρ, k < n → I k ρ → bindW pt (.int (k : Int)) ρ fun ρ1 => BW fns globs cf wf b ρ1 (loopQ (fun ρ2 => I (k + 1) ρ2) Q)) (he : ∀ ρ, I n ρ → Q (.nx ρ)) : FW fns globs cf wf pt b (rangeOf 0 n) ρ Q := by
  refine FW_range I h0 (fun k ρ h hI => ?_) he
  rw [Int.zero_add]
  exact hs k ρ h hI
theorem WW_step (c : Ex) (b : List Sm) (n : Nat) (Q : SOut → Prop) : WW fns globs cf wf c b (n + 1) ρ Q = TW fns globs cf c ρ (fun t ρ1 => condW t (BW fns globs cf wf b ρ1 (loopQ (fun ρ2 => WW fns globs cf wf c b n ρ2 Q) Q)) (Q (.nx ρ1))) (fun c fs ρ1 => Q (.exc c fs ρ1)) := by
  show QW Q (sbnd _ _) = OW _ _ _
  rw [QW_sbnd]
  refine OW_ext fun t ρ1 => ?_
  cases t
  · rfl
  · show QW Q (match evB fns globs cf wf b ρ1 with | .nx ρ2 => _ | .ct ρ2 => _ | .bk ρ2 => _ | .rt d ρ2 => _ | .exc c fs ρ2 => _ | .bad => _) = QW _ (evB fns globs cf wf b ρ1)
    cases evB fns globs cf wf b ρ1 <;> rfl
/-- a while, by an invariant with a measure -/
theorem WW_inv {c : Ex} {b : List Sm} {Q : SOut → Prop} (I : Nat → Env → Prop) (hs : ∀ m ρ, I m ρ → TW fns globs cf c ρ (fun t ρ1 => condW t (BW fns globs cf wf b ρ1 (loopQ (fun ρ2 => ∃ m2, m2 < m ∧ I m2 ρ2) Q)) (Q (.nx ρ1))) (fun c fs ρ1 => Q (.exc c fs ρ1))) : ∀ (n m : Nat) (ρ : Env), m < n → I m ρ → WW fns globs cf wf c b n ρ Q
  | 0, m, ρ, h, _ => absurd h (Nat.not_lt_zero m)
  | n + 1, m, ρ, h, hI => by
    rw [WW_step]
    refine OW_mono (hs m ρ hI) (fun t ρ1 ht => ?_) (fun _ _ _ h => h)
    cases t with
    | false => exact ht
    | true =>
      refine BW_mono ht fun o ho => ?_
      cases o with
      | nx ρ2 => obtain ⟨m2, h2, h3⟩ := ho; exact WW_inv I hs n m2 ρ2 (by omega) h3
      | ct ρ2 => obtain ⟨m2, h2, h3⟩ := ho; exact WW_inv I hs n m2 ρ2 (by omega) h3
      | bk ρ2 => exact ho
      | rt d ρ2 => exact ho
      | exc c fs ρ2 => exact ho
      | bad => exact ho
def XF : Nat → List P → Env → Prop := fun _ _ _ => False
def TCW (fns : Nat → Fn) (globs : Nat → P) (cf : Nat → List D → Ret) (cs : List Ex) (ρ : Env) (K : Bool → Env → Prop) (_u : Tie3 cs ρ K := ()) : Prop := OW (testC (evL fns globs cf cs) ρ) K XF

theorem c_t0 (K : Bool → Env → Prop) : TCW fns globs cf [] ρ K = K true ρ := nr rfl
theorem c_t1 (c : Ex) (K : Bool → Env → Prop) : TCW fns globs cf [c] ρ K = TW fns globs cf c ρ K XF := nr rfl
theorem CW_nil (elt : Ex) (pt : Pat) (own : List Nat) (cs : List Ex) (acc : List D) (K : List D → Env → Prop) : CW fns globs cf elt pt own cs [] ρ acc K = K acc ρ := rfl
theorem CW_cons (elt : Ex) (pt : Pat) (own : List Nat) (cs : List Ex) (x : P) (xs : List P) (acc : List D) (K : List D → Env → Prop) : CW fns globs cf elt pt own cs (x :: xs) ρ acc K = bindW pt x ρ fun ρ1 => TCW fns globs cf cs ρ1 fun t ρ2 => condW t (VW fns globs cf elt ρ2 (fun d ρ3 => acc.length < 16777216 ∧ wipeW ρ3 own fun ρ4 => CW fns globs cf elt pt own cs xs ρ4 (acc ++ [d]) K) XF) (wipeW ρ2 own fun ρ4 => CW fns globs cf elt pt own cs xs ρ4 acc K) := by
  show OW (match bindPat pt x ρ with | none => _ | some ρ1 => _) K _ = optW _ _
  cases bindPat pt x ρ with
  | none => rfl
  | some ρ1 =>
    show OW (match testC (evL fns globs cf cs) ρ1 with | .ok true ρ2 => _ | .ok false ρ2 => _ | _ => _) K _ = OW (testC (evL fns globs cf cs) ρ1) _ _
    cases testC (evL fns globs cf cs) ρ1 with
    | ok t ρ2 =>
      cases t
      · rfl
      · show OW (match (ev fns globs cf elt).v ρ2 with | .ok d ρ3 => _ | _ => _) K _ = OW ((ev fns globs cf elt).v ρ2) _ _
        cases (ev fns globs cf elt).v ρ2 with
        | ok d ρ3 =>
          show OW (match decide (acc.length < 16777216) with | true => _ | false => _) K _ = (_ ∧ _)
          by_cases h : acc.length < 16777216
          · rw [decide_eq_true h]
            exact propext ⟨fun z => ⟨h, z⟩, fun z => z.2⟩
          · rw [decide_eq_false h]
            exact propext ⟨fun z => z.elim, fun z => absurd z.1 h⟩
        | exc c fs ρ3 => rfl
        | bad => rfl
    | exc c fs ρ2 => rfl
    | bad => rfl
theorem TCW_mono {cs : List Ex} {K K1 : Bool → Env → Prop} (h : TCW fns globs cf cs ρ K) (hk : ∀ t ρ, K t ρ → K1 t ρ) : TCW fns globs cf cs ρ K1 := OW_mono h hk (fun _ _ _ h => h)
theorem VW_mono {e : Ex} {K K1 : D → Env → Prop} {X X1 : Nat → List P → Env → Prop} (h : VW fns globs cf e ρ K X) (hk : ∀ d ρ, K d ρ → K1 d ρ) (hx : ∀ c fs ρ, X c fs ρ → X1 c fs ρ) : VW fns globs cf e ρ K1 X1 := OW_mono h hk hx
theorem TW_mono {e : Ex} {K K1 : Bool → Env → Prop} {X X1 : Nat → List P → Env → Prop} (h : TW fns globs cf e ρ K X) (hk : ∀ d ρ, K d ρ → K1 d ρ) (hx : ∀ c fs ρ, X c fs ρ → X1 c fs ρ) : TW fns globs cf e ρ K1 X1 := OW_mono h hk hx
theorem CW_inv {elt : Ex} {pt : Pat} {own : List Nat} {cs : List Ex} {K : List D → Env → Prop} (I : Nat → List D → Env → Prop) : ∀ (xs : List P) (k0 : Nat) (acc : List D) (ρ : Env), acc.length + xs.length ≤ 16777216 → I k0 acc ρ → (∀ k x acc ρ, xs[k]? = some x → I (k0 + k) acc ρ → bindW pt x ρ fun ρ1 => TCW fns globs cf cs ρ1 fun t ρ2 => condW t (VW fns globs cf elt ρ2 (fun d ρ3 => wipeW ρ3 own fun ρ4 => I (k0 + k + 1) (acc ++ [d]) ρ4) XF) (wipeW ρ2 own fun ρ4 => I (k0 + k + 1) acc ρ4)) → (∀ acc ρ, I (k0 + xs.length) acc ρ → K acc ρ) → CW fns globs cf elt pt own cs xs ρ acc K
  | [], k0, acc, ρ, _, h, _, he => he acc ρ h
  | x :: xs, k0, acc, ρ, hl, h, hs, he => by
    rw [List.length_cons] at hl
    rw [CW_cons]
    have next : ∀ acc2 ρ2, acc2.length ≤ acc.length + 1 → I (k0 + 0 + 1) acc2 ρ2 → CW fns globs cf elt pt own cs xs ρ2 acc2 K := fun acc2 ρ2 h1 h2 => CW_inv I xs (k0 + 1) acc2 ρ2 (by omega) h2 (fun k y acc3 ρ3 hk hI => by
      have e : k0 + 1 + k = k0 + (k + 1) := by omega
      rw [e] at hI ⊢
      exact hs (k + 1) y acc3 ρ3 hk hI) (fun acc3 ρ3 h3 => he acc3 ρ3 (by
        rw [List.length_cons]
        have e : k0 + (xs.length + 1) = k0 + 1 + xs.length := by omega
        rw [e]; exact h3))
    refine bindW_mono (hs 0 x acc ρ rfl h) fun ρ1 hb => TCW_mono hb fun t ρ2 ht => ?_
    cases t with
    | true => exact VW_mono ht (fun d ρ3 h3 => ⟨by omega, next _ _ (by rw [List.length_append]; simp) h3⟩) (fun _ _ _ h => h)
    | false => exact next _ _ (by omega) ht
theorem CW_invP {elt : Ex} {pt : Pat} {own : List Nat} {cs : List Ex} {K : List D → Env → Prop} (I : Nat → List D → Env → Prop) {xs : List P} (hl : xs.length ≤ 16777216) (h0 : I 0 [] ρ) (hs : ∀ k x acc ρ, xs[k]? = some x → I k acc ρ → bindW pt x ρ fun ρ1 => TCW fns globs cf cs ρ1 fun t ρ2 => condW t (VW fns globs cf elt ρ2 (fun d ρ3 => wipeW ρ3 own fun ρ4 => I (k + 1) (acc ++ [d]) ρ4) XF) (wipeW ρ2 own fun ρ4 => I (k + 1) acc ρ4)) (he : ∀ acc ρ, I xs.length acc ρ → K acc ρ) : CW fns globs cf elt pt own cs xs ρ [] K :=
  CW_inv I xs 0 [] ρ (by simp only [List.length_nil]; omega) h0 (fun k x acc ρ h hI => by rw [Nat.zero_add] at *; exact hs k x acc ρ h hI) (fun acc ρ h => he acc ρ (by rw [Nat.zero_add] at h; exact h))
/-- a comprehension without state: each element's value, of those that are taken -/
theorem CW_pure {elt : Ex} {pt : Pat} {own : List Nat} {cs : List Ex} {K : List D → Env → Prop} (f : P → D) (g : P → Bool) {xs : List P} (hl : xs.length ≤ 16777216) (hs : ∀ x ∈ xs, bindW pt x ρ fun ρ1 => TCW fns globs cf cs ρ1 fun t ρ2 => Is t (g x) ∧ condW t (VW fns globs cf elt ρ2 (fun d ρ3 => Is d (f x) ∧ wipeW ρ3 own fun ρ4 => Is ρ4 ρ) XF) (wipeW ρ2 own fun ρ4 => Is ρ4 ρ)) (he : K ((xs.filter g).map f) ρ) : CW fns globs cf elt pt own cs xs ρ [] K := by
  refine CW_invP (fun k acc ρ1 => ρ1 = ρ ∧ acc = ((xs.take k).filter g).map f) hl ⟨rfl, rfl⟩ ?_ ?_
  · rintro k x acc ρ1 hx ⟨rfl, rfl⟩
    have hm : x ∈ xs := List.mem_of_getElem? hx
    have ht : xs.take (k + 1) = xs.take k ++ [x] := by rw [List.take_add_one, hx]; rfl
    refine bindW_mono (hs x hm) fun ρ1 hb => TCW_mono hb fun t ρ2 ht2 => ?_
    obtain ⟨h1, h2⟩ := ht2
    have h1 : t = g x := h1
    cases t with
    | true =>
      refine VW_mono h2 (fun d ρ3 h3 => ⟨h3.2, ?_⟩) (fun _ _ _ h => h)
      have h4 : d = f x := h3.1
      rw [ht, List.filter_append, List.map_append, h4]
      simp [← h1]
    | false =>
      refine ⟨h2, ?_⟩
      rw [ht, List.filter_append, List.map_append]
      simp [← h1]
  · rintro acc ρ1 ⟨rfl, rfl⟩
    rw [List.take_length]
    exact he
theorem CW_map {elt : Ex} {pt : Pat} {own : List Nat} {K : List D → Env → Prop} (f : P → D) {xs : List P} (hl : xs.length ≤ 16777216) (hs : ∀ x ∈ xs, bindW pt x ρ fun ρ1 => VW fns globs cf elt ρ1 (fun d ρ3 => Is d (f x) ∧ wipeW ρ3 own fun ρ4 => Is ρ4 ρ) XF) (he : K (xs.map f) ρ) : CW fns globs cf elt pt own [] xs ρ [] K := by
  refine CW_pure f (fun _ => true) hl (fun x hx => bindW_mono (hs x hx) fun ρ1 hb => ⟨rfl, hb⟩) ?_
  have e : xs.filter (fun _ => true) = xs := List.filter_eq_self.mpr (fun _ _ => rfl)
  rw [e]
  exact he
end
theorem divOk_w {j : Int} (h1 : 0 < j) (h2 : j < 2 ^ 1000) : divOk j = true := by
  unfold divOk
  rw [decide_eq_true h1, Bool.true_and, Bool.or_eq_true]
  right
  have hne : j.natAbs ≠ 0 := by omega
  have h3 : j.natAbs < 2 ^ 1000 := by
    have : (j.natAbs : Int) = j := by omega
    omega
  have : j.natAbs.log2 < 1000 := (Nat.log2_lt hne).mpr h3
  exact decide_eq_true (by omega)
theorem mulSOk_s {s : Str} {k : Int} (h1 : 0 ≤ k) (h2 : k ≤ 1000) (h3 : s.length ≤ 1000) : mulSOk s k = true := by
  unfold mulSOk
  rw [decide_eq_true h1, decide_eq_true h2, decide_eq_true h3]
  rfl
theorem flatL_mp {α : Type} (g : α → P) : ∀ xs : List α, flatD.flatL (xs.map fun x => D.p (g x)) = some (xs.map g)
  | [] => rfl
  | x :: xs => by
    show Option.map _ (flatD.flatL (xs.map fun x => D.p (g x))) = _
    rw [flatL_mp g xs]
    rfl
theorem w_flmp {α : Type} (g : α → P) (xs : List α) (K : List P → Prop) : flatLW (xs.map fun x => D.p (g x)) K = K (xs.map g) := by
  unfold flatLW
  rw [flatL_mp]
  rfl
theorem frzL_mp {α : Type} (g : α → P) : ∀ xs : List α, frzL (xs.map fun x => D.p (g x)) = xs.map g
  | [] => rfl
  | x :: xs => by
    show frz (D.p (g x)) :: frzL (xs.map fun x => D.p (g x)) = _
    rw [frzL_mp g xs]
    rfl
theorem w_fzLmp {α : Type} (g : α → P) (xs : List α) (K : List P → Prop) : frzLW (xs.map fun x => D.p (g x)) K = K (xs.map g) := by
  unfold frzLW
  rw [frzL_mp]
theorem bools_map {α : Type} (h : α → Bool) : ∀ xs : List α, bools? (xs.map fun x => P.bl (h x)) = some (xs.map h)
  | [] => rfl
  | x :: xs => by
    show (bools? (xs.map fun x => P.bl (h x))).map _ = _
    rw [bools_map h xs]
    rfl
theorem p_all {α : Type} (h : α → Bool) (xs : List α) (K : D → Prop) : optW (biop .all [.lst (xs.map fun x => P.bl (h x))]) K = K (.p (.bl (xs.all h))) := by
  have e : biop .all [.lst (xs.map fun x => P.bl (h x))] = some (.p (.bl (xs.all h))) := by
    show (bools? (xs.map fun x => P.bl (h x))).map _ = _
    rw [bools_map]
    show some (D.p (.bl ((xs.map h).all id))) = _
    rw [List.all_map]
    rfl
  rw [e]
  rfl
theorem atI_natW {α : Type} (xs : List α) (k : Nat) (h : k < xs.length) : L2.atI xs (k : Int) = some xs[k] := by
  unfold L2.atI L2.ixN
  rw [if_pos (by omega), if_pos (by omega)]
  show xs[(k : Int).toNat]? = _
  rw [show (k : Int).toNat = k by omega]
  exact List.getElem?_eq_getElem h
/-- an item of a short list, by a drawn index -/
theorem at_any {α : Type} {xs : List α} {i : Int} {K : α → Prop} (h0 : 0 ≤ i) (h1 : i < xs.length) (h : ∀ x ∈ xs, K x) : optW (L2.atI xs i) K := by
  have e := atI_natW xs i.toNat (by omega)
  rw [show ((i.toNat : Nat) : Int) = i by omega] at e
  rw [e]
  exact h _ (List.getElem_mem _)
theorem at_ints {vs : List Int} {i : Int} {K : P → Prop} (h0 : 0 ≤ i) (h1 : i < vs.length) (h : ∀ v ∈ vs, K (.int v)) : optW (L2.atI (vs.map .int) i) K :=
  at_any h0 (by rw [List.length_map]; exact h1) fun x hx => by
    obtain ⟨v, hv, rfl⟩ := List.mem_map.mp hx
    exact h v hv
theorem at2 {a b i : Int} {K : P → Prop} (h0 : 0 ≤ i) (h1 : i < 2) (h : ∀ v, v = a ∨ v = b → K (.int v)) : optW (L2.atI [.int a, .int b] i) K :=
  at_ints (vs := [a, b]) h0 h1 fun v hv => h v (by simpa using hv)
theorem at3 {a b c i : Int} {K : P → Prop} (h0 : 0 ≤ i) (h1 : i < 3) (h : ∀ v, v = a ∨ v = b ∨ v = c → K (.int v)) : optW (L2.atI [.int a, .int b, .int c] i) K :=
  at_ints (vs := [a, b, c]) h0 h1 fun v hv => h v (by simpa using hv)
theorem at4 {a b c d i : Int} {K : P → Prop} (h0 : 0 ≤ i) (h1 : i < 4) (h : ∀ v, v = a ∨ v = b ∨ v = c ∨ v = d → K (.int v)) : optW (L2.atI [.int a, .int b, .int c, .int d] i) K :=
  at_ints (vs := [a, b, c, d]) h0 h1 fun v hv => h v (by simpa using hv)
def nth (ms : List Int) (i : Int) : Int := ms.getD i.toNat 0
theorem p_atInt (ms : List Int) (i : Int) (K : P → Prop) (h0 : 0 ≤ i) (h1 : i < ms.length) : optW (L2.atI (ms.map .int) i) K = K (.int (nth ms i)) := by
  have e := atI_natW (ms.map P.int) i.toNat (by rw [List.length_map]; omega)
  rw [show ((i.toNat : Nat) : Int) = i by omega] at e
  rw [e, List.getElem_map]
  unfold nth
  rw [List.getD_eq_getElem?_getD, List.getElem?_eq_getElem (by omega)]
  rfl
theorem powOk_s {x : Int} {n : Int} (h0 : 0 ≤ x) (h1 : x < 2 ^ 200) (hn0 : 0 ≤ n) (hn : n ≤ 1000) : powOk x n = true := by
  have hb : (Builtin.Int.intBits x : Int) ≤ 201 := by
    unfold Builtin.Int.intBits
    by_cases h : x = 0
    · subst h; decide
    · have hx : (x == 0) = false := by simp [h]
      rw [hx]
      have hne : x.natAbs ≠ 0 := by omega
      have : x.natAbs.log2 < 200 := (Nat.log2_lt hne).mpr (by omega)
      show ((x.natAbs.log2 + 1 : Nat) : Int) ≤ 201
      omega
  unfold powOk
  rw [decide_eq_true hn0, Bool.true_and]
  refine decide_eq_true ?_
  have h3 : (Builtin.Int.intBits x : Int) * n ≤ 201 * n := Int.mul_le_mul_of_nonneg_right hb hn0
  omega


theorem p_Add (i j : Int) (K : D → Prop) : optW (binop .Add (.int i) (.int j)) K = K (.p (.int (i + j))) := nr rfl
theorem p_Sub (i j : Int) (K : D → Prop) : optW (binop .Sub (.int i) (.int j)) K = K (.p (.int (i - j))) := nr rfl
theorem optW_ite {α : Type} (c : Prop) [Decidable c] (a : α) (K : α → Prop) : optW (if c then some a else none) K = (c ∧ K a) := by
  by_cases h : c
  · rw [if_pos h]
    exact propext ⟨fun z => ⟨h, z⟩, fun z => z.2⟩
  · rw [if_neg h]
    exact propext ⟨fun z => z.elim, fun z => absurd z.1 h⟩
theorem optW_iteC {α : Type} {c : Prop} [Decidable c] (h : c) (a : α) (K : α → Prop) : optW (if c then some a else none) K = K a := by
  rw [if_pos h]
  rfl
theorem p_Mul (i j : Int) (K : D → Prop) (h : mulOk i j = true) : optW (binop .Mult (.int i) (.int j)) K = K (.p (.int (i * j))) := optW_iteC h _ _
theorem p_Div (i j : Int) (K : D → Prop) (h : divOk j = true) : optW (binop .FloorDiv (.int i) (.int j)) K = K (.p (.int (i / j))) := optW_iteC h _ _
theorem p_Mod (i j : Int) (K : D → Prop) (h : 0 < j) : optW (binop .Mod (.int i) (.int j)) K = K (.p (.int (i % j))) := optW_iteC (decide_eq_true h) _ _
theorem p_Pow0 (i : Int) (K : D → Prop) (h : powOk i 0 = true) : optW (binop .Pow (.int i) (.int 0)) K = K (.p (.int (i ^ 0))) := optW_iteC h _ _
theorem p_Pow1 (i : Int) (K : D → Prop) (h : powOk i 1 = true) : optW (binop .Pow (.int i) (.int 1)) K = K (.p (.int (i ^ 1))) := optW_iteC h _ _
theorem p_Pow2 (i : Int) (K : D → Prop) (h : powOk i 2 = true) : optW (binop .Pow (.int i) (.int 2)) K = K (.p (.int (i ^ 2))) := optW_iteC h _ _
theorem p_Pow3 (i : Int) (K : D → Prop) (h : powOk i 3 = true) : optW (binop .Pow (.int i) (.int 3)) K = K (.p (.int (i ^ 3))) := optW_iteC h _ _
theorem p_Pow4 (i : Int) (K : D → Prop) (h : powOk i 4 = true) : optW (binop .Pow (.int i) (.int 4)) K = K (.p (.int (i ^ 4))) := optW_iteC h _ _
theorem p_Pow5 (i : Int) (K : D → Prop) (h : powOk i 5 = true) : optW (binop .Pow (.int i) (.int 5)) K = K (.p (.int (i ^ 5))) := optW_iteC h _ _
theorem p_Pow6 (i : Int) (K : D → Prop) (h : powOk i 6 = true) : optW (binop .Pow (.int i) (.int 6)) K = K (.p (.int (i ^ 6))) := optW_iteC h _ _
theorem p_Pow7 (i : Int) (K : D → Prop) (h : powOk i 7 = true) : optW (binop .Pow (.int i) (.int 7)) K = K (.p (.int (i ^ 7))) := optW_iteC h _ _
theorem p_Pow8 (i : Int) (K : D → Prop) (h : powOk i 8 = true) : optW (binop .Pow (.int i) (.int 8)) K = K (.p (.int (i ^ 8))) := optW_iteC h _ _
theorem p_Pow9 (i : Int) (K : D → Prop) (h : powOk i 9 = true) : optW (binop .Pow (.int i) (.int 9)) K = K (.p (.int (i ^ 9))) := optW_iteC h _ _
theorem p_Pow10 (i : Int) (K : D → Prop) (h : powOk i 10 = true) : optW (binop .Pow (.int i) (.int 10)) K = K (.p (.int (i ^ 10))) := optW_iteC h _ _
theorem p_Pow11 (i : Int) (K : D → Prop) (h : powOk i 11 = true) : optW (binop .Pow (.int i) (.int 11)) K = K (.p (.int (i ^ 11))) := optW_iteC h _ _
theorem p_Pow12 (i : Int) (K : D → Prop) (h : powOk i 12 = true) : optW (binop .Pow (.int i) (.int 12)) K = K (.p (.int (i ^ 12))) := optW_iteC h _ _
theorem p_Pow13 (i : Int) (K : D → Prop) (h : powOk i 13 = true) : optW (binop .Pow (.int i) (.int 13)) K = K (.p (.int (i ^ 13))) := optW_iteC h _ _
theorem p_Pow14 (i : Int) (K : D → Prop) (h : powOk i 14 = true) : optW (binop .Pow (.int i) (.int 14)) K = K (.p (.int (i ^ 14))) := optW_iteC h _ _
theorem p_Pow15 (i : Int) (K : D → Prop) (h : powOk i 15 = true) : optW (binop .Pow (.int i) (.int 15)) K = K (.p (.int (i ^ 15))) := optW_iteC h _ _
theorem p_Pow16 (i : Int) (K : D → Prop) (h : powOk i 16 = true) : optW (binop .Pow (.int i) (.int 16)) K = K (.p (.int (i ^ 16))) := optW_iteC h _ _
theorem p_Pow17 (i : Int) (K : D → Prop) (h : powOk i 17 = true) : optW (binop .Pow (.int i) (.int 17)) K = K (.p (.int (i ^ 17))) := optW_iteC h _ _
theorem p_Pow18 (i : Int) (K : D → Prop) (h : powOk i 18 = true) : optW (binop .Pow (.int i) (.int 18)) K = K (.p (.int (i ^ 18))) := optW_iteC h _ _
theorem p_Pow19 (i : Int) (K : D → Prop) (h : powOk i 19 = true) : optW (binop .Pow (.int i) (.int 19)) K = K (.p (.int (i ^ 19))) := optW_iteC h _ _
theorem p_Pow20 (i : Int) (K : D → Prop) (h : powOk i 20 = true) : optW (binop .Pow (.int i) (.int 20)) K = K (.p (.int (i ^ 20))) := optW_iteC h _ _
theorem p_Pow21 (i : Int) (K : D → Prop) (h : powOk i 21 = true) : optW (binop .Pow (.int i) (.int 21)) K = K (.p (.int (i ^ 21))) := optW_iteC h _ _
theorem p_Pow22 (i : Int) (K : D → Prop) (h : powOk i 22 = true) : optW (binop .Pow (.int i) (.int 22)) K = K (.p (.int (i ^ 22))) := optW_iteC h _ _
theorem p_Pow23 (i : Int) (K : D → Prop) (h : powOk i 23 = true) : optW (binop .Pow (.int i) (.int 23)) K = K (.p (.int (i ^ 23))) := optW_iteC h _ _
theorem p_Pow24 (i : Int) (K : D → Prop) (h : powOk i 24 = true) : optW (binop .Pow (.int i) (.int 24)) K = K (.p (.int (i ^ 24))) := optW_iteC h _ _
theorem p_Pow25 (i : Int) (K : D → Prop) (h : powOk i 25 = true) : optW (binop .Pow (.int i) (.int 25)) K = K (.p (.int (i ^ 25))) := optW_iteC h _ _
theorem p_Pow26 (i : Int) (K : D → Prop) (h : powOk i 26 = true) : optW (binop .Pow (.int i) (.int 26)) K = K (.p (.int (i ^ 26))) := optW_iteC h _ _
theorem p_Pow27 (i : Int) (K : D → Prop) (h : powOk i 27 = true) : optW (binop .Pow (.int i) (.int 27)) K = K (.p (.int (i ^ 27))) := optW_iteC h _ _
theorem p_Pow28 (i : Int) (K : D → Prop) (h : powOk i 28 = true) : optW (binop .Pow (.int i) (.int 28)) K = K (.p (.int (i ^ 28))) := optW_iteC h _ _
theorem p_Pow29 (i : Int) (K : D → Prop) (h : powOk i 29 = true) : optW (binop .Pow (.int i) (.int 29)) K = K (.p (.int (i ^ 29))) := optW_iteC h _ _
theorem p_Pow30 (i : Int) (K : D → Prop) (h : powOk i 30 = true) : optW (binop .Pow (.int i) (.int 30)) K = K (.p (.int (i ^ 30))) := optW_iteC h _ _
theorem p_Pow31 (i : Int) (K : D → Prop) (h : powOk i 31 = true) : optW (binop .Pow (.int i) (.int 31)) K = K (.p (.int (i ^ 31))) := optW_iteC h _ _
theorem p_Pow32 (i : Int) (K : D → Prop) (h : powOk i 32 = true) : optW (binop .Pow (.int i) (.int 32)) K = K (.p (.int (i ^ 32))) := optW_iteC h _ _
theorem p_Pow33 (i : Int) (K : D → Prop) (h : powOk i 33 = true) : optW (binop .Pow (.int i) (.int 33)) K = K (.p (.int (i ^ 33))) := optW_iteC h _ _
theorem p_Pow34 (i : Int) (K : D → Prop) (h : powOk i 34 = true) : optW (binop .Pow (.int i) (.int 34)) K = K (.p (.int (i ^ 34))) := optW_iteC h _ _
theorem p_Pow35 (i : Int) (K : D → Prop) (h : powOk i 35 = true) : optW (binop .Pow (.int i) (.int 35)) K = K (.p (.int (i ^ 35))) := optW_iteC h _ _
theorem p_Pow36 (i : Int) (K : D → Prop) (h : powOk i 36 = true) : optW (binop .Pow (.int i) (.int 36)) K = K (.p (.int (i ^ 36))) := optW_iteC h _ _
theorem p_Pow37 (i : Int) (K : D → Prop) (h : powOk i 37 = true) : optW (binop .Pow (.int i) (.int 37)) K = K (.p (.int (i ^ 37))) := optW_iteC h _ _
theorem p_Pow38 (i : Int) (K : D → Prop) (h : powOk i 38 = true) : optW (binop .Pow (.int i) (.int 38)) K = K (.p (.int (i ^ 38))) := optW_iteC h _ _
theorem p_Pow39 (i : Int) (K : D → Prop) (h : powOk i 39 = true) : optW (binop .Pow (.int i) (.int 39)) K = K (.p (.int (i ^ 39))) := optW_iteC h _ _
theorem p_Pow40 (i : Int) (K : D → Prop) (h : powOk i 40 = true) : optW (binop .Pow (.int i) (.int 40)) K = K (.p (.int (i ^ 40))) := optW_iteC h _ _
theorem p_Pow41 (i : Int) (K : D → Prop) (h : powOk i 41 = true) : optW (binop .Pow (.int i) (.int 41)) K = K (.p (.int (i ^ 41))) := optW_iteC h _ _
theorem p_Pow42 (i : Int) (K : D → Prop) (h : powOk i 42 = true) : optW (binop .Pow (.int i) (.int 42)) K = K (.p (.int (i ^ 42))) := optW_iteC h _ _
theorem p_Pow43 (i : Int) (K : D → Prop) (h : powOk i 43 = true) : optW (binop .Pow (.int i) (.int 43)) K = K (.p (.int (i ^ 43))) := optW_iteC h _ _
theorem p_Pow44 (i : Int) (K : D → Prop) (h : powOk i 44 = true) : optW (binop .Pow (.int i) (.int 44)) K = K (.p (.int (i ^ 44))) := optW_iteC h _ _
theorem p_Pow45 (i : Int) (K : D → Prop) (h : powOk i 45 = true) : optW (binop .Pow (.int i) (.int 45)) K = K (.p (.int (i ^ 45))) := optW_iteC h _ _
theorem p_Pow46 (i : Int) (K : D → Prop) (h : powOk i 46 = true) : optW (binop .Pow (.int i) (.int 46)) K = K (.p (.int (i ^ 46))) := optW_iteC h _ _
theorem p_Pow47 (i : Int) (K : D → Prop) (h : powOk i 47 = true) : optW (binop .Pow (.int i) (.int 47)) K = K (.p (.int (i ^ 47))) := optW_iteC h _ _
theorem p_Pow48 (i : Int) (K : D → Prop) (h : powOk i 48 = true) : optW (binop .Pow (.int i) (.int 48)) K = K (.p (.int (i ^ 48))) := optW_iteC h _ _
theorem p_Pow49 (i : Int) (K : D → Prop) (h : powOk i 49 = true) : optW (binop .Pow (.int i) (.int 49)) K = K (.p (.int (i ^ 49))) := optW_iteC h _ _
theorem p_Pow50 (i : Int) (K : D → Prop) (h : powOk i 50 = true) : optW (binop .Pow (.int i) (.int 50)) K = K (.p (.int (i ^ 50))) := optW_iteC h _ _
theorem p_Pow51 (i : Int) (K : D → Prop) (h : powOk i 51 = true) : optW (binop .Pow (.int i) (.int 51)) K = K (.p (.int (i ^ 51))) := optW_iteC h _ _
theorem p_Pow52 (i : Int) (K : D → Prop) (h : powOk i 52 = true) : optW (binop .Pow (.int i) (.int 52)) K = K (.p (.int (i ^ 52))) := optW_iteC h _ _
theorem p_Pow53 (i : Int) (K : D → Prop) (h : powOk i 53 = true) : optW (binop .Pow (.int i) (.int 53)) K = K (.p (.int (i ^ 53))) := optW_iteC h _ _
theorem p_Pow54 (i : Int) (K : D → Prop) (h : powOk i 54 = true) : optW (binop .Pow (.int i) (.int 54)) K = K (.p (.int (i ^ 54))) := optW_iteC h _ _
theorem p_Pow55 (i : Int) (K : D → Prop) (h : powOk i 55 = true) : optW (binop .Pow (.int i) (.int 55)) K = K (.p (.int (i ^ 55))) := optW_iteC h _ _
theorem p_Pow56 (i : Int) (K : D → Prop) (h : powOk i 56 = true) : optW (binop .Pow (.int i) (.int 56)) K = K (.p (.int (i ^ 56))) := optW_iteC h _ _
theorem p_Pow57 (i : Int) (K : D → Prop) (h : powOk i 57 = true) : optW (binop .Pow (.int i) (.int 57)) K = K (.p (.int (i ^ 57))) := optW_iteC h _ _
theorem p_Pow58 (i : Int) (K : D → Prop) (h : powOk i 58 = true) : optW (binop .Pow (.int i) (.int 58)) K = K (.p (.int (i ^ 58))) := optW_iteC h _ _
theorem p_Pow59 (i : Int) (K : D → Prop) (h : powOk i 59 = true) : optW (binop .Pow (.int i) (.int 59)) K = K (.p (.int (i ^ 59))) := optW_iteC h _ _
theorem p_Pow60 (i : Int) (K : D → Prop) (h : powOk i 60 = true) : optW (binop .Pow (.int i) (.int 60)) K = K (.p (.int (i ^ 60))) := optW_iteC h _ _
theorem p_Pow61 (i : Int) (K : D → Prop) (h : powOk i 61 = true) : optW (binop .Pow (.int i) (.int 61)) K = K (.p (.int (i ^ 61))) := optW_iteC h _ _
theorem p_Pow62 (i : Int) (K : D → Prop) (h : powOk i 62 = true) : optW (binop .Pow (.int i) (.int 62)) K = K (.p (.int (i ^ 62))) := optW_iteC h _ _
theorem p_Pow63 (i : Int) (K : D → Prop) (h : powOk i 63 = true) : optW (binop .Pow (.int i) (.int 63)) K = K (.p (.int (i ^ 63))) := optW_iteC h _ _
theorem p_Pow64 (i : Int) (K : D → Prop) (h : powOk i 64 = true) : optW (binop .Pow (.int i) (.int 64)) K = K (.p (.int (i ^ 64))) := optW_iteC h _ _
theorem p_Pow65 (i : Int) (K : D → Prop) (h : powOk i 65 = true) : optW (binop .Pow (.int i) (.int 65)) K = K (.p (.int (i ^ 65))) := optW_iteC h _ _
theorem p_MulS (s : Str) (k : Int) (K : D → Prop) (h : mulSOk s k = true) : optW (binop .Mult (.str s) (.int k)) K = K (.p (.str (Txt.mul s k))) := optW_iteC h _ _
theorem p_AddL (xs ys : List P) (K : D → Prop) (h : xs.length + ys.length ≤ 16777216) : optW (binop .Add (.lst xs) (.lst ys)) K = K (.l ((xs ++ ys).map .p)) := optW_iteC h _ _
theorem p_AddT (xs ys : List P) (K : D → Prop) (h : xs.length + ys.length ≤ 16777216) : optW (binop .Add (.tup xs) (.tup ys)) K = K (.p (.tup (xs ++ ys))) := optW_iteC h _ _
theorem p_Lt (i j : Int) (K : Bool → Prop) : optW (cmpop .Lt (.int i) (.int j)) K = K (decide (i < j)) := nr rfl
theorem p_LtE (i j : Int) (K : Bool → Prop) : optW (cmpop .LtE (.int i) (.int j)) K = K (decide (i ≤ j)) := nr rfl
theorem p_Gt (i j : Int) (K : Bool → Prop) : optW (cmpop .Gt (.int i) (.int j)) K = K (decide (j < i)) := nr rfl
theorem p_GtE (i j : Int) (K : Bool → Prop) : optW (cmpop .GtE (.int i) (.int j)) K = K (decide (j ≤ i)) := nr rfl
theorem p_Eq (i j : Int) (K : Bool → Prop) : optW (cmpop .Eq (.int i) (.int j)) K = K (decide (i = j)) := nr rfl
theorem p_NotEq (i j : Int) (K : Bool → Prop) : optW (cmpop .NotEq (.int i) (.int j)) K = K (!decide (i = j)) := nr rfl
theorem p_IsN (K : Bool → Prop) : optW (cmpop .Is .non .non) K = K true := nr rfl
theorem p_IsNotN (K : Bool → Prop) : optW (cmpop .IsNot .non .non) K = K false := nr rfl
theorem p_Is_bl (b : Bool) (K : Bool → Prop) : optW (cmpop .Is (.bl b) .non) K = K false := nr rfl
theorem p_IsNot_bl (b : Bool) (K : Bool → Prop) : optW (cmpop .IsNot (.bl b) .non) K = K true := nr rfl
theorem p_Is_int (i : Int) (K : Bool → Prop) : optW (cmpop .Is (.int i) .non) K = K false := nr rfl
theorem p_IsNot_int (i : Int) (K : Bool → Prop) : optW (cmpop .IsNot (.int i) .non) K = K true := nr rfl
theorem p_Is_str (s : Str) (K : Bool → Prop) : optW (cmpop .Is (.str s) .non) K = K false := nr rfl
theorem p_IsNot_str (s : Str) (K : Bool → Prop) : optW (cmpop .IsNot (.str s) .non) K = K true := nr rfl
theorem p_Is_tup (xs : List P) (K : Bool → Prop) : optW (cmpop .Is (.tup xs) .non) K = K false := nr rfl
theorem p_IsNot_tup (xs : List P) (K : Bool → Prop) : optW (cmpop .IsNot (.tup xs) .non) K = K true := nr rfl
theorem p_Is_lst (xs : List P) (K : Bool → Prop) : optW (cmpop .Is (.lst xs) .non) K = K false := nr rfl
theorem p_IsNot_lst (xs : List P) (K : Bool → Prop) : optW (cmpop .IsNot (.lst xs) .non) K = K true := nr rfl
theorem p_Is_exc (c : Nat) (fs : List P) (K : Bool → Prop) : optW (cmpop .Is (.exc c fs) .non) K = K false := nr rfl
theorem p_IsNot_exc (c : Nat) (fs : List P) (K : Bool → Prop) : optW (cmpop .IsNot (.exc c fs) .non) K = K true := nr rfl
theorem p_Is_scr (xs : List P) (K : Bool → Prop) : optW (cmpop .Is (.scr xs) .non) K = K false := nr rfl
theorem p_IsNot_scr (xs : List P) (K : Bool → Prop) : optW (cmpop .IsNot (.scr xs) .non) K = K true := nr rfl
theorem p_IsB (a b : Bool) (K : Bool → Prop) : optW (cmpop .Is (.bl a) (.bl b)) K = K (decide (a = b)) := nr rfl
theorem p_IsNotB (a b : Bool) (K : Bool → Prop) : optW (cmpop .IsNot (.bl a) (.bl b)) K = K (!decide (a = b)) := nr rfl
theorem p_idx_tup (xs : List P) (i : Int) (K : P → Prop) : optW (idxP (.tup xs) (.int i)) K = optW (L2.atI xs i) K := nr rfl
theorem p_idx_lst (xs : List P) (i : Int) (K : P → Prop) : optW (idxP (.lst xs) (.int i)) K = optW (L2.atI xs i) K := nr rfl
theorem p_idx_scr (xs : List P) (i : Int) (K : P → Prop) : optW (idxP (.scr xs) (.int i)) K = optW (L2.atI xs i) K := nr rfl
theorem p_at0 {α : Type} (x0 : α) (r : List α) (K : α → Prop) : optW (L2.atI (x0 :: r) 0) K = K x0 := by
  show optW (L2.atI _ ((0 : Nat) : Int)) K = _
  rw [atI_natW _ 0 (by simp only [List.length_cons]; omega)]
  rfl
theorem p_at1 {α : Type} (x0 x1 : α) (r : List α) (K : α → Prop) : optW (L2.atI (x0 :: x1 :: r) 1) K = K x1 := by
  show optW (L2.atI _ ((1 : Nat) : Int)) K = _
  rw [atI_natW _ 1 (by simp only [List.length_cons]; omega)]
  rfl
theorem p_at2 {α : Type} (x0 x1 x2 : α) (r : List α) (K : α → Prop) : optW (L2.atI (x0 :: x1 :: x2 :: r) 2) K = K x2 := by
  show optW (L2.atI _ ((2 : Nat) : Int)) K = _
  rw [atI_natW _ 2 (by simp only [List.length_cons]; omega)]
  rfl
theorem p_at3 {α : Type} (x0 x1 x2 x3 : α) (r : List α) (K : α → Prop) : optW (L2.atI (x0 :: x1 :: x2 :: x3 :: r) 3) K = K x3 := by
  show optW (L2.atI _ ((3 : Nat) : Int)) K = _
  rw [atI_natW _ 3 (by simp only [List.length_cons]; omega)]
  rfl
theorem p_at4 {α : Type} (x0 x1 x2 x3 x4 : α) (r : List α) (K : α → Prop) : optW (L2.atI (x0 :: x1 :: x2 :: x3 :: x4 :: r) 4) K = K x4 := by
  show optW (L2.atI _ ((4 : Nat) : Int)) K = _
  rw [atI_natW _ 4 (by simp only [List.length_cons]; omega)]
  rfl
theorem p_at5 {α : Type} (x0 x1 x2 x3 x4 x5 : α) (r : List α) (K : α → Prop) : optW (L2.atI (x0 :: x1 :: x2 :: x3 :: x4 :: x5 :: r) 5) K = K x5 := by
  show optW (L2.atI _ ((5 : Nat) : Int)) K = _
  rw [atI_natW _ 5 (by simp only [List.length_cons]; omega)]
  rfl
theorem p_at6 {α : Type} (x0 x1 x2 x3 x4 x5 x6 : α) (r : List α) (K : α → Prop) : optW (L2.atI (x0 :: x1 :: x2 :: x3 :: x4 :: x5 :: x6 :: r) 6) K = K x6 := by
  show optW (L2.atI _ ((6 : Nat) : Int)) K = _
  rw [atI_natW _ 6 (by simp only [List.length_cons]; omega)]
  rfl
theorem p_at7 {α : Type} (x0 x1 x2 x3 x4 x5 x6 x7 : α) (r : List α) (K : α → Prop) : optW (L2.atI (x0 :: x1 :: x2 :: x3 :: x4 :: x5 :: x6 :: x7 :: r) 7) K = K x7 := by
  show optW (L2.atI _ ((7 : Nat) : Int)) K = _
  rw [atI_natW _ 7 (by simp only [List.length_cons]; omega)]
  rfl
theorem p_at8 {α : Type} (x0 x1 x2 x3 x4 x5 x6 x7 x8 : α) (r : List α) (K : α → Prop) : optW (L2.atI (x0 :: x1 :: x2 :: x3 :: x4 :: x5 :: x6 :: x7 :: x8 :: r) 8) K = K x8 := by
  show optW (L2.atI _ ((8 : Nat) : Int)) K = _
  rw [atI_natW _ 8 (by simp only [List.length_cons]; omega)]
  rfl
theorem p_set0 (x0 d : D) (r : List D) (K : List D → Prop) : setLW (x0 :: r) 0 d K = K (d :: r) := by
  unfold setLW setL L2.ixN
  rw [if_pos (by omega), if_pos (by simp only [List.length_cons]; omega)]
  rfl
theorem p_set1 (x0 x1 d : D) (r : List D) (K : List D → Prop) : setLW (x0 :: x1 :: r) 1 d K = K (x0 :: d :: r) := by
  unfold setLW setL L2.ixN
  rw [if_pos (by omega), if_pos (by simp only [List.length_cons]; omega)]
  rfl
theorem p_set2 (x0 x1 x2 d : D) (r : List D) (K : List D → Prop) : setLW (x0 :: x1 :: x2 :: r) 2 d K = K (x0 :: x1 :: d :: r) := by
  unfold setLW setL L2.ixN
  rw [if_pos (by omega), if_pos (by simp only [List.length_cons]; omega)]
  rfl
theorem p_set3 (x0 x1 x2 x3 d : D) (r : List D) (K : List D → Prop) : setLW (x0 :: x1 :: x2 :: x3 :: r) 3 d K = K (x0 :: x1 :: x2 :: d :: r) := by
  unfold setLW setL L2.ixN
  rw [if_pos (by omega), if_pos (by simp only [List.length_cons]; omega)]
  rfl
theorem p_set4 (x0 x1 x2 x3 x4 d : D) (r : List D) (K : List D → Prop) : setLW (x0 :: x1 :: x2 :: x3 :: x4 :: r) 4 d K = K (x0 :: x1 :: x2 :: x3 :: d :: r) := by
  unfold setLW setL L2.ixN
  rw [if_pos (by omega), if_pos (by simp only [List.length_cons]; omega)]
  rfl
theorem p_set5 (x0 x1 x2 x3 x4 x5 d : D) (r : List D) (K : List D → Prop) : setLW (x0 :: x1 :: x2 :: x3 :: x4 :: x5 :: r) 5 d K = K (x0 :: x1 :: x2 :: x3 :: x4 :: d :: r) := by
  unfold setLW setL L2.ixN
  rw [if_pos (by omega), if_pos (by simp only [List.length_cons]; omega)]
  rfl
theorem p_lenL (xs : List P) (K : D → Prop) : optW (biop .len [.lst xs]) K = K (.p (.int xs.length)) := nr rfl
theorem p_lenT (xs : List P) (K : D → Prop) : optW (biop .len [.tup xs]) K = K (.p (.int xs.length)) := nr rfl
theorem p_lenS (xs : List P) (K : D → Prop) : optW (biop .len [.scr xs]) K = K (.p (.int xs.length)) := nr rfl
theorem p_abs (i : Int) (K : D → Prop) : optW (biop .abs [.int i]) K = K (.p (.int (if i < 0 then -i else i))) := nr rfl
theorem p_max2 (i j : Int) (K : D → Prop) : optW (biop .max2 [.int i, .int j]) K = K (.p (.int (if j > i then j else i))) := nr rfl
theorem p_min2 (i j : Int) (K : D → Prop) : optW (biop .min2 [.int i, .int j]) K = K (.p (.int (if j < i then j else i))) := nr rfl
theorem p_int (i : Int) (K : D → Prop) : optW (biop .int [.int i]) K = K (.p (.int i)) := nr rfl
theorem p_intb (b : Bool) (K : D → Prop) : optW (biop .int [.bl b]) K = K (.p (.int (if b then 1 else 0))) := nr rfl
theorem p_divmod (i j : Int) (K : D → Prop) (h1 : 0 < j) (h2 : j < 1073741824) : optW (biop .divmod [.int i, .int j]) K = K (.p (.tup [.int (i / j), .int (i % j)])) := optW_iteC (by rw [decide_eq_true h1, decide_eq_true h2]; rfl) _ _
theorem p_listL (xs : List P) (K : D → Prop) : optW (biop .list [.lst xs]) K = K (.l (xs.map .p)) := nr rfl
theorem p_listT (xs : List P) (K : D → Prop) : optW (biop .list [.tup xs]) K = K (.l (xs.map .p)) := nr rfl
theorem p_tupL (xs : List P) (K : D → Prop) : optW (biop .tuple [.lst xs]) K = K (.p (.tup xs)) := nr rfl
theorem p_tupT (xs : List P) (K : D → Prop) : optW (biop .tuple [.tup xs]) K = K (.p (.tup xs)) := nr rfl
theorem p_augA (i j : Int) (K : Int → Prop) : optW (augOp .Add i (.int j)) K = K (i + j) := nr rfl
theorem p_augS (i j : Int) (K : Int → Prop) : optW (augOp .Sub i (.int j)) K = K (i - j) := nr rfl
theorem p_isi_int_non  (nc : Nat) (K : Bool → Prop) : isiW nc [.int] (.non ) K = K false := nr rfl
theorem p_isi_bool_non  (nc : Nat) (K : Bool → Prop) : isiW nc [.bool] (.non ) K = K false := nr rfl
theorem p_isi_str_non  (nc : Nat) (K : Bool → Prop) : isiW nc [.str] (.non ) K = K false := nr rfl
theorem p_isi_list_non  (nc : Nat) (K : Bool → Prop) : isiW nc [.list] (.non ) K = K false := nr rfl
theorem p_isi_tuple_non  (nc : Nat) (K : Bool → Prop) : isiW nc [.tuple] (.non ) K = K false := nr rfl
theorem p_isi_lt_non  (nc : Nat) (K : Bool → Prop) : isiW nc [.list, .tuple] (.non ) K = K false := nr rfl
theorem p_isi_int_bl (b : Bool) (nc : Nat) (K : Bool → Prop) : isiW nc [.int] (.bl b) K = K true := nr rfl
theorem p_isi_bool_bl (b : Bool) (nc : Nat) (K : Bool → Prop) : isiW nc [.bool] (.bl b) K = K true := nr rfl
theorem p_isi_str_bl (b : Bool) (nc : Nat) (K : Bool → Prop) : isiW nc [.str] (.bl b) K = K false := nr rfl
theorem p_isi_list_bl (b : Bool) (nc : Nat) (K : Bool → Prop) : isiW nc [.list] (.bl b) K = K false := nr rfl
theorem p_isi_tuple_bl (b : Bool) (nc : Nat) (K : Bool → Prop) : isiW nc [.tuple] (.bl b) K = K false := nr rfl
theorem p_isi_lt_bl (b : Bool) (nc : Nat) (K : Bool → Prop) : isiW nc [.list, .tuple] (.bl b) K = K false := nr rfl
theorem p_isi_int_int (i : Int) (nc : Nat) (K : Bool → Prop) : isiW nc [.int] (.int i) K = K true := nr rfl
theorem p_isi_bool_int (i : Int) (nc : Nat) (K : Bool → Prop) : isiW nc [.bool] (.int i) K = K false := nr rfl
theorem p_isi_str_int (i : Int) (nc : Nat) (K : Bool → Prop) : isiW nc [.str] (.int i) K = K false := nr rfl
theorem p_isi_list_int (i : Int) (nc : Nat) (K : Bool → Prop) : isiW nc [.list] (.int i) K = K false := nr rfl
theorem p_isi_tuple_int (i : Int) (nc : Nat) (K : Bool → Prop) : isiW nc [.tuple] (.int i) K = K false := nr rfl
theorem p_isi_lt_int (i : Int) (nc : Nat) (K : Bool → Prop) : isiW nc [.list, .tuple] (.int i) K = K false := nr rfl
theorem p_isi_int_str (s : Str) (nc : Nat) (K : Bool → Prop) : isiW nc [.int] (.str s) K = K false := nr rfl
theorem p_isi_bool_str (s : Str) (nc : Nat) (K : Bool → Prop) : isiW nc [.bool] (.str s) K = K false := nr rfl
theorem p_isi_str_str (s : Str) (nc : Nat) (K : Bool → Prop) : isiW nc [.str] (.str s) K = K true := nr rfl
theorem p_isi_list_str (s : Str) (nc : Nat) (K : Bool → Prop) : isiW nc [.list] (.str s) K = K false := nr rfl
theorem p_isi_tuple_str (s : Str) (nc : Nat) (K : Bool → Prop) : isiW nc [.tuple] (.str s) K = K false := nr rfl
theorem p_isi_lt_str (s : Str) (nc : Nat) (K : Bool → Prop) : isiW nc [.list, .tuple] (.str s) K = K false := nr rfl
theorem p_isi_int_tup (xs : List P) (nc : Nat) (K : Bool → Prop) : isiW nc [.int] (.tup xs) K = K false := nr rfl
theorem p_isi_bool_tup (xs : List P) (nc : Nat) (K : Bool → Prop) : isiW nc [.bool] (.tup xs) K = K false := nr rfl
theorem p_isi_str_tup (xs : List P) (nc : Nat) (K : Bool → Prop) : isiW nc [.str] (.tup xs) K = K false := nr rfl
theorem p_isi_list_tup (xs : List P) (nc : Nat) (K : Bool → Prop) : isiW nc [.list] (.tup xs) K = K false := nr rfl
theorem p_isi_tuple_tup (xs : List P) (nc : Nat) (K : Bool → Prop) : isiW nc [.tuple] (.tup xs) K = K true := nr rfl
theorem p_isi_lt_tup (xs : List P) (nc : Nat) (K : Bool → Prop) : isiW nc [.list, .tuple] (.tup xs) K = K true := nr rfl
theorem p_isi_int_lst (xs : List P) (nc : Nat) (K : Bool → Prop) : isiW nc [.int] (.lst xs) K = K false := nr rfl
theorem p_isi_bool_lst (xs : List P) (nc : Nat) (K : Bool → Prop) : isiW nc [.bool] (.lst xs) K = K false := nr rfl
theorem p_isi_str_lst (xs : List P) (nc : Nat) (K : Bool → Prop) : isiW nc [.str] (.lst xs) K = K false := nr rfl
theorem p_isi_list_lst (xs : List P) (nc : Nat) (K : Bool → Prop) : isiW nc [.list] (.lst xs) K = K true := nr rfl
theorem p_isi_tuple_lst (xs : List P) (nc : Nat) (K : Bool → Prop) : isiW nc [.tuple] (.lst xs) K = K false := nr rfl
theorem p_isi_lt_lst (xs : List P) (nc : Nat) (K : Bool → Prop) : isiW nc [.list, .tuple] (.lst xs) K = K true := nr rfl
theorem p_isi_int_scr (xs : List P) (nc : Nat) (K : Bool → Prop) : isiW nc [.int] (.scr xs) K = K false := nr rfl
theorem p_isi_bool_scr (xs : List P) (nc : Nat) (K : Bool → Prop) : isiW nc [.bool] (.scr xs) K = K false := nr rfl
theorem p_isi_str_scr (xs : List P) (nc : Nat) (K : Bool → Prop) : isiW nc [.str] (.scr xs) K = K false := nr rfl
theorem p_isi_list_scr (xs : List P) (nc : Nat) (K : Bool → Prop) : isiW nc [.list] (.scr xs) K = K true := nr rfl
theorem p_isi_tuple_scr (xs : List P) (nc : Nat) (K : Bool → Prop) : isiW nc [.tuple] (.scr xs) K = K false := nr rfl
theorem p_isi_lt_scr (xs : List P) (nc : Nat) (K : Bool → Prop) : isiW nc [.list, .tuple] (.scr xs) K = K true := nr rfl
theorem isiP_exc {nc c : Nat} {ts : List Ty} {K : Bool → Prop} (h : c < nc) : isiW nc ts (.exc c []) K = K (ts.any fun t => isTy t (.exc c [])) := by
  unfold isiW isiP
  dsimp only
  rw [decide_eq_true h]
  rfl
theorem p_isi_int_exc (c nc : Nat) (K : Bool → Prop) (h : c < nc) : isiW nc [.int] (.exc c []) K = K false := isiP_exc h
theorem p_isi_bool_exc (c nc : Nat) (K : Bool → Prop) (h : c < nc) : isiW nc [.bool] (.exc c []) K = K false := isiP_exc h
theorem p_isi_str_exc (c nc : Nat) (K : Bool → Prop) (h : c < nc) : isiW nc [.str] (.exc c []) K = K false := isiP_exc h
theorem p_isi_list_exc (c nc : Nat) (K : Bool → Prop) (h : c < nc) : isiW nc [.list] (.exc c []) K = K false := isiP_exc h
theorem p_isi_tuple_exc (c nc : Nat) (K : Bool → Prop) (h : c < nc) : isiW nc [.tuple] (.exc c []) K = K false := isiP_exc h
theorem p_isi_lt_exc (c nc : Nat) (K : Bool → Prop) (h : c < nc) : isiW nc [.list, .tuple] (.exc c []) K = K false := isiP_exc h
theorem p_sliceL (xs : List P) (lo hi : Option Int) (K : D → Prop) : optW (sliceP (.lst xs) lo hi) K = K (.l ((cutP xs lo hi).map .p)) := nr rfl
theorem p_sliceT (xs : List P) (lo hi : Option Int) (K : D → Prop) : optW (sliceP (.tup xs) lo hi) K = K (.p (.tup (cutP xs lo hi))) := nr rfl
theorem z_l0 {α : Type} : (([] : List α).length : Int) = 0 := nr rfl
theorem z_l1 {α : Type} (x0 : α) : (([x0] : List α).length : Int) = 1 := nr rfl
theorem z_l2 {α : Type} (x0 x1 : α) : (([x0, x1] : List α).length : Int) = 2 := nr rfl
theorem z_l3 {α : Type} (x0 x1 x2 : α) : (([x0, x1, x2] : List α).length : Int) = 3 := nr rfl
theorem z_l4 {α : Type} (x0 x1 x2 x3 : α) : (([x0, x1, x2, x3] : List α).length : Int) = 4 := nr rfl
theorem z_l5 {α : Type} (x0 x1 x2 x3 x4 : α) : (([x0, x1, x2, x3, x4] : List α).length : Int) = 5 := nr rfl
theorem z_l6 {α : Type} (x0 x1 x2 x3 x4 x5 : α) : (([x0, x1, x2, x3, x4, x5] : List α).length : Int) = 6 := nr rfl
theorem z_l7 {α : Type} (x0 x1 x2 x3 x4 x5 x6 : α) : (([x0, x1, x2, x3, x4, x5, x6] : List α).length : Int) = 7 := nr rfl
theorem z_l8 {α : Type} (x0 x1 x2 x3 x4 x5 x6 x7 : α) : (([x0, x1, x2, x3, x4, x5, x6, x7] : List α).length : Int) = 8 := nr rfl
theorem z_l9 {α : Type} (x0 x1 x2 x3 x4 x5 x6 x7 x8 : α) : (([x0, x1, x2, x3, x4, x5, x6, x7, x8] : List α).length : Int) = 9 := nr rfl
theorem z_l10 {α : Type} (x0 x1 x2 x3 x4 x5 x6 x7 x8 x9 : α) : (([x0, x1, x2, x3, x4, x5, x6, x7, x8, x9] : List α).length : Int) = 10 := nr rfl
theorem z_l11 {α : Type} (x0 x1 x2 x3 x4 x5 x6 x7 x8 x9 x10 : α) : (([x0, x1, x2, x3, x4, x5, x6, x7, x8, x9, x10] : List α).length : Int) = 11 := nr rfl
theorem z_l12 {α : Type} (x0 x1 x2 x3 x4 x5 x6 x7 x8 x9 x10 x11 : α) : (([x0, x1, x2, x3, x4, x5, x6, x7, x8, x9, x10, x11] : List α).length : Int) = 12 := nr rfl
theorem z_map0 {α β : Type} (f : α → β) : ([] : List α).map f = [] := nr rfl
theorem z_map1 {α β : Type} (f : α → β) (x : α) (xs : List α) : (x :: xs).map f = f x :: xs.map f := nr rfl
theorem z_app0 {α : Type} (ys : List α) : ([] : List α) ++ ys = ys := nr rfl
theorem z_app1 {α : Type} (x : α) (xs ys : List α) : (x :: xs) ++ ys = x :: (xs ++ ys) := nr rfl
theorem z_rep0 {α : Type} (a : α) : List.replicate 0 a = [] := nr rfl
theorem z_repS {α : Type} (a : α) (n : Nat) : List.replicate (n + 1) a = a :: List.replicate n a := nr rfl
theorem z_gt (i j : Int) : (i > j) = (j < i) := nr rfl
theorem z_szT (n : Nat) (A : Prop) (h : n ≤ 16777216) : condW (szOk n) A False = A := by
  unfold szOk
  rw [decide_eq_true h]
  rfl
theorem z_inR (n : Int) (A : Prop) (h1 : -4611686018427387904 ≤ n) (h2 : n < 4611686018427387904) : condW (inR n) A False = A := by
  unfold inR
  rw [decide_eq_true (show -(2 ^ 62) ≤ n from h1), decide_eq_true (show n < 2 ^ 62 from h2)]
  rfl
theorem z_inR2 (n m : Int) (A : Prop) : condW (inR n && inR m) A False = condW (inR n) (condW (inR m) A False) False := by
  cases inR n <;> cases inR m <;> rfl
theorem z_lenlt (n : Nat) (A : Prop) (h : n < 16777216) : condW (decide (n < 16777216)) A False = A := by
  rw [decide_eq_true h]
  rfl
theorem condD {p : Prop} [Decidable p] {A B : Prop} (h1 : p → A) (h2 : ¬ p → B) : condW (decide p) A B := by
  rw [w_condD]
  exact ⟨h1, h2⟩
theorem condDT {p : Prop} [Decidable p] {A B : Prop} (h : p) (h1 : A) : condW (decide p) A B := by
  rw [decide_eq_true h]
  exact h1
theorem condDF {p : Prop} [Decidable p] {A B : Prop} (h : ¬ p) (h1 : B) : condW (decide p) A B := by
  rw [decide_eq_false h]
  exact h1
end Pl

set_option Elab.async false
set_option linter.all false
set_option autoImplicit false
set_option maxRecDepth 100000
set_option maxHeartbeats 4000000
namespace Pl
open PySem
/-- x is data that can be compared, at most d deep -/
def Shp (d : Nat) (x : P) : Prop := ∃ e, x.toPy = some e ∧ e.canLay0 = true ∧ e.depth ≤ d
theorem Shp.mono {d d' : Nat} {x : P} (h : Shp d x) (hd : d ≤ d') : Shp d' x := by
  obtain ⟨e, h1, h2, h3⟩ := h
  exact ⟨e, h1, h2, by omega⟩
theorem shp_non (d : Nat) : Shp d .non := ⟨_, rfl, rfl, by rw [show PyData.depth .none = 0 from rfl]; omega⟩
theorem shp_bl (d : Nat) (b : Bool) : Shp d (.bl b) := ⟨_, rfl, rfl, by rw [show PyData.depth (.bool b) = 0 from rfl]; omega⟩
theorem shp_int (d : Nat) (i : Int) : Shp d (.int i) := ⟨_, rfl, rfl, by rw [show PyData.depth (.int i) = 0 from rfl]; omega⟩
theorem shp_str (d : Nat) (s : Str) (h : PyData.canLay0 (.str s) = true) : Shp d (.str s) := ⟨_, rfl, h, by rw [show PyData.depth (.str s) = 0 from rfl]; omega⟩
theorem shpL {d : Nat} : ∀ {xs : List P}, (∀ x ∈ xs, Shp d x) → ∃ es, P.toPyL xs = some es ∧ PyData.canLayAll0 es = true ∧ PyData.depthAll es ≤ d
  | [], _ => ⟨[], rfl, rfl, by rw [show PyData.depthAll [] = 0 from rfl]; omega⟩
  | x :: xs, h => by
    obtain ⟨e, h1, h2, h3⟩ := h x List.mem_cons_self
    obtain ⟨es, g1, g2, g3⟩ := shpL fun y hy => h y (List.mem_cons_of_mem _ hy)
    refine ⟨e :: es, ?_, ?_, ?_⟩
    · show (P.toPy x).bind _ = _
      rw [h1]
      show (P.toPyL xs).map _ = _
      rw [g1]
      rfl
    · show (PyData.canLay0 e && PyData.canLayAll0 es) = true
      rw [h2, g2]
      rfl
    · show max (PyData.depth e) (PyData.depthAll es) ≤ d
      omega
theorem shp_tup {d : Nat} {xs : List P} (h : ∀ x ∈ xs, Shp d x) : Shp (d + 1) (.tup xs) := by
  obtain ⟨es, h1, h2, h3⟩ := shpL h
  refine ⟨.tuple es, ?_, h2, ?_⟩
  · show (P.toPyL xs).map _ = _
    rw [h1]
    rfl
  · show PyData.depthAll es + 1 ≤ d + 1
    omega
theorem shp_lst {d : Nat} {xs : List P} (h : ∀ x ∈ xs, Shp d x) : Shp (d + 1) (.lst xs) := by
  obtain ⟨es, h1, h2, h3⟩ := shpL h
  refine ⟨.list es, ?_, h2, ?_⟩
  · show (P.toPyL xs).map _ = _
    rw [h1]
    rfl
  · show PyData.depthAll es + 1 ≤ d + 1
    omega
theorem shp_ints (d : Nat) (ms : List Int) : ∀ x ∈ ms.map P.int, Shp d x := fun x hx => by
  obtain ⟨m, _, rfl⟩ := List.mem_map.mp hx
  exact shp_int d m
mutual
theorem eqv_refl : ∀ d : PyData, d.canLay0 = true → PyData.eqv d d = true
  | .none, _ => rfl
  | .bool b, _ => by simp [PyData.eqv]
  | .int i, _ => by simp [PyData.eqv]
  | .str s, _ => by simp [PyData.eqv]
  | .list xs, h => eqvAll_refl xs h
  | .tuple xs, h => eqvAll_refl xs h
  | .dict _, h => by cases h
theorem eqvAll_refl : ∀ ds : List PyData, PyData.canLayAll0 ds = true → PyData.eqvAll ds ds = true
  | [], _ => rfl
  | d :: ds, h => by
    have h' : (PyData.canLay0 d && PyData.canLayAll0 ds) = true := h
    rw [Bool.and_eq_true] at h'
    show (PyData.eqv d d && PyData.eqvAll ds ds) = true
    rw [eqv_refl d h'.1, eqvAll_refl ds h'.2]
    rfl
end
theorem Shp.sh {x : P} (h : Shp 64 x) : ∃ e, x.toPy = some e ∧ SeqAt.shaped e = true ∧ e.canLay0 = true := by
  obtain ⟨e, h1, h2, h3⟩ := h
  refine ⟨e, h1, ?_, h2⟩
  show (e.canLay0 && decide (e.depth ≤ 64)) = true
  rw [h2, decide_eq_true h3]
  rfl
/-- are these equal -/
def eqvP (x y : P) : Bool := match x.toPy, y.toPy with
  | some d, some e => PyData.eqv d e
  | _, _ => false
theorem eqP_eqv {x y : P} (hx : Shp 64 x) (hy : Shp 64 y) : eqP x y = some (eqvP x y) := by
  obtain ⟨d, h1, h2, h3⟩ := hx.sh
  obtain ⟨e, g1, g2, g3⟩ := hy.sh
  unfold eqP eqvP
  rw [h1, g1]
  show (if SeqAt.shaped d && SeqAt.shaped e then _ else _) = _
  rw [h2, g2]
  rfl
theorem eqvP_refl {x : P} (h : Shp 64 x) : eqvP x x = true := by
  obtain ⟨d, h1, h2, h3⟩ := h.sh
  unfold eqvP
  rw [h1]
  exact eqv_refl d h3
theorem eqP_refl {x : P} (h : Shp 64 x) : eqP x x = some true := by rw [eqP_eqv h h, eqvP_refl h]
theorem cmpEq_of {x y : P} {b : Bool} (h : eqP x y = some b) (hi : ∀ i j, x = .int i → y = .int j → b = decide (i = j)) : cmpop .Eq x y = some b := by
  cases x <;> cases y <;> first | exact h | (rename_i i j; rw [hi i j rfl rfl]; rfl)
theorem cmpNe_of {x y : P} {b : Bool} (h : eqP x y = some b) (hi : ∀ i j, x = .int i → y = .int j → b = decide (i = j)) : cmpop .NotEq x y = some (!b) := by
  have e : ∀ o : Option Bool, o = some b → o.map (!·) = some (!b) := fun o h => by rw [h]; rfl
  cases x <;> cases y <;> first | exact e _ h | (rename_i i j; rw [hi i j rfl rfl]; rfl)
theorem p_EqSelf {x : P} (h : Shp 64 x) (K : Bool → Prop) : optW (cmpop .Eq x x) K = K true := by
  rw [cmpEq_of (eqP_refl h) fun i j h1 h2 => by subst h1; cases h2; simp]
  rfl
theorem p_NeSelf {x : P} (h : Shp 64 x) (K : Bool → Prop) : optW (cmpop .NotEq x x) K = K false := by
  rw [cmpNe_of (eqP_refl h) fun i j h1 h2 => by subst h1; cases h2; simp]
  rfl
theorem p_EqNil {xs : List P} (h : ∀ x ∈ xs, Shp 63 x) (K : Bool → Prop) : optW (cmpop .Eq (.lst xs) (.lst [])) K = K xs.isEmpty := by
  obtain ⟨es, h1, h2, h3⟩ := shpL h
  have e : eqP (.lst xs) (.lst []) = some xs.isEmpty := by
    rw [eqP_eqv (shp_lst h) (shp_lst fun x hx => by cases hx)]
    congr 1
    cases xs with
    | nil => rfl
    | cons x xs =>
      have e1 : P.toPy (.lst (x :: xs)) = some (.list es) := by
        show (P.toPyL (x :: xs)).map _ = _
        rw [h1]
        rfl
      unfold eqvP
      rw [e1]
      cases es with
      | nil =>
        obtain ⟨d, _, g⟩ := Option.bind_eq_some_iff.mp (show (P.toPy x).bind (fun d => (P.toPyL xs).map (d :: ·)) = some [] from h1)
        obtain ⟨ds, _, g2⟩ := Option.map_eq_some_iff.mp g
        cases g2
      | cons e es => rfl
  rw [show cmpop .Eq (.lst xs) (.lst []) = eqP (.lst xs) (.lst []) from rfl, e]
  rfl
theorem p_EqNN (K : Bool → Prop) : optW (cmpop .Eq .non .non) K = K true := nr rfl
theorem p_NeNN (K : Bool → Prop) : optW (cmpop .NotEq .non .non) K = K false := nr rfl
theorem p_EqNI (i : Int) (K : Bool → Prop) : optW (cmpop .Eq .non (.int i)) K = K false := nr rfl
theorem p_EqIN (i : Int) (K : Bool → Prop) : optW (cmpop .Eq (.int i) .non) K = K false := nr rfl
theorem p_NeNI (i : Int) (K : Bool → Prop) : optW (cmpop .NotEq .non (.int i)) K = K true := nr rfl
theorem p_NeIN (i : Int) (K : Bool → Prop) : optW (cmpop .NotEq (.int i) .non) K = K true := nr rfl
theorem p_EqB (a b : Bool) (K : Bool → Prop) : optW (cmpop .Eq (.bl a) (.bl b)) K = K (decide (a = b)) := by
  cases a <;> cases b <;> rfl
theorem p_NeB (a b : Bool) (K : Bool → Prop) : optW (cmpop .NotEq (.bl a) (.bl b)) K = K (!decide (a = b)) := by
  cases a <;> cases b <;> rfl
theorem p_atR {α : Type} (n : Nat) (g : Nat → α) (i : Int) (K : α → Prop) (h0 : 0 ≤ i) (h1 : i < n) : optW (L2.atI ((List.range n).map g) i) K = K (g i.toNat) := by
  have e := atI_natW ((List.range n).map g) i.toNat (by rw [List.length_map, List.length_range]; omega)
  rw [show ((i.toNat : Nat) : Int) = i by omega] at e
  rw [e, List.getElem_map, List.getElem_range]
  rfl
theorem set_range {α : Type} (n i : Nat) (g : Nat → α) (d : α) (h : i < n) : ((List.range n).map g).set i d = (List.range n).map fun x => if x = i then d else g x := by
  refine List.ext_getElem (by simp) fun j h1 h2 => ?_
  rw [List.getElem_map, List.getElem_range, List.getElem_set]
  by_cases e : i = j
  · rw [if_pos e, if_pos e.symm]
  · rw [if_neg e, if_neg fun z => e z.symm, List.getElem_map, List.getElem_range]
theorem p_setR (n : Nat) (g : Nat → D) (i : Int) (d : D) (K : List D → Prop) (h0 : 0 ≤ i) (h1 : i < n) : setLW ((List.range n).map g) i d K = K ((List.range n).map fun x => if x = i.toNat then d else g x) := by
  unfold setLW setL L2.ixN
  rw [List.length_map, List.length_range, if_pos h0, if_pos (by omega)]
  show K (((List.range n).map g).set i.toNat d) = _
  rw [set_range n i.toNat g d (by omega)]
theorem frzW_of {d : D} {x : P} (h : frz d = x) (K : P → Prop) : frzW d K = K x := by
  unfold frzW
  rw [h]
theorem rangeOf_map : ∀ (n : Nat) (lo : Int), rangeOf lo n = (List.range n).map fun i => P.int (lo + (i : Nat))
  | 0, _ => rfl
  | n + 1, lo => by
    show P.int lo :: rangeOf (lo + 1) n = _
    rw [rangeOf_map n (lo + 1), List.range_succ_eq_map, List.map_cons, List.map_map]
    congr 1
    · rw [show lo + ((0 : Nat) : Int) = lo by omega]
    · refine List.map_congr_left fun i _ => ?_
      show P.int (lo + 1 + (i : Int)) = P.int (lo + ((i + 1 : Nat) : Int))
      rw [show lo + 1 + (i : Int) = lo + ((i + 1 : Nat) : Int) by omega]
/-- equal data of like shape are one -/
def rawP : P → Bool
  | .bl _ => false
  | .tup xs => rawL xs
  | .lst xs => rawL xs
  | .scr _ => false
  | .exc _ _ => false
  | _ => true
where rawL : List P → Bool
  | [] => true
  | x :: xs => rawP x && rawL xs
end Pl

set_option Elab.async false
set_option linter.all false
set_option autoImplicit false
set_option maxRecDepth 100000
set_option maxHeartbeats 4000000
namespace Pu
open Pl
def mn (i j : Int) : Int := if j < i then j else i
def mx (i j : Int) : Int := if j > i then j else i
def rise (a b : List Int) : Int := maxI 0 (List.zipWith (fun x y => y - x) a b)
theorem zw_swap (f : Int → Int → Int) : ∀ (a b : List Int), List.zipWith f a b = List.zipWith (fun y x => f x y) b a
  | [], [] => rfl
  | [], _ :: _ => rfl
  | _ :: _, [] => rfl
  | x :: a, y :: b => by
    show f x y :: List.zipWith f a b = f x y :: List.zipWith (fun y x => f x y) b a
    rw [zw_swap f a b]
theorem zw_zw (f g : Int → Int → Int) : ∀ (a b : List Int), List.zipWith f (List.zipWith g a b) b = List.zipWith (fun x y => f (g x y) y) a b
  | [], [] => rfl
  | [], _ :: _ => rfl
  | _ :: _, [] => rfl
  | x :: a, y :: b => by
    show f (g x y) y :: List.zipWith f (List.zipWith g a b) b = f (g x y) y :: _
    rw [zw_zw f g a b]
/-- x stands over y -/
def At (a b : List Int) (x y : Int) : Prop := ∃ i : Nat, a[i]? = some x ∧ b[i]? = some y
theorem zw_mem {f : Int → Int → Int} : ∀ {a b : List Int} {z : Int}, z ∈ List.zipWith f a b → ∃ x y, At a b x y ∧ z = f x y
  | [], [], _, h => by cases h
  | [], _ :: _, _, h => by cases h
  | _ :: _, [], _, h => by cases h
  | x :: a, y :: b, z, h => by
    rcases List.mem_cons.mp h with h | h
    · exact ⟨x, y, ⟨0, rfl, rfl⟩, h⟩
    · obtain ⟨x', y', ⟨i, h1, h2⟩, e⟩ := zw_mem h
      exact ⟨x', y', ⟨i + 1, h1, h2⟩, e⟩
theorem mem_zw {f : Int → Int → Int} : ∀ {a b : List Int} {x y : Int}, At a b x y → f x y ∈ List.zipWith f a b
  | [], _, _, _, ⟨i, h, _⟩ => by simp at h
  | _ :: _, [], _, _, ⟨i, _, h⟩ => by simp at h
  | u :: a, v :: b, x, y, ⟨0, h1, h2⟩ => by
    simp at h1 h2
    subst h1 h2
    exact List.mem_cons_self
  | u :: a, v :: b, x, y, ⟨i + 1, h1, h2⟩ => List.mem_cons_of_mem _ (mem_zw ⟨i, by simpa using h1, by simpa using h2⟩)
theorem zw_congr {f g : Int → Int → Int} : ∀ {a b : List Int}, (∀ x y, At a b x y → f x y = g x y) → List.zipWith f a b = List.zipWith g a b
  | [], [], _ => rfl
  | [], _ :: _, _ => rfl
  | _ :: _, [], _ => rfl
  | x :: a, y :: b, h => by
    show f x y :: List.zipWith f a b = g x y :: List.zipWith g a b
    have e := zw_congr (f := f) (g := g) (a := a) (b := b) fun u v ⟨i, h1, h2⟩ => h u v ⟨i + 1, h1, h2⟩
    rw [h x y ⟨0, rfl, rfl⟩, e]
theorem zw_left : ∀ {a b : List Int}, a.length = b.length → List.zipWith (fun x _ => x) a b = a
  | [], [], _ => rfl
  | [], _ :: _, h => by simp at h
  | _ :: _, [], h => by simp at h
  | x :: a, y :: b, h => by
    show x :: List.zipWith (fun x _ => x) a b = x :: a
    rw [zw_left (by simpa using h)]
theorem zw_right : ∀ {a b : List Int}, a.length = b.length → List.zipWith (fun _ y => y) a b = b
  | [], [], _ => rfl
  | [], _ :: _, h => by simp at h
  | _ :: _, [], h => by simp at h
  | x :: a, y :: b, h => by
    show y :: List.zipWith (fun _ y => y) a b = y :: b
    rw [zw_right (by simpa using h)]
theorem zw_get {f : Int → Int → Int} : ∀ {a b : List Int} {i : Nat} {x y : Int}, a[i]? = some x → b[i]? = some y → (List.zipWith f a b)[i]? = some (f x y)
  | [], _, _, _, _, h, _ => by simp at h
  | _ :: _, [], _, _, _, _, h => by simp at h
  | u :: a, v :: b, 0, x, y, h1, h2 => by
    simp at h1 h2
    subst h1 h2
    rfl
  | u :: a, v :: b, i + 1, x, y, h1, h2 => zw_get (a := a) (b := b) (i := i) (by simpa using h1) (by simpa using h2)
theorem rise_nn (a b : List Int) : 0 ≤ rise a b := (maxI_ge _ 0).1
theorem rise_ge {a b : List Int} {x y : Int} (h : At a b x y) : y - x ≤ rise a b := (maxI_ge _ 0).2 _ (mem_zw (f := fun x y => y - x) h)
theorem rise_at (a b : List Int) : rise a b = 0 ∨ ∃ x y, At a b x y ∧ rise a b = y - x := by
  rcases maxI_mem (List.zipWith (fun x y => y - x) a b) 0 with h | h
  · exact .inl h
  · obtain ⟨x, y, h1, h2⟩ := zw_mem h
    exact .inr ⟨x, y, h1, h2⟩
theorem At.swap {a b : List Int} {x y : Int} (h : At a b x y) : At b a y x := by
  obtain ⟨i, h1, h2⟩ := h
  exact ⟨i, h2, h1⟩
theorem fall_ge {a b : List Int} {x y : Int} (h : At a b x y) : x - y ≤ rise b a := rise_ge h.swap
theorem rise_le {a b : List Int} {m : Int} (h0 : 0 ≤ m) (h : ∀ x y, At a b x y → y - x ≤ m) : rise a b ≤ m := by
  rcases rise_at a b with e | ⟨x, y, h1, e⟩
  · omega
  · have := h x y h1
    omega
theorem rise_tri {a b c : List Int} (h1 : a.length = c.length) : rise a b ≤ rise a c + rise c b := by
  refine rise_le (by have := rise_nn a c; have := rise_nn c b; omega) fun x y ⟨i, h2, h3⟩ => ?_
  have hi : i < c.length := by rw [← h1]; exact (List.getElem?_eq_some_iff.mp h2).1
  have hz : c[i]? = some c[i] := List.getElem?_eq_getElem hi
  have a1 := rise_ge (a := a) (b := c) ⟨i, h2, hz⟩
  have a2 := rise_ge (a := c) (b := b) ⟨i, hz, h3⟩
  omega
/-- where a point stands at move t -/
def wv (R F t x y : Int) : Int := if t ≤ R then mx x (y - (R - t)) else mn (mx x y) (y + (R + F - t))
def stp (R F t x y : Int) : Int := if t < R then (if x ≤ y - (R - t) then 1 else 0) else (if y + (R + F - t) ≤ x then -1 else 0)
def Wk (a b : List Int) (t : Nat) : List Int := List.zipWith (wv (rise a b) (rise b a) t) a b
theorem wv_keep {R F t x y x' y' m : Int} (h1 : x - x' ≤ m) (h2 : y - y' ≤ m) : wv R F t x y - wv R F t x' y' ≤ m := by
  unfold wv mx mn
  repeat' split
  all_goals omega
theorem wv_zero {R F t : Int} (h1 : t ≤ R + F) : wv R F t 0 0 = 0 := by
  unfold wv mx mn
  repeat' split
  all_goals omega
theorem wv_first {R F x y : Int} (h0 : 0 ≤ R) (h1 : y - x ≤ R) : wv R F 0 x y = x := by
  unfold wv mx mn
  repeat' split
  all_goals omega
theorem wv_last {R F x y : Int} (h0 : 0 ≤ F) (h1 : y - x ≤ R) (h2 : x - y ≤ F) : wv R F (R + F) x y = y := by
  unfold wv mx mn
  repeat' split
  all_goals omega
theorem wv_step {R F t x y : Int} (h1 : y - x ≤ R) (h2 : x - y ≤ F) (h3 : t < R + F) : wv R F (t + 1) x y = wv R F t x y + stp R F t x y := by
  unfold wv stp mx mn
  repeat' split
  all_goals omega
theorem up_ok {R F t x y : Int} (h : t < R) : wv R F t x y + (if y - wv R F t x y = R - t then 1 else 0) = wv R F (t + 1) x y := by
  unfold wv mx mn
  repeat' split
  all_goals omega
theorem down_ok {R F t x y : Int} (h0 : 0 ≤ t) (h : t < F) (h2 : x - y ≤ F) : wv R F (R + t) x y - (if wv R F (R + t) x y - y = F - t then 1 else 0) = wv R F (R + t + 1) x y := by
  unfold wv mx mn
  repeat' split
  all_goals omega
theorem Wk_first {a b : List Int} (hl : a.length = b.length) : Wk a b 0 = a := by
  have e : Wk a b 0 = List.zipWith (fun x _ => x) a b := zw_congr fun x y h => wv_first (rise_nn a b) (rise_ge h)
  rw [e, zw_left hl]
theorem Wk_last {a b : List Int} (hl : a.length = b.length) : Wk a b ((rise a b).toNat + (rise b a).toNat) = b := by
  have h1 := rise_nn a b
  have h2 := rise_nn b a
  have e : Wk a b ((rise a b).toNat + (rise b a).toNat) = List.zipWith (fun _ y => y) a b := zw_congr fun x y h => by
    rw [show (((rise a b).toNat + (rise b a).toNat : Nat) : Int) = rise a b + rise b a by omega]
    exact wv_last h2 (rise_ge h) (fall_ge h)
  rw [e, zw_right hl]
/-- all steps are alike, and there is one -/
theorem stp_or (a b : List Int) (t : Nat) (h : (t : Int) < rise a b + rise b a) : ∃ s : Int, (s = 1 ∨ s = -1) ∧ (∀ x y, At a b x y → stp (rise a b) (rise b a) t x y = 0 ∨ stp (rise a b) (rise b a) t x y = s) ∧ ∃ x y, At a b x y ∧ stp (rise a b) (rise b a) t x y = s := by
  have h1 := rise_nn a b
  have h2 := rise_nn b a
  by_cases ht : (t : Int) < rise a b
  · refine ⟨1, .inl rfl, fun x y _ => ?_, ?_⟩
    · unfold stp
      rw [if_pos ht]
      split
      · exact .inr rfl
      · exact .inl rfl
    · rcases rise_at a b with e | ⟨x, y, h3, e⟩
      · omega
      · refine ⟨x, y, h3, ?_⟩
        unfold stp
        rw [if_pos ht, if_pos (by omega)]
  · refine ⟨-1, .inr rfl, fun x y _ => ?_, ?_⟩
    · unfold stp
      rw [if_neg ht]
      split
      · exact .inr rfl
      · exact .inl rfl
    · rcases rise_at b a with e | ⟨x, y, h3, e⟩
      · omega
      · refine ⟨y, x, h3.swap, ?_⟩
        unfold stp
        rw [if_neg ht, if_pos (by omega)]
end Pu

set_option Elab.async false
set_option linter.all false
set_option autoImplicit false
set_option maxRecDepth 100000
set_option maxHeartbeats 4000000
namespace Pu
open Pl
def dC (d : Int) : Int := (d - 60) / 146097
def dR (d : Int) : Int := (d - 60) % 146097
def dY (r : Int) : Int := (r - r / 1460 + r / 36524 - r / 146096) / 365
def dR2 (r : Int) : Int := r - 365 * dY r - dY r / 4 + dY r / 100
def dMo (r : Int) : Int := (5 * dR2 r + 2) / 153
def dM (r : Int) : Int := if dMo r < 10 then dMo r + 3 else dMo r - 9
def dD (r : Int) : Int := dR2 r - (153 * dMo r + 2) / 5 + 1
def dateF (d : Int) : P := .tup [.int (2000 + 400 * dC d + dY (dR d) + (if dM (dR d) < 3 then 1 else 0)), .int (dM (dR d)), .int (dD (dR d))]
def nY (y m : Int) : Int := if 2 < m then y else y - 1
def nM (m : Int) : Int := if 2 < m then m - 3 else m + 9
def numF (y m d : Int) : Int := 60 + 146097 * ((nY y m - 2000) / 400) + 365 * ((nY y m - 2000) % 400) + (nY y m - 2000) % 400 / 4 - (nY y m - 2000) % 400 / 100 + (153 * nM m + 2) / 5 + d - 1
def leap (y : Int) : Bool := decide (y % 4 = 0) && (!decide (y % 100 = 0) || decide (y % 400 = 0))
def longF (y m : Int) : Int := if m = 2 then (if leap y then 29 else 28) else if m = 4 ∨ m = 6 ∨ m = 9 ∨ m = 11 then 30 else 31
def validD (y m d : Int) : Bool := (decide (1 ≤ m) && decide (m ≤ 12)) && (decide (1 ≤ d) && decide (d ≤ longF y m))
def jan (k : Nat) : Int := 365 * (k : Int) + ((k : Int) + 3) / 4 - ((k : Int) + 99) / 100 + ((k : Int) + 399) / 400
def mo (y : Int) : Nat → Int
  | 0 => 0
  | n + 1 => mo y n + longF y ((n : Int) + 1)
theorem leap_sh (t k : Int) : leap (2000 + 400 * t + k) = leap k := by
  unfold leap
  have h1 : (2000 + 400 * t + k) % 4 = k % 4 := by omega
  have h2 : (2000 + 400 * t + k) % 100 = k % 100 := by omega
  have h3 : (2000 + 400 * t + k) % 400 = k % 400 := by omega
  rw [h1, h2, h3]
theorem long_sh (t k m : Int) : longF (2000 + 400 * t + k) m = longF k m := by
  unfold longF
  rw [leap_sh]
theorem long_lo (y m : Int) : 28 ≤ longF y m ∧ longF y m ≤ 31 := by
  unfold longF
  split
  · split <;> omega
  · split <;> omega
theorem jan_all : ∀ k : Fin 400, jan (k.val + 1) = jan k.val + (337 + longF (k.val : Int) 2) := by decide +kernel
theorem jan_step (k : Nat) (h : k < 400) : jan (k + 1) = jan k + (337 + longF (k : Int) 2) := jan_all ⟨k, h⟩
theorem mo13_all : ∀ k : Fin 400, mo (k.val : Int) 12 = 337 + longF (k.val : Int) 2 := by decide +kernel
theorem find_jan (r : Int) (h0 : 0 ≤ r) : ∀ n : Nat, r < jan n → ∃ K, K < n ∧ jan K ≤ r ∧ r < jan (K + 1)
  | 0, h => absurd h (by have : jan 0 = 0 := rfl; omega)
  | n + 1, h => by
    by_cases q : r < jan n
    · obtain ⟨K, h1, h2⟩ := find_jan r h0 n q
      exact ⟨K, by omega, h2⟩
    · exact ⟨n, by omega, by omega, h⟩
theorem find_mo (y r : Int) (h0 : 0 ≤ r) : ∀ n : Nat, r < mo y n → ∃ K, K < n ∧ mo y K ≤ r ∧ r < mo y (K + 1)
  | 0, h => absurd h (by have : mo y 0 = 0 := rfl; omega)
  | n + 1, h => by
    by_cases q : r < mo y n
    · obtain ⟨K, h1, h2⟩ := find_mo y r h0 n q
      exact ⟨K, by omega, h2⟩
    · exact ⟨n, by omega, by omega, h⟩
theorem mo_sh (t k : Int) : ∀ n, mo (2000 + 400 * t + k) n = mo k n
  | 0 => rfl
  | n + 1 => by
    show mo _ n + longF _ _ = mo k n + longF _ _
    rw [mo_sh t k n, long_sh]
/-- what the counting brings -/
structure Cnt (d : Int) (Y : Int) (M : Int) (S : Int) where
  t : Int
  k : Nat
  j : Nat
  hk : k < 400
  hj : j < 12
  hY : Y = 2000 + 400 * t + k
  hM : M = (j : Int) + 1
  lo : 1 ≤ S
  hi : S ≤ longF (k : Int) M
  hd : d = 146097 * t + jan k + mo (k : Int) j + S - 1
theorem cnt_ex (d : Int) : ∃ Y M S, Nonempty (Cnt d Y M S) := by
  have hr0 : 0 ≤ d - 146097 * (d / 146097) := by omega
  have hr1 : d - 146097 * (d / 146097) < jan 400 := by
    have : jan 400 = 146097 := rfl
    omega
  obtain ⟨K, hK, a1, a2⟩ := find_jan _ hr0 400 hr1
  have hs := jan_step K hK
  have h13 : mo (K : Int) 12 = 337 + longF (K : Int) 2 := mo13_all ⟨K, hK⟩
  obtain ⟨J, hJ, b1, b2⟩ := find_mo (K : Int) (d - 146097 * (d / 146097) - jan K) (by omega) 12 (by omega)
  refine ⟨2000 + 400 * (d / 146097) + K, (J : Int) + 1, d - 146097 * (d / 146097) - jan K - mo (K : Int) J + 1, ⟨⟨d / 146097, K, J, hK, hJ, rfl, rfl, by omega, ?_, by omega⟩⟩⟩
  have : mo (K : Int) (J + 1) = mo (K : Int) J + longF (K : Int) ((J : Int) + 1) := rfl
  omega
def mar (k : Nat) : Int := 365 * (k : Int) + (k : Int) / 4 - (k : Int) / 100
def fY (r : Int) : Int := r - r / 1460 + r / 36524 - r / 146096
theorem fY_mono1 (r : Int) (h0 : 0 ≤ r) (h1 : r < 146096) : fY r ≤ fY (r + 1) := by
  unfold fY
  omega
theorem fY_mono (r : Int) (h0 : 0 ≤ r) : ∀ q : Nat, r + q ≤ 146096 → fY r ≤ fY (r + q)
  | 0, _ => by rw [show r + ((0 : Nat) : Int) = r by omega]; exact Int.le_refl _
  | q + 1, h => by
    have a := fY_mono r h0 q (by omega)
    have b := fY_mono1 (r + q) (by omega) (by omega)
    rw [show r + ((q + 1 : Nat) : Int) = r + q + 1 by omega]
    omega
theorem mar_all : ∀ k : Fin 400, fY (mar k.val) / 365 = k.val ∧ fY (mar k.val + (365 + (if leap ((k.val : Int) + 1) then 1 else 0)) - 1) / 365 = k.val ∧ mar k.val + (365 + (if leap ((k.val : Int) + 1) then 1 else 0)) ≤ 146097 ∧ 0 ≤ mar k.val := by decide +kernel
theorem dY_at (k : Nat) (hk : k < 400) (q : Int) (h0 : 0 ≤ q) (h1 : q < 365 + (if leap ((k : Int) + 1) then 1 else 0)) : dY (mar k + q) = k := by
  obtain ⟨a, b, c, e⟩ := mar_all ⟨k, hk⟩
  dsimp only at a b c e
  have m1 := fY_mono (mar k) e q.toNat (by omega)
  have m2 := fY_mono (mar k + q) (by omega) (365 + (if leap ((k : Int) + 1) then 1 else 0) - 1 - q).toNat (by omega)
  rw [show mar k + (q.toNat : Int) = mar k + q by omega] at m1
  rw [show mar k + q + ((365 + (if leap ((k : Int) + 1) then (1 : Int) else 0) - 1 - q).toNat : Int) = mar k + (365 + (if leap ((k : Int) + 1) then 1 else 0)) - 1 by omega] at m2
  show fY (mar k + q) / 365 = k
  omega
/-- the month's number from March on, its first day's place, its length -/
def mq (j : Nat) : Int := (153 * (j : Int) + 2) / 5
theorem j12 {j : Nat} (h : j < 12) : j = 0 ∨ j = 1 ∨ j = 2 ∨ j = 3 ∨ j = 4 ∨ j = 5 ∨ j = 6 ∨ j = 7 ∨ j = 8 ∨ j = 9 ∨ j = 10 ∨ j = 11 := by omega
/-- month j (0 is January) of a year, from March on -/
def mj (j : Nat) : Nat := (j + 10) % 12
theorem q_hi (y : Int) (j : Nat) (hj : j < 12) (S : Int) (h1 : 1 ≤ S) (h2 : S ≤ longF y ((j : Int) + 1)) : 0 ≤ mq (mj j) + S - 1 ∧ (5 * (mq (mj j) + S - 1) + 2) / 153 = (mj j : Int) ∧ mq (mj j) + S - 1 < 365 + (if leap y then 1 else 0) ∧ (2 ≤ j → mq (mj j) + S - 1 < 306) := by
  rcases j12 hj with h | h | h | h | h | h | h | h | h | h | h | h <;> subst h
  case inr.inl =>
    have e : longF y (((1 : Nat) : Int) + 1) = if leap y then 29 else 28 := rfl
    rw [e] at h2
    have e2 : mq (mj 1) = 337 := rfl
    rw [e2]
    show _ ∧ _ = (11 : Int) ∧ _ ∧ _
    split at h2 <;> rename_i hl
    · rw [if_pos hl]; omega
    · rw [if_neg hl]; omega
  case inl =>
    have e : longF y (((0 : Nat) : Int) + 1) = 31 := rfl
    rw [e] at h2
    have e2 : mq (mj 0) = 306 := rfl
    rw [e2]
    show _ ∧ _ = (10 : Int) ∧ _ ∧ _
    split <;> omega
  case inr.inr.inl =>
    have e : longF y (((2 : Nat) : Int) + 1) = 31 := rfl
    rw [e] at h2
    have e2 : mq (mj 2) = 0 := rfl
    rw [e2]
    show _ ∧ _ = (0 : Int) ∧ _ ∧ _
    split <;> omega
  case inr.inr.inr.inl =>
    have e : longF y (((3 : Nat) : Int) + 1) = 30 := rfl
    rw [e] at h2
    have e2 : mq (mj 3) = 31 := rfl
    rw [e2]
    show _ ∧ _ = (1 : Int) ∧ _ ∧ _
    split <;> omega
  case inr.inr.inr.inr.inl =>
    have e : longF y (((4 : Nat) : Int) + 1) = 31 := rfl
    rw [e] at h2
    have e2 : mq (mj 4) = 61 := rfl
    rw [e2]
    show _ ∧ _ = (2 : Int) ∧ _ ∧ _
    split <;> omega
  case inr.inr.inr.inr.inr.inl =>
    have e : longF y (((5 : Nat) : Int) + 1) = 30 := rfl
    rw [e] at h2
    have e2 : mq (mj 5) = 92 := rfl
    rw [e2]
    show _ ∧ _ = (3 : Int) ∧ _ ∧ _
    split <;> omega
  case inr.inr.inr.inr.inr.inr.inl =>
    have e : longF y (((6 : Nat) : Int) + 1) = 31 := rfl
    rw [e] at h2
    have e2 : mq (mj 6) = 122 := rfl
    rw [e2]
    show _ ∧ _ = (4 : Int) ∧ _ ∧ _
    split <;> omega
  case inr.inr.inr.inr.inr.inr.inr.inl =>
    have e : longF y (((7 : Nat) : Int) + 1) = 31 := rfl
    rw [e] at h2
    have e2 : mq (mj 7) = 153 := rfl
    rw [e2]
    show _ ∧ _ = (5 : Int) ∧ _ ∧ _
    split <;> omega
  case inr.inr.inr.inr.inr.inr.inr.inr.inl =>
    have e : longF y (((8 : Nat) : Int) + 1) = 30 := rfl
    rw [e] at h2
    have e2 : mq (mj 8) = 184 := rfl
    rw [e2]
    show _ ∧ _ = (6 : Int) ∧ _ ∧ _
    split <;> omega
  case inr.inr.inr.inr.inr.inr.inr.inr.inr.inl =>
    have e : longF y (((9 : Nat) : Int) + 1) = 31 := rfl
    rw [e] at h2
    have e2 : mq (mj 9) = 214 := rfl
    rw [e2]
    show _ ∧ _ = (7 : Int) ∧ _ ∧ _
    split <;> omega
  case inr.inr.inr.inr.inr.inr.inr.inr.inr.inr.inl =>
    have e : longF y (((10 : Nat) : Int) + 1) = 30 := rfl
    rw [e] at h2
    have e2 : mq (mj 10) = 245 := rfl
    rw [e2]
    show _ ∧ _ = (8 : Int) ∧ _ ∧ _
    split <;> omega
  case inr.inr.inr.inr.inr.inr.inr.inr.inr.inr.inr =>
    have e : longF y (((11 : Nat) : Int) + 1) = 31 := rfl
    rw [e] at h2
    have e2 : mq (mj 11) = 275 := rfl
    rw [e2]
    show _ ∧ _ = (9 : Int) ∧ _ ∧ _
    split <;> omega
theorem jm_all : ∀ k : Fin 400, ∀ j : Fin 12, jan k.val + mo (k.val : Int) j.val = 60 + (if 2 ≤ j.val then mar k.val + mq (mj j.val) else if k.val = 0 then mar 399 + mq (mj j.val) - 146097 else mar (k.val - 1) + mq (mj j.val)) := by decide +kernel
/-- the day's place from a March on -/
theorem place {d Y M S : Int} (c : Cnt d Y M S) : ∃ (K : Nat) (T q : Int), K < 400 ∧ d - 60 = 146097 * T + (mar K + q) ∧ 0 ≤ mar K + q ∧ mar K + q < 146097 ∧ 0 ≤ q ∧ dY (mar K + q) = K ∧ q = mq (mj c.j) + S - 1 ∧ (5 * q + 2) / 153 = (mj c.j : Int) ∧ nY Y M = 2000 + 400 * T + K := by
  obtain ⟨t, k, j, hk, hj, hY, hM, lo, hi, hd⟩ := c
  have hjm := jm_all ⟨k, hk⟩ ⟨j, hj⟩
  dsimp only at hjm ⊢
  subst hM
  by_cases h2 : 2 ≤ j
  · rw [if_pos h2] at hjm
    obtain ⟨a1, a2, a3, a4⟩ := q_hi (k : Int) j hj S lo hi
    have a5 := a4 h2
    obtain ⟨b1, b2, b3, b4⟩ := mar_all ⟨k, hk⟩
    dsimp only at b1 b2 b3 b4
    have a6 : mq (mj j) + S - 1 < 365 + (if leap ((k : Int) + 1) then 1 else 0) := by split <;> omega
    refine ⟨k, t, mq (mj j) + S - 1, hk, by omega, by omega, by omega, a1, dY_at k hk _ a1 a6, rfl, a2, ?_⟩
    unfold nY
    rw [if_pos (by omega)]
    exact hY
  · rw [if_neg h2] at hjm
    obtain ⟨a1, a2, a3, a4⟩ := q_hi (k : Int) j hj S lo hi
    by_cases h0 : k = 0
    · rw [if_pos h0] at hjm
      subst h0
      obtain ⟨b1, b2, b3, b4⟩ := mar_all ⟨399, by decide⟩
      dsimp only at b1 b2 b3 b4
      have e : leap (((399 : Nat) : Int) + 1) = leap ((0 : Nat) : Int) := rfl
      have a6 : mq (mj j) + S - 1 < 365 + (if leap (((399 : Nat) : Int) + 1) then 1 else 0) := by rw [e]; exact a3
      refine ⟨399, t - 1, mq (mj j) + S - 1, by decide, by omega, by omega, by omega, a1, dY_at 399 (by decide) _ a1 a6, rfl, a2, ?_⟩
      unfold nY
      rw [if_neg (by omega)]
      omega
    · rw [if_neg h0] at hjm
      obtain ⟨b1, b2, b3, b4⟩ := mar_all ⟨k - 1, by omega⟩
      dsimp only at b1 b2 b3 b4
      have e : (((k - 1 : Nat) : Int) + 1) = (k : Int) := by omega
      have a6 : mq (mj j) + S - 1 < 365 + (if leap (((k - 1 : Nat) : Int) + 1) then 1 else 0) := by rw [e]; exact a3
      refine ⟨k - 1, t, mq (mj j) + S - 1, by omega, by omega, by omega, by omega, a1, dY_at (k - 1) (by omega) _ a1 a6, rfl, a2, ?_⟩
      unfold nY
      rw [if_neg (by omega)]
      omega
theorem date_ok {d Y M S : Int} (c : Cnt d Y M S) : dateF d = .tup [.int Y, .int M, .int S] := by
  obtain ⟨K, T, q, hK, h1, h2, h3, h4, h5, h6, h7, h8⟩ := place c
  have e1 : dC d = T := by unfold dC; omega
  have e2 : dR d = mar K + q := by unfold dR; omega
  have e3 : dR2 (mar K + q) = q := by
    unfold dR2
    rw [h5]
    unfold mar
    omega
  have e4 : dMo (mar K + q) = (mj c.j : Int) := by
    unfold dMo
    rw [e3]
    exact h7
  have hj := c.hj
  have hM := c.hM
  have e5 : dM (mar K + q) = M := by
    unfold dM
    rw [e4]
    unfold mj
    split <;> omega
  have e6 : dD (mar K + q) = S := by
    unfold dD
    rw [e3, e4, h6]
    show mq (mj c.j) + S - 1 - mq (mj c.j) + 1 = S
    omega
  unfold dateF
  rw [e1, e2, e5, e6, h5]
  have e7 : 2000 + 400 * T + (K : Int) + (if M < 3 then 1 else 0) = Y := by
    unfold nY at h8
    split at h8 <;> split <;> omega
  rw [e7]
theorem num_ok {d Y M S : Int} (c : Cnt d Y M S) : numF Y M S = d := by
  obtain ⟨K, T, q, hK, h1, h2, h3, h4, h5, h6, h7, h8⟩ := place c
  unfold numF
  rw [h8]
  have e1 : (2000 + 400 * T + (K : Int) - 2000) / 400 = T := by omega
  have e2 : (2000 + 400 * T + (K : Int) - 2000) % 400 = K := by omega
  have hj := c.hj
  have hM := c.hM
  have e3 : nM M = (mj c.j : Int) := by
    unfold nM mj
    split <;> omega
  rw [e1, e2, e3]
  have e4 : (153 * (mj c.j : Int) + 2) / 5 = mq (mj c.j) := rfl
  rw [e4]
  unfold mar at h1
  omega
theorem long_y {d Y M S : Int} (c : Cnt d Y M S) (m : Int) : longF Y m = longF (c.k : Int) m := by
  have e : longF Y m = longF (2000 + 400 * c.t + (c.k : Int)) m := congrArg (fun z => longF z m) c.hY
  exact e.trans (long_sh _ _ _)
theorem valid_ok {d Y M S : Int} (c : Cnt d Y M S) : validD Y M S = true := by
  unfold validD
  have hj := c.hj
  have hM := c.hM
  have a := long_y c M
  have h1 := c.lo
  have h2 := c.hi
  rw [decide_eq_true (by omega : 1 ≤ M), decide_eq_true (by omega : M ≤ 12), decide_eq_true h1, decide_eq_true (by omega : S ≤ longF Y M)]
  rfl
def FD (m : Int) : Int := numF (m / 12) (m % 12 + 1) 1
def Ln (m : Int) : Int := longF (m / 12) (m % 12 + 1)
theorem Ln_lo (m : Int) : 28 ≤ Ln m ∧ Ln m ≤ 31 := long_lo _ _
/-- each date that there is -/
def mkCnt (Y M S : Int) (h1 : 1 ≤ M) (h2 : M ≤ 12) (h3 : 1 ≤ S) (h4 : S ≤ longF Y M) : Cnt (146097 * ((Y - 2000) / 400) + jan ((Y - 2000) % 400).toNat + mo ((((Y - 2000) % 400).toNat : Nat) : Int) (M - 1).toNat + S - 1) Y M S :=
  ⟨(Y - 2000) / 400, ((Y - 2000) % 400).toNat, (M - 1).toNat, by omega, by omega, by omega, by omega, h3, by
    have e : Y = 2000 + 400 * ((Y - 2000) / 400) + ((((Y - 2000) % 400).toNat : Nat) : Int) := by omega
    have e2 := long_sh ((Y - 2000) / 400) ((((Y - 2000) % 400).toNat : Nat) : Int) M
    rw [← e] at e2
    rw [← e2]
    exact h4, rfl⟩
theorem num_eq {Y M S : Int} (h1 : 1 ≤ M) (h2 : M ≤ 12) (h3 : 1 ≤ S) (h4 : S ≤ longF Y M) : numF Y M S = 146097 * ((Y - 2000) / 400) + jan ((Y - 2000) % 400).toNat + mo ((((Y - 2000) % 400).toNat : Nat) : Int) (M - 1).toNat + S - 1 := num_ok (mkCnt Y M S h1 h2 h3 h4)
theorem num_S (Y M S : Int) : numF Y M S = numF Y M 1 + S - 1 := by
  unfold numF
  omega
theorem FD_eq (m : Int) : FD m = 146097 * ((m / 12 - 2000) / 400) + jan ((m / 12 - 2000) % 400).toNat + mo ((((m / 12 - 2000) % 400).toNat : Nat) : Int) (m % 12).toNat := by
  unfold FD
  rw [num_eq (by omega) (by omega) (by omega) (by have := (long_lo (m / 12) (m % 12 + 1)).1; omega), show m % 12 + 1 - 1 = m % 12 by omega]
  omega
theorem long_mod (Y M : Int) : longF Y M = longF ((((Y - 2000) % 400).toNat : Nat) : Int) M := by
  have e : Y = 2000 + 400 * ((Y - 2000) / 400) + ((((Y - 2000) % 400).toNat : Nat) : Int) := by omega
  have e2 := long_sh ((Y - 2000) / 400) ((((Y - 2000) % 400).toNat : Nat) : Int) M
  rw [← e] at e2
  exact e2
theorem FD_step (m : Int) : FD (m + 1) = FD m + Ln m := by
  rw [FD_eq, FD_eq]
  unfold Ln
  rw [long_mod]
  by_cases h : m % 12 = 11
  · have e1 : (m + 1) / 12 = m / 12 + 1 := by omega
    have e2 : (m + 1) % 12 = 0 := by omega
    rw [e1, e2, h]
    generalize m / 12 = Y
    have hk : ((Y - 2000) % 400).toNat < 400 := by omega
    have q1 := jan_step ((Y - 2000) % 400).toNat hk
    have q2 := mo13_all ⟨((Y - 2000) % 400).toNat, hk⟩
    have q3 : mo ((((Y - 2000) % 400).toNat : Nat) : Int) 12 = mo ((((Y - 2000) % 400).toNat : Nat) : Int) 11 + longF ((((Y - 2000) % 400).toNat : Nat) : Int) (((11 : Nat) : Int) + 1) := rfl
    dsimp only at q2
    have z : ∀ y : Int, mo y (Int.toNat 0) = 0 := fun y => rfl
    rw [z, show Int.toNat 11 = 11 from rfl, show (11 : Int) + 1 = ((11 : Nat) : Int) + 1 from rfl]
    by_cases h4 : (Y - 2000) % 400 = 399
    · have e3 : (Y + 1 - 2000) / 400 = (Y - 2000) / 400 + 1 := by omega
      have e4 : (Y + 1 - 2000) % 400 = 0 := by omega
      have j0 : jan (Int.toNat 0) = 0 := rfl
      have j4 : jan (((Y - 2000) % 400).toNat + 1) = 146097 := by rw [h4]; rfl
      rw [e3, e4, j0]
      omega
    · have e3 : (Y + 1 - 2000) / 400 = (Y - 2000) / 400 := by omega
      have e4 : ((Y + 1 - 2000) % 400).toNat = ((Y - 2000) % 400).toNat + 1 := by omega
      rw [e3, e4]
      omega
  · have e1 : (m + 1) / 12 = m / 12 := by omega
    have e2 : ((m + 1) % 12).toNat = (m % 12).toNat + 1 := by omega
    rw [e1, e2]
    have q : mo ((((m / 12 - 2000) % 400).toNat : Nat) : Int) ((m % 12).toNat + 1) = mo ((((m / 12 - 2000) % 400).toNat : Nat) : Int) (m % 12).toNat + longF ((((m / 12 - 2000) % 400).toNat : Nat) : Int) ((((m % 12).toNat : Nat) : Int) + 1) := rfl
    rw [q, show (((m % 12).toNat : Nat) : Int) + 1 = m % 12 + 1 by omega]
    omega
theorem FD_cyc (m : Int) : FD (m + 4800) = FD m + 146097 := by
  rw [FD_eq, FD_eq, show (m + 4800) / 12 = m / 12 + 400 by omega, show (m + 4800) % 12 = m % 12 by omega, show (m / 12 + 400 - 2000) / 400 = (m / 12 - 2000) / 400 + 1 by omega, show (m / 12 + 400 - 2000) % 400 = (m / 12 - 2000) % 400 by omega]
  omega
theorem Ln_cyc (m : Int) : Ln (m + 4800) = Ln m := by
  unfold Ln
  rw [long_mod, long_mod (m / 12), show (m + 4800) / 12 = m / 12 + 400 by omega, show (m + 4800) % 12 = m % 12 by omega, show (m / 12 + 400 - 2000) % 400 = (m / 12 - 2000) % 400 by omega]
/-- the day d is day S of the month m -/
structure DayAt (d m S : Int) : Prop where
  eq : d = FD m + S - 1
  lo : 1 ≤ S
  hi : S ≤ Ln m
theorem day_ex (d : Int) : ∃ m S, DayAt d m S := by
  obtain ⟨Y, M, S, ⟨c⟩⟩ := cnt_ex d
  have h1 := c.hj
  have h2 := c.hM
  have h3 := num_ok c
  have e1 : (12 * Y + M - 1) / 12 = Y := by omega
  have e2 : (12 * Y + M - 1) % 12 + 1 = M := by omega
  refine ⟨12 * Y + M - 1, S, ?_, c.lo, ?_⟩
  · unfold FD
    rw [e1, e2, ← num_S]
    exact h3.symm
  · unfold Ln
    rw [e1, e2, long_y c]
    exact c.hi
theorem date_at {d m S : Int} (h : DayAt d m S) : dateF d = .tup [.int (m / 12), .int (m % 12 + 1), .int S] := by
  have c := mkCnt (m / 12) (m % 12 + 1) S (by omega) (by omega) h.lo h.hi
  have e := num_ok c
  rw [num_S] at e
  have e2 : d = 146097 * ((m / 12 - 2000) / 400) + jan ((m / 12 - 2000) % 400).toNat + mo ((((m / 12 - 2000) % 400).toNat : Nat) : Int) (m % 12 + 1 - 1).toNat + S - 1 := by
    rw [← e]
    exact h.eq
  have q := date_ok c
  rw [← e2] at q
  exact q
theorem day_next {d m S : Int} (h : DayAt d m S) : DayAt (d + 1) m (S + 1) ∨ (S = Ln m ∧ DayAt (d + 1) (m + 1) 1) := by
  have h1 := h.eq
  have h2 := h.lo
  have h3 := h.hi
  have h4 := FD_step m
  have h5 := Ln_lo (m + 1)
  by_cases hs : S < Ln m
  · exact .inl ⟨by omega, by omega, by omega⟩
  · exact .inr ⟨by omega, by omega, by omega, by omega⟩
theorem FD_mono (m : Int) : ∀ n : Nat, FD m ≤ FD (m + n)
  | 0 => by rw [show m + ((0 : Nat) : Int) = m by omega]; exact Int.le_refl _
  | n + 1 => by
    have a := FD_mono m n
    have b := FD_step (m + n)
    have c := Ln_lo (m + n)
    rw [show m + ((n + 1 : Nat) : Int) = m + n + 1 by omega]
    omega
theorem num_at (m S : Int) : numF (m / 12) (m % 12 + 1) S = FD m + S - 1 := num_S _ _ _
end Pu

set_option Elab.async false
set_option linter.all false
set_option autoImplicit false
set_option maxRecDepth 100000
set_option maxHeartbeats 4000000
namespace Pu
def wk (d : Int) : Bool := decide ((d - 2) % 7 < 5)
def wa (d : Int) : Int := 5 * ((d - 2) / 7) + (if 5 < (d - 2) % 7 then 5 else (d - 2) % 7)
def dayN (n : Int) : Int := 2 + 7 * (n / 5) + n % 5
def inS (a b : Int) (h : Int) : Bool := decide (a ≤ h) && (decide (h ≤ b) && wk h)
def lost (a b : Int) (hs : List Int) : Int := ((hs.filter (inS a b)).length : Int)
def isO (hs : List Int) (d : Int) : Bool := wk d && !hs.contains d
def opn (hs : List Int) (a b : Int) : Int := wa (b + 1) - wa a - lost a b hs
theorem wa_step (d : Int) : wa (d + 1) = wa d + (if wk d then 1 else 0) := by
  unfold wa wk
  simp only [decide_eq_true_eq]
  repeat' split
  all_goals omega
theorem wa_dayN (n : Int) : wa (dayN n) = n ∧ wk (dayN n) = true := by
  unfold wa dayN wk
  have e1 : (2 + 7 * (n / 5) + n % 5 - 2) / 7 = n / 5 := by omega
  have e2 : (2 + 7 * (n / 5) + n % 5 - 2) % 7 = n % 5 := by omega
  rw [e1, e2, if_neg (by omega)]
  exact ⟨by omega, decide_eq_true (by omega)⟩
theorem dayN_wa {d : Int} (h : wk d = true) : dayN (wa d) = d := by
  have h2 := of_decide_eq_true h
  unfold wa dayN
  rw [if_neg (by omega)]
  omega
theorem dayN_mono {m n : Int} (h : m ≤ n) : dayN m ≤ dayN n := by
  unfold dayN
  omega
theorem dayN_lt {m n : Int} (h : m < n) : dayN m < dayN n := by
  unfold dayN
  omega
theorem wa_mono {a b : Int} (h : a ≤ b) : wa a ≤ wa b := by
  unfold wa
  repeat' split
  all_goals omega
theorem wa_week (d w : Int) : wa (d + 7 * w) = wa d + 5 * w := by
  unfold wa
  have e1 : (d + 7 * w - 2) / 7 = (d - 2) / 7 + w := by omega
  have e2 : (d + 7 * w - 2) % 7 = (d - 2) % 7 := by omega
  rw [e1, e2]
  omega
theorem lost_nn (a b : Int) (hs : List Int) : 0 ≤ lost a b hs := by unfold lost; omega
theorem lost_le (a b : Int) (hs : List Int) : lost a b hs ≤ hs.length := by
  unfold lost
  have := List.length_filter_le (inS a b) hs
  omega
theorem lost_cons (a b h : Int) (hs : List Int) : lost a b (h :: hs) = lost a b hs + (if inS a b h then 1 else 0) := by
  unfold lost
  rw [List.filter_cons]
  split <;> simp
theorem lost_join {a b c : Int} (h1 : a ≤ b + 1) (h2 : b ≤ c) : ∀ hs : List Int, lost a c hs = lost a b hs + lost (b + 1) c hs
  | [] => rfl
  | h :: hs => by
    rw [lost_cons, lost_cons, lost_cons, lost_join h1 h2 hs]
    have e : (if inS a c h = true then (1 : Int) else 0) = (if inS a b h = true then 1 else 0) + (if inS (b + 1) c h = true then 1 else 0) := by
      unfold inS
      cases wk h with
      | false => simp
      | true =>
        simp only [Bool.and_true, Bool.and_eq_true, decide_eq_true_eq]
        repeat' split
        all_goals omega
    omega
theorem lost_mono {a b c : Int} (h2 : b ≤ c) (hs : List Int) : lost a b hs ≤ lost a c hs := by
  induction hs with
  | nil => exact Int.le_refl _
  | cons h hs ih =>
    rw [lost_cons, lost_cons]
    have e : (if inS a b h = true then (1 : Int) else 0) ≤ (if inS a c h = true then 1 else 0) := by
      unfold inS
      cases wk h with
      | false => simp
      | true =>
        simp only [Bool.and_true, Bool.and_eq_true, decide_eq_true_eq]
        repeat' split
        all_goals omega
    omega
theorem lost_none {a b : Int} (h : b < a) : ∀ hs : List Int, lost a b hs = 0
  | [] => rfl
  | x :: hs => by
    rw [lost_cons, lost_none h hs]
    have e : inS a b x = false := by
      unfold inS
      cases wk x with
      | false => simp
      | true => simp; omega
    rw [e]
    rfl
theorem lost_one {a : Int} : ∀ {hs : List Int}, hs.Nodup → lost a a hs = if (wk a && hs.contains a) then 1 else 0
  | [], _ => by
    show (0 : Int) = _
    simp
  | h :: hs, nd => by
    have n2 := List.nodup_cons.mp nd
    rw [lost_cons, lost_one n2.2]
    by_cases e : h = a
    · subst e
      have c : hs.contains h = false := by
        rw [Bool.eq_false_iff]
        intro z
        exact n2.1 (List.contains_iff_mem.mp z)
      have c2 : (h :: hs).contains h = true := List.contains_iff_mem.mpr List.mem_cons_self
      rw [c, c2]
      unfold inS
      cases wk h <;> simp
    · have c : (h :: hs).contains a = hs.contains a := by
        rw [List.contains_cons]
        have : (a == h) = false := beq_eq_false_iff_ne.mpr fun z => e z.symm
        rw [this]
        rfl
      have i : inS a a h = false := by
        unfold inS
        cases wk h with
        | false => simp
        | true => simp; omega
      rw [c, i]
      simp
theorem opn_join (hs : List Int) {a b c : Int} (h1 : a ≤ b + 1) (h2 : b ≤ c) : opn hs a c = opn hs a b + opn hs (b + 1) c := by
  unfold opn
  rw [lost_join h1 h2]
  omega
theorem opn_one {hs : List Int} (nd : hs.Nodup) (a : Int) : opn hs a a = if isO hs a then 1 else 0 := by
  unfold opn isO
  rw [lost_one nd, wa_step]
  cases wk a <;> cases hs.contains a <;> simp <;> omega
theorem opn_none (hs : List Int) (a : Int) : opn hs a (a - 1) = 0 := by
  unfold opn
  rw [lost_none (by omega), show a - 1 + 1 = a by omega]
  omega
theorem opn_step {hs : List Int} (nd : hs.Nodup) {a b : Int} (h : a ≤ b + 1) : opn hs a (b + 1) = opn hs a b + (if isO hs (b + 1) then 1 else 0) := by
  rw [opn_join hs h (show b ≤ b + 1 by omega), opn_one nd]
theorem opn_mono {hs : List Int} (nd : hs.Nodup) (a : Int) : ∀ (n : Nat) (b : Int), a ≤ b + 1 → opn hs a b ≤ opn hs a (b + n)
  | 0, b, _ => by rw [show b + ((0 : Nat) : Int) = b by omega]; exact Int.le_refl _
  | n + 1, b, h => by
    have i := opn_mono nd a n b h
    have s := opn_step nd (a := a) (b := b + n) (by omega)
    rw [show b + ((n + 1 : Nat) : Int) = b + n + 1 by omega, s]
    split <;> omega
theorem opn_le {hs : List Int} (nd : hs.Nodup) {a b c : Int} (h : a ≤ b + 1) (h2 : b ≤ c) : opn hs a b ≤ opn hs a c := by
  have := opn_mono nd a (c - b).toNat b h
  rw [show b + ((c - b).toNat : Int) = c by omega] at this
  exact this
/-- x is the n-th open day behind d -/
structure Beh (hs : List Int) (d n x : Int) : Prop where
  gt : d < x
  op : isO hs x = true
  cnt : opn hs (d + 1) x = n
theorem Beh.uniq {hs : List Int} (nd : hs.Nodup) {d n x y : Int} (h1 : Beh hs d n x) (h2 : Beh hs d n y) : x = y := by
  have key : ∀ {x y : Int}, Beh hs d n x → Beh hs d n y → ¬ x < y := by
    intro x y a b h
    have g := a.gt
    have s := opn_step nd (a := d + 1) (b := y - 1) (by omega)
    rw [show y - 1 + 1 = y by omega, b.op, if_pos rfl, b.cnt] at s
    have m := opn_le nd (a := d + 1) (b := x) (c := y - 1) (by omega) (by omega)
    rw [a.cnt] at m
    omega
  have a := key h1 h2
  have b := key h2 h1
  omega
/-- if so many are there, one of them is the last -/
theorem beh_of {hs : List Int} (nd : hs.Nodup) {d n : Int} (h0 : 1 ≤ n) : ∀ (k : Nat), n ≤ opn hs (d + 1) (d + k) → ∃ x, Beh hs d n x ∧ x ≤ d + k
  | 0, h => by
    have := opn_none hs (d + 1)
    rw [show d + 1 - 1 = d + ((0 : Nat) : Int) by omega] at this
    omega
  | k + 1, h => by
    have s := opn_step nd (a := d + 1) (b := d + k) (by omega)
    rw [show d + (k : Int) + 1 = d + ((k + 1 : Nat) : Int) by omega] at s
    by_cases q : n ≤ opn hs (d + 1) (d + k)
    · obtain ⟨x, h1, h2⟩ := beh_of nd h0 k q
      exact ⟨x, h1, by omega⟩
    · by_cases o : isO hs (d + ((k + 1 : Nat) : Int)) = true
      · rw [if_pos o] at s
        exact ⟨d + ((k + 1 : Nat) : Int), ⟨by omega, o, by omega⟩, Int.le_refl _⟩
      · rw [if_neg o] at s
        omega
/-- one turn of the search -/
def nxt (hs : List Int) (d n l : Int) : Int := dayN (wa (d + 1) + n + l - 1)
theorem nxt_gt (hs : List Int) {d n l : Int} (h0 : 1 ≤ n) (h1 : 0 ≤ l) : d < nxt hs d n l := by
  have e := (wa_dayN (wa (d + 1) + n + l - 1)).1
  by_cases h : d + 1 ≤ dayN (wa (d + 1) + n + l - 1)
  · show d < dayN _
    omega
  · have s := wa_mono (a := dayN (wa (d + 1) + n + l - 1) + 1) (b := d + 1) (by omega)
    have w := wa_step (dayN (wa (d + 1) + n + l - 1))
    rw [(wa_dayN _).2, if_pos rfl, e] at w
    omega
theorem beh_lost {hs : List Int} (nd : hs.Nodup) {d n x : Int} (b : Beh hs d n x) : x = nxt hs d n (lost (d + 1) x hs) := by
  have c := b.cnt
  have o := b.op
  unfold isO at o
  rw [Bool.and_eq_true] at o
  unfold opn at c
  rw [wa_step, if_pos o.1] at c
  unfold nxt
  rw [show wa (d + 1) + n + lost (d + 1) x hs - 1 = wa x by omega, dayN_wa o.1]
theorem fix_beh {hs : List Int} (nd : hs.Nodup) {d n x l : Int} (h0 : 1 ≤ n) (hx : x = nxt hs d n l) (hl : l = lost (d + 1) x hs) : ∃ y, Beh hs d n y ∧ y ≤ x := by
  have l0 : 0 ≤ l := by rw [hl]; exact lost_nn _ _ _
  have g := nxt_gt hs (d := d) (n := n) (l := l) h0 l0
  have e := wa_dayN (wa (d + 1) + n + l - 1)
  have c : opn hs (d + 1) x = n := by
    unfold opn
    rw [wa_step, ← hl, hx]
    unfold nxt
    rw [e.1, e.2, if_pos rfl]
    omega
  obtain ⟨y, h1, h2⟩ := beh_of nd h0 (x - d).toNat (by rw [show d + ((x - d).toNat : Int) = x by rw [← hx] at g; omega, c]; exact Int.le_refl _)
  exact ⟨y, h1, by rw [← hx] at g; omega⟩
end Pu

set_option Elab.async false
set_option linter.all false
set_option autoImplicit false
set_option maxRecDepth 100000
set_option maxHeartbeats 4000000
namespace Lw
open PySem L2 Pl
abbrev ix_is_integer : Nat := 0
abbrev ix_is_from : Nat := 1
abbrev ix_is_between : Nat := 2
abbrev ix_is_index : Nat := 3
abbrev ix_is_ascending : Nat := 4
abbrev ix_check_index : Nat := 5
abbrev ix_are_turns : Nat := 6
abbrev ix_is_places : Nat := 7
abbrev ix_is_stretch : Nat := 8
abbrev ix_is_entry_of : Nat := 9
abbrev ix_are_ends : Nat := 10
abbrev ix_is_tie_of : Nat := 11
abbrev ix_is_book : Nat := 12
abbrev ix_check_book : Nat := 13
abbrev ix_check_day : Nat := 14
abbrev ix_nought_in : Nat := 15
abbrev ix_mark_in : Nat := 16
abbrev ix_check_term : Nat := 17
abbrev ix_check_holidays : Nat := 18
abbrev ix_date_of : Nat := 19
abbrev ix_number_of_date : Nat := 20
abbrev ix_month_length : Nat := 21
abbrev ix_weekday_of : Nat := 22
abbrev ix_is_open_day : Nat := 23
abbrev ix_is_open : Nat := 24
abbrev ix_workdays_ahead : Nat := 25
abbrev ix_workday_at : Nat := 26
abbrev ix_lost_workdays : Nat := 27
abbrev ix_open_days : Nat := 28
abbrev ix_open_day_behind : Nat := 29
abbrev ix_due_of : Nat := 30
abbrev ix_due_day : Nat := 31
abbrev ix_due_mark_in : Nat := 32
abbrev ix_due_mark : Nat := 33
abbrev ix__law_purse : Nat := 34
abbrev ix__law_take : Nat := 35
abbrev ix__law_pick : Nat := 36
abbrev ix__law_match : Nat := 37
abbrev ix__law_long : Nat := 38
abbrev ix__law_counted : Nat := 39
abbrev ix__law_drawn_day : Nat := 40
abbrev ix__law_drawn_holidays : Nat := 41
abbrev ix__law_is_work : Nat := 42
abbrev ix__law_walked : Nat := 43
abbrev ix__law_month_on : Nat := 44
abbrev ix__law_due : Nat := 45
abbrev ix__law_mark_right : Nat := 46
abbrev ix_law : Nat := 47
abbrev gx_MINUTES : Nat := 0
abbrev gx_APART : Nat := 1
abbrev gx_LOOK : Nat := 2
abbrev gx_DAYS : Nat := 3
abbrev gx_OPEN : Nat := 4
abbrev gx_MONTHS : Nat := 5
abbrev gx_END : Nat := 6
abbrev gx_TERM_WORDS : Nat := 7
abbrev gx_MONTH_DAYS : Nat := 8
abbrev gx_FIRST_MONDAY : Nat := 9
abbrev gx_FIRST_MARCH : Nat := 10
abbrev gx_CYCLE : Nat := 11
abbrev cx_DueError : Nat := 0
abbrev cx_InvalidIndex : Nat := 1
abbrev cx_InvalidBook : Nat := 2
abbrev cx_InvalidDay : Nat := 3
abbrev cx_InvalidTerm : Nat := 4
abbrev cx_InvalidHolidays : Nat := 5
/-- is_integer(thing); slots: 0=thing -/
def bd_is_integer : List Sm := [.ret (.and [.isi (.var 0) [.int] false 6, .not (.isi (.var 0) [.bool] false 6)])]
/-- is_from(low, thing); slots: 0=low 1=thing -/
def bd_is_from : List Sm := [.ret (.and [.call ix_is_integer [.var 1] [] [], .cmp .GtE (.var 1) (.var 0)])]
/-- is_between(low, thing, high); slots: 0=low 1=thing 2=high -/
def bd_is_between : List Sm := [.ret (.and [.call ix_is_integer [.var 1] [] [], .chain .LtE .LtE (.var 0) (.var 1) (.var 2)])]
/-- is_index(count, thing); slots: 0=count 1=thing -/
def bd_is_index : List Sm := [.ret (.call ix_is_between [.lit (.int 0), .var 1, .bin .Sub (.var 0) (.lit (.int 1))] [] [])]
/-- is_ascending(things); slots: 0=things 1=part 2=later -/
def bd_is_ascending : List Sm := [.ret (.bi .all [.comp (.cmp .Lt (.var 1) (.var 2)) (.t [.v 1, .v 2]) [1, 2] (.zip (.var 0) (.slc (.var 0) (some (.lit (.int 1))) none)) []])]
/-- check_index(count, thing); slots: 0=count 1=thing -/
def bd_check_index : List Sm := [.ife (.not (.call ix_is_index [.var 0, .var 1] [] [])) [.raise cx_InvalidIndex "this is no index"] []]
/-- are_turns(thing); slots: 0=thing 1=day 2=later 3=part -/
def bd_are_turns : List Sm := [.ife (.or [.not (.isi (.var 0) [.tuple] false 6), .not (.bi .all [.comp (.call ix_is_integer [.var 3] [] []) (.v 3) [3] (.var 0) []])]) [.ret (.lit (.bl false))] [],
  .ret (.bi .all [.comp (.cmp .GtE (.bin .Sub (.var 2) (.var 1)) (.lit (.int 2))) (.t [.v 1, .v 2]) [1, 2] (.zip (.var 0) (.slc (.var 0) (some (.lit (.int 1))) none)) []])]
/-- is_places(value); slots: 0=value 1=part -/
def bd_is_places : List Sm := [.ret (.and [.isi (.var 0) [.tuple] false 6, .cmp .NotEq (.var 0) (.tup []), .bi .all [.comp (.call ix_are_turns [.var 1] [] []) (.v 1) [1] (.var 0) []]])]
/-- is_stretch(places, place, stretch); slots: 0=places 1=place 2=stretch -/
def bd_is_stretch : List Sm := [.ret (.and [.call ix_is_index [.bi .len [.var 0], .var 1] [] [], .call ix_is_index [.bin .Add (.bi .len [.idx (.var 0) (.var 1)]) (.lit (.int 1)), .var 2] [] []])]
/-- is_entry_of(places, thing); slots: 0=places 1=thing 2=turns 3=stretch 4=day -/
def bd_is_entry_of : List Sm := [.ife (.or [.not (.isi (.var 1) [.tuple] false 6), .cmp .NotEq (.bi .len [.var 1]) (.lit (.int 3)), .not (.call ix_is_integer [.idx (.var 1) (.lit (.int 2))] [] [])]) [.ret (.lit (.bl false))] [],
  .ife (.not (.call ix_is_stretch [.var 0, .idx (.var 1) (.lit (.int 0)), .idx (.var 1) (.lit (.int 1))] [] [])) [.ret (.lit (.bl false))] [],
  .par [2, 3, 4] [.idx (.var 0) (.idx (.var 1) (.lit (.int 0))), .idx (.var 1) (.lit (.int 1)), .bin .FloorDiv (.idx (.var 1) (.lit (.int 2))) (.glob gx_MINUTES)],
  .ife (.and [.cmp .Gt (.var 3) (.lit (.int 0)), .cmp .Lt (.var 4) (.bin .Sub (.idx (.var 2) (.bin .Sub (.var 3) (.lit (.int 1)))) (.lit (.int 1)))]) [.ret (.lit (.bl false))] [],
  .ret (.or [.cmp .Eq (.var 3) (.bi .len [.var 2]), .cmp .Lt (.var 4) (.idx (.var 2) (.var 3))])]
/-- are_ends(least, most); slots: 0=least 1=most -/
def bd_are_ends : List Sm := [.ife (.cmp .Is (.var 0) (.lit (.non))) [.ret (.call ix_is_integer [.var 1] [] [])] [],
  .ret (.and [.call ix_is_integer [.var 0] [] [], .or [.cmp .Is (.var 1) (.lit (.non)), .and [.call ix_is_integer [.var 1] [] [], .cmp .LtE (.var 0) (.var 1)]]])]
/-- is_tie_of(places, entries, thing); slots: 0=places 1=entries 2=thing 3=word 4=place 5=stretch 6=other_place 7=other_stretch 8=one 9=other -/
def bd_is_tie_of : List Sm := [.ife (.or [.not (.isi (.var 2) [.tuple] false 6), .cmp .NotIn (.bi .len [.var 2]) (.tup [.lit (.int 5), .lit (.int 7)]), .not (.isi (.idx (.var 2) (.lit (.int 0))) [.str] false 6)]) [.ret (.lit (.bl false))] [],
  .ife (.not (.call ix_are_ends [.idx (.var 2) (.neg (.lit (.int 2))), .idx (.var 2) (.neg (.lit (.int 1)))] [] [])) [.ret (.lit (.bl false))] [],
  .ife (.cmp .Eq (.bi .len [.var 2]) (.lit (.int 5))) [.asg (.t [.v 3, .v 8, .v 9]) (.slc (.var 2) none (some (.lit (.int 3)))),
  .ret (.and [.cmp .Eq (.var 3) (.glob gx_LOOK), .call ix_is_index [.bi .len [.var 1], .var 8] [] [], .call ix_is_index [.bi .len [.var 1], .var 9] [] [], .cmp .NotEq (.var 8) (.var 9)])] [],
  .asg (.t [.v 3, .v 4, .v 5, .v 6, .v 7]) (.slc (.var 2) none (some (.lit (.int 5)))),
  .ife (.or [.cmp .NotEq (.var 3) (.glob gx_APART), .not (.call ix_is_stretch [.var 0, .var 4, .var 5] [] []), .not (.call ix_is_stretch [.var 0, .var 6, .var 7] [] [])]) [.ret (.lit (.bl false))] [],
  .ret (.cmp .NotEq (.tup [.var 4, .var 5]) (.tup [.var 6, .var 7]))]
/-- is_book(value); slots: 0=value 1=places 2=entries 3=ties 4=part -/
def bd_is_book : List Sm := [.ife (.or [.not (.isi (.var 0) [.tuple] false 6), .cmp .NotEq (.bi .len [.var 0]) (.lit (.int 3)), .not (.call ix_is_places [.idx (.var 0) (.lit (.int 0))] [] [])]) [.ret (.lit (.bl false))] [],
  .asg (.t [.v 1, .v 2, .v 3]) (.var 0),
  .ife (.or [.not (.isi (.var 2) [.tuple] false 6), .not (.bi .all [.comp (.call ix_is_entry_of [.var 1, .var 4] [] []) (.v 4) [4] (.var 2) []])]) [.ret (.lit (.bl false))] [],
  .ret (.and [.isi (.var 3) [.tuple] false 6, .bi .all [.comp (.call ix_is_tie_of [.var 1, .var 2, .var 4] [] []) (.v 4) [4] (.var 3) []]])]
/-- check_book(thing); slots: 0=thing -/
def bd_check_book : List Sm := [.ife (.not (.call ix_is_book [.var 0] [] [])) [.raise cx_InvalidBook "this is no book"] []]
/-- check_day(thing); slots: 0=thing -/
def bd_check_day : List Sm := [.ife (.not (.call ix_is_integer [.var 0] [] [])) [.raise cx_InvalidDay "this is no day"] []]
/-- nought_in(places, place, stretch); slots: 0=places 1=place 2=stretch 3=turns -/
def bd_nought_in : List Sm := [.ret (.bin .Add (.bi .sum [.comp (.bin .Add (.bi .len [.var 3]) (.lit (.int 1))) (.v 3) [3] (.slc (.var 0) none (some (.var 1))) []]) (.var 2))]
/-- mark_in(places, place, day); slots: 0=places 1=place 2=day 3=stretch 4=turn -/
def bd_mark_in : List Sm := [.asg (.v 3) (.bi .len [.comp (.var 4) (.v 4) [4] (.idx (.var 0) (.var 1)) [.cmp .LtE (.var 4) (.var 2)]]),
  .ret (.tup [.call ix_nought_in [.var 0, .var 1, .var 3] [] [], .bin .Mult (.glob gx_MINUTES) (.var 2)])]
/-- check_term(thing); slots: 0=thing 1=good -/
def bd_check_term : List Sm := [.asg (.v 1) (.and [.isi (.var 0) [.tuple] false 6, .cmp .Eq (.bi .len [.var 0]) (.lit (.int 2)), .isi (.idx (.var 0) (.lit (.int 0))) [.str] false 6, .cmp .In (.idx (.var 0) (.lit (.int 0))) (.glob gx_TERM_WORDS)]),
  .ife (.or [.not (.var 1), .not (.call ix_is_from [.lit (.int 0), .idx (.var 0) (.lit (.int 1))] [] [])]) [.raise cx_InvalidTerm "this is no term"] []]
/-- check_holidays(thing); slots: 0=thing 1=part -/
def bd_check_holidays : List Sm := [.ife (.or [.not (.isi (.var 0) [.tuple] false 6), .not (.bi .all [.comp (.call ix_is_integer [.var 1] [] []) (.v 1) [1] (.var 0) []]), .not (.call ix_is_ascending [.var 0] [] [])]) [.raise cx_InvalidHolidays "these are no holidays"] []]
/-- date_of(day); slots: 0=day 1=years 2=rest 3=months 4=month 5=cycle -/
def bd_date_of : List Sm := [.asg (.t [.v 5, .v 2]) (.bi .divmod [.bin .Sub (.var 0) (.glob gx_FIRST_MARCH), .glob gx_CYCLE]),
  .asg (.v 1) (.bin .FloorDiv (.bin .Sub (.bin .Add (.bin .Sub (.var 2) (.bin .FloorDiv (.var 2) (.lit (.int 1460)))) (.bin .FloorDiv (.var 2) (.lit (.int 36524)))) (.bin .FloorDiv (.var 2) (.lit (.int 146096)))) (.lit (.int 365))),
  .asg (.v 2) (.bin .Add (.bin .Sub (.bin .Sub (.var 2) (.bin .Mult (.lit (.int 365)) (.var 1))) (.bin .FloorDiv (.var 1) (.lit (.int 4)))) (.bin .FloorDiv (.var 1) (.lit (.int 100)))),
  .asg (.v 3) (.bin .FloorDiv (.bin .Add (.bin .Mult (.lit (.int 5)) (.var 2)) (.lit (.int 2))) (.lit (.int 153))),
  .asg (.v 4) (.ife (.cmp .Lt (.var 3) (.lit (.int 10))) (.bin .Add (.var 3) (.lit (.int 3))) (.bin .Sub (.var 3) (.lit (.int 9)))),
  .frz 4,
  .ret (.tup [.bin .Add (.bin .Add (.bin .Add (.lit (.int 2000)) (.bin .Mult (.lit (.int 400)) (.var 5))) (.var 1)) (.ife (.cmp .Lt (.var 4) (.lit (.int 3))) (.lit (.int 1)) (.lit (.int 0))), .var 4, .bin .Add (.bin .Sub (.var 2) (.bin .FloorDiv (.bin .Add (.bin .Mult (.lit (.int 153)) (.var 3)) (.lit (.int 2))) (.lit (.int 5)))) (.lit (.int 1))])]
/-- number_of_date(year, month, day); slots: 0=year 1=month 2=day 3=years 4=months 5=cycle 6=rest -/
def bd_number_of_date : List Sm := [.asg (.t [.v 3, .v 4]) (.ife (.cmp .Gt (.var 1) (.lit (.int 2))) (.tup [.var 0, .bin .Sub (.var 1) (.lit (.int 3))]) (.tup [.bin .Sub (.var 0) (.lit (.int 1)), .bin .Add (.var 1) (.lit (.int 9))])),
  .asg (.t [.v 5, .v 6]) (.bi .divmod [.bin .Sub (.var 3) (.lit (.int 2000)), .lit (.int 400)]),
  .ret (.bin .Sub (.bin .Add (.bin .Add (.bin .Sub (.bin .Add (.bin .Add (.bin .Add (.glob gx_FIRST_MARCH) (.bin .Mult (.glob gx_CYCLE) (.var 5))) (.bin .Mult (.lit (.int 365)) (.var 6))) (.bin .FloorDiv (.var 6) (.lit (.int 4)))) (.bin .FloorDiv (.var 6) (.lit (.int 100)))) (.bin .FloorDiv (.bin .Add (.bin .Mult (.lit (.int 153)) (.var 4)) (.lit (.int 2))) (.lit (.int 5)))) (.var 2)) (.lit (.int 1)))]
/-- month_length(year, month); slots: 0=year 1=month -/
def bd_month_length : List Sm := [.ife (.and [.cmp .Eq (.var 1) (.lit (.int 2)), .or [.cmp .Eq (.bin .Mod (.bi .int [.var 0]) (.lit (.int 400))) (.lit (.int 0)), .and [.cmp .Eq (.bin .Mod (.bi .int [.var 0]) (.lit (.int 4))) (.lit (.int 0)), .cmp .NotEq (.bin .Mod (.bi .int [.var 0]) (.lit (.int 100))) (.lit (.int 0))]]]) [.ret (.lit (.int 29))] [],
  .ret (.idx (.glob gx_MONTH_DAYS) (.bin .Sub (.var 1) (.lit (.int 1))))]
/-- weekday_of(day); slots: 0=day -/
def bd_weekday_of : List Sm := [.ret (.bin .Mod (.bi .int [.bin .Sub (.var 0) (.glob gx_FIRST_MONDAY)]) (.lit (.int 7)))]
/-- is_open_day(day, holidays); slots: 0=day 1=holidays -/
def bd_is_open_day : List Sm := [.ret (.and [.cmp .Lt (.call ix_weekday_of [.var 0] [] []) (.lit (.int 5)), .cmp .NotIn (.var 0) (.var 1)])]
/-- is_open(day, holidays); slots: 0=day 1=holidays -/
def bd_is_open : List Sm := [.expr (.call ix_check_day [.var 0] [] []),
  .expr (.call ix_check_holidays [.var 1] [] []),
  .ret (.call ix_is_open_day [.var 0, .var 1] [] [])]
/-- workdays_ahead(day); slots: 0=day 1=weeks 2=rest -/
def bd_workdays_ahead : List Sm := [.asg (.t [.v 1, .v 2]) (.bi .divmod [.bin .Sub (.var 0) (.glob gx_FIRST_MONDAY), .lit (.int 7)]),
  .ret (.bin .Add (.bin .Mult (.lit (.int 5)) (.var 1)) (.bi .min2 [.var 2, .lit (.int 5)]))]
/-- workday_at(number); slots: 0=number 1=weeks 2=rest -/
def bd_workday_at : List Sm := [.asg (.t [.v 1, .v 2]) (.bi .divmod [.var 0, .lit (.int 5)]),
  .ret (.bin .Add (.bin .Add (.glob gx_FIRST_MONDAY) (.bin .Mult (.lit (.int 7)) (.var 1))) (.var 2))]
/-- lost_workdays(first_day, last_day, holidays); slots: 0=first_day 1=last_day 2=holidays 3=day -/
def bd_lost_workdays : List Sm := [.ret (.bi .len [.comp (.var 3) (.v 3) [3] (.var 2) [.and [.chain .LtE .LtE (.var 0) (.var 3) (.var 1), .cmp .Lt (.call ix_weekday_of [.var 3] [] []) (.lit (.int 5))]]])]
/-- open_days(first_day, last_day, holidays); slots: 0=first_day 1=last_day 2=holidays 3=found -/
def bd_open_days : List Sm := [.expr (.call ix_check_day [.var 0] [] []),
  .expr (.call ix_check_day [.var 1] [] []),
  .expr (.call ix_check_holidays [.var 2] [] []),
  .ife (.cmp .Lt (.var 1) (.var 0)) [.ret (.lit (.int 0))] [],
  .asg (.v 3) (.bin .Sub (.call ix_workdays_ahead [.bin .Add (.var 1) (.lit (.int 1))] [] []) (.call ix_workdays_ahead [.var 0] [] [])),
  .ret (.bin .Sub (.var 3) (.call ix_lost_workdays [.var 0, .var 1, .var 2] [] []))]
/-- open_day_behind(day, number, holidays); slots: 0=day 1=number 2=holidays 3=ahead 4=found 5=lost -/
def bd_open_day_behind : List Sm := [.asg (.v 3) (.call ix_workdays_ahead [.bin .Add (.var 0) (.lit (.int 1))] [] []),
  .asg (.v 4) (.call ix_workday_at [.bin .Sub (.bin .Add (.var 3) (.var 1)) (.lit (.int 1))] [] []),
  .frz 4,
  .asg (.v 5) (.call ix_lost_workdays [.bin .Add (.var 0) (.lit (.int 1)), .var 4, .var 2] [] []),
  .frz 4,
  .while_ (.cmp .NotEq (.var 4) (.call ix_workday_at [.bin .Sub (.bin .Add (.bin .Add (.var 3) (.var 1)) (.var 5)) (.lit (.int 1))] [] [])) [.asg (.v 4) (.call ix_workday_at [.bin .Sub (.bin .Add (.bin .Add (.var 3) (.var 1)) (.var 5)) (.lit (.int 1))] [] []),
  .frz 4,
  .asg (.v 5) (.call ix_lost_workdays [.bin .Add (.var 0) (.lit (.int 1)), .var 4, .var 2] [] [])],
  .retV 4]
/-- due_of(day, term, holidays); slots: 0=day 1=term 2=holidays 3=length 4=word 5=number 6=year 7=month 8=day_of_month 9=years 10=months -/
def bd_due_of : List Sm := [.asg (.t [.v 4, .v 5]) (.var 1),
  .ife (.cmp .Eq (.var 4) (.glob gx_DAYS)) [.ret (.bin .Add (.var 0) (.var 5))] [],
  .ife (.cmp .Eq (.var 4) (.glob gx_OPEN)) [.ret (.ife (.and [.cmp .Eq (.var 5) (.lit (.int 0)), .call ix_is_open_day [.var 0, .var 2] [] []]) (.var 0) (.call ix_open_day_behind [.var 0, .bi .max2 [.lit (.int 1), .var 5], .var 2] [] []))] [],
  .asg (.t [.v 6, .v 7, .v 8]) (.call ix_date_of [.var 0] [] []),
  .asg (.t [.v 9, .v 10]) (.bi .divmod [.bin .Add (.bin .Sub (.var 7) (.lit (.int 1))) (.var 5), .lit (.int 12)]),
  .asg (.v 3) (.call ix_month_length [.bin .Add (.var 6) (.var 9), .bin .Add (.var 10) (.lit (.int 1))] [] []),
  .ret (.call ix_number_of_date [.bin .Add (.var 6) (.var 9), .bin .Add (.var 10) (.lit (.int 1)), .ife (.cmp .Eq (.var 4) (.glob gx_END)) (.var 3) (.bi .min2 [.var 8, .var 3])] [] [])]
/-- due_day(day, term, holidays); slots: 0=day 1=term 2=holidays -/
def bd_due_day : List Sm := [.expr (.call ix_check_day [.var 0] [] []),
  .expr (.call ix_check_term [.var 1] [] []),
  .expr (.call ix_check_holidays [.var 2] [] []),
  .ret (.call ix_due_of [.var 0, .var 1, .var 2] [] [])]
/-- due_mark_in(places, entry, term, holidays); slots: 0=places 1=entry 2=term 3=holidays -/
def bd_due_mark_in : List Sm := [.ret (.call ix_mark_in [.var 0, .idx (.var 1) (.lit (.int 0)), .bin .Add (.call ix_due_of [.bin .FloorDiv (.idx (.var 1) (.lit (.int 2))) (.glob gx_MINUTES), .var 2, .var 3] [] []) (.lit (.int 1))] [] [])]
/-- due_mark(book, entry_number, term, holidays); slots: 0=book 1=entry_number 2=term 3=holidays -/
def bd_due_mark : List Sm := [.expr (.call ix_check_book [.var 0] [] []),
  .expr (.call ix_check_index [.bi .len [.idx (.var 0) (.lit (.int 1))], .var 1] [] []),
  .expr (.call ix_check_term [.var 2] [] []),
  .expr (.call ix_check_holidays [.var 3] [] []),
  .ret (.call ix_due_mark_in [.idx (.var 0) (.lit (.int 0)), .idx (.idx (.var 0) (.lit (.int 1))) (.var 1), .var 2, .var 3] [] [])]
/-- _law_purse(_law_script, _law_at); slots: 0=_law_script 1=_law_at 2=_law_cell -/
def bd__law_purse : List Sm := [.asg (.v 2) (.ife (.cmp .Lt (.var 1) (.bi .len [.var 0])) (.idx (.var 0) (.var 1)) (.lit (.int 0))),
  .ret (.lst [.bi .max2 [.lit (.int 0), .bin .Sub (.bi .abs [.var 2]) (.bin .Pow (.lit (.int 10)) (.lit (.int 18)))], .bin .Add (.bin .Add (.bin .Mult (.bin .Mod (.bi .int [.var 2]) (.bin .Add (.bin .Pow (.lit (.int 10)) (.lit (.int 37))) (.lit (.int 9)))) (.lit (.int 73))) (.bin .Mult (.lit (.int 89)) (.var 1))) (.lit (.int 41)), .lit (.int 0)])]
/-- _law_take(_law_purse_here, _law_span); slots: 0=_law_purse_here 1=_law_span 2=_law_brew 3=_law_digit -/
def bd__law_take : List Sm := [.ife (.cmp .Gt (.idx (.var 0) (.lit (.int 0))) (.lit (.int 0))) [.asg (.v 3) (.bin .Mod (.bi .int [.idx (.var 0) (.lit (.int 0))]) (.var 1)),
  .set 0 (.lit (.int 0)) (.bin .FloorDiv (.idx (.var 0) (.lit (.int 0))) (.var 1)),
  .ret (.var 3)] [],
  .set 0 (.lit (.int 2)) (.bin .Add (.idx (.var 0) (.lit (.int 2))) (.lit (.int 1))),
  .asg (.v 2) (.bin .Mod (.bin .Pow (.bi .int [.bin .Add (.idx (.var 0) (.lit (.int 1))) (.bin .Mult (.lit (.int 50021)) (.idx (.var 0) (.lit (.int 2))))]) (.lit (.int 2))) (.bin .Add (.bin .Pow (.lit (.int 10)) (.lit (.int 38))) (.lit (.int 133)))),
  .asg (.v 2) (.bin .Mod (.bin .Pow (.bi .int [.bin .Add (.var 2) (.bin .Mult (.lit (.int 700001)) (.idx (.var 0) (.lit (.int 2))))]) (.lit (.int 3))) (.bin .Add (.bin .Pow (.lit (.int 10)) (.lit (.int 39))) (.lit (.int 3)))),
  .ret (.bin .Mod (.bin .FloorDiv (.var 2) (.lit (.int 262144))) (.var 1))]
/-- _law_pick(_law_purse_here, _law_some); slots: 0=_law_purse_here 1=_law_some -/
def bd__law_pick : List Sm := [.ret (.idx (.var 1) (.call ix__law_take [.var 0, .bi .len [.var 1]] [] []))]
/-- _law_match(_law_found, _law_due_here); slots: 0=_law_found 1=_law_due_here 2=_law_k -/
def bd__law_match : List Sm := [.ife (.or [.isi (.var 0) [.bool] false 6, .isi (.var 1) [.bool] false 6]) [.ret (.and [.isi (.var 0) [.bool] false 6, .isi (.var 1) [.bool] false 6, .cmp .Eq (.var 0) (.var 1)])] [],
  .ife (.or [.cmp .NotEq (.isi (.var 0) [.list] false 6) (.isi (.var 1) [.list] false 6), .cmp .NotEq (.isi (.var 0) [.tuple] false 6) (.isi (.var 1) [.tuple] false 6)]) [.ret (.lit (.bl false))] [],
  .ife (.isi (.var 1) [.list, .tuple] true 6) [.ife (.cmp .NotEq (.bi .len [.var 0]) (.bi .len [.var 1])) [.ret (.lit (.bl false))] [],
  .ret (.cmp .Eq (.comp (.var 2) (.v 2) [2] (.rng1 (.bi .len [.var 1])) [.not (.call ix__law_match [.idx (.var 0) (.var 2), .idx (.var 1) (.var 2)] [] [])]) (.lst []))] [],
  .ife (.or [.cmp .NotEq (.isi (.var 0) [.str] false 6) (.isi (.var 1) [.str] false 6), .cmp .NotEq (.isi (.var 0) [.int] false 6) (.isi (.var 1) [.int] false 6)]) [.ret (.lit (.bl false))] [],
  .ret (.cmp .Eq (.var 0) (.var 1))]
/-- _law_long(_law_year, _law_month); slots: 0=_law_year 1=_law_month 2=_law_leap -/
def bd__law_long : List Sm := [.ife (.cmp .Eq (.var 1) (.lit (.int 2))) [.asg (.v 2) (.and [.cmp .Eq (.bin .Mod (.bi .int [.var 0]) (.lit (.int 4))) (.lit (.int 0)), .or [.cmp .NotEq (.bin .Mod (.bi .int [.var 0]) (.lit (.int 100))) (.lit (.int 0)), .cmp .Eq (.bin .Mod (.bi .int [.var 0]) (.lit (.int 400))) (.lit (.int 0))]]),
  .ret (.bin .Add (.lit (.int 28)) (.bi .int [.var 2]))] [],
  .ret (.ife (.cmp .In (.var 1) (.tup [.lit (.int 4), .lit (.int 6), .lit (.int 9), .lit (.int 11)])) (.lit (.int 30)) (.lit (.int 31)))]
/-- _law_counted(_law_day); slots: 0=_law_day 1=_law_turns 2=_law_left 3=_law_year 4=_law_month -/
def bd__law_counted : List Sm := [.asg (.v 1) (.bin .FloorDiv (.var 0) (.lit (.int 146097))),
  .par [2, 3, 4] [.bin .Sub (.var 0) (.bin .Mult (.lit (.int 146097)) (.var 1)), .bin .Add (.lit (.int 2000)) (.bin .Mult (.lit (.int 400)) (.var 1)), .lit (.int 1)],
  .frz 3,
  .while_ (.cmp .GtE (.var 2) (.bin .Add (.lit (.int 337)) (.call ix__law_long [.var 3, .lit (.int 2)] [] []))) [.frz 3,
  .par [2, 3] [.bin .Sub (.bin .Sub (.var 2) (.lit (.int 337))) (.call ix__law_long [.var 3, .lit (.int 2)] [] []), .bin .Add (.var 3) (.lit (.int 1))]],
  .frz 3,
  .frz 4,
  .while_ (.cmp .GtE (.var 2) (.call ix__law_long [.var 3, .var 4] [] [])) [.frz 3,
  .frz 4,
  .par [2, 4] [.bin .Sub (.var 2) (.call ix__law_long [.var 3, .var 4] [] []), .bin .Add (.var 4) (.lit (.int 1))]],
  .frz 3,
  .frz 4,
  .ret (.tup [.var 3, .var 4, .bin .Add (.var 2) (.lit (.int 1))])]
/-- _law_drawn_day(_law_purse_here); slots: 0=_law_purse_here 1=_law_cycle 2=_law_some 3=_law_near 4=_law_far -/
def bd__law_drawn_day : List Sm := [.par [3, 4] [.bin .Sub (.call ix__law_take [.var 0, .lit (.int 4000)] [] []) (.lit (.int 2000)), .bin .Sub (.call ix__law_take [.var 0, .bin .Mult (.lit (.int 2)) (.bin .Pow (.lit (.int 10)) (.lit (.int 7)))] [] []) (.bin .Pow (.lit (.int 10)) (.lit (.int 7)))],
  .asg (.v 1) (.bin .Mult (.lit (.int 146097)) (.bin .Sub (.call ix__law_take [.var 0, .lit (.int 9)] [] []) (.lit (.int 4)))),
  .asg (.v 2) (.lst [.var 3, .var 4, .bin .Sub (.bin .Add (.var 1) (.call ix__law_take [.var 0, .lit (.int 5)] [] [])) (.lit (.int 2)), .bin .Add (.bin .Add (.var 1) (.lit (.int 59))) (.call ix__law_take [.var 0, .lit (.int 3)] [] [])]),
  .frz 2,
  .ret (.call ix__law_pick [.var 0, .bin .Add (.var 2) (.lst [.bin .Sub (.bin .Add (.bin .Add (.var 1) (.lit (.int 36524))) (.call ix__law_take [.var 0, .lit (.int 70)] [] [])) (.lit (.int 5)), .var 3, .lit (.int 0)])] [] [])]
/-- _law_drawn_holidays(_law_purse_here, _law_day); slots: 0=_law_purse_here 1=_law_day 2=_law_found 3=_law_turn -/
def bd__law_drawn_holidays : List Sm := [.asg (.v 2) (.dnil),
  .for_ (.v 3) (.rng1 (.call ix__law_take [.var 0, .lit (.int 13)] [] [])) [.dset 2 (.bin .Sub (.bin .Add (.var 1) (.call ix__law_take [.var 0, .lit (.int 30)] [] [])) (.lit (.int 8))) (.lit (.bl true))],
  .ret (.bi .tuple [.bi .sorted [.keys 2]])]
/-- _law_is_work(_law_day, _law_holidays_here); slots: 0=_law_day 1=_law_holidays_here -/
def bd__law_is_work : List Sm := [.ret (.and [.cmp .Lt (.bin .Mod (.bi .int [.bin .Add (.var 0) (.lit (.int 5))]) (.lit (.int 7))) (.lit (.int 5)), .cmp .NotIn (.var 0) (.var 1)])]
/-- _law_walked(_law_day, _law_number, _law_holidays_here); slots: 0=_law_day 1=_law_number 2=_law_holidays_here 3=_law_left 4=_law_here -/
def bd__law_walked : List Sm := [.ife (.and [.cmp .Eq (.var 1) (.lit (.int 0)), .call ix__law_is_work [.var 0, .var 2] [] []]) [.ret (.var 0)] [],
  .par [3, 4] [.bi .max2 [.lit (.int 1), .var 1], .var 0],
  .while_ (.cmp .Gt (.var 3) (.lit (.int 0))) [.frz 4,
  .asg (.v 4) (.bin .Add (.var 4) (.lit (.int 1))),
  .frz 4,
  .asg (.v 3) (.bin .Sub (.var 3) (.bi .int [.call ix__law_is_work [.var 4, .var 2] [] []]))],
  .retV 4]
/-- _law_month_on(_law_day, _law_number, _law_last); slots: 0=_law_day 1=_law_number 2=_law_last 3=_law_months 4=_law_size 5=_law_begin 6=_law_k 7=_law_year 8=_law_month 9=_law_spot 10=_law_here 11=_law_there -/
def bd__law_month_on : List Sm := [.asg (.t [.v 7, .v 8, .v 9]) (.call ix__law_counted [.var 0] [] []),
  .asg (.v 3) (.bin .Add (.bin .Sub (.bin .Add (.bin .Mult (.lit (.int 12)) (.var 7)) (.var 8)) (.lit (.int 1))) (.var 1)),
  .par [10, 11] [.bin .FloorDiv (.var 3) (.lit (.int 12)), .bin .Add (.bin .Mod (.bi .int [.var 3]) (.lit (.int 12))) (.lit (.int 1))],
  .asg (.v 4) (.call ix__law_long [.var 10, .var 11] [] []),
  .asg (.v 5) (.bin .Sub (.var 0) (.bin .Sub (.var 9) (.lit (.int 1)))),
  .for_ (.v 6) (.rng1 (.var 1)) [.frz 5,
  .asg (.v 5) (.bin .Add (.var 5) (.call ix__law_long [.bin .FloorDiv (.bin .Add (.bin .Sub (.bin .Add (.bin .Mult (.lit (.int 12)) (.var 7)) (.var 8)) (.lit (.int 1))) (.var 6)) (.lit (.int 12)), .bin .Add (.bin .Mod (.bi .int [.bin .Add (.bin .Sub (.bin .Add (.bin .Mult (.lit (.int 12)) (.var 7)) (.var 8)) (.lit (.int 1))) (.var 6)]) (.lit (.int 12))) (.lit (.int 1))] [] []))],
  .frz 5,
  .ret (.bin .Sub (.bin .Add (.var 5) (.ife (.var 2) (.var 4) (.bi .min2 [.var 9, .var 4]))) (.lit (.int 1)))]
/-- _law_due(_law_day, _law_term_here, _law_holidays_here); slots: 0=_law_day 1=_law_term_here 2=_law_holidays_here 3=_law_word 4=_law_number -/
def bd__law_due : List Sm := [.asg (.t [.v 3, .v 4]) (.var 1),
  .ife (.cmp .Eq (.var 3) (.lit (.str "days"))) [.ret (.bin .Add (.var 0) (.var 4))] [],
  .ife (.cmp .Eq (.var 3) (.lit (.str "open"))) [.ret (.call ix__law_walked [.var 0, .var 4, .var 2] [] [])] [],
  .ret (.call ix__law_month_on [.var 0, .var 4, .cmp .Eq (.var 3) (.lit (.str "end"))] [] [])]
/-- _law_mark_right(_law_purse_here, _law_here, _law_term_here, _law_some); slots: 0=_law_purse_here 1=_law_here 2=_law_term_here 3=_law_some 4=_law_first 5=_law_turns 6=_law_book_here 7=_law_spots_due 8=_law_due_here 9=_law_at 10=_law_shift 11=_law_own 12=_law_new 13=_law_k 14=_law_turn -/
def bd__law_mark_right : List Sm := [.asg (.t [.v 8, .v 9, .v 10]) (.tup [.call ix__law_due [.var 1, .var 2, .var 3] [] [], .bin .Add (.bin .Mult (.lit (.int 1440)) (.var 1)) (.call ix__law_take [.var 0, .lit (.int 1440)] [] []), .call ix__law_take [.var 0, .lit (.int 40)] [] []]),
  .asg (.v 4) (.call ix__law_pick [.var 0, .lst [.bin .Add (.bin .Sub (.var 1) (.lit (.int 60))) (.var 10), .bin .Add (.bin .Add (.var 1) (.lit (.int 2))) (.var 10), .bin .Add (.var 1) (.lit (.int 1)), .bin .Sub (.var 1) (.lit (.int 1))]] [] []),
  .asg (.v 5) (.tup [.var 4, .bin .Add (.bin .Add (.var 4) (.lit (.int 2))) (.call ix__law_take [.var 0, .call ix__law_pick [.var 0, .lst [.lit (.int 3), .lit (.int 200)]] [] []] [] [])]),
  .frz 8,
  .par [11, 12] [.bi .len [.comp (.var 14) (.v 14) [14] (.var 5) [.cmp .LtE (.var 14) (.var 1)]], .bi .len [.comp (.var 14) (.v 14) [14] (.var 5) [.cmp .LtE (.var 14) (.bin .Add (.var 8) (.lit (.int 1)))]]],
  .asg (.v 6) (.tup [.tup [.var 5, .var 5, .tup []], .tup [.tup [.lit (.int 0), .var 11, .var 9], .tup [.lit (.int 1), .var 11, .var 9], .tup [.lit (.int 2), .lit (.int 0), .var 9]], .tup []]),
  .frz 8,
  .asgL 7 (.comp (.tup [.var 13, .bin .Mult (.lit (.int 1440)) (.bin .Add (.var 8) (.lit (.int 1)))]) (.v 13) [13] (.tup [.var 12, .bin .Add (.lit (.int 3)) (.var 12), .lit (.int 6)]) []),
  .frz 7,
  .ife (.not (.call ix__law_match [.comp (.call ix_due_mark [.var 6, .var 13, .var 2, .var 3] [] []) (.v 13) [13] (.rng1 (.lit (.int 3))) [], .var 7] [] [])) [.ret (.lit (.bl false))] [],
  .ife (.cmp .In (.bin .Add (.var 1) (.lit (.int 1))) (.var 5)) [.asg (.v 6) (.tup [.idx (.var 6) (.lit (.int 0)), .tup [.tup [.lit (.int 1), .bin .Add (.var 11) (.lit (.int 1)), .var 9], .tup [.lit (.int 1), .bin .Add (.var 11) (.lit (.int 1)), .var 9]], .tup []])] [],
  .frz 7,
  .ret (.call ix__law_match [.call ix_due_mark [] [3, 2, 1, 0] [.var 3, .var 2, .lit (.int 1), .var 6], .idx (.var 7) (.lit (.int 1))] [] [])]
/-- law(_law_script); slots: 0=_law_script 1=_law_at 2=_law_purse_here 3=_law_turn 4=_law_here 5=_law_some 6=_law_step 7=_law_there 8=_law_due_here 9=_law_told 10=_law_word 11=_law_number 12=_law_k -/
def bd_law : List Sm := [.for_ (.v 1) (.rng1 (.bi .max2 [.lit (.int 1), .bi .min2 [.lit (.int 4), .bi .len [.var 0]]])) [.asg (.v 2) (.call ix__law_purse [.var 0, .var 1] [] []),
  .for_ (.v 3) (.rng1 (.lit (.int 2))) [.asg (.v 4) (.call ix__law_drawn_day [.var 2] [] []),
  .asg (.v 5) (.call ix__law_drawn_holidays [.var 2, .var 4] [] []),
  .for_ (.v 6) (.rng2 (.neg (.lit (.int 2))) (.lit (.int 9))) [.asg (.v 8) (.call ix__law_is_work [.bin .Add (.var 4) (.var 6), .var 5] [] []),
  .frz 8,
  .ife (.not (.call ix__law_match [.lst [.call ix_is_open [.bin .Add (.var 4) (.var 6), .var 5] [] [], .call ix_is_open [] [1, 0] [.var 5, .bin .Add (.var 4) (.var 6)]], .lst [.var 8, .var 8]] [] [])) [.ret (.lit (.bl false))] []],
  .asg (.v 7) (.bin .Sub (.bin .Add (.var 4) (.call ix__law_take [.var 2, .lit (.int 64)] [] [])) (.lit (.int 4))),
  .asg (.v 8) (.bi .len [.comp (.var 12) (.v 12) [12] (.rng2 (.var 4) (.bin .Add (.var 7) (.lit (.int 1)))) [.call ix__law_is_work [.var 12, .var 5] [] []]]),
  .asg (.v 9) (.lst [.call ix_open_days [.var 4, .var 7, .var 5] [] [], .call ix_open_days [] [2, 1, 0] [.var 5, .var 7, .var 4]]),
  .frz 8,
  .frz 9,
  .ife (.not (.call ix__law_match [.var 9, .lst [.var 8, .var 8]] [] [])) [.ret (.lit (.bl false))] [],
  .for_ (.v 10) (.tup [.lit (.str "days"), .lit (.str "open"), .lit (.str "months"), .lit (.str "end")]) [.for_ (.v 11) (.tup [.lit (.int 0), .lit (.int 1), .call ix__law_take [.var 2, .lit (.int 31)] [] []]) [.asg (.v 8) (.call ix__law_due [.var 4, .tup [.var 10, .var 11], .var 5] [] []),
  .frz 8,
  .ife (.not (.call ix__law_match [.call ix_due_day [.var 4, .tup [.var 10, .var 11], .var 5] [] [], .var 8] [] [])) [.ret (.lit (.bl false))] [],
  .frz 8,
  .ife (.not (.call ix__law_match [.call ix_due_day [] [2, 1, 0] [.var 5, .tup [.var 10, .var 11], .var 4], .var 8] [] [])) [.ret (.lit (.bl false))] []],
  .ife (.not (.call ix__law_mark_right [.var 2, .var 4, .tup [.var 10, .var 11], .var 5] [] [])) [.ret (.lit (.bl false))] []]]],
  .ret (.lit (.bl true))]
def fnL : List Fn := ([⟨1, false, 1, bd_is_integer⟩, ⟨2, false, 2, bd_is_from⟩, ⟨3, false, 3, bd_is_between⟩, ⟨2, false, 2, bd_is_index⟩, ⟨1, false, 3, bd_is_ascending⟩, ⟨2, false, 2, bd_check_index⟩, ⟨1, false, 4, bd_are_turns⟩, ⟨1, false, 2, bd_is_places⟩, ⟨3, false, 3, bd_is_stretch⟩, ⟨2, false, 5, bd_is_entry_of⟩, ⟨2, false, 2, bd_are_ends⟩, ⟨3, false, 10, bd_is_tie_of⟩, ⟨1, false, 5, bd_is_book⟩, ⟨1, false, 1, bd_check_book⟩, ⟨1, false, 1, bd_check_day⟩, ⟨3, false, 4, bd_nought_in⟩, ⟨3, false, 5, bd_mark_in⟩, ⟨1, false, 2, bd_check_term⟩, ⟨1, false, 2, bd_check_holidays⟩, ⟨1, false, 6, bd_date_of⟩] : List Fn) ++ ([⟨3, false, 7, bd_number_of_date⟩, ⟨2, false, 2, bd_month_length⟩, ⟨1, false, 1, bd_weekday_of⟩, ⟨2, false, 2, bd_is_open_day⟩, ⟨2, false, 2, bd_is_open⟩, ⟨1, false, 3, bd_workdays_ahead⟩, ⟨1, false, 3, bd_workday_at⟩, ⟨3, false, 4, bd_lost_workdays⟩, ⟨3, false, 4, bd_open_days⟩, ⟨3, false, 6, bd_open_day_behind⟩, ⟨3, false, 11, bd_due_of⟩, ⟨3, false, 3, bd_due_day⟩, ⟨4, false, 4, bd_due_mark_in⟩, ⟨4, false, 4, bd_due_mark⟩, ⟨2, false, 3, bd__law_purse⟩, ⟨2, true, 4, bd__law_take⟩, ⟨2, true, 2, bd__law_pick⟩, ⟨2, false, 3, bd__law_match⟩, ⟨2, false, 3, bd__law_long⟩, ⟨1, false, 5, bd__law_counted⟩] : List Fn) ++ ([⟨1, true, 5, bd__law_drawn_day⟩, ⟨2, true, 4, bd__law_drawn_holidays⟩, ⟨2, false, 2, bd__law_is_work⟩, ⟨3, false, 5, bd__law_walked⟩, ⟨3, false, 12, bd__law_month_on⟩, ⟨3, false, 5, bd__law_due⟩, ⟨4, true, 15, bd__law_mark_right⟩, ⟨1, false, 13, bd_law⟩] : List Fn)
def fnT (f : Nat) : Fn := fnL.getD f ⟨0, false, 0, []⟩
theorem fn_is_integer : fnT ix_is_integer = ⟨1, false, 1, bd_is_integer⟩ := nr rfl
theorem fn_is_from : fnT ix_is_from = ⟨2, false, 2, bd_is_from⟩ := nr rfl
theorem fn_is_between : fnT ix_is_between = ⟨3, false, 3, bd_is_between⟩ := nr rfl
theorem fn_is_index : fnT ix_is_index = ⟨2, false, 2, bd_is_index⟩ := nr rfl
theorem fn_is_ascending : fnT ix_is_ascending = ⟨1, false, 3, bd_is_ascending⟩ := nr rfl
theorem fn_check_index : fnT ix_check_index = ⟨2, false, 2, bd_check_index⟩ := nr rfl
theorem fn_are_turns : fnT ix_are_turns = ⟨1, false, 4, bd_are_turns⟩ := nr rfl
theorem fn_is_places : fnT ix_is_places = ⟨1, false, 2, bd_is_places⟩ := nr rfl
theorem fn_is_stretch : fnT ix_is_stretch = ⟨3, false, 3, bd_is_stretch⟩ := nr rfl
theorem fn_is_entry_of : fnT ix_is_entry_of = ⟨2, false, 5, bd_is_entry_of⟩ := nr rfl
theorem fn_are_ends : fnT ix_are_ends = ⟨2, false, 2, bd_are_ends⟩ := nr rfl
theorem fn_is_tie_of : fnT ix_is_tie_of = ⟨3, false, 10, bd_is_tie_of⟩ := nr rfl
theorem fn_is_book : fnT ix_is_book = ⟨1, false, 5, bd_is_book⟩ := nr rfl
theorem fn_check_book : fnT ix_check_book = ⟨1, false, 1, bd_check_book⟩ := nr rfl
theorem fn_check_day : fnT ix_check_day = ⟨1, false, 1, bd_check_day⟩ := nr rfl
theorem fn_nought_in : fnT ix_nought_in = ⟨3, false, 4, bd_nought_in⟩ := nr rfl
theorem fn_mark_in : fnT ix_mark_in = ⟨3, false, 5, bd_mark_in⟩ := nr rfl
theorem fn_check_term : fnT ix_check_term = ⟨1, false, 2, bd_check_term⟩ := nr rfl
theorem fn_check_holidays : fnT ix_check_holidays = ⟨1, false, 2, bd_check_holidays⟩ := nr rfl
theorem fn_date_of : fnT ix_date_of = ⟨1, false, 6, bd_date_of⟩ := nr rfl
theorem fn_number_of_date : fnT ix_number_of_date = ⟨3, false, 7, bd_number_of_date⟩ := nr rfl
theorem fn_month_length : fnT ix_month_length = ⟨2, false, 2, bd_month_length⟩ := nr rfl
theorem fn_weekday_of : fnT ix_weekday_of = ⟨1, false, 1, bd_weekday_of⟩ := nr rfl
theorem fn_is_open_day : fnT ix_is_open_day = ⟨2, false, 2, bd_is_open_day⟩ := nr rfl
theorem fn_is_open : fnT ix_is_open = ⟨2, false, 2, bd_is_open⟩ := nr rfl
theorem fn_workdays_ahead : fnT ix_workdays_ahead = ⟨1, false, 3, bd_workdays_ahead⟩ := nr rfl
theorem fn_workday_at : fnT ix_workday_at = ⟨1, false, 3, bd_workday_at⟩ := nr rfl
theorem fn_lost_workdays : fnT ix_lost_workdays = ⟨3, false, 4, bd_lost_workdays⟩ := nr rfl
theorem fn_open_days : fnT ix_open_days = ⟨3, false, 4, bd_open_days⟩ := nr rfl
theorem fn_open_day_behind : fnT ix_open_day_behind = ⟨3, false, 6, bd_open_day_behind⟩ := nr rfl
theorem fn_due_of : fnT ix_due_of = ⟨3, false, 11, bd_due_of⟩ := nr rfl
theorem fn_due_day : fnT ix_due_day = ⟨3, false, 3, bd_due_day⟩ := nr rfl
theorem fn_due_mark_in : fnT ix_due_mark_in = ⟨4, false, 4, bd_due_mark_in⟩ := nr rfl
theorem fn_due_mark : fnT ix_due_mark = ⟨4, false, 4, bd_due_mark⟩ := nr rfl
theorem fn__law_purse : fnT ix__law_purse = ⟨2, false, 3, bd__law_purse⟩ := nr rfl
theorem fn__law_take : fnT ix__law_take = ⟨2, true, 4, bd__law_take⟩ := nr rfl
theorem fn__law_pick : fnT ix__law_pick = ⟨2, true, 2, bd__law_pick⟩ := nr rfl
theorem fn__law_match : fnT ix__law_match = ⟨2, false, 3, bd__law_match⟩ := nr rfl
theorem fn__law_long : fnT ix__law_long = ⟨2, false, 3, bd__law_long⟩ := nr rfl
theorem fn__law_counted : fnT ix__law_counted = ⟨1, false, 5, bd__law_counted⟩ := nr rfl
theorem fn__law_drawn_day : fnT ix__law_drawn_day = ⟨1, true, 5, bd__law_drawn_day⟩ := nr rfl
theorem fn__law_drawn_holidays : fnT ix__law_drawn_holidays = ⟨2, true, 4, bd__law_drawn_holidays⟩ := nr rfl
theorem fn__law_is_work : fnT ix__law_is_work = ⟨2, false, 2, bd__law_is_work⟩ := nr rfl
theorem fn__law_walked : fnT ix__law_walked = ⟨3, false, 5, bd__law_walked⟩ := nr rfl
theorem fn__law_month_on : fnT ix__law_month_on = ⟨3, false, 12, bd__law_month_on⟩ := nr rfl
theorem fn__law_due : fnT ix__law_due = ⟨3, false, 5, bd__law_due⟩ := nr rfl
theorem fn__law_mark_right : fnT ix__law_mark_right = ⟨4, true, 15, bd__law_mark_right⟩ := nr rfl
theorem fn_law : fnT ix_law = ⟨1, false, 13, bd_law⟩ := nr rfl
def fnames : List Str := (["is_integer", "is_from", "is_between", "is_index", "is_ascending", "check_index", "are_turns", "is_places", "is_stretch", "is_entry_of", "are_ends", "is_tie_of", "is_book", "check_book", "check_day", "nought_in", "mark_in", "check_term", "check_holidays", "date_of"] : List Str) ++ (["number_of_date", "month_length", "weekday_of", "is_open_day", "is_open", "workdays_ahead", "workday_at", "lost_workdays", "open_days", "open_day_behind", "due_of", "due_day", "due_mark_in", "due_mark", "_law_purse", "_law_take", "_law_pick", "_law_match", "_law_long", "_law_counted"] : List Str) ++ (["_law_drawn_day", "_law_drawn_holidays", "_law_is_work", "_law_walked", "_law_month_on", "_law_due", "_law_mark_right", "law"] : List Str)
def fparams : List (List Str) := ([["thing"], ["low", "thing"], ["low", "thing", "high"], ["count", "thing"], ["things"], ["count", "thing"], ["thing"], ["value"], ["places", "place", "stretch"], ["places", "thing"], ["least", "most"], ["places", "entries", "thing"], ["value"], ["thing"], ["thing"], ["places", "place", "stretch"], ["places", "place", "day"], ["thing"], ["thing"], ["day"]] : List (List Str)) ++ ([["year", "month", "day"], ["year", "month"], ["day"], ["day", "holidays"], ["day", "holidays"], ["day"], ["number"], ["first_day", "last_day", "holidays"], ["first_day", "last_day", "holidays"], ["day", "number", "holidays"], ["day", "term", "holidays"], ["day", "term", "holidays"], ["places", "entry", "term", "holidays"], ["book", "entry_number", "term", "holidays"], ["_law_script", "_law_at"], ["_law_purse_here", "_law_span"], ["_law_purse_here", "_law_some"], ["_law_found", "_law_due_here"], ["_law_year", "_law_month"], ["_law_day"]] : List (List Str)) ++ ([["_law_purse_here"], ["_law_purse_here", "_law_day"], ["_law_day", "_law_holidays_here"], ["_law_day", "_law_number", "_law_holidays_here"], ["_law_day", "_law_number", "_law_last"], ["_law_day", "_law_term_here", "_law_holidays_here"], ["_law_purse_here", "_law_here", "_law_term_here", "_law_some"], ["_law_script"]] : List (List Str))
def fslots : List (List Str) := ([["thing"], ["low", "thing"], ["low", "thing", "high"], ["count", "thing"], ["things", "part", "later"], ["count", "thing"], ["thing", "day", "later", "part"], ["value", "part"], ["places", "place", "stretch"], ["places", "thing", "turns", "stretch", "day"], ["least", "most"], ["places", "entries", "thing", "word", "place", "stretch", "other_place", "other_stretch", "one", "other"], ["value", "places", "entries", "ties", "part"], ["thing"], ["thing"], ["places", "place", "stretch", "turns"], ["places", "place", "day", "stretch", "turn"], ["thing", "good"], ["thing", "part"], ["day", "years", "rest", "months", "month", "cycle"]] : List (List Str)) ++ ([["year", "month", "day", "years", "months", "cycle", "rest"], ["year", "month"], ["day"], ["day", "holidays"], ["day", "holidays"], ["day", "weeks", "rest"], ["number", "weeks", "rest"], ["first_day", "last_day", "holidays", "day"], ["first_day", "last_day", "holidays", "found"], ["day", "number", "holidays", "ahead", "found", "lost"], ["day", "term", "holidays", "length", "word", "number", "year", "month", "day_of_month", "years", "months"], ["day", "term", "holidays"], ["places", "entry", "term", "holidays"], ["book", "entry_number", "term", "holidays"], ["_law_script", "_law_at", "_law_cell"], ["_law_purse_here", "_law_span", "_law_brew", "_law_digit"], ["_law_purse_here", "_law_some"], ["_law_found", "_law_due_here", "_law_k"], ["_law_year", "_law_month", "_law_leap"], ["_law_day", "_law_turns", "_law_left", "_law_year", "_law_month"]] : List (List Str)) ++ ([["_law_purse_here", "_law_cycle", "_law_some", "_law_near", "_law_far"], ["_law_purse_here", "_law_day", "_law_found", "_law_turn"], ["_law_day", "_law_holidays_here"], ["_law_day", "_law_number", "_law_holidays_here", "_law_left", "_law_here"], ["_law_day", "_law_number", "_law_last", "_law_months", "_law_size", "_law_begin", "_law_k", "_law_year", "_law_month", "_law_spot", "_law_here", "_law_there"], ["_law_day", "_law_term_here", "_law_holidays_here", "_law_word", "_law_number"], ["_law_purse_here", "_law_here", "_law_term_here", "_law_some", "_law_first", "_law_turns", "_law_book_here", "_law_spots_due", "_law_due_here", "_law_at", "_law_shift", "_law_own", "_law_new", "_law_k", "_law_turn"], ["_law_script", "_law_at", "_law_purse_here", "_law_turn", "_law_here", "_law_some", "_law_step", "_law_there", "_law_due_here", "_law_told", "_law_word", "_law_number", "_law_k"]] : List (List Str))
def ftops : List Nat := ([8, 9, 10, 11, 12, 13, 18, 19, 20, 21, 22, 23, 24, 25, 26, 27, 28, 39, 40, 41] : List Nat) ++ ([42, 43, 44, 45, 46, 47, 48, 49, 50, 51, 52, 53, 54, 55, 57, 58, 59, 60, 61, 62] : List Nat) ++ ([63, 64, 65, 66, 67, 68, 69, 70] : List Nat)
def globL : List P := [.int 1440, .str "apart", .str "look", .str "days", .str "open", .str "months", .str "end", .tup [.str "days", .str "open", .str "months", .str "end"], .tup [.int 31, .int 28, .int 31, .int 30, .int 31, .int 30, .int 31, .int 31, .int 30, .int 31, .int 30, .int 31], .int 2, .int 60, .int 146097]
def globT (g : Nat) : P := globL.getD g .non
theorem gl_MINUTES : globT gx_MINUTES = .int 1440 := nr rfl
theorem gl_APART : globT gx_APART = .str "apart" := nr rfl
theorem gl_LOOK : globT gx_LOOK = .str "look" := nr rfl
theorem gl_DAYS : globT gx_DAYS = .str "days" := nr rfl
theorem gl_OPEN : globT gx_OPEN = .str "open" := nr rfl
theorem gl_MONTHS : globT gx_MONTHS = .str "months" := nr rfl
theorem gl_END : globT gx_END = .str "end" := nr rfl
theorem gl_TERM_WORDS : globT gx_TERM_WORDS = .tup [.str "days", .str "open", .str "months", .str "end"] := nr rfl
theorem gl_MONTH_DAYS : globT gx_MONTH_DAYS = .tup [.int 31, .int 28, .int 31, .int 30, .int 31, .int 30, .int 31, .int 31, .int 30, .int 31, .int 30, .int 31] := nr rfl
theorem gl_FIRST_MONDAY : globT gx_FIRST_MONDAY = .int 2 := nr rfl
theorem gl_FIRST_MARCH : globT gx_FIRST_MARCH = .int 60 := nr rfl
theorem gl_CYCLE : globT gx_CYCLE = .int 146097 := nr rfl
def gnames : List Str := ["MINUTES", "APART", "LOOK", "DAYS", "OPEN", "MONTHS", "END", "TERM_WORDS", "MONTH_DAYS", "FIRST_MONDAY", "FIRST_MARCH", "CYCLE"]
def cnames : List Str := ["DueError", "InvalidIndex", "InvalidBook", "InvalidDay", "InvalidTerm", "InvalidHolidays"]
def cfields : List Str := ["", "", "", "", "", ""]
def patsL : List (Nat × Nat × List Nat) := [(0, 1, []), (1, 2, []), (2, 3, []), (3, 2, []), (4, 1, []), (5, 2, []), (6, 1, []), (7, 1, []), (8, 3, []), (9, 2, []), (10, 2, []), (11, 3, []), (12, 1, []), (13, 1, []), (14, 1, []), (15, 3, []), (16, 3, []), (17, 1, []), (18, 1, []), (19, 1, []), (20, 3, []), (21, 2, []), (22, 1, []), (23, 2, []), (24, 0, [1, 0]), (24, 2, []), (25, 1, []), (26, 1, []), (27, 3, []), (28, 0, [2, 1, 0]), (28, 3, []), (29, 3, []), (30, 3, []), (31, 0, [2, 1, 0]), (31, 3, []), (32, 4, []), (33, 0, [3, 2, 1, 0]), (33, 4, []), (34, 2, []), (35, 2, []), (36, 2, []), (37, 2, []), (38, 2, []), (39, 1, []), (40, 1, []), (41, 2, []), (42, 2, []), (43, 3, []), (44, 3, []), (45, 3, []), (46, 4, []), (47, 1, [])]
def G : Pg := ⟨48, fnT, fun f => fnames.getD f "", fun f => fparams.getD f [], 12, globT, fun g => gnames.getD g "", 6, 6, fun c => cnames.getD c "", fun c => cfields.getD c "", patsL⟩
def top (i : Nat) : Stmt := PySem.Challenge.pw_dueanywhere_k29_due_days_walked.main.body.getD i (.Pass ⟨0, 0, 0, 0⟩)
def T : Tx := ⟨fun f => top (ftops.getD f 0), fun f => fslots.getD f []⟩
theorem chk : ((List.range G.nf).all fun f => defB G T f && (!(G.fn f).mt || decide (0 < (G.fn f).np))) = true := by decide +kernel
theorem bind_0_1 : BindP G T 0 1 [] := fun _ _ _ _ _ _ us ws as h1 h2 h3 => match us, ws, h1, h2, h3 with
  | [u0], [], _, _, h3 => by cases h3; rfl
theorem bind_1_2 : BindP G T 1 2 [] := fun _ _ _ _ _ _ us ws as h1 h2 h3 => match us, ws, h1, h2, h3 with
  | [u0, u1], [], _, _, h3 => by cases h3; rfl
theorem bind_2_3 : BindP G T 2 3 [] := fun _ _ _ _ _ _ us ws as h1 h2 h3 => match us, ws, h1, h2, h3 with
  | [u0, u1, u2], [], _, _, h3 => by cases h3; rfl
theorem bind_3_2 : BindP G T 3 2 [] := fun _ _ _ _ _ _ us ws as h1 h2 h3 => match us, ws, h1, h2, h3 with
  | [u0, u1], [], _, _, h3 => by cases h3; rfl
theorem bind_4_1 : BindP G T 4 1 [] := fun _ _ _ _ _ _ us ws as h1 h2 h3 => match us, ws, h1, h2, h3 with
  | [u0], [], _, _, h3 => by cases h3; rfl
theorem bind_5_2 : BindP G T 5 2 [] := fun _ _ _ _ _ _ us ws as h1 h2 h3 => match us, ws, h1, h2, h3 with
  | [u0, u1], [], _, _, h3 => by cases h3; rfl
theorem bind_6_1 : BindP G T 6 1 [] := fun _ _ _ _ _ _ us ws as h1 h2 h3 => match us, ws, h1, h2, h3 with
  | [u0], [], _, _, h3 => by cases h3; rfl
theorem bind_7_1 : BindP G T 7 1 [] := fun _ _ _ _ _ _ us ws as h1 h2 h3 => match us, ws, h1, h2, h3 with
  | [u0], [], _, _, h3 => by cases h3; rfl
theorem bind_8_3 : BindP G T 8 3 [] := fun _ _ _ _ _ _ us ws as h1 h2 h3 => match us, ws, h1, h2, h3 with
  | [u0, u1, u2], [], _, _, h3 => by cases h3; rfl
theorem bind_9_2 : BindP G T 9 2 [] := fun _ _ _ _ _ _ us ws as h1 h2 h3 => match us, ws, h1, h2, h3 with
  | [u0, u1], [], _, _, h3 => by cases h3; rfl
theorem bind_10_2 : BindP G T 10 2 [] := fun _ _ _ _ _ _ us ws as h1 h2 h3 => match us, ws, h1, h2, h3 with
  | [u0, u1], [], _, _, h3 => by cases h3; rfl
theorem bind_11_3 : BindP G T 11 3 [] := fun _ _ _ _ _ _ us ws as h1 h2 h3 => match us, ws, h1, h2, h3 with
  | [u0, u1, u2], [], _, _, h3 => by cases h3; rfl
theorem bind_12_1 : BindP G T 12 1 [] := fun _ _ _ _ _ _ us ws as h1 h2 h3 => match us, ws, h1, h2, h3 with
  | [u0], [], _, _, h3 => by cases h3; rfl
theorem bind_13_1 : BindP G T 13 1 [] := fun _ _ _ _ _ _ us ws as h1 h2 h3 => match us, ws, h1, h2, h3 with
  | [u0], [], _, _, h3 => by cases h3; rfl
theorem bind_14_1 : BindP G T 14 1 [] := fun _ _ _ _ _ _ us ws as h1 h2 h3 => match us, ws, h1, h2, h3 with
  | [u0], [], _, _, h3 => by cases h3; rfl
theorem bind_15_3 : BindP G T 15 3 [] := fun _ _ _ _ _ _ us ws as h1 h2 h3 => match us, ws, h1, h2, h3 with
  | [u0, u1, u2], [], _, _, h3 => by cases h3; rfl
theorem bind_16_3 : BindP G T 16 3 [] := fun _ _ _ _ _ _ us ws as h1 h2 h3 => match us, ws, h1, h2, h3 with
  | [u0, u1, u2], [], _, _, h3 => by cases h3; rfl
theorem bind_17_1 : BindP G T 17 1 [] := fun _ _ _ _ _ _ us ws as h1 h2 h3 => match us, ws, h1, h2, h3 with
  | [u0], [], _, _, h3 => by cases h3; rfl
theorem bind_18_1 : BindP G T 18 1 [] := fun _ _ _ _ _ _ us ws as h1 h2 h3 => match us, ws, h1, h2, h3 with
  | [u0], [], _, _, h3 => by cases h3; rfl
theorem bind_19_1 : BindP G T 19 1 [] := fun _ _ _ _ _ _ us ws as h1 h2 h3 => match us, ws, h1, h2, h3 with
  | [u0], [], _, _, h3 => by cases h3; rfl
theorem bind_20_3 : BindP G T 20 3 [] := fun _ _ _ _ _ _ us ws as h1 h2 h3 => match us, ws, h1, h2, h3 with
  | [u0, u1, u2], [], _, _, h3 => by cases h3; rfl
theorem bind_21_2 : BindP G T 21 2 [] := fun _ _ _ _ _ _ us ws as h1 h2 h3 => match us, ws, h1, h2, h3 with
  | [u0, u1], [], _, _, h3 => by cases h3; rfl
theorem bind_22_1 : BindP G T 22 1 [] := fun _ _ _ _ _ _ us ws as h1 h2 h3 => match us, ws, h1, h2, h3 with
  | [u0], [], _, _, h3 => by cases h3; rfl
theorem bind_23_2 : BindP G T 23 2 [] := fun _ _ _ _ _ _ us ws as h1 h2 h3 => match us, ws, h1, h2, h3 with
  | [u0, u1], [], _, _, h3 => by cases h3; rfl
theorem bind_24_0_1_0 : BindP G T 24 0 [1, 0] := fun _ _ _ _ _ _ us ws as h1 h2 h3 => match us, ws, h1, h2, h3 with
  | [], [w0, w1], _, _, h3 => by cases h3; rfl
theorem bind_24_2 : BindP G T 24 2 [] := fun _ _ _ _ _ _ us ws as h1 h2 h3 => match us, ws, h1, h2, h3 with
  | [u0, u1], [], _, _, h3 => by cases h3; rfl
theorem bind_25_1 : BindP G T 25 1 [] := fun _ _ _ _ _ _ us ws as h1 h2 h3 => match us, ws, h1, h2, h3 with
  | [u0], [], _, _, h3 => by cases h3; rfl
theorem bind_26_1 : BindP G T 26 1 [] := fun _ _ _ _ _ _ us ws as h1 h2 h3 => match us, ws, h1, h2, h3 with
  | [u0], [], _, _, h3 => by cases h3; rfl
theorem bind_27_3 : BindP G T 27 3 [] := fun _ _ _ _ _ _ us ws as h1 h2 h3 => match us, ws, h1, h2, h3 with
  | [u0, u1, u2], [], _, _, h3 => by cases h3; rfl
theorem bind_28_0_2_1_0 : BindP G T 28 0 [2, 1, 0] := fun _ _ _ _ _ _ us ws as h1 h2 h3 => match us, ws, h1, h2, h3 with
  | [], [w0, w1, w2], _, _, h3 => by cases h3; rfl
theorem bind_28_3 : BindP G T 28 3 [] := fun _ _ _ _ _ _ us ws as h1 h2 h3 => match us, ws, h1, h2, h3 with
  | [u0, u1, u2], [], _, _, h3 => by cases h3; rfl
theorem bind_29_3 : BindP G T 29 3 [] := fun _ _ _ _ _ _ us ws as h1 h2 h3 => match us, ws, h1, h2, h3 with
  | [u0, u1, u2], [], _, _, h3 => by cases h3; rfl
theorem bind_30_3 : BindP G T 30 3 [] := fun _ _ _ _ _ _ us ws as h1 h2 h3 => match us, ws, h1, h2, h3 with
  | [u0, u1, u2], [], _, _, h3 => by cases h3; rfl
theorem bind_31_0_2_1_0 : BindP G T 31 0 [2, 1, 0] := fun _ _ _ _ _ _ us ws as h1 h2 h3 => match us, ws, h1, h2, h3 with
  | [], [w0, w1, w2], _, _, h3 => by cases h3; rfl
theorem bind_31_3 : BindP G T 31 3 [] := fun _ _ _ _ _ _ us ws as h1 h2 h3 => match us, ws, h1, h2, h3 with
  | [u0, u1, u2], [], _, _, h3 => by cases h3; rfl
theorem bind_32_4 : BindP G T 32 4 [] := fun _ _ _ _ _ _ us ws as h1 h2 h3 => match us, ws, h1, h2, h3 with
  | [u0, u1, u2, u3], [], _, _, h3 => by cases h3; rfl
theorem bind_33_0_3_2_1_0 : BindP G T 33 0 [3, 2, 1, 0] := fun _ _ _ _ _ _ us ws as h1 h2 h3 => match us, ws, h1, h2, h3 with
  | [], [w0, w1, w2, w3], _, _, h3 => by cases h3; rfl
theorem bind_33_4 : BindP G T 33 4 [] := fun _ _ _ _ _ _ us ws as h1 h2 h3 => match us, ws, h1, h2, h3 with
  | [u0, u1, u2, u3], [], _, _, h3 => by cases h3; rfl
theorem bind_34_2 : BindP G T 34 2 [] := fun _ _ _ _ _ _ us ws as h1 h2 h3 => match us, ws, h1, h2, h3 with
  | [u0, u1], [], _, _, h3 => by cases h3; rfl
theorem bind_35_2 : BindP G T 35 2 [] := fun _ _ _ _ _ _ us ws as h1 h2 h3 => match us, ws, h1, h2, h3 with
  | [u0, u1], [], _, _, h3 => by cases h3; rfl
theorem bind_36_2 : BindP G T 36 2 [] := fun _ _ _ _ _ _ us ws as h1 h2 h3 => match us, ws, h1, h2, h3 with
  | [u0, u1], [], _, _, h3 => by cases h3; rfl
theorem bind_37_2 : BindP G T 37 2 [] := fun _ _ _ _ _ _ us ws as h1 h2 h3 => match us, ws, h1, h2, h3 with
  | [u0, u1], [], _, _, h3 => by cases h3; rfl
theorem bind_38_2 : BindP G T 38 2 [] := fun _ _ _ _ _ _ us ws as h1 h2 h3 => match us, ws, h1, h2, h3 with
  | [u0, u1], [], _, _, h3 => by cases h3; rfl
theorem bind_39_1 : BindP G T 39 1 [] := fun _ _ _ _ _ _ us ws as h1 h2 h3 => match us, ws, h1, h2, h3 with
  | [u0], [], _, _, h3 => by cases h3; rfl
theorem bind_40_1 : BindP G T 40 1 [] := fun _ _ _ _ _ _ us ws as h1 h2 h3 => match us, ws, h1, h2, h3 with
  | [u0], [], _, _, h3 => by cases h3; rfl
theorem bind_41_2 : BindP G T 41 2 [] := fun _ _ _ _ _ _ us ws as h1 h2 h3 => match us, ws, h1, h2, h3 with
  | [u0, u1], [], _, _, h3 => by cases h3; rfl
theorem bind_42_2 : BindP G T 42 2 [] := fun _ _ _ _ _ _ us ws as h1 h2 h3 => match us, ws, h1, h2, h3 with
  | [u0, u1], [], _, _, h3 => by cases h3; rfl
theorem bind_43_3 : BindP G T 43 3 [] := fun _ _ _ _ _ _ us ws as h1 h2 h3 => match us, ws, h1, h2, h3 with
  | [u0, u1, u2], [], _, _, h3 => by cases h3; rfl
theorem bind_44_3 : BindP G T 44 3 [] := fun _ _ _ _ _ _ us ws as h1 h2 h3 => match us, ws, h1, h2, h3 with
  | [u0, u1, u2], [], _, _, h3 => by cases h3; rfl
theorem bind_45_3 : BindP G T 45 3 [] := fun _ _ _ _ _ _ us ws as h1 h2 h3 => match us, ws, h1, h2, h3 with
  | [u0, u1, u2], [], _, _, h3 => by cases h3; rfl
theorem bind_46_4 : BindP G T 46 4 [] := fun _ _ _ _ _ _ us ws as h1 h2 h3 => match us, ws, h1, h2, h3 with
  | [u0, u1, u2, u3], [], _, _, h3 => by cases h3; rfl
theorem bind_47_1 : BindP G T 47 1 [] := fun _ _ _ _ _ _ us ws as h1 h2 h3 => match us, ws, h1, h2, h3 with
  | [u0], [], _, _, h3 => by cases h3; rfl
theorem kw_is_open_0_1_0 (w0 w1 : D) (K : List D → Prop) : argW 2 [] [1, 0] [w0, w1] K = K [w1, w0] := nr rfl
theorem kw_open_days_0_2_1_0 (w0 w1 w2 : D) (K : List D → Prop) : argW 3 [] [2, 1, 0] [w0, w1, w2] K = K [w2, w1, w0] := nr rfl
theorem kw_due_day_0_2_1_0 (w0 w1 w2 : D) (K : List D → Prop) : argW 3 [] [2, 1, 0] [w0, w1, w2] K = K [w2, w1, w0] := nr rfl
theorem kw_due_mark_0_3_2_1_0 (w0 w1 w2 w3 : D) (K : List D → Prop) : argW 4 [] [3, 2, 1, 0] [w0, w1, w2, w3] K = K [w3, w2, w1, w0] := nr rfl
theorem binds : ∀ f m ks, (f, m, ks) ∈ G.pats → f < G.nf ∧ BindP G T f m ks := by
  intro f m ks h
  have h2 : (f, m, ks) ∈ patsL := h
  simp only [patsL, List.mem_cons, List.not_mem_nil, or_false, Prod.mk.injEq] at h2
  rcases h2 with ⟨rfl, rfl, rfl⟩ | ⟨rfl, rfl, rfl⟩ | ⟨rfl, rfl, rfl⟩ | ⟨rfl, rfl, rfl⟩ | ⟨rfl, rfl, rfl⟩ | ⟨rfl, rfl, rfl⟩ | ⟨rfl, rfl, rfl⟩ | ⟨rfl, rfl, rfl⟩ | ⟨rfl, rfl, rfl⟩ | ⟨rfl, rfl, rfl⟩ | ⟨rfl, rfl, rfl⟩ | ⟨rfl, rfl, rfl⟩ | ⟨rfl, rfl, rfl⟩ | ⟨rfl, rfl, rfl⟩ | ⟨rfl, rfl, rfl⟩ | ⟨rfl, rfl, rfl⟩ | ⟨rfl, rfl, rfl⟩ | ⟨rfl, rfl, rfl⟩ | ⟨rfl, rfl, rfl⟩ | ⟨rfl, rfl, rfl⟩ | ⟨rfl, rfl, rfl⟩ | ⟨rfl, rfl, rfl⟩ | ⟨rfl, rfl, rfl⟩ | ⟨rfl, rfl, rfl⟩ | ⟨rfl, rfl, rfl⟩ | ⟨rfl, rfl, rfl⟩ | ⟨rfl, rfl, rfl⟩ | ⟨rfl, rfl, rfl⟩ | ⟨rfl, rfl, rfl⟩ | ⟨rfl, rfl, rfl⟩ | ⟨rfl, rfl, rfl⟩ | ⟨rfl, rfl, rfl⟩ | ⟨rfl, rfl, rfl⟩ | ⟨rfl, rfl, rfl⟩ | ⟨rfl, rfl, rfl⟩ | ⟨rfl, rfl, rfl⟩ | ⟨rfl, rfl, rfl⟩ | ⟨rfl, rfl, rfl⟩ | ⟨rfl, rfl, rfl⟩ | ⟨rfl, rfl, rfl⟩ | ⟨rfl, rfl, rfl⟩ | ⟨rfl, rfl, rfl⟩ | ⟨rfl, rfl, rfl⟩ | ⟨rfl, rfl, rfl⟩ | ⟨rfl, rfl, rfl⟩ | ⟨rfl, rfl, rfl⟩ | ⟨rfl, rfl, rfl⟩ | ⟨rfl, rfl, rfl⟩ | ⟨rfl, rfl, rfl⟩ | ⟨rfl, rfl, rfl⟩ | ⟨rfl, rfl, rfl⟩ | ⟨rfl, rfl, rfl⟩
  · exact ⟨by decide, bind_0_1⟩
  · exact ⟨by decide, bind_1_2⟩
  · exact ⟨by decide, bind_2_3⟩
  · exact ⟨by decide, bind_3_2⟩
  · exact ⟨by decide, bind_4_1⟩
  · exact ⟨by decide, bind_5_2⟩
  · exact ⟨by decide, bind_6_1⟩
  · exact ⟨by decide, bind_7_1⟩
  · exact ⟨by decide, bind_8_3⟩
  · exact ⟨by decide, bind_9_2⟩
  · exact ⟨by decide, bind_10_2⟩
  · exact ⟨by decide, bind_11_3⟩
  · exact ⟨by decide, bind_12_1⟩
  · exact ⟨by decide, bind_13_1⟩
  · exact ⟨by decide, bind_14_1⟩
  · exact ⟨by decide, bind_15_3⟩
  · exact ⟨by decide, bind_16_3⟩
  · exact ⟨by decide, bind_17_1⟩
  · exact ⟨by decide, bind_18_1⟩
  · exact ⟨by decide, bind_19_1⟩
  · exact ⟨by decide, bind_20_3⟩
  · exact ⟨by decide, bind_21_2⟩
  · exact ⟨by decide, bind_22_1⟩
  · exact ⟨by decide, bind_23_2⟩
  · exact ⟨by decide, bind_24_0_1_0⟩
  · exact ⟨by decide, bind_24_2⟩
  · exact ⟨by decide, bind_25_1⟩
  · exact ⟨by decide, bind_26_1⟩
  · exact ⟨by decide, bind_27_3⟩
  · exact ⟨by decide, bind_28_0_2_1_0⟩
  · exact ⟨by decide, bind_28_3⟩
  · exact ⟨by decide, bind_29_3⟩
  · exact ⟨by decide, bind_30_3⟩
  · exact ⟨by decide, bind_31_0_2_1_0⟩
  · exact ⟨by decide, bind_31_3⟩
  · exact ⟨by decide, bind_32_4⟩
  · exact ⟨by decide, bind_33_0_3_2_1_0⟩
  · exact ⟨by decide, bind_33_4⟩
  · exact ⟨by decide, bind_34_2⟩
  · exact ⟨by decide, bind_35_2⟩
  · exact ⟨by decide, bind_36_2⟩
  · exact ⟨by decide, bind_37_2⟩
  · exact ⟨by decide, bind_38_2⟩
  · exact ⟨by decide, bind_39_1⟩
  · exact ⟨by decide, bind_40_1⟩
  · exact ⟨by decide, bind_41_2⟩
  · exact ⟨by decide, bind_42_2⟩
  · exact ⟨by decide, bind_43_3⟩
  · exact ⟨by decide, bind_44_3⟩
  · exact ⟨by decide, bind_45_3⟩
  · exact ⟨by decide, bind_46_4⟩
  · exact ⟨by decide, bind_47_1⟩
end Lw

set_option Elab.async false
set_option linter.all false
set_option autoImplicit false
set_option maxRecDepth 100000
set_option maxHeartbeats 4000000
namespace Lw
open PySem L2 Pl
local macro_rules
  | `(tactic| trivial) => `(tactic| first | omega | ((with_reducible apply Pl.mulOk_l); first | decide | omega) | ((with_reducible apply Pl.mulOk_r); first | decide | omega) | ((with_reducible apply Pl.divOk_s) <;> omega) | ((with_reducible apply Pl.divOk_w) <;> omega) | ((with_reducible apply Pl.powOk_s) <;> omega) | ((with_reducible apply Pl.CompOk.mk); with_unfolding_all exact rfl) | ((with_reducible apply Pl.KeepOk.mk); with_unfolding_all exact rfl) | ((with_reducible apply Pl.mulSOk_s) <;> first | omega | decide) | with_reducible decide | with_reducible rfl | (simp only [List.length_cons, List.length_nil, List.length_append, List.length_map, List.length_take, List.length_drop]; omega) | assumption)
local macro_rules
  | `(tactic| simp_arith [$ls,*]) => `(tactic| simp (disch := trivial) only [↓Pl.w_some, ↓Pl.w_none, ↓Pl.w_frzp, ↓Pl.w_frzl, ↓Pl.w_fzL0, ↓Pl.w_fzL1, ↓Pl.w_fzL2, ↓Pl.w_flp, ↓Pl.w_fll, ↓Pl.w_flnil, ↓Pl.w_flcons, ↓Pl.w_fzLm, ↓Pl.w_flmap, ↓Pl.w_get0, ↓Pl.w_getS, ↓Pl.w_getP0, ↓Pl.w_getPS, ↓Pl.w_set0, ↓Pl.w_setS, ↓Pl.w_wipe0, ↓Pl.w_wipe1, ↓Pl.w_condT, ↓Pl.w_condF, ↓Pl.w_condN, ↓Pl.w_tyb, ↓Pl.w_inti, ↓Pl.w_itl, ↓Pl.w_itt, ↓Pl.w_its, ↓Pl.w_ll, ↓Pl.w_bindv, ↓Pl.w_bindt, ↓Pl.w_bindl, ↓Pl.w_binds0, ↓Pl.w_binds1, ↓Pl.w_lit, ↓Pl.w_var, ↓Pl.w_glob, ↓Pl.o_var, ↓Pl.r_var, ↓Pl.o_lit, ↓Pl.r_lit, ↓Pl.o_glob, ↓Pl.r_glob, ↓Pl.o_bin, ↓Pl.r_bin, ↓Pl.o_neg, ↓Pl.r_neg, ↓Pl.o_not, ↓Pl.r_not, ↓Pl.o_cmp, ↓Pl.r_cmp, ↓Pl.o_chain, ↓Pl.r_chain, ↓Pl.o_and, ↓Pl.r_and, ↓Pl.o_or, ↓Pl.r_or, ↓Pl.o_ife, ↓Pl.r_ife, ↓Pl.o_tup, ↓Pl.r_tup, ↓Pl.o_lst, ↓Pl.r_lst, ↓Pl.o_idx, ↓Pl.r_idx, ↓Pl.o_idx2, ↓Pl.r_idx2, ↓Pl.o_slc, ↓Pl.r_slc, ↓Pl.o_call, ↓Pl.r_call, ↓Pl.o_bi, ↓Pl.r_bi, ↓Pl.o_isi, ↓Pl.r_isi, ↓Pl.o_mkx, ↓Pl.r_mkx, ↓Pl.o_comp, ↓Pl.r_comp, ↓Pl.o_rng1, ↓Pl.r_rng1, ↓Pl.o_rng2, ↓Pl.r_rng2, ↓Pl.o_enum, ↓Pl.r_enum, ↓Pl.o_zip, ↓Pl.r_zip, ↓Pl.o_rng3, ↓Pl.r_rng3, ↓Pl.o_view, ↓Pl.r_view, ↓Pl.o_cnt, ↓Pl.r_cnt, ↓Pl.o_dnil, ↓Pl.r_dnil, ↓Pl.o_keys, ↓Pl.r_keys, ↓Pl.w_bin, ↓Pl.w_cmp, ↓Pl.tv_var, ↓Pl.iv_var, ↓Pl.tv_lit, ↓Pl.iv_lit, ↓Pl.tv_glob, ↓Pl.iv_glob, ↓Pl.iv_bin, ↓Pl.tv_chain, ↓Pl.iv_ife, ↓Pl.iv_tup, ↓Pl.iv_lst, ↓Pl.tv_idx, ↓Pl.iv_idx, ↓Pl.tv_idx2, ↓Pl.iv_idx2, ↓Pl.tv_slc, ↓Pl.iv_slc, ↓Pl.tv_call, ↓Pl.iv_call, ↓Pl.tv_isi, ↓Pl.tv_mkx, ↓Pl.iv_comp, ↓Pl.tv_bi, ↓Pl.iv_bi, ↓Pl.t_cmpW, ↓Pl.w_neg, ↓Pl.w_not, ↓Pl.t_notW, ↓Pl.t_and1W, ↓Pl.t_andW, ↓Pl.t_or1W, ↓Pl.t_orW, ↓Pl.w_and1, ↓Pl.w_and, ↓Pl.w_or1, ↓Pl.w_or, ↓Pl.w_chain, ↓Pl.w_ife, ↓Pl.s_nil, ↓Pl.s_cons, ↓Pl.w_tup, ↓Pl.w_lst, ↓Pl.w_idx, ↓Pl.w_pp, ↓Pl.w_atl, ↓Pl.w_atv, ↓Pl.w_idp, ↓Pl.w_idl, ↓Pl.w_idx2, ↓Pl.p_idx2P, ↓Pl.w_oin, ↓Pl.w_ois, ↓Pl.w_slc, ↓Pl.w_call, ↓Pl.w_callF, ↓Pl.w_callM, ↓Pl.w_callM_call, ↓Pl.w_callM_lst, ↓Pl.w_callM_bin, ↓Pl.w_callM_slc, ↓Pl.w_callM_bi, ↓Pl.w_callM_comp, ↓Pl.w_callM_ife, ↓Pl.w_callM_idx, ↓Pl.a_pos0, ↓Pl.a_pos1, ↓Pl.a_pos2, ↓Pl.a_pos3, ↓Pl.a_pos4, ↓Pl.a_pos5, ↓Pl.a_pos6, ↓Pl.a_pos7, ↓Pl.a_pos8, ↓Pl.a_pos9, ↓Pl.w_RWok, ↓Pl.w_RWexc, ↓Pl.w_bi1, ↓Pl.w_bi2, ↓Pl.w_isi, ↓Pl.w_mkx, ↓Pl.w_strs, ↓Pl.w_getO0, ↓Pl.w_getOS, ↓Pl.w_back0, ↓Pl.w_back1, ↓Pl.w_comp, ↓Pl.w_compT, ↓Pl.iv_rng1, ↓Pl.iv_rng2, ↓Pl.iv_rng3, ↓Pl.w_frzd, ↓Pl.w_dd, ↓Pl.w_keyi, ↓Pl.w_keys_, ↓Pl.w_dnil, ↓Pl.w_keys, ↓Pl.w_view0, ↓Pl.w_viewN, ↓Pl.w_viewS, ↓Pl.t_view, ↓Pl.w_view, ↓Pl.w_flI, ↓Pl.w_flB, ↓Pl.w_flS, ↓Pl.w_flN, ↓Pl.w_lstl, ↓Pl.w_cnt, ↓Pl.iv_enum, ↓Pl.w_zipl, ↓Pl.w_zipt, ↓Pl.iv_zip, ↓Pl.q_nx, ↓Pl.q_rt, ↓Pl.q_bk, ↓Pl.q_ct, ↓Pl.q_ex, ↓Pl.b_nilW, ↓Pl.b_asg, ↓Pl.b_asgt, ↓Pl.w_par0, ↓Pl.w_par1, ↓Pl.b_par, ↓Pl.b_asgL, ↓Pl.b_set, ↓Pl.b_set2, ↓Pl.p_set2P, ↓Pl.b_dset, ↓Pl.b_aug, ↓Pl.b_app, ↓Pl.b_expr, ↓Pl.b_ife, ↓Pl.b_for, ↓Pl.b_while, ↓Pl.b_retW, ↓Pl.b_retV, ↓Pl.b_raise, ↓Pl.b_raiseF, ↓Pl.b_pass, ↓Pl.b_brk, ↓Pl.b_cont, ↓Pl.b_frz, ↓Pl.b_try, ↓Pl.y_nx, ↓Pl.y_rt, ↓Pl.y_bk, ↓Pl.y_ct, ↓Pl.y_keep, ↓Pl.f_nxF, ↓Pl.f_rtF, ↓Pl.f_exF, ↓Pl.f_nxT, ↓Pl.f_rtT, ↓Pl.w_init0, ↓Pl.w_initN, ↓Pl.w_initS, ↓Pl.l_nx, ↓Pl.l_ct, ↓Pl.l_bk, ↓Pl.l_rt, ↓Pl.l_ex, ↓Pl.c_t0, ↓Pl.c_t1, ↓Pl.p_Add, ↓Pl.p_Sub, ↓Pl.p_Mul, ↓Pl.p_Div, ↓Pl.p_Mod, ↓Pl.p_Pow0, ↓Pl.p_Pow1, ↓Pl.p_Pow2, ↓Pl.p_Pow3, ↓Pl.p_Pow4, ↓Pl.p_Pow5, ↓Pl.p_Pow6, ↓Pl.p_Pow7, ↓Pl.p_Pow8, ↓Pl.p_Pow9, ↓Pl.p_Pow10, ↓Pl.p_Pow11, ↓Pl.p_Pow12, ↓Pl.p_Pow13, ↓Pl.p_Pow14, ↓Pl.p_Pow15, ↓Pl.p_Pow16, ↓Pl.p_Pow17, ↓Pl.p_Pow18, ↓Pl.p_Pow19, ↓Pl.p_Pow20, ↓Pl.p_Pow21, ↓Pl.p_Pow22, ↓Pl.p_Pow23, ↓Pl.p_Pow24, ↓Pl.p_Pow25, ↓Pl.p_Pow26, ↓Pl.p_Pow27, ↓Pl.p_Pow28, ↓Pl.p_Pow29, ↓Pl.p_Pow30, ↓Pl.p_Pow31, ↓Pl.p_Pow32, ↓Pl.p_Pow33, ↓Pl.p_Pow34, ↓Pl.p_Pow35, ↓Pl.p_Pow36, ↓Pl.p_Pow37, ↓Pl.p_Pow38, ↓Pl.p_Pow39, ↓Pl.p_Pow40, ↓Pl.p_Pow41, ↓Pl.p_Pow42, ↓Pl.p_Pow43, ↓Pl.p_Pow44, ↓Pl.p_Pow45, ↓Pl.p_Pow46, ↓Pl.p_Pow47, ↓Pl.p_Pow48, ↓Pl.p_Pow49, ↓Pl.p_Pow50, ↓Pl.p_Pow51, ↓Pl.p_Pow52, ↓Pl.p_Pow53, ↓Pl.p_Pow54, ↓Pl.p_Pow55, ↓Pl.p_Pow56, ↓Pl.p_Pow57, ↓Pl.p_Pow58, ↓Pl.p_Pow59, ↓Pl.p_Pow60, ↓Pl.p_Pow61, ↓Pl.p_Pow62, ↓Pl.p_Pow63, ↓Pl.p_Pow64, ↓Pl.p_Pow65, ↓Pl.p_MulS, ↓Pl.p_AddL, ↓Pl.p_AddT, ↓Pl.p_Lt, ↓Pl.p_LtE, ↓Pl.p_Gt, ↓Pl.p_GtE, ↓Pl.p_Eq, ↓Pl.p_NotEq, ↓Pl.p_IsN, ↓Pl.p_IsNotN, ↓Pl.p_Is_bl, ↓Pl.p_IsNot_bl, ↓Pl.p_Is_int, ↓Pl.p_IsNot_int, ↓Pl.p_Is_str, ↓Pl.p_IsNot_str, ↓Pl.p_Is_tup, ↓Pl.p_IsNot_tup, ↓Pl.p_Is_lst, ↓Pl.p_IsNot_lst, ↓Pl.p_Is_exc, ↓Pl.p_IsNot_exc, ↓Pl.p_Is_scr, ↓Pl.p_IsNot_scr, ↓Pl.p_IsB, ↓Pl.p_IsNotB, ↓Pl.p_idx_tup, ↓Pl.p_idx_lst, ↓Pl.p_idx_scr, ↓Pl.p_at0, ↓Pl.p_at1, ↓Pl.p_at2, ↓Pl.p_at3, ↓Pl.p_at4, ↓Pl.p_at5, ↓Pl.p_at6, ↓Pl.p_at7, ↓Pl.p_at8, ↓Pl.p_set0, ↓Pl.p_set1, ↓Pl.p_set2, ↓Pl.p_set3, ↓Pl.p_set4, ↓Pl.p_set5, ↓Pl.p_lenL, ↓Pl.p_lenT, ↓Pl.p_lenS, ↓Pl.p_abs, ↓Pl.p_max2, ↓Pl.p_min2, ↓Pl.p_int, ↓Pl.p_intb, ↓Pl.p_divmod, ↓Pl.p_listL, ↓Pl.p_listT, ↓Pl.p_tupL, ↓Pl.p_tupT, ↓Pl.p_augA, ↓Pl.p_augS, ↓Pl.p_isi_int_non, ↓Pl.p_isi_bool_non, ↓Pl.p_isi_str_non, ↓Pl.p_isi_list_non, ↓Pl.p_isi_tuple_non, ↓Pl.p_isi_lt_non, ↓Pl.p_isi_int_bl, ↓Pl.p_isi_bool_bl, ↓Pl.p_isi_str_bl, ↓Pl.p_isi_list_bl, ↓Pl.p_isi_tuple_bl, ↓Pl.p_isi_lt_bl, ↓Pl.p_isi_int_int, ↓Pl.p_isi_bool_int, ↓Pl.p_isi_str_int, ↓Pl.p_isi_list_int, ↓Pl.p_isi_tuple_int, ↓Pl.p_isi_lt_int, ↓Pl.p_isi_int_str, ↓Pl.p_isi_bool_str, ↓Pl.p_isi_str_str, ↓Pl.p_isi_list_str, ↓Pl.p_isi_tuple_str, ↓Pl.p_isi_lt_str, ↓Pl.p_isi_int_tup, ↓Pl.p_isi_bool_tup, ↓Pl.p_isi_str_tup, ↓Pl.p_isi_list_tup, ↓Pl.p_isi_tuple_tup, ↓Pl.p_isi_lt_tup, ↓Pl.p_isi_int_lst, ↓Pl.p_isi_bool_lst, ↓Pl.p_isi_str_lst, ↓Pl.p_isi_list_lst, ↓Pl.p_isi_tuple_lst, ↓Pl.p_isi_lt_lst, ↓Pl.p_isi_int_scr, ↓Pl.p_isi_bool_scr, ↓Pl.p_isi_str_scr, ↓Pl.p_isi_list_scr, ↓Pl.p_isi_tuple_scr, ↓Pl.p_isi_lt_scr, ↓Pl.p_isi_int_exc, ↓Pl.p_isi_bool_exc, ↓Pl.p_isi_str_exc, ↓Pl.p_isi_list_exc, ↓Pl.p_isi_tuple_exc, ↓Pl.p_isi_lt_exc, ↓Pl.p_sliceL, ↓Pl.p_sliceT, ↓Pl.z_l0, ↓Pl.z_l1, ↓Pl.z_l2, ↓Pl.z_l3, ↓Pl.z_l4, ↓Pl.z_l5, ↓Pl.z_l6, ↓Pl.z_l7, ↓Pl.z_l8, ↓Pl.z_l9, ↓Pl.z_l10, ↓Pl.z_l11, ↓Pl.z_l12, ↓Pl.z_szT, ↓Pl.z_inR, ↓Pl.z_inR2, ↓Pl.z_lenlt, Pl.w_some, Pl.w_none, Pl.w_frzp, Pl.w_frzl, Pl.w_fzL0, Pl.w_fzL1, Pl.w_fzL2, Pl.w_flp, Pl.w_fll, Pl.w_flnil, Pl.w_flcons, Pl.w_fzLm, Pl.w_flmap, Pl.w_get0, Pl.w_getS, Pl.w_getP0, Pl.w_getPS, Pl.w_set0, Pl.w_setS, Pl.w_wipe0, Pl.w_wipe1, Pl.w_condT, Pl.w_condF, Pl.w_condN, Pl.w_tyb, Pl.w_inti, Pl.w_itl, Pl.w_itt, Pl.w_its, Pl.w_ll, Pl.w_bindv, Pl.w_bindt, Pl.w_bindl, Pl.w_binds0, Pl.w_binds1, Pl.w_lit, Pl.w_var, Pl.w_glob, Pl.o_var, Pl.r_var, Pl.o_lit, Pl.r_lit, Pl.o_glob, Pl.r_glob, Pl.o_bin, Pl.r_bin, Pl.o_neg, Pl.r_neg, Pl.o_not, Pl.r_not, Pl.o_cmp, Pl.r_cmp, Pl.o_chain, Pl.r_chain, Pl.o_and, Pl.r_and, Pl.o_or, Pl.r_or, Pl.o_ife, Pl.r_ife, Pl.o_tup, Pl.r_tup, Pl.o_lst, Pl.r_lst, Pl.o_idx, Pl.r_idx, Pl.o_idx2, Pl.r_idx2, Pl.o_slc, Pl.r_slc, Pl.o_call, Pl.r_call, Pl.o_bi, Pl.r_bi, Pl.o_isi, Pl.r_isi, Pl.o_mkx, Pl.r_mkx, Pl.o_comp, Pl.r_comp, Pl.o_rng1, Pl.r_rng1, Pl.o_rng2, Pl.r_rng2, Pl.o_enum, Pl.r_enum, Pl.o_zip, Pl.r_zip, Pl.o_rng3, Pl.r_rng3, Pl.o_view, Pl.r_view, Pl.o_cnt, Pl.r_cnt, Pl.o_dnil, Pl.r_dnil, Pl.o_keys, Pl.r_keys, Pl.w_bin, Pl.w_cmp, Pl.tv_var, Pl.iv_var, Pl.tv_lit, Pl.iv_lit, Pl.tv_glob, Pl.iv_glob, Pl.iv_bin, Pl.tv_chain, Pl.iv_ife, Pl.iv_tup, Pl.iv_lst, Pl.tv_idx, Pl.iv_idx, Pl.tv_idx2, Pl.iv_idx2, Pl.tv_slc, Pl.iv_slc, Pl.tv_call, Pl.iv_call, Pl.tv_isi, Pl.tv_mkx, Pl.iv_comp, Pl.tv_bi, Pl.iv_bi, Pl.t_cmpW, Pl.w_neg, Pl.w_not, Pl.t_notW, Pl.t_and1W, Pl.t_andW, Pl.t_or1W, Pl.t_orW, Pl.w_and1, Pl.w_and, Pl.w_or1, Pl.w_or, Pl.w_chain, Pl.w_ife, Pl.s_nil, Pl.s_cons, Pl.w_tup, Pl.w_lst, Pl.w_idx, Pl.w_pp, Pl.w_atl, Pl.w_atv, Pl.w_idp, Pl.w_idl, Pl.w_idx2, Pl.p_idx2P, Pl.w_oin, Pl.w_ois, Pl.w_slc, Pl.w_call, Pl.w_callF, Pl.w_callM, Pl.w_callM_call, Pl.w_callM_lst, Pl.w_callM_bin, Pl.w_callM_slc, Pl.w_callM_bi, Pl.w_callM_comp, Pl.w_callM_ife, Pl.w_callM_idx, Pl.a_pos0, Pl.a_pos1, Pl.a_pos2, Pl.a_pos3, Pl.a_pos4, Pl.a_pos5, Pl.a_pos6, Pl.a_pos7, Pl.a_pos8, Pl.a_pos9, Pl.w_RWok, Pl.w_RWexc, Pl.w_pz0, Pl.w_pzp, Pl.w_pzl, Pl.w_fz0, Pl.w_fzp, Pl.w_fzl, Pl.w_fzmap, Pl.w_bi1, Pl.w_bi2, Pl.w_isi, Pl.w_mkx, Pl.w_strs, Pl.w_getO0, Pl.w_getOS, Pl.w_back0, Pl.w_back1, Pl.w_comp, Pl.w_compT, Pl.iv_rng1, Pl.iv_rng2, Pl.iv_rng3, Pl.w_frzd, Pl.w_dd, Pl.w_keyi, Pl.w_keys_, Pl.w_dnil, Pl.w_keys, Pl.w_view0, Pl.w_viewN, Pl.w_viewS, Pl.t_view, Pl.w_view, Pl.w_flI, Pl.w_flB, Pl.w_flS, Pl.w_flN, Pl.w_lstl, Pl.w_cnt, Pl.iv_enum, Pl.w_zipl, Pl.w_zipt, Pl.iv_zip, Pl.q_nx, Pl.q_rt, Pl.q_bk, Pl.q_ct, Pl.q_ex, Pl.b_nilW, Pl.b_asg, Pl.b_asgt, Pl.w_par0, Pl.w_par1, Pl.b_par, Pl.b_asgL, Pl.b_set, Pl.b_set2, Pl.p_set2P, Pl.b_dset, Pl.b_aug, Pl.b_app, Pl.b_expr, Pl.b_ife, Pl.b_for, Pl.b_while, Pl.b_retW, Pl.b_retV, Pl.b_raise, Pl.b_raiseF, Pl.b_pass, Pl.b_brk, Pl.b_cont, Pl.b_frz, Pl.b_try, Pl.y_nx, Pl.y_rt, Pl.y_bk, Pl.y_ct, Pl.y_keep, Pl.f_nxF, Pl.f_rtF, Pl.f_exF, Pl.f_nxT, Pl.f_rtT, Pl.w_init0, Pl.w_initN, Pl.w_initS, Pl.l_nx, Pl.l_ct, Pl.l_bk, Pl.l_rt, Pl.l_ex, Pl.c_t0, Pl.c_t1, Pl.p_Add, Pl.p_Sub, Pl.p_Mul, Pl.p_Div, Pl.p_Mod, Pl.p_Pow0, Pl.p_Pow1, Pl.p_Pow2, Pl.p_Pow3, Pl.p_Pow4, Pl.p_Pow5, Pl.p_Pow6, Pl.p_Pow7, Pl.p_Pow8, Pl.p_Pow9, Pl.p_Pow10, Pl.p_Pow11, Pl.p_Pow12, Pl.p_Pow13, Pl.p_Pow14, Pl.p_Pow15, Pl.p_Pow16, Pl.p_Pow17, Pl.p_Pow18, Pl.p_Pow19, Pl.p_Pow20, Pl.p_Pow21, Pl.p_Pow22, Pl.p_Pow23, Pl.p_Pow24, Pl.p_Pow25, Pl.p_Pow26, Pl.p_Pow27, Pl.p_Pow28, Pl.p_Pow29, Pl.p_Pow30, Pl.p_Pow31, Pl.p_Pow32, Pl.p_Pow33, Pl.p_Pow34, Pl.p_Pow35, Pl.p_Pow36, Pl.p_Pow37, Pl.p_Pow38, Pl.p_Pow39, Pl.p_Pow40, Pl.p_Pow41, Pl.p_Pow42, Pl.p_Pow43, Pl.p_Pow44, Pl.p_Pow45, Pl.p_Pow46, Pl.p_Pow47, Pl.p_Pow48, Pl.p_Pow49, Pl.p_Pow50, Pl.p_Pow51, Pl.p_Pow52, Pl.p_Pow53, Pl.p_Pow54, Pl.p_Pow55, Pl.p_Pow56, Pl.p_Pow57, Pl.p_Pow58, Pl.p_Pow59, Pl.p_Pow60, Pl.p_Pow61, Pl.p_Pow62, Pl.p_Pow63, Pl.p_Pow64, Pl.p_Pow65, Pl.p_MulS, Pl.p_AddL, Pl.p_AddT, Pl.p_Lt, Pl.p_LtE, Pl.p_Gt, Pl.p_GtE, Pl.p_Eq, Pl.p_NotEq, Pl.p_IsN, Pl.p_IsNotN, Pl.p_Is_bl, Pl.p_IsNot_bl, Pl.p_Is_int, Pl.p_IsNot_int, Pl.p_Is_str, Pl.p_IsNot_str, Pl.p_Is_tup, Pl.p_IsNot_tup, Pl.p_Is_lst, Pl.p_IsNot_lst, Pl.p_Is_exc, Pl.p_IsNot_exc, Pl.p_Is_scr, Pl.p_IsNot_scr, Pl.p_IsB, Pl.p_IsNotB, Pl.p_idx_tup, Pl.p_idx_lst, Pl.p_idx_scr, Pl.p_at0, Pl.p_at1, Pl.p_at2, Pl.p_at3, Pl.p_at4, Pl.p_at5, Pl.p_at6, Pl.p_at7, Pl.p_at8, Pl.p_set0, Pl.p_set1, Pl.p_set2, Pl.p_set3, Pl.p_set4, Pl.p_set5, Pl.p_lenL, Pl.p_lenT, Pl.p_lenS, Pl.p_abs, Pl.p_max2, Pl.p_min2, Pl.p_int, Pl.p_intb, Pl.p_divmod, Pl.p_listL, Pl.p_listT, Pl.p_tupL, Pl.p_tupT, Pl.p_augA, Pl.p_augS, Pl.p_isi_int_non, Pl.p_isi_bool_non, Pl.p_isi_str_non, Pl.p_isi_list_non, Pl.p_isi_tuple_non, Pl.p_isi_lt_non, Pl.p_isi_int_bl, Pl.p_isi_bool_bl, Pl.p_isi_str_bl, Pl.p_isi_list_bl, Pl.p_isi_tuple_bl, Pl.p_isi_lt_bl, Pl.p_isi_int_int, Pl.p_isi_bool_int, Pl.p_isi_str_int, Pl.p_isi_list_int, Pl.p_isi_tuple_int, Pl.p_isi_lt_int, Pl.p_isi_int_str, Pl.p_isi_bool_str, Pl.p_isi_str_str, Pl.p_isi_list_str, Pl.p_isi_tuple_str, Pl.p_isi_lt_str, Pl.p_isi_int_tup, Pl.p_isi_bool_tup, Pl.p_isi_str_tup, Pl.p_isi_list_tup, Pl.p_isi_tuple_tup, Pl.p_isi_lt_tup, Pl.p_isi_int_lst, Pl.p_isi_bool_lst, Pl.p_isi_str_lst, Pl.p_isi_list_lst, Pl.p_isi_tuple_lst, Pl.p_isi_lt_lst, Pl.p_isi_int_scr, Pl.p_isi_bool_scr, Pl.p_isi_str_scr, Pl.p_isi_list_scr, Pl.p_isi_tuple_scr, Pl.p_isi_lt_scr, Pl.p_isi_int_exc, Pl.p_isi_bool_exc, Pl.p_isi_str_exc, Pl.p_isi_list_exc, Pl.p_isi_tuple_exc, Pl.p_isi_lt_exc, Pl.p_sliceL, Pl.p_sliceT, Pl.z_l0, Pl.z_l1, Pl.z_l2, Pl.z_l3, Pl.z_l4, Pl.z_l5, Pl.z_l6, Pl.z_l7, Pl.z_l8, Pl.z_l9, Pl.z_l10, Pl.z_l11, Pl.z_l12, Pl.z_map0, Pl.z_map1, Pl.z_app0, Pl.z_app1, Pl.z_rep0, Pl.z_repS, Pl.z_gt, Pl.z_szT, Pl.z_inR, Pl.z_inR2, Pl.z_lenlt, ↓Pl.w_fzLmp, Pl.w_fzLmp, ↓Pl.w_flmp, Pl.w_flmp, Pl.frzL_mp, ↓Pl.p_all, Pl.p_all, ↓Pl.p_atInt, Pl.p_atInt, decide_true, decide_false, Bool.not_true, Bool.not_false, Int.reduceEq, Int.reduceLT, Int.reduceLE, ↓Pl.p_EqNN, Pl.p_EqNN, ↓Pl.p_NeNN, Pl.p_NeNN, ↓Pl.p_EqNI, Pl.p_EqNI, ↓Pl.p_EqIN, Pl.p_EqIN, ↓Pl.p_NeNI, Pl.p_NeNI, ↓Pl.p_NeIN, Pl.p_NeIN, ↓Pl.p_EqB, Pl.p_EqB, ↓Pl.p_NeB, Pl.p_NeB, Lw.fn_is_integer, Lw.fn_is_from, Lw.fn_is_between, Lw.fn_is_index, Lw.fn_is_ascending, Lw.fn_check_index, Lw.fn_are_turns, Lw.fn_is_places, Lw.fn_is_stretch, Lw.fn_is_entry_of, Lw.fn_are_ends, Lw.fn_is_tie_of, Lw.fn_is_book, Lw.fn_check_book, Lw.fn_check_day, Lw.fn_nought_in, Lw.fn_mark_in, Lw.fn_check_term, Lw.fn_check_holidays, Lw.fn_date_of, Lw.fn_number_of_date, Lw.fn_month_length, Lw.fn_weekday_of, Lw.fn_is_open_day, Lw.fn_is_open, Lw.fn_workdays_ahead, Lw.fn_workday_at, Lw.fn_lost_workdays, Lw.fn_open_days, Lw.fn_open_day_behind, Lw.fn_due_of, Lw.fn_due_day, Lw.fn_due_mark_in, Lw.fn_due_mark, Lw.fn__law_purse, Lw.fn__law_take, Lw.fn__law_pick, Lw.fn__law_match, Lw.fn__law_long, Lw.fn__law_counted, Lw.fn__law_drawn_day, Lw.fn__law_drawn_holidays, Lw.fn__law_is_work, Lw.fn__law_walked, Lw.fn__law_month_on, Lw.fn__law_due, Lw.fn__law_mark_right, Lw.fn_law, Lw.gl_MINUTES, Lw.gl_APART, Lw.gl_LOOK, Lw.gl_DAYS, Lw.gl_OPEN, Lw.gl_MONTHS, Lw.gl_END, Lw.gl_TERM_WORDS, Lw.gl_MONTH_DAYS, Lw.gl_FIRST_MONDAY, Lw.gl_FIRST_MARCH, Lw.gl_CYCLE, Lw.kw_is_open_0_1_0, Lw.kw_open_days_0_2_1_0, Lw.kw_due_day_0_2_1_0, Lw.kw_due_mark_0_3_2_1_0, $ls,*])
local macro_rules
  | `(tactic| simp_arith! [$ls,*]) => `(tactic| simp_arith [$ls,*])
theorem c_is_integer (wf n : Nat) (hn : 1 ≤ n) (i : Int) : callN fnT globT wf n ix_is_integer [.p (.int i)] = .ok (.p (.bl true)) none := by
  rw [← RW_eq, RW_callN fn_is_integer rfl (by omega)]
  unfold bd_is_integer
  simp_arith! [Bool.not_true, Bool.not_false]
  exact ⟨rfl, rfl⟩
local macro_rules
  | `(tactic| simp_arith! [$ls,*]) => `(tactic| simp_arith [c_is_integer, $ls,*])
theorem c_is_from (wf n : Nat) (hn : 2 ≤ n) (i j : Int) : callN fnT globT wf n ix_is_from [.p (.int i), .p (.int j)] = .ok (.p (.bl (decide (i ≤ j)))) none := by
  rw [← RW_eq, RW_callN fn_is_from rfl (by omega)]
  unfold bd_is_from
  simp_arith! []
  exact ⟨rfl, rfl⟩
local macro_rules
  | `(tactic| simp_arith! [$ls,*]) => `(tactic| simp_arith [c_is_integer, c_is_from, $ls,*])
theorem c_check_day (wf n : Nat) (hn : 2 ≤ n) (i : Int) : callN fnT globT wf n ix_check_day [.p (.int i)] = .ok (.p .non) none := by
  rw [← RW_eq, RW_callN fn_check_day rfl (by omega)]
  unfold bd_check_day
  simp_arith! []
  exact ⟨rfl, rfl⟩
local macro_rules
  | `(tactic| simp_arith! [$ls,*]) => `(tactic| simp_arith [c_is_integer, c_is_from, c_check_day, $ls,*])
def Word (w : Str) : Prop := w = "days" ∨ w = "open" ∨ w = "months" ∨ w = "end"
theorem p_InW {w : Str} (h : Word w) (K : Bool → Prop) : optW (cmpop .In (.str w) (.tup [.str "days", .str "open", .str "months", .str "end"])) K = K true := by
  have e : cmpop .In (.str w) (.tup [.str "days", .str "open", .str "months", .str "end"]) = some true := by
    rcases h with rfl | rfl | rfl | rfl <;> decide
  rw [e]
  rfl
theorem c_check_term (wf n : Nat) (hn : 3 ≤ n) (w : Str) (hw : Word w) (k : Int) (hk : 0 ≤ k) : callN fnT globT wf n ix_check_term [.p (.tup [.str w, .int k])] = .ok (.p .non) none := by
  rw [← RW_eq, RW_callN fn_check_term rfl (by omega)]
  unfold bd_check_term
  simp_arith! [p_InW hw]
  refine condDT hk ?_
  simp_arith! []
  exact ⟨rfl, rfl⟩
/-- holidays: days, each later than the one ahead -/
structure Hol (hs : List Int) : Prop where
  len : hs.length ≤ 1000
  asc : hs.Pairwise (· < ·)
theorem Hol.nodup {hs : List Int} (h : Hol hs) : hs.Nodup := h.asc.imp fun {a b} q => by omega
theorem cut_tail (hs : List Int) : cutP (hs.map P.int) (some 1) none = (hs.drop 1).map P.int := by
  unfold cutP
  rw [HT.sIx_none, show (1 : Int) = ((1 : Nat) : Int) from rfl, HT.sIx_nat, List.length_map, List.map_drop]
  cases hs with
  | nil => rfl
  | cons h hs =>
    rw [Nat.min_eq_left (by simp), List.take_of_length_le]
    rw [List.length_drop, List.length_map]
    exact Nat.le_refl _
theorem pair_lt : ∀ {a : List Int} {b : List Int} {p : P}, (∀ (i : Nat) (x y : Int), a[i]? = some x → b[i]? = some y → x < y) → p ∈ pairsOf (a.map .int) (b.map .int) → ∃ x y : Int, p = .tup [.int x, .int y] ∧ x < y
  | [], _, _, _, h => by cases h
  | _ :: _, [], _, _, h => by cases h
  | x :: a, y :: b, p, q, h => by
    rcases List.mem_cons.mp h with h | h
    · exact ⟨x, y, h, q 0 x y rfl rfl⟩
    · exact pair_lt (fun i u v h1 h2 => q (i + 1) u v h1 h2) h
theorem asc_at {hs : List Int} (h : hs.Pairwise (· < ·)) (i : Nat) (x y : Int) (h1 : hs[i]? = some x) (h2 : (hs.drop 1)[i]? = some y) : x < y := by
  rw [List.getElem?_drop] at h2
  obtain ⟨a1, a2⟩ := List.getElem?_eq_some_iff.mp h1
  obtain ⟨b1, b2⟩ := List.getElem?_eq_some_iff.mp h2
  have := List.pairwise_iff_getElem.mp h i (1 + i) a1 b1 (by omega)
  rw [a2, b2] at this
  exact this
theorem all_true {α : Type} (xs : List α) : xs.all (fun _ => true) = true := List.all_eq_true.mpr fun _ _ => rfl
theorem c_is_ascending (wf n : Nat) (hn : 1 ≤ n) (hs : List Int) (h : Hol hs) : callN fnT globT wf n ix_is_ascending [.p (.tup (hs.map .int))] = .ok (.p (.bl true)) none := by
  have hl := h.len
  rw [← RW_eq, RW_callN fn_is_ascending rfl (by omega)]
  unfold bd_is_ascending
  simp_arith! [cut_tail]
  refine CW_map (fun _ => .p (.bl true)) (by rw [pairs_len, List.length_map]; omega) ?_ ?_
  · intro p hp
    obtain ⟨x, y, rfl, hxy⟩ := pair_lt (asc_at h.asc) hp
    simp_arith! []
    rw [decide_eq_true hxy]
    exact ⟨rfl, rfl⟩
  simp_arith! [all_true]
  exact ⟨rfl, rfl⟩
theorem c_check_holidays (wf n : Nat) (hn : 2 ≤ n) (hs : List Int) (h : Hol hs) : callN fnT globT wf n ix_check_holidays [.p (.tup (hs.map .int))] = .ok (.p .non) none := by
  have hl := h.len
  rw [← RW_eq, RW_callN fn_check_holidays rfl (by omega)]
  unfold bd_check_holidays
  simp_arith! []
  refine CW_map (fun _ => .p (.bl true)) (by rw [List.length_map]; omega) ?_ ?_
  · intro p hp
    obtain ⟨x, _, rfl⟩ := List.mem_map.mp hp
    simp_arith! []
    exact ⟨rfl, rfl⟩
  simp_arith! [all_true, c_is_ascending wf (n - 1) (by omega) hs h]
  exact ⟨rfl, rfl⟩
theorem c_date_of (wf n : Nat) (hn : 1 ≤ n) (d : Int) : callN fnT globT wf n ix_date_of [.p (.int d)] = .ok (.p (Pu.dateF d)) none := by
  rw [← RW_eq, RW_callN fn_date_of rfl (by omega)]
  unfold bd_date_of
  simp_arith! []
  refine condD (fun h => ?_) (fun h => ?_)
  · simp_arith! []
    refine condD (fun h2 => ?_) (fun h2 => ?_)
    · simp_arith! []
      refine ⟨?_, rfl⟩
      have e : Pu.dM (Pu.dR d) = Pu.dMo (Pu.dR d) + 3 := if_pos h
      unfold Pu.dateF
      rw [if_pos (by rw [e]; exact h2), e]
      rfl
    · simp_arith! []
      refine ⟨?_, rfl⟩
      have e : Pu.dM (Pu.dR d) = Pu.dMo (Pu.dR d) + 3 := if_pos h
      unfold Pu.dateF
      rw [if_neg (by rw [e]; exact h2), e]
      rfl
  · simp_arith! []
    refine condD (fun h2 => ?_) (fun h2 => ?_)
    · simp_arith! []
      refine ⟨?_, rfl⟩
      have e : Pu.dM (Pu.dR d) = Pu.dMo (Pu.dR d) - 9 := if_neg h
      unfold Pu.dateF
      rw [if_pos (by rw [e]; exact h2), e]
      rfl
    · simp_arith! []
      refine ⟨?_, rfl⟩
      have e : Pu.dM (Pu.dR d) = Pu.dMo (Pu.dR d) - 9 := if_neg h
      unfold Pu.dateF
      rw [if_neg (by rw [e]; exact h2), e]
      rfl
theorem c_number_of_date (wf n : Nat) (hn : 1 ≤ n) (y m d : Int) : callN fnT globT wf n ix_number_of_date [.p (.int y), .p (.int m), .p (.int d)] = .ok (.p (.int (Pu.numF y m d))) none := by
  rw [← RW_eq, RW_callN fn_number_of_date rfl (by omega)]
  unfold bd_number_of_date
  simp_arith! []
  refine condD (fun h => ?_) (fun h => ?_)
  · simp_arith! []
    refine ⟨?_, rfl⟩
    have e1 : Pu.nY y m = y := if_pos h
    have e2 : Pu.nM m = m - 3 := if_pos h
    unfold Pu.numF
    rw [e1, e2]
  · simp_arith! []
    refine ⟨?_, rfl⟩
    have e1 : Pu.nY y m = y - 1 := if_neg h
    have e2 : Pu.nM m = m + 9 := if_neg h
    unfold Pu.numF
    rw [e1, e2]

end Lw

set_option Elab.async false
set_option linter.all false
set_option autoImplicit false
set_option maxRecDepth 100000
set_option maxHeartbeats 4000000
namespace Lw
open PySem L2 Pl
local macro_rules
  | `(tactic| trivial) => `(tactic| first | omega | ((with_reducible apply Pl.mulOk_l); first | decide | omega) | ((with_reducible apply Pl.mulOk_r); first | decide | omega) | ((with_reducible apply Pl.divOk_s) <;> omega) | ((with_reducible apply Pl.divOk_w) <;> omega) | ((with_reducible apply Pl.powOk_s) <;> omega) | ((with_reducible apply Pl.CompOk.mk); with_unfolding_all exact rfl) | ((with_reducible apply Pl.KeepOk.mk); with_unfolding_all exact rfl) | ((with_reducible apply Pl.mulSOk_s) <;> first | omega | decide) | with_reducible decide | with_reducible rfl | (simp only [List.length_cons, List.length_nil, List.length_append, List.length_map, List.length_take, List.length_drop]; omega) | assumption)
local macro_rules
  | `(tactic| simp_arith [$ls,*]) => `(tactic| simp (disch := trivial) only [↓Pl.w_some, ↓Pl.w_none, ↓Pl.w_frzp, ↓Pl.w_frzl, ↓Pl.w_fzL0, ↓Pl.w_fzL1, ↓Pl.w_fzL2, ↓Pl.w_flp, ↓Pl.w_fll, ↓Pl.w_flnil, ↓Pl.w_flcons, ↓Pl.w_fzLm, ↓Pl.w_flmap, ↓Pl.w_get0, ↓Pl.w_getS, ↓Pl.w_getP0, ↓Pl.w_getPS, ↓Pl.w_set0, ↓Pl.w_setS, ↓Pl.w_wipe0, ↓Pl.w_wipe1, ↓Pl.w_condT, ↓Pl.w_condF, ↓Pl.w_condN, ↓Pl.w_tyb, ↓Pl.w_inti, ↓Pl.w_itl, ↓Pl.w_itt, ↓Pl.w_its, ↓Pl.w_ll, ↓Pl.w_bindv, ↓Pl.w_bindt, ↓Pl.w_bindl, ↓Pl.w_binds0, ↓Pl.w_binds1, ↓Pl.w_lit, ↓Pl.w_var, ↓Pl.w_glob, ↓Pl.o_var, ↓Pl.r_var, ↓Pl.o_lit, ↓Pl.r_lit, ↓Pl.o_glob, ↓Pl.r_glob, ↓Pl.o_bin, ↓Pl.r_bin, ↓Pl.o_neg, ↓Pl.r_neg, ↓Pl.o_not, ↓Pl.r_not, ↓Pl.o_cmp, ↓Pl.r_cmp, ↓Pl.o_chain, ↓Pl.r_chain, ↓Pl.o_and, ↓Pl.r_and, ↓Pl.o_or, ↓Pl.r_or, ↓Pl.o_ife, ↓Pl.r_ife, ↓Pl.o_tup, ↓Pl.r_tup, ↓Pl.o_lst, ↓Pl.r_lst, ↓Pl.o_idx, ↓Pl.r_idx, ↓Pl.o_idx2, ↓Pl.r_idx2, ↓Pl.o_slc, ↓Pl.r_slc, ↓Pl.o_call, ↓Pl.r_call, ↓Pl.o_bi, ↓Pl.r_bi, ↓Pl.o_isi, ↓Pl.r_isi, ↓Pl.o_mkx, ↓Pl.r_mkx, ↓Pl.o_comp, ↓Pl.r_comp, ↓Pl.o_rng1, ↓Pl.r_rng1, ↓Pl.o_rng2, ↓Pl.r_rng2, ↓Pl.o_enum, ↓Pl.r_enum, ↓Pl.o_zip, ↓Pl.r_zip, ↓Pl.o_rng3, ↓Pl.r_rng3, ↓Pl.o_view, ↓Pl.r_view, ↓Pl.o_cnt, ↓Pl.r_cnt, ↓Pl.o_dnil, ↓Pl.r_dnil, ↓Pl.o_keys, ↓Pl.r_keys, ↓Pl.w_bin, ↓Pl.w_cmp, ↓Pl.tv_var, ↓Pl.iv_var, ↓Pl.tv_lit, ↓Pl.iv_lit, ↓Pl.tv_glob, ↓Pl.iv_glob, ↓Pl.iv_bin, ↓Pl.tv_chain, ↓Pl.iv_ife, ↓Pl.iv_tup, ↓Pl.iv_lst, ↓Pl.tv_idx, ↓Pl.iv_idx, ↓Pl.tv_idx2, ↓Pl.iv_idx2, ↓Pl.tv_slc, ↓Pl.iv_slc, ↓Pl.tv_call, ↓Pl.iv_call, ↓Pl.tv_isi, ↓Pl.tv_mkx, ↓Pl.iv_comp, ↓Pl.tv_bi, ↓Pl.iv_bi, ↓Pl.t_cmpW, ↓Pl.w_neg, ↓Pl.w_not, ↓Pl.t_notW, ↓Pl.t_and1W, ↓Pl.t_andW, ↓Pl.t_or1W, ↓Pl.t_orW, ↓Pl.w_and1, ↓Pl.w_and, ↓Pl.w_or1, ↓Pl.w_or, ↓Pl.w_chain, ↓Pl.w_ife, ↓Pl.s_nil, ↓Pl.s_cons, ↓Pl.w_tup, ↓Pl.w_lst, ↓Pl.w_idx, ↓Pl.w_pp, ↓Pl.w_atl, ↓Pl.w_atv, ↓Pl.w_idp, ↓Pl.w_idl, ↓Pl.w_idx2, ↓Pl.p_idx2P, ↓Pl.w_oin, ↓Pl.w_ois, ↓Pl.w_slc, ↓Pl.w_call, ↓Pl.w_callF, ↓Pl.w_callM, ↓Pl.w_callM_call, ↓Pl.w_callM_lst, ↓Pl.w_callM_bin, ↓Pl.w_callM_slc, ↓Pl.w_callM_bi, ↓Pl.w_callM_comp, ↓Pl.w_callM_ife, ↓Pl.w_callM_idx, ↓Pl.a_pos0, ↓Pl.a_pos1, ↓Pl.a_pos2, ↓Pl.a_pos3, ↓Pl.a_pos4, ↓Pl.a_pos5, ↓Pl.a_pos6, ↓Pl.a_pos7, ↓Pl.a_pos8, ↓Pl.a_pos9, ↓Pl.w_RWok, ↓Pl.w_RWexc, ↓Pl.w_bi1, ↓Pl.w_bi2, ↓Pl.w_isi, ↓Pl.w_mkx, ↓Pl.w_strs, ↓Pl.w_getO0, ↓Pl.w_getOS, ↓Pl.w_back0, ↓Pl.w_back1, ↓Pl.w_comp, ↓Pl.w_compT, ↓Pl.iv_rng1, ↓Pl.iv_rng2, ↓Pl.iv_rng3, ↓Pl.w_frzd, ↓Pl.w_dd, ↓Pl.w_keyi, ↓Pl.w_keys_, ↓Pl.w_dnil, ↓Pl.w_keys, ↓Pl.w_view0, ↓Pl.w_viewN, ↓Pl.w_viewS, ↓Pl.t_view, ↓Pl.w_view, ↓Pl.w_flI, ↓Pl.w_flB, ↓Pl.w_flS, ↓Pl.w_flN, ↓Pl.w_lstl, ↓Pl.w_cnt, ↓Pl.iv_enum, ↓Pl.w_zipl, ↓Pl.w_zipt, ↓Pl.iv_zip, ↓Pl.q_nx, ↓Pl.q_rt, ↓Pl.q_bk, ↓Pl.q_ct, ↓Pl.q_ex, ↓Pl.b_nilW, ↓Pl.b_asg, ↓Pl.b_asgt, ↓Pl.w_par0, ↓Pl.w_par1, ↓Pl.b_par, ↓Pl.b_asgL, ↓Pl.b_set, ↓Pl.b_set2, ↓Pl.p_set2P, ↓Pl.b_dset, ↓Pl.b_aug, ↓Pl.b_app, ↓Pl.b_expr, ↓Pl.b_ife, ↓Pl.b_for, ↓Pl.b_while, ↓Pl.b_retW, ↓Pl.b_retV, ↓Pl.b_raise, ↓Pl.b_raiseF, ↓Pl.b_pass, ↓Pl.b_brk, ↓Pl.b_cont, ↓Pl.b_frz, ↓Pl.b_try, ↓Pl.y_nx, ↓Pl.y_rt, ↓Pl.y_bk, ↓Pl.y_ct, ↓Pl.y_keep, ↓Pl.f_nxF, ↓Pl.f_rtF, ↓Pl.f_exF, ↓Pl.f_nxT, ↓Pl.f_rtT, ↓Pl.w_init0, ↓Pl.w_initN, ↓Pl.w_initS, ↓Pl.l_nx, ↓Pl.l_ct, ↓Pl.l_bk, ↓Pl.l_rt, ↓Pl.l_ex, ↓Pl.c_t0, ↓Pl.c_t1, ↓Pl.p_Add, ↓Pl.p_Sub, ↓Pl.p_Mul, ↓Pl.p_Div, ↓Pl.p_Mod, ↓Pl.p_Pow0, ↓Pl.p_Pow1, ↓Pl.p_Pow2, ↓Pl.p_Pow3, ↓Pl.p_Pow4, ↓Pl.p_Pow5, ↓Pl.p_Pow6, ↓Pl.p_Pow7, ↓Pl.p_Pow8, ↓Pl.p_Pow9, ↓Pl.p_Pow10, ↓Pl.p_Pow11, ↓Pl.p_Pow12, ↓Pl.p_Pow13, ↓Pl.p_Pow14, ↓Pl.p_Pow15, ↓Pl.p_Pow16, ↓Pl.p_Pow17, ↓Pl.p_Pow18, ↓Pl.p_Pow19, ↓Pl.p_Pow20, ↓Pl.p_Pow21, ↓Pl.p_Pow22, ↓Pl.p_Pow23, ↓Pl.p_Pow24, ↓Pl.p_Pow25, ↓Pl.p_Pow26, ↓Pl.p_Pow27, ↓Pl.p_Pow28, ↓Pl.p_Pow29, ↓Pl.p_Pow30, ↓Pl.p_Pow31, ↓Pl.p_Pow32, ↓Pl.p_Pow33, ↓Pl.p_Pow34, ↓Pl.p_Pow35, ↓Pl.p_Pow36, ↓Pl.p_Pow37, ↓Pl.p_Pow38, ↓Pl.p_Pow39, ↓Pl.p_Pow40, ↓Pl.p_Pow41, ↓Pl.p_Pow42, ↓Pl.p_Pow43, ↓Pl.p_Pow44, ↓Pl.p_Pow45, ↓Pl.p_Pow46, ↓Pl.p_Pow47, ↓Pl.p_Pow48, ↓Pl.p_Pow49, ↓Pl.p_Pow50, ↓Pl.p_Pow51, ↓Pl.p_Pow52, ↓Pl.p_Pow53, ↓Pl.p_Pow54, ↓Pl.p_Pow55, ↓Pl.p_Pow56, ↓Pl.p_Pow57, ↓Pl.p_Pow58, ↓Pl.p_Pow59, ↓Pl.p_Pow60, ↓Pl.p_Pow61, ↓Pl.p_Pow62, ↓Pl.p_Pow63, ↓Pl.p_Pow64, ↓Pl.p_Pow65, ↓Pl.p_MulS, ↓Pl.p_AddL, ↓Pl.p_AddT, ↓Pl.p_Lt, ↓Pl.p_LtE, ↓Pl.p_Gt, ↓Pl.p_GtE, ↓Pl.p_Eq, ↓Pl.p_NotEq, ↓Pl.p_IsN, ↓Pl.p_IsNotN, ↓Pl.p_Is_bl, ↓Pl.p_IsNot_bl, ↓Pl.p_Is_int, ↓Pl.p_IsNot_int, ↓Pl.p_Is_str, ↓Pl.p_IsNot_str, ↓Pl.p_Is_tup, ↓Pl.p_IsNot_tup, ↓Pl.p_Is_lst, ↓Pl.p_IsNot_lst, ↓Pl.p_Is_exc, ↓Pl.p_IsNot_exc, ↓Pl.p_Is_scr, ↓Pl.p_IsNot_scr, ↓Pl.p_IsB, ↓Pl.p_IsNotB, ↓Pl.p_idx_tup, ↓Pl.p_idx_lst, ↓Pl.p_idx_scr, ↓Pl.p_at0, ↓Pl.p_at1, ↓Pl.p_at2, ↓Pl.p_at3, ↓Pl.p_at4, ↓Pl.p_at5, ↓Pl.p_at6, ↓Pl.p_at7, ↓Pl.p_at8, ↓Pl.p_set0, ↓Pl.p_set1, ↓Pl.p_set2, ↓Pl.p_set3, ↓Pl.p_set4, ↓Pl.p_set5, ↓Pl.p_lenL, ↓Pl.p_lenT, ↓Pl.p_lenS, ↓Pl.p_abs, ↓Pl.p_max2, ↓Pl.p_min2, ↓Pl.p_int, ↓Pl.p_intb, ↓Pl.p_divmod, ↓Pl.p_listL, ↓Pl.p_listT, ↓Pl.p_tupL, ↓Pl.p_tupT, ↓Pl.p_augA, ↓Pl.p_augS, ↓Pl.p_isi_int_non, ↓Pl.p_isi_bool_non, ↓Pl.p_isi_str_non, ↓Pl.p_isi_list_non, ↓Pl.p_isi_tuple_non, ↓Pl.p_isi_lt_non, ↓Pl.p_isi_int_bl, ↓Pl.p_isi_bool_bl, ↓Pl.p_isi_str_bl, ↓Pl.p_isi_list_bl, ↓Pl.p_isi_tuple_bl, ↓Pl.p_isi_lt_bl, ↓Pl.p_isi_int_int, ↓Pl.p_isi_bool_int, ↓Pl.p_isi_str_int, ↓Pl.p_isi_list_int, ↓Pl.p_isi_tuple_int, ↓Pl.p_isi_lt_int, ↓Pl.p_isi_int_str, ↓Pl.p_isi_bool_str, ↓Pl.p_isi_str_str, ↓Pl.p_isi_list_str, ↓Pl.p_isi_tuple_str, ↓Pl.p_isi_lt_str, ↓Pl.p_isi_int_tup, ↓Pl.p_isi_bool_tup, ↓Pl.p_isi_str_tup, ↓Pl.p_isi_list_tup, ↓Pl.p_isi_tuple_tup, ↓Pl.p_isi_lt_tup, ↓Pl.p_isi_int_lst, ↓Pl.p_isi_bool_lst, ↓Pl.p_isi_str_lst, ↓Pl.p_isi_list_lst, ↓Pl.p_isi_tuple_lst, ↓Pl.p_isi_lt_lst, ↓Pl.p_isi_int_scr, ↓Pl.p_isi_bool_scr, ↓Pl.p_isi_str_scr, ↓Pl.p_isi_list_scr, ↓Pl.p_isi_tuple_scr, ↓Pl.p_isi_lt_scr, ↓Pl.p_isi_int_exc, ↓Pl.p_isi_bool_exc, ↓Pl.p_isi_str_exc, ↓Pl.p_isi_list_exc, ↓Pl.p_isi_tuple_exc, ↓Pl.p_isi_lt_exc, ↓Pl.p_sliceL, ↓Pl.p_sliceT, ↓Pl.z_l0, ↓Pl.z_l1, ↓Pl.z_l2, ↓Pl.z_l3, ↓Pl.z_l4, ↓Pl.z_l5, ↓Pl.z_l6, ↓Pl.z_l7, ↓Pl.z_l8, ↓Pl.z_l9, ↓Pl.z_l10, ↓Pl.z_l11, ↓Pl.z_l12, ↓Pl.z_szT, ↓Pl.z_inR, ↓Pl.z_inR2, ↓Pl.z_lenlt, Pl.w_some, Pl.w_none, Pl.w_frzp, Pl.w_frzl, Pl.w_fzL0, Pl.w_fzL1, Pl.w_fzL2, Pl.w_flp, Pl.w_fll, Pl.w_flnil, Pl.w_flcons, Pl.w_fzLm, Pl.w_flmap, Pl.w_get0, Pl.w_getS, Pl.w_getP0, Pl.w_getPS, Pl.w_set0, Pl.w_setS, Pl.w_wipe0, Pl.w_wipe1, Pl.w_condT, Pl.w_condF, Pl.w_condN, Pl.w_tyb, Pl.w_inti, Pl.w_itl, Pl.w_itt, Pl.w_its, Pl.w_ll, Pl.w_bindv, Pl.w_bindt, Pl.w_bindl, Pl.w_binds0, Pl.w_binds1, Pl.w_lit, Pl.w_var, Pl.w_glob, Pl.o_var, Pl.r_var, Pl.o_lit, Pl.r_lit, Pl.o_glob, Pl.r_glob, Pl.o_bin, Pl.r_bin, Pl.o_neg, Pl.r_neg, Pl.o_not, Pl.r_not, Pl.o_cmp, Pl.r_cmp, Pl.o_chain, Pl.r_chain, Pl.o_and, Pl.r_and, Pl.o_or, Pl.r_or, Pl.o_ife, Pl.r_ife, Pl.o_tup, Pl.r_tup, Pl.o_lst, Pl.r_lst, Pl.o_idx, Pl.r_idx, Pl.o_idx2, Pl.r_idx2, Pl.o_slc, Pl.r_slc, Pl.o_call, Pl.r_call, Pl.o_bi, Pl.r_bi, Pl.o_isi, Pl.r_isi, Pl.o_mkx, Pl.r_mkx, Pl.o_comp, Pl.r_comp, Pl.o_rng1, Pl.r_rng1, Pl.o_rng2, Pl.r_rng2, Pl.o_enum, Pl.r_enum, Pl.o_zip, Pl.r_zip, Pl.o_rng3, Pl.r_rng3, Pl.o_view, Pl.r_view, Pl.o_cnt, Pl.r_cnt, Pl.o_dnil, Pl.r_dnil, Pl.o_keys, Pl.r_keys, Pl.w_bin, Pl.w_cmp, Pl.tv_var, Pl.iv_var, Pl.tv_lit, Pl.iv_lit, Pl.tv_glob, Pl.iv_glob, Pl.iv_bin, Pl.tv_chain, Pl.iv_ife, Pl.iv_tup, Pl.iv_lst, Pl.tv_idx, Pl.iv_idx, Pl.tv_idx2, Pl.iv_idx2, Pl.tv_slc, Pl.iv_slc, Pl.tv_call, Pl.iv_call, Pl.tv_isi, Pl.tv_mkx, Pl.iv_comp, Pl.tv_bi, Pl.iv_bi, Pl.t_cmpW, Pl.w_neg, Pl.w_not, Pl.t_notW, Pl.t_and1W, Pl.t_andW, Pl.t_or1W, Pl.t_orW, Pl.w_and1, Pl.w_and, Pl.w_or1, Pl.w_or, Pl.w_chain, Pl.w_ife, Pl.s_nil, Pl.s_cons, Pl.w_tup, Pl.w_lst, Pl.w_idx, Pl.w_pp, Pl.w_atl, Pl.w_atv, Pl.w_idp, Pl.w_idl, Pl.w_idx2, Pl.p_idx2P, Pl.w_oin, Pl.w_ois, Pl.w_slc, Pl.w_call, Pl.w_callF, Pl.w_callM, Pl.w_callM_call, Pl.w_callM_lst, Pl.w_callM_bin, Pl.w_callM_slc, Pl.w_callM_bi, Pl.w_callM_comp, Pl.w_callM_ife, Pl.w_callM_idx, Pl.a_pos0, Pl.a_pos1, Pl.a_pos2, Pl.a_pos3, Pl.a_pos4, Pl.a_pos5, Pl.a_pos6, Pl.a_pos7, Pl.a_pos8, Pl.a_pos9, Pl.w_RWok, Pl.w_RWexc, Pl.w_pz0, Pl.w_pzp, Pl.w_pzl, Pl.w_fz0, Pl.w_fzp, Pl.w_fzl, Pl.w_fzmap, Pl.w_bi1, Pl.w_bi2, Pl.w_isi, Pl.w_mkx, Pl.w_strs, Pl.w_getO0, Pl.w_getOS, Pl.w_back0, Pl.w_back1, Pl.w_comp, Pl.w_compT, Pl.iv_rng1, Pl.iv_rng2, Pl.iv_rng3, Pl.w_frzd, Pl.w_dd, Pl.w_keyi, Pl.w_keys_, Pl.w_dnil, Pl.w_keys, Pl.w_view0, Pl.w_viewN, Pl.w_viewS, Pl.t_view, Pl.w_view, Pl.w_flI, Pl.w_flB, Pl.w_flS, Pl.w_flN, Pl.w_lstl, Pl.w_cnt, Pl.iv_enum, Pl.w_zipl, Pl.w_zipt, Pl.iv_zip, Pl.q_nx, Pl.q_rt, Pl.q_bk, Pl.q_ct, Pl.q_ex, Pl.b_nilW, Pl.b_asg, Pl.b_asgt, Pl.w_par0, Pl.w_par1, Pl.b_par, Pl.b_asgL, Pl.b_set, Pl.b_set2, Pl.p_set2P, Pl.b_dset, Pl.b_aug, Pl.b_app, Pl.b_expr, Pl.b_ife, Pl.b_for, Pl.b_while, Pl.b_retW, Pl.b_retV, Pl.b_raise, Pl.b_raiseF, Pl.b_pass, Pl.b_brk, Pl.b_cont, Pl.b_frz, Pl.b_try, Pl.y_nx, Pl.y_rt, Pl.y_bk, Pl.y_ct, Pl.y_keep, Pl.f_nxF, Pl.f_rtF, Pl.f_exF, Pl.f_nxT, Pl.f_rtT, Pl.w_init0, Pl.w_initN, Pl.w_initS, Pl.l_nx, Pl.l_ct, Pl.l_bk, Pl.l_rt, Pl.l_ex, Pl.c_t0, Pl.c_t1, Pl.p_Add, Pl.p_Sub, Pl.p_Mul, Pl.p_Div, Pl.p_Mod, Pl.p_Pow0, Pl.p_Pow1, Pl.p_Pow2, Pl.p_Pow3, Pl.p_Pow4, Pl.p_Pow5, Pl.p_Pow6, Pl.p_Pow7, Pl.p_Pow8, Pl.p_Pow9, Pl.p_Pow10, Pl.p_Pow11, Pl.p_Pow12, Pl.p_Pow13, Pl.p_Pow14, Pl.p_Pow15, Pl.p_Pow16, Pl.p_Pow17, Pl.p_Pow18, Pl.p_Pow19, Pl.p_Pow20, Pl.p_Pow21, Pl.p_Pow22, Pl.p_Pow23, Pl.p_Pow24, Pl.p_Pow25, Pl.p_Pow26, Pl.p_Pow27, Pl.p_Pow28, Pl.p_Pow29, Pl.p_Pow30, Pl.p_Pow31, Pl.p_Pow32, Pl.p_Pow33, Pl.p_Pow34, Pl.p_Pow35, Pl.p_Pow36, Pl.p_Pow37, Pl.p_Pow38, Pl.p_Pow39, Pl.p_Pow40, Pl.p_Pow41, Pl.p_Pow42, Pl.p_Pow43, Pl.p_Pow44, Pl.p_Pow45, Pl.p_Pow46, Pl.p_Pow47, Pl.p_Pow48, Pl.p_Pow49, Pl.p_Pow50, Pl.p_Pow51, Pl.p_Pow52, Pl.p_Pow53, Pl.p_Pow54, Pl.p_Pow55, Pl.p_Pow56, Pl.p_Pow57, Pl.p_Pow58, Pl.p_Pow59, Pl.p_Pow60, Pl.p_Pow61, Pl.p_Pow62, Pl.p_Pow63, Pl.p_Pow64, Pl.p_Pow65, Pl.p_MulS, Pl.p_AddL, Pl.p_AddT, Pl.p_Lt, Pl.p_LtE, Pl.p_Gt, Pl.p_GtE, Pl.p_Eq, Pl.p_NotEq, Pl.p_IsN, Pl.p_IsNotN, Pl.p_Is_bl, Pl.p_IsNot_bl, Pl.p_Is_int, Pl.p_IsNot_int, Pl.p_Is_str, Pl.p_IsNot_str, Pl.p_Is_tup, Pl.p_IsNot_tup, Pl.p_Is_lst, Pl.p_IsNot_lst, Pl.p_Is_exc, Pl.p_IsNot_exc, Pl.p_Is_scr, Pl.p_IsNot_scr, Pl.p_IsB, Pl.p_IsNotB, Pl.p_idx_tup, Pl.p_idx_lst, Pl.p_idx_scr, Pl.p_at0, Pl.p_at1, Pl.p_at2, Pl.p_at3, Pl.p_at4, Pl.p_at5, Pl.p_at6, Pl.p_at7, Pl.p_at8, Pl.p_set0, Pl.p_set1, Pl.p_set2, Pl.p_set3, Pl.p_set4, Pl.p_set5, Pl.p_lenL, Pl.p_lenT, Pl.p_lenS, Pl.p_abs, Pl.p_max2, Pl.p_min2, Pl.p_int, Pl.p_intb, Pl.p_divmod, Pl.p_listL, Pl.p_listT, Pl.p_tupL, Pl.p_tupT, Pl.p_augA, Pl.p_augS, Pl.p_isi_int_non, Pl.p_isi_bool_non, Pl.p_isi_str_non, Pl.p_isi_list_non, Pl.p_isi_tuple_non, Pl.p_isi_lt_non, Pl.p_isi_int_bl, Pl.p_isi_bool_bl, Pl.p_isi_str_bl, Pl.p_isi_list_bl, Pl.p_isi_tuple_bl, Pl.p_isi_lt_bl, Pl.p_isi_int_int, Pl.p_isi_bool_int, Pl.p_isi_str_int, Pl.p_isi_list_int, Pl.p_isi_tuple_int, Pl.p_isi_lt_int, Pl.p_isi_int_str, Pl.p_isi_bool_str, Pl.p_isi_str_str, Pl.p_isi_list_str, Pl.p_isi_tuple_str, Pl.p_isi_lt_str, Pl.p_isi_int_tup, Pl.p_isi_bool_tup, Pl.p_isi_str_tup, Pl.p_isi_list_tup, Pl.p_isi_tuple_tup, Pl.p_isi_lt_tup, Pl.p_isi_int_lst, Pl.p_isi_bool_lst, Pl.p_isi_str_lst, Pl.p_isi_list_lst, Pl.p_isi_tuple_lst, Pl.p_isi_lt_lst, Pl.p_isi_int_scr, Pl.p_isi_bool_scr, Pl.p_isi_str_scr, Pl.p_isi_list_scr, Pl.p_isi_tuple_scr, Pl.p_isi_lt_scr, Pl.p_isi_int_exc, Pl.p_isi_bool_exc, Pl.p_isi_str_exc, Pl.p_isi_list_exc, Pl.p_isi_tuple_exc, Pl.p_isi_lt_exc, Pl.p_sliceL, Pl.p_sliceT, Pl.z_l0, Pl.z_l1, Pl.z_l2, Pl.z_l3, Pl.z_l4, Pl.z_l5, Pl.z_l6, Pl.z_l7, Pl.z_l8, Pl.z_l9, Pl.z_l10, Pl.z_l11, Pl.z_l12, Pl.z_map0, Pl.z_map1, Pl.z_app0, Pl.z_app1, Pl.z_rep0, Pl.z_repS, Pl.z_gt, Pl.z_szT, Pl.z_inR, Pl.z_inR2, Pl.z_lenlt, ↓Pl.w_fzLmp, Pl.w_fzLmp, ↓Pl.w_flmp, Pl.w_flmp, Pl.frzL_mp, ↓Pl.p_all, Pl.p_all, ↓Pl.p_atInt, Pl.p_atInt, decide_true, decide_false, Bool.not_true, Bool.not_false, Int.reduceEq, Int.reduceLT, Int.reduceLE, ↓Pl.p_EqNN, Pl.p_EqNN, ↓Pl.p_NeNN, Pl.p_NeNN, ↓Pl.p_EqNI, Pl.p_EqNI, ↓Pl.p_EqIN, Pl.p_EqIN, ↓Pl.p_NeNI, Pl.p_NeNI, ↓Pl.p_NeIN, Pl.p_NeIN, ↓Pl.p_EqB, Pl.p_EqB, ↓Pl.p_NeB, Pl.p_NeB, Lw.fn_is_integer, Lw.fn_is_from, Lw.fn_is_between, Lw.fn_is_index, Lw.fn_is_ascending, Lw.fn_check_index, Lw.fn_are_turns, Lw.fn_is_places, Lw.fn_is_stretch, Lw.fn_is_entry_of, Lw.fn_are_ends, Lw.fn_is_tie_of, Lw.fn_is_book, Lw.fn_check_book, Lw.fn_check_day, Lw.fn_nought_in, Lw.fn_mark_in, Lw.fn_check_term, Lw.fn_check_holidays, Lw.fn_date_of, Lw.fn_number_of_date, Lw.fn_month_length, Lw.fn_weekday_of, Lw.fn_is_open_day, Lw.fn_is_open, Lw.fn_workdays_ahead, Lw.fn_workday_at, Lw.fn_lost_workdays, Lw.fn_open_days, Lw.fn_open_day_behind, Lw.fn_due_of, Lw.fn_due_day, Lw.fn_due_mark_in, Lw.fn_due_mark, Lw.fn__law_purse, Lw.fn__law_take, Lw.fn__law_pick, Lw.fn__law_match, Lw.fn__law_long, Lw.fn__law_counted, Lw.fn__law_drawn_day, Lw.fn__law_drawn_holidays, Lw.fn__law_is_work, Lw.fn__law_walked, Lw.fn__law_month_on, Lw.fn__law_due, Lw.fn__law_mark_right, Lw.fn_law, Lw.gl_MINUTES, Lw.gl_APART, Lw.gl_LOOK, Lw.gl_DAYS, Lw.gl_OPEN, Lw.gl_MONTHS, Lw.gl_END, Lw.gl_TERM_WORDS, Lw.gl_MONTH_DAYS, Lw.gl_FIRST_MONDAY, Lw.gl_FIRST_MARCH, Lw.gl_CYCLE, Lw.kw_is_open_0_1_0, Lw.kw_open_days_0_2_1_0, Lw.kw_due_day_0_2_1_0, Lw.kw_due_mark_0_3_2_1_0, $ls,*])
local macro_rules
  | `(tactic| simp_arith! [$ls,*]) => `(tactic| simp_arith [$ls,*])
local macro_rules
  | `(tactic| simp_arith! [$ls,*]) => `(tactic| simp_arith [c_is_integer, c_is_from, c_check_day, $ls,*])
open Pu (wa dayN lost isO opn Beh nxt)
theorem c_weekday_of (wf n : Nat) (hn : 1 ≤ n) (d : Int) : callN fnT globT wf n ix_weekday_of [.p (.int d)] = .ok (.p (.int ((d - 2) % 7))) none := by
  rw [← RW_eq, RW_callN fn_weekday_of rfl (by omega)]
  unfold bd_weekday_of
  simp_arith! []
  exact ⟨rfl, rfl⟩
local macro_rules
  | `(tactic| simp_arith! [$ls,*]) => `(tactic| simp_arith [c_is_integer, c_is_from, c_check_day, c_weekday_of, $ls,*])
theorem inV_ints (d : Int) : ∀ hs : List Int, L2.inV (.int d) ((hs.map P.int).map P.toV) = hs.contains d
  | [] => rfl
  | h :: hs => by
    have ih := inV_ints d hs
    unfold L2.inV at ih ⊢
    rw [List.map_cons, List.map_cons, List.any_cons, List.contains_cons, ih]
    show ((h == d) || _) = _
    rw [Bool.beq_comm (a := h)]
theorem flat_ints : ∀ hs : List Int, (hs.map P.int).all P.flat = true
  | [] => rfl
  | h :: hs => by
    show (true && _) = true
    rw [flat_ints hs]
    rfl
theorem p_NotInI (d : Int) (hs : List Int) (K : Bool → Prop) : optW (cmpop .NotIn (.int d) (.tup (hs.map .int))) K = K (!hs.contains d) := by
  have e : cmpop .NotIn (.int d) (.tup (hs.map .int)) = some (!hs.contains d) := by
    show (inP (.int d) (hs.map .int)).map (!·) = _
    unfold inP
    rw [flat_ints]
    show Option.map _ (some (L2.inV (.int d) ((hs.map P.int).map P.toV))) = _
    rw [inV_ints]
    rfl
  rw [e]
  rfl
theorem c_is_open_day (wf n : Nat) (hn : 2 ≤ n) (d : Int) (hs : List Int) : callN fnT globT wf n ix_is_open_day [.p (.int d), .p (.tup (hs.map .int))] = .ok (.p (.bl (isO hs d))) none := by
  rw [← RW_eq, RW_callN fn_is_open_day rfl (by omega)]
  unfold bd_is_open_day isO Pu.wk
  simp_arith! []
  refine condD (fun h => ?_) (fun h => ?_)
  · simp_arith! [p_NotInI]
    rw [decide_eq_true h]
    exact ⟨rfl, rfl⟩
  · simp_arith! []
    rw [decide_eq_false h]
    exact ⟨rfl, rfl⟩
local macro_rules
  | `(tactic| simp_arith! [$ls,*]) => `(tactic| simp_arith [c_is_integer, c_is_from, c_check_day, c_weekday_of, c_is_open_day, $ls,*])
theorem c_is_open (wf n : Nat) (hn : 3 ≤ n) (d : Int) (hs : List Int) (h : Hol hs) : callN fnT globT wf n ix_is_open [.p (.int d), .p (.tup (hs.map .int))] = .ok (.p (.bl (isO hs d))) none := by
  rw [← RW_eq, RW_callN fn_is_open rfl (by omega)]
  unfold bd_is_open
  simp_arith! [c_check_holidays wf (n - 1) (by omega) hs h]
  exact ⟨rfl, rfl⟩
theorem c_workdays_ahead (wf n : Nat) (hn : 1 ≤ n) (d : Int) : callN fnT globT wf n ix_workdays_ahead [.p (.int d)] = .ok (.p (.int (wa d))) none := by
  rw [← RW_eq, RW_callN fn_workdays_ahead rfl (by omega)]
  unfold bd_workdays_ahead
  simp_arith! []
  exact ⟨rfl, rfl⟩
theorem c_workday_at (wf n : Nat) (hn : 1 ≤ n) (d : Int) : callN fnT globT wf n ix_workday_at [.p (.int d)] = .ok (.p (.int (dayN d))) none := by
  rw [← RW_eq, RW_callN fn_workday_at rfl (by omega)]
  unfold bd_workday_at
  simp_arith! []
  exact ⟨rfl, rfl⟩
local macro_rules
  | `(tactic| simp_arith! [$ls,*]) => `(tactic| simp_arith [c_is_integer, c_is_from, c_check_day, c_weekday_of, c_is_open_day, c_workdays_ahead, c_workday_at, $ls,*])
def gS (a b : Int) : P → Bool
  | .int h => Pu.inS a b h
  | _ => false
theorem gS_len (a b : Int) : ∀ hs : List Int, (((hs.map P.int).filter (gS a b)).length : Int) = lost a b hs
  | [] => rfl
  | h :: hs => by
    rw [Pu.lost_cons, ← gS_len a b hs, List.map_cons, List.filter_cons]
    show ((if Pu.inS a b h = true then P.int h :: _ else _).length : Int) = _
    split <;> simp
theorem c_lost (wf n : Nat) (hn : 2 ≤ n) (a b : Int) (hs : List Int) (hl : hs.length ≤ 1000) : callN fnT globT wf n ix_lost_workdays [.p (.int a), .p (.int b), .p (.tup (hs.map .int))] = .ok (.p (.int (lost a b hs))) none := by
  rw [← RW_eq, RW_callN fn_lost_workdays rfl (by omega)]
  unfold bd_lost_workdays
  simp_arith! []
  refine CW_pure (fun x => .p x) (gS a b) (by rw [List.length_map]; omega) ?_ ?_
  · intro p hp
    obtain ⟨x, _, rfl⟩ := List.mem_map.mp hp
    have e : gS a b (.int x) = (decide (a ≤ x) && (decide (x ≤ b) && Pu.wk x)) := rfl
    rw [e]
    simp_arith! []
    refine condD (fun h1 => ?_) (fun h1 => ?_)
    · simp_arith! []
      refine condD (fun h2 => ?_) (fun h2 => ?_)
      · simp_arith! []
        rw [decide_eq_true h1, decide_eq_true h2]
        refine ⟨rfl, ?_⟩
        refine condD (fun h3 => ?_) (fun h3 => ?_)
        · simp_arith! []
          exact ⟨rfl, rfl⟩
        · simp_arith! []
          exact rfl
      · simp_arith! []
        rw [decide_eq_false h2, Bool.false_and, Bool.and_false]
        exact ⟨rfl, rfl⟩
    · simp_arith! []
      rw [decide_eq_false h1, Bool.false_and]
      exact ⟨rfl, rfl⟩
  simp_arith! [gS_len]
  exact ⟨rfl, rfl⟩
theorem c_open_days (wf n : Nat) (hn : 3 ≤ n) (a b : Int) (hs : List Int) (h : Hol hs) : callN fnT globT wf n ix_open_days [.p (.int a), .p (.int b), .p (.tup (hs.map .int))] = .ok (.p (.int (if b < a then 0 else opn hs a b))) none := by
  rw [← RW_eq, RW_callN fn_open_days rfl (by omega)]
  unfold bd_open_days
  simp_arith! [c_check_holidays wf (n - 1) (by omega) hs h]
  refine condD (fun h1 => ?_) (fun h1 => ?_)
  · simp_arith! []
    rw [if_pos h1]
    exact ⟨rfl, rfl⟩
  · simp_arith! [c_lost wf (n - 1) (by omega) a b hs h.len]
    rw [if_neg h1]
    exact ⟨rfl, rfl⟩
/-- the search ends at the open day that was sought -/
theorem w_behind (wf n : Nat) (hn : 3 ≤ n) (hw : 2000 < wf) (d m : Int) (hm : 1 ≤ m) (hs : List Int) (h : Hol hs) : ∃ x, Beh hs d m x ∧ callN fnT globT wf n ix_open_day_behind [.p (.int d), .p (.int m), .p (.tup (hs.map .int))] = .ok (.p (.int x)) none := by
  have nd := h.nodup
  have key : RW (callN fnT globT wf n ix_open_day_behind [.p (.int d), .p (.int m), .p (.tup (hs.map .int))]) (fun d1 o1 => ∃ x, Beh hs d m x ∧ Ans d1 o1 (.p (.int x)) none) (fun _ _ => False) := by
    rw [RW_callN fn_open_day_behind rfl (by omega)]
    unfold bd_open_day_behind
    simp_arith! [c_lost wf (n - 1) (by omega) _ _ hs h.len]
    have e0 : wa (d + 1) + m - 1 = wa (d + 1) + m + 0 - 1 := by omega
    rw [e0]
    refine WW_inv (fun k ρ => ∃ f l : Int, f = nxt hs d m l ∧ 0 ≤ l ∧ l ≤ lost (d + 1) f hs ∧ (∀ y, Beh hs d m y → f ≤ y) ∧ (k : Int) = hs.length - l ∧ Is ρ [some (.p (.int d)), some (.p (.int m)), some (.p (.tup (hs.map .int))), some (.p (.int (wa (d + 1)))), some (.p (.int f)), some (.p (.int (lost (d + 1) f hs)))]) ?_ wf hs.length _ (by have := h.len; omega) ⟨nxt hs d m 0, 0, rfl, Int.le_refl _, Pu.lost_nn _ _ _, fun y hy => ?_, by omega, rfl⟩
    · rintro k ρ ⟨f, l, hf, hl0, hl1, hup, hk, rfl⟩
      have l2 := Pu.lost_le (d + 1) f hs
      simp_arith! []
      have en : dayN (wa (d + 1) + m + lost (d + 1) f hs - 1) = nxt hs d m (lost (d + 1) f hs) := rfl
      rw [en]
      refine condD (fun h1 => ?_) (fun h1 => ?_)
      · simp_arith! []
        have hfix : l = lost (d + 1) f hs ∨ l < lost (d + 1) f hs := by omega
        rcases hfix with e | e
        · have := Pu.fix_beh nd hm hf e
          obtain ⟨y, hy, hle⟩ := this
          have : f = y := by have := hup y hy; omega
          rw [this]
          exact ⟨y, hy, rfl, rfl⟩
        · exfalso
          have := Pu.dayN_lt (m := wa (d + 1) + m + l - 1) (n := wa (d + 1) + m + lost (d + 1) f hs - 1) (by omega)
          have e2 : f = dayN (wa (d + 1) + m + l - 1) := hf
          have e3 : f = dayN (wa (d + 1) + m + lost (d + 1) f hs - 1) := h1
          omega
      · simp_arith! [c_lost wf (n - 1) (by omega) _ _ hs h.len]
        have hlt : l < lost (d + 1) f hs := by
          have : l ≠ lost (d + 1) f hs := fun e => h1 (by rw [← e]; exact hf)
          omega
        have hff : f ≤ nxt hs d m (lost (d + 1) f hs) := by
          have := Pu.dayN_mono (m := wa (d + 1) + m + l - 1) (n := wa (d + 1) + m + lost (d + 1) f hs - 1) (by omega)
          have e2 : f = dayN (wa (d + 1) + m + l - 1) := hf
          show f ≤ dayN _
          omega
        refine ⟨(hs.length - lost (d + 1) f hs).toNat, by omega, nxt hs d m (lost (d + 1) f hs), lost (d + 1) f hs, rfl, Pu.lost_nn _ _ _, Pu.lost_mono hff hs, fun y hy => ?_, by omega, rfl⟩
        have e := Pu.beh_lost nd hy
        have q := Pu.lost_mono (a := d + 1) (hup y hy) hs
        rw [e]
        exact Pu.dayN_mono (by omega)
    · have e := Pu.beh_lost nd hy
      have q := Pu.lost_nn (d + 1) y hs
      rw [e]
      exact Pu.dayN_mono (by omega)
  revert key
  generalize callN fnT globT wf n ix_open_day_behind [.p (.int d), .p (.int m), .p (.tup (hs.map .int))] = r
  intro key
  cases r with
  | ok d1 o1 =>
    obtain ⟨x, hx, e1, e2⟩ := key
    subst e1 e2
    exact ⟨x, hx, rfl⟩
  | exc c fs => exact key.elim
  | bad => exact key.elim

end Lw

set_option Elab.async false
set_option linter.all false
set_option autoImplicit false
set_option maxRecDepth 100000
set_option maxHeartbeats 4000000
namespace Lw
open PySem L2 Pl
local macro_rules
  | `(tactic| trivial) => `(tactic| first | omega | ((with_reducible apply Pl.mulOk_l); first | decide | omega) | ((with_reducible apply Pl.mulOk_r); first | decide | omega) | ((with_reducible apply Pl.divOk_s) <;> omega) | ((with_reducible apply Pl.divOk_w) <;> omega) | ((with_reducible apply Pl.powOk_s) <;> omega) | ((with_reducible apply Pl.CompOk.mk); with_unfolding_all exact rfl) | ((with_reducible apply Pl.KeepOk.mk); with_unfolding_all exact rfl) | ((with_reducible apply Pl.mulSOk_s) <;> first | omega | decide) | with_reducible decide | with_reducible rfl | (simp only [List.length_cons, List.length_nil, List.length_append, List.length_map, List.length_take, List.length_drop]; omega) | assumption)
local macro_rules
  | `(tactic| simp_arith [$ls,*]) => `(tactic| simp (disch := trivial) only [↓Pl.w_some, ↓Pl.w_none, ↓Pl.w_frzp, ↓Pl.w_frzl, ↓Pl.w_fzL0, ↓Pl.w_fzL1, ↓Pl.w_fzL2, ↓Pl.w_flp, ↓Pl.w_fll, ↓Pl.w_flnil, ↓Pl.w_flcons, ↓Pl.w_fzLm, ↓Pl.w_flmap, ↓Pl.w_get0, ↓Pl.w_getS, ↓Pl.w_getP0, ↓Pl.w_getPS, ↓Pl.w_set0, ↓Pl.w_setS, ↓Pl.w_wipe0, ↓Pl.w_wipe1, ↓Pl.w_condT, ↓Pl.w_condF, ↓Pl.w_condN, ↓Pl.w_tyb, ↓Pl.w_inti, ↓Pl.w_itl, ↓Pl.w_itt, ↓Pl.w_its, ↓Pl.w_ll, ↓Pl.w_bindv, ↓Pl.w_bindt, ↓Pl.w_bindl, ↓Pl.w_binds0, ↓Pl.w_binds1, ↓Pl.w_lit, ↓Pl.w_var, ↓Pl.w_glob, ↓Pl.o_var, ↓Pl.r_var, ↓Pl.o_lit, ↓Pl.r_lit, ↓Pl.o_glob, ↓Pl.r_glob, ↓Pl.o_bin, ↓Pl.r_bin, ↓Pl.o_neg, ↓Pl.r_neg, ↓Pl.o_not, ↓Pl.r_not, ↓Pl.o_cmp, ↓Pl.r_cmp, ↓Pl.o_chain, ↓Pl.r_chain, ↓Pl.o_and, ↓Pl.r_and, ↓Pl.o_or, ↓Pl.r_or, ↓Pl.o_ife, ↓Pl.r_ife, ↓Pl.o_tup, ↓Pl.r_tup, ↓Pl.o_lst, ↓Pl.r_lst, ↓Pl.o_idx, ↓Pl.r_idx, ↓Pl.o_idx2, ↓Pl.r_idx2, ↓Pl.o_slc, ↓Pl.r_slc, ↓Pl.o_call, ↓Pl.r_call, ↓Pl.o_bi, ↓Pl.r_bi, ↓Pl.o_isi, ↓Pl.r_isi, ↓Pl.o_mkx, ↓Pl.r_mkx, ↓Pl.o_comp, ↓Pl.r_comp, ↓Pl.o_rng1, ↓Pl.r_rng1, ↓Pl.o_rng2, ↓Pl.r_rng2, ↓Pl.o_enum, ↓Pl.r_enum, ↓Pl.o_zip, ↓Pl.r_zip, ↓Pl.o_rng3, ↓Pl.r_rng3, ↓Pl.o_view, ↓Pl.r_view, ↓Pl.o_cnt, ↓Pl.r_cnt, ↓Pl.o_dnil, ↓Pl.r_dnil, ↓Pl.o_keys, ↓Pl.r_keys, ↓Pl.w_bin, ↓Pl.w_cmp, ↓Pl.tv_var, ↓Pl.iv_var, ↓Pl.tv_lit, ↓Pl.iv_lit, ↓Pl.tv_glob, ↓Pl.iv_glob, ↓Pl.iv_bin, ↓Pl.tv_chain, ↓Pl.iv_ife, ↓Pl.iv_tup, ↓Pl.iv_lst, ↓Pl.tv_idx, ↓Pl.iv_idx, ↓Pl.tv_idx2, ↓Pl.iv_idx2, ↓Pl.tv_slc, ↓Pl.iv_slc, ↓Pl.tv_call, ↓Pl.iv_call, ↓Pl.tv_isi, ↓Pl.tv_mkx, ↓Pl.iv_comp, ↓Pl.tv_bi, ↓Pl.iv_bi, ↓Pl.t_cmpW, ↓Pl.w_neg, ↓Pl.w_not, ↓Pl.t_notW, ↓Pl.t_and1W, ↓Pl.t_andW, ↓Pl.t_or1W, ↓Pl.t_orW, ↓Pl.w_and1, ↓Pl.w_and, ↓Pl.w_or1, ↓Pl.w_or, ↓Pl.w_chain, ↓Pl.w_ife, ↓Pl.s_nil, ↓Pl.s_cons, ↓Pl.w_tup, ↓Pl.w_lst, ↓Pl.w_idx, ↓Pl.w_pp, ↓Pl.w_atl, ↓Pl.w_atv, ↓Pl.w_idp, ↓Pl.w_idl, ↓Pl.w_idx2, ↓Pl.p_idx2P, ↓Pl.w_oin, ↓Pl.w_ois, ↓Pl.w_slc, ↓Pl.w_call, ↓Pl.w_callF, ↓Pl.w_callM, ↓Pl.w_callM_call, ↓Pl.w_callM_lst, ↓Pl.w_callM_bin, ↓Pl.w_callM_slc, ↓Pl.w_callM_bi, ↓Pl.w_callM_comp, ↓Pl.w_callM_ife, ↓Pl.w_callM_idx, ↓Pl.a_pos0, ↓Pl.a_pos1, ↓Pl.a_pos2, ↓Pl.a_pos3, ↓Pl.a_pos4, ↓Pl.a_pos5, ↓Pl.a_pos6, ↓Pl.a_pos7, ↓Pl.a_pos8, ↓Pl.a_pos9, ↓Pl.w_RWok, ↓Pl.w_RWexc, ↓Pl.w_bi1, ↓Pl.w_bi2, ↓Pl.w_isi, ↓Pl.w_mkx, ↓Pl.w_strs, ↓Pl.w_getO0, ↓Pl.w_getOS, ↓Pl.w_back0, ↓Pl.w_back1, ↓Pl.w_comp, ↓Pl.w_compT, ↓Pl.iv_rng1, ↓Pl.iv_rng2, ↓Pl.iv_rng3, ↓Pl.w_frzd, ↓Pl.w_dd, ↓Pl.w_keyi, ↓Pl.w_keys_, ↓Pl.w_dnil, ↓Pl.w_keys, ↓Pl.w_view0, ↓Pl.w_viewN, ↓Pl.w_viewS, ↓Pl.t_view, ↓Pl.w_view, ↓Pl.w_flI, ↓Pl.w_flB, ↓Pl.w_flS, ↓Pl.w_flN, ↓Pl.w_lstl, ↓Pl.w_cnt, ↓Pl.iv_enum, ↓Pl.w_zipl, ↓Pl.w_zipt, ↓Pl.iv_zip, ↓Pl.q_nx, ↓Pl.q_rt, ↓Pl.q_bk, ↓Pl.q_ct, ↓Pl.q_ex, ↓Pl.b_nilW, ↓Pl.b_asg, ↓Pl.b_asgt, ↓Pl.w_par0, ↓Pl.w_par1, ↓Pl.b_par, ↓Pl.b_asgL, ↓Pl.b_set, ↓Pl.b_set2, ↓Pl.p_set2P, ↓Pl.b_dset, ↓Pl.b_aug, ↓Pl.b_app, ↓Pl.b_expr, ↓Pl.b_ife, ↓Pl.b_for, ↓Pl.b_while, ↓Pl.b_retW, ↓Pl.b_retV, ↓Pl.b_raise, ↓Pl.b_raiseF, ↓Pl.b_pass, ↓Pl.b_brk, ↓Pl.b_cont, ↓Pl.b_frz, ↓Pl.b_try, ↓Pl.y_nx, ↓Pl.y_rt, ↓Pl.y_bk, ↓Pl.y_ct, ↓Pl.y_keep, ↓Pl.f_nxF, ↓Pl.f_rtF, ↓Pl.f_exF, ↓Pl.f_nxT, ↓Pl.f_rtT, ↓Pl.w_init0, ↓Pl.w_initN, ↓Pl.w_initS, ↓Pl.l_nx, ↓Pl.l_ct, ↓Pl.l_bk, ↓Pl.l_rt, ↓Pl.l_ex, ↓Pl.c_t0, ↓Pl.c_t1, ↓Pl.p_Add, ↓Pl.p_Sub, ↓Pl.p_Mul, ↓Pl.p_Div, ↓Pl.p_Mod, ↓Pl.p_Pow0, ↓Pl.p_Pow1, ↓Pl.p_Pow2, ↓Pl.p_Pow3, ↓Pl.p_Pow4, ↓Pl.p_Pow5, ↓Pl.p_Pow6, ↓Pl.p_Pow7, ↓Pl.p_Pow8, ↓Pl.p_Pow9, ↓Pl.p_Pow10, ↓Pl.p_Pow11, ↓Pl.p_Pow12, ↓Pl.p_Pow13, ↓Pl.p_Pow14, ↓Pl.p_Pow15, ↓Pl.p_Pow16, ↓Pl.p_Pow17, ↓Pl.p_Pow18, ↓Pl.p_Pow19, ↓Pl.p_Pow20, ↓Pl.p_Pow21, ↓Pl.p_Pow22, ↓Pl.p_Pow23, ↓Pl.p_Pow24, ↓Pl.p_Pow25, ↓Pl.p_Pow26, ↓Pl.p_Pow27, ↓Pl.p_Pow28, ↓Pl.p_Pow29, ↓Pl.p_Pow30, ↓Pl.p_Pow31, ↓Pl.p_Pow32, ↓Pl.p_Pow33, ↓Pl.p_Pow34, ↓Pl.p_Pow35, ↓Pl.p_Pow36, ↓Pl.p_Pow37, ↓Pl.p_Pow38, ↓Pl.p_Pow39, ↓Pl.p_Pow40, ↓Pl.p_Pow41, ↓Pl.p_Pow42, ↓Pl.p_Pow43, ↓Pl.p_Pow44, ↓Pl.p_Pow45, ↓Pl.p_Pow46, ↓Pl.p_Pow47, ↓Pl.p_Pow48, ↓Pl.p_Pow49, ↓Pl.p_Pow50, ↓Pl.p_Pow51, ↓Pl.p_Pow52, ↓Pl.p_Pow53, ↓Pl.p_Pow54, ↓Pl.p_Pow55, ↓Pl.p_Pow56, ↓Pl.p_Pow57, ↓Pl.p_Pow58, ↓Pl.p_Pow59, ↓Pl.p_Pow60, ↓Pl.p_Pow61, ↓Pl.p_Pow62, ↓Pl.p_Pow63, ↓Pl.p_Pow64, ↓Pl.p_Pow65, ↓Pl.p_MulS, ↓Pl.p_AddL, ↓Pl.p_AddT, ↓Pl.p_Lt, ↓Pl.p_LtE, ↓Pl.p_Gt, ↓Pl.p_GtE, ↓Pl.p_Eq, ↓Pl.p_NotEq, ↓Pl.p_IsN, ↓Pl.p_IsNotN, ↓Pl.p_Is_bl, ↓Pl.p_IsNot_bl, ↓Pl.p_Is_int, ↓Pl.p_IsNot_int, ↓Pl.p_Is_str, ↓Pl.p_IsNot_str, ↓Pl.p_Is_tup, ↓Pl.p_IsNot_tup, ↓Pl.p_Is_lst, ↓Pl.p_IsNot_lst, ↓Pl.p_Is_exc, ↓Pl.p_IsNot_exc, ↓Pl.p_Is_scr, ↓Pl.p_IsNot_scr, ↓Pl.p_IsB, ↓Pl.p_IsNotB, ↓Pl.p_idx_tup, ↓Pl.p_idx_lst, ↓Pl.p_idx_scr, ↓Pl.p_at0, ↓Pl.p_at1, ↓Pl.p_at2, ↓Pl.p_at3, ↓Pl.p_at4, ↓Pl.p_at5, ↓Pl.p_at6, ↓Pl.p_at7, ↓Pl.p_at8, ↓Pl.p_set0, ↓Pl.p_set1, ↓Pl.p_set2, ↓Pl.p_set3, ↓Pl.p_set4, ↓Pl.p_set5, ↓Pl.p_lenL, ↓Pl.p_lenT, ↓Pl.p_lenS, ↓Pl.p_abs, ↓Pl.p_max2, ↓Pl.p_min2, ↓Pl.p_int, ↓Pl.p_intb, ↓Pl.p_divmod, ↓Pl.p_listL, ↓Pl.p_listT, ↓Pl.p_tupL, ↓Pl.p_tupT, ↓Pl.p_augA, ↓Pl.p_augS, ↓Pl.p_isi_int_non, ↓Pl.p_isi_bool_non, ↓Pl.p_isi_str_non, ↓Pl.p_isi_list_non, ↓Pl.p_isi_tuple_non, ↓Pl.p_isi_lt_non, ↓Pl.p_isi_int_bl, ↓Pl.p_isi_bool_bl, ↓Pl.p_isi_str_bl, ↓Pl.p_isi_list_bl, ↓Pl.p_isi_tuple_bl, ↓Pl.p_isi_lt_bl, ↓Pl.p_isi_int_int, ↓Pl.p_isi_bool_int, ↓Pl.p_isi_str_int, ↓Pl.p_isi_list_int, ↓Pl.p_isi_tuple_int, ↓Pl.p_isi_lt_int, ↓Pl.p_isi_int_str, ↓Pl.p_isi_bool_str, ↓Pl.p_isi_str_str, ↓Pl.p_isi_list_str, ↓Pl.p_isi_tuple_str, ↓Pl.p_isi_lt_str, ↓Pl.p_isi_int_tup, ↓Pl.p_isi_bool_tup, ↓Pl.p_isi_str_tup, ↓Pl.p_isi_list_tup, ↓Pl.p_isi_tuple_tup, ↓Pl.p_isi_lt_tup, ↓Pl.p_isi_int_lst, ↓Pl.p_isi_bool_lst, ↓Pl.p_isi_str_lst, ↓Pl.p_isi_list_lst, ↓Pl.p_isi_tuple_lst, ↓Pl.p_isi_lt_lst, ↓Pl.p_isi_int_scr, ↓Pl.p_isi_bool_scr, ↓Pl.p_isi_str_scr, ↓Pl.p_isi_list_scr, ↓Pl.p_isi_tuple_scr, ↓Pl.p_isi_lt_scr, ↓Pl.p_isi_int_exc, ↓Pl.p_isi_bool_exc, ↓Pl.p_isi_str_exc, ↓Pl.p_isi_list_exc, ↓Pl.p_isi_tuple_exc, ↓Pl.p_isi_lt_exc, ↓Pl.p_sliceL, ↓Pl.p_sliceT, ↓Pl.z_l0, ↓Pl.z_l1, ↓Pl.z_l2, ↓Pl.z_l3, ↓Pl.z_l4, ↓Pl.z_l5, ↓Pl.z_l6, ↓Pl.z_l7, ↓Pl.z_l8, ↓Pl.z_l9, ↓Pl.z_l10, ↓Pl.z_l11, ↓Pl.z_l12, ↓Pl.z_szT, ↓Pl.z_inR, ↓Pl.z_inR2, ↓Pl.z_lenlt, Pl.w_some, Pl.w_none, Pl.w_frzp, Pl.w_frzl, Pl.w_fzL0, Pl.w_fzL1, Pl.w_fzL2, Pl.w_flp, Pl.w_fll, Pl.w_flnil, Pl.w_flcons, Pl.w_fzLm, Pl.w_flmap, Pl.w_get0, Pl.w_getS, Pl.w_getP0, Pl.w_getPS, Pl.w_set0, Pl.w_setS, Pl.w_wipe0, Pl.w_wipe1, Pl.w_condT, Pl.w_condF, Pl.w_condN, Pl.w_tyb, Pl.w_inti, Pl.w_itl, Pl.w_itt, Pl.w_its, Pl.w_ll, Pl.w_bindv, Pl.w_bindt, Pl.w_bindl, Pl.w_binds0, Pl.w_binds1, Pl.w_lit, Pl.w_var, Pl.w_glob, Pl.o_var, Pl.r_var, Pl.o_lit, Pl.r_lit, Pl.o_glob, Pl.r_glob, Pl.o_bin, Pl.r_bin, Pl.o_neg, Pl.r_neg, Pl.o_not, Pl.r_not, Pl.o_cmp, Pl.r_cmp, Pl.o_chain, Pl.r_chain, Pl.o_and, Pl.r_and, Pl.o_or, Pl.r_or, Pl.o_ife, Pl.r_ife, Pl.o_tup, Pl.r_tup, Pl.o_lst, Pl.r_lst, Pl.o_idx, Pl.r_idx, Pl.o_idx2, Pl.r_idx2, Pl.o_slc, Pl.r_slc, Pl.o_call, Pl.r_call, Pl.o_bi, Pl.r_bi, Pl.o_isi, Pl.r_isi, Pl.o_mkx, Pl.r_mkx, Pl.o_comp, Pl.r_comp, Pl.o_rng1, Pl.r_rng1, Pl.o_rng2, Pl.r_rng2, Pl.o_enum, Pl.r_enum, Pl.o_zip, Pl.r_zip, Pl.o_rng3, Pl.r_rng3, Pl.o_view, Pl.r_view, Pl.o_cnt, Pl.r_cnt, Pl.o_dnil, Pl.r_dnil, Pl.o_keys, Pl.r_keys, Pl.w_bin, Pl.w_cmp, Pl.tv_var, Pl.iv_var, Pl.tv_lit, Pl.iv_lit, Pl.tv_glob, Pl.iv_glob, Pl.iv_bin, Pl.tv_chain, Pl.iv_ife, Pl.iv_tup, Pl.iv_lst, Pl.tv_idx, Pl.iv_idx, Pl.tv_idx2, Pl.iv_idx2, Pl.tv_slc, Pl.iv_slc, Pl.tv_call, Pl.iv_call, Pl.tv_isi, Pl.tv_mkx, Pl.iv_comp, Pl.tv_bi, Pl.iv_bi, Pl.t_cmpW, Pl.w_neg, Pl.w_not, Pl.t_notW, Pl.t_and1W, Pl.t_andW, Pl.t_or1W, Pl.t_orW, Pl.w_and1, Pl.w_and, Pl.w_or1, Pl.w_or, Pl.w_chain, Pl.w_ife, Pl.s_nil, Pl.s_cons, Pl.w_tup, Pl.w_lst, Pl.w_idx, Pl.w_pp, Pl.w_atl, Pl.w_atv, Pl.w_idp, Pl.w_idl, Pl.w_idx2, Pl.p_idx2P, Pl.w_oin, Pl.w_ois, Pl.w_slc, Pl.w_call, Pl.w_callF, Pl.w_callM, Pl.w_callM_call, Pl.w_callM_lst, Pl.w_callM_bin, Pl.w_callM_slc, Pl.w_callM_bi, Pl.w_callM_comp, Pl.w_callM_ife, Pl.w_callM_idx, Pl.a_pos0, Pl.a_pos1, Pl.a_pos2, Pl.a_pos3, Pl.a_pos4, Pl.a_pos5, Pl.a_pos6, Pl.a_pos7, Pl.a_pos8, Pl.a_pos9, Pl.w_RWok, Pl.w_RWexc, Pl.w_pz0, Pl.w_pzp, Pl.w_pzl, Pl.w_fz0, Pl.w_fzp, Pl.w_fzl, Pl.w_fzmap, Pl.w_bi1, Pl.w_bi2, Pl.w_isi, Pl.w_mkx, Pl.w_strs, Pl.w_getO0, Pl.w_getOS, Pl.w_back0, Pl.w_back1, Pl.w_comp, Pl.w_compT, Pl.iv_rng1, Pl.iv_rng2, Pl.iv_rng3, Pl.w_frzd, Pl.w_dd, Pl.w_keyi, Pl.w_keys_, Pl.w_dnil, Pl.w_keys, Pl.w_view0, Pl.w_viewN, Pl.w_viewS, Pl.t_view, Pl.w_view, Pl.w_flI, Pl.w_flB, Pl.w_flS, Pl.w_flN, Pl.w_lstl, Pl.w_cnt, Pl.iv_enum, Pl.w_zipl, Pl.w_zipt, Pl.iv_zip, Pl.q_nx, Pl.q_rt, Pl.q_bk, Pl.q_ct, Pl.q_ex, Pl.b_nilW, Pl.b_asg, Pl.b_asgt, Pl.w_par0, Pl.w_par1, Pl.b_par, Pl.b_asgL, Pl.b_set, Pl.b_set2, Pl.p_set2P, Pl.b_dset, Pl.b_aug, Pl.b_app, Pl.b_expr, Pl.b_ife, Pl.b_for, Pl.b_while, Pl.b_retW, Pl.b_retV, Pl.b_raise, Pl.b_raiseF, Pl.b_pass, Pl.b_brk, Pl.b_cont, Pl.b_frz, Pl.b_try, Pl.y_nx, Pl.y_rt, Pl.y_bk, Pl.y_ct, Pl.y_keep, Pl.f_nxF, Pl.f_rtF, Pl.f_exF, Pl.f_nxT, Pl.f_rtT, Pl.w_init0, Pl.w_initN, Pl.w_initS, Pl.l_nx, Pl.l_ct, Pl.l_bk, Pl.l_rt, Pl.l_ex, Pl.c_t0, Pl.c_t1, Pl.p_Add, Pl.p_Sub, Pl.p_Mul, Pl.p_Div, Pl.p_Mod, Pl.p_Pow0, Pl.p_Pow1, Pl.p_Pow2, Pl.p_Pow3, Pl.p_Pow4, Pl.p_Pow5, Pl.p_Pow6, Pl.p_Pow7, Pl.p_Pow8, Pl.p_Pow9, Pl.p_Pow10, Pl.p_Pow11, Pl.p_Pow12, Pl.p_Pow13, Pl.p_Pow14, Pl.p_Pow15, Pl.p_Pow16, Pl.p_Pow17, Pl.p_Pow18, Pl.p_Pow19, Pl.p_Pow20, Pl.p_Pow21, Pl.p_Pow22, Pl.p_Pow23, Pl.p_Pow24, Pl.p_Pow25, Pl.p_Pow26, Pl.p_Pow27, Pl.p_Pow28, Pl.p_Pow29, Pl.p_Pow30, Pl.p_Pow31, Pl.p_Pow32, Pl.p_Pow33, Pl.p_Pow34, Pl.p_Pow35, Pl.p_Pow36, Pl.p_Pow37, Pl.p_Pow38, Pl.p_Pow39, Pl.p_Pow40, Pl.p_Pow41, Pl.p_Pow42, Pl.p_Pow43, Pl.p_Pow44, Pl.p_Pow45, Pl.p_Pow46, Pl.p_Pow47, Pl.p_Pow48, Pl.p_Pow49, Pl.p_Pow50, Pl.p_Pow51, Pl.p_Pow52, Pl.p_Pow53, Pl.p_Pow54, Pl.p_Pow55, Pl.p_Pow56, Pl.p_Pow57, Pl.p_Pow58, Pl.p_Pow59, Pl.p_Pow60, Pl.p_Pow61, Pl.p_Pow62, Pl.p_Pow63, Pl.p_Pow64, Pl.p_Pow65, Pl.p_MulS, Pl.p_AddL, Pl.p_AddT, Pl.p_Lt, Pl.p_LtE, Pl.p_Gt, Pl.p_GtE, Pl.p_Eq, Pl.p_NotEq, Pl.p_IsN, Pl.p_IsNotN, Pl.p_Is_bl, Pl.p_IsNot_bl, Pl.p_Is_int, Pl.p_IsNot_int, Pl.p_Is_str, Pl.p_IsNot_str, Pl.p_Is_tup, Pl.p_IsNot_tup, Pl.p_Is_lst, Pl.p_IsNot_lst, Pl.p_Is_exc, Pl.p_IsNot_exc, Pl.p_Is_scr, Pl.p_IsNot_scr, Pl.p_IsB, Pl.p_IsNotB, Pl.p_idx_tup, Pl.p_idx_lst, Pl.p_idx_scr, Pl.p_at0, Pl.p_at1, Pl.p_at2, Pl.p_at3, Pl.p_at4, Pl.p_at5, Pl.p_at6, Pl.p_at7, Pl.p_at8, Pl.p_set0, Pl.p_set1, Pl.p_set2, Pl.p_set3, Pl.p_set4, Pl.p_set5, Pl.p_lenL, Pl.p_lenT, Pl.p_lenS, Pl.p_abs, Pl.p_max2, Pl.p_min2, Pl.p_int, Pl.p_intb, Pl.p_divmod, Pl.p_listL, Pl.p_listT, Pl.p_tupL, Pl.p_tupT, Pl.p_augA, Pl.p_augS, Pl.p_isi_int_non, Pl.p_isi_bool_non, Pl.p_isi_str_non, Pl.p_isi_list_non, Pl.p_isi_tuple_non, Pl.p_isi_lt_non, Pl.p_isi_int_bl, Pl.p_isi_bool_bl, Pl.p_isi_str_bl, Pl.p_isi_list_bl, Pl.p_isi_tuple_bl, Pl.p_isi_lt_bl, Pl.p_isi_int_int, Pl.p_isi_bool_int, Pl.p_isi_str_int, Pl.p_isi_list_int, Pl.p_isi_tuple_int, Pl.p_isi_lt_int, Pl.p_isi_int_str, Pl.p_isi_bool_str, Pl.p_isi_str_str, Pl.p_isi_list_str, Pl.p_isi_tuple_str, Pl.p_isi_lt_str, Pl.p_isi_int_tup, Pl.p_isi_bool_tup, Pl.p_isi_str_tup, Pl.p_isi_list_tup, Pl.p_isi_tuple_tup, Pl.p_isi_lt_tup, Pl.p_isi_int_lst, Pl.p_isi_bool_lst, Pl.p_isi_str_lst, Pl.p_isi_list_lst, Pl.p_isi_tuple_lst, Pl.p_isi_lt_lst, Pl.p_isi_int_scr, Pl.p_isi_bool_scr, Pl.p_isi_str_scr, Pl.p_isi_list_scr, Pl.p_isi_tuple_scr, Pl.p_isi_lt_scr, Pl.p_isi_int_exc, Pl.p_isi_bool_exc, Pl.p_isi_str_exc, Pl.p_isi_list_exc, Pl.p_isi_tuple_exc, Pl.p_isi_lt_exc, Pl.p_sliceL, Pl.p_sliceT, Pl.z_l0, Pl.z_l1, Pl.z_l2, Pl.z_l3, Pl.z_l4, Pl.z_l5, Pl.z_l6, Pl.z_l7, Pl.z_l8, Pl.z_l9, Pl.z_l10, Pl.z_l11, Pl.z_l12, Pl.z_map0, Pl.z_map1, Pl.z_app0, Pl.z_app1, Pl.z_rep0, Pl.z_repS, Pl.z_gt, Pl.z_szT, Pl.z_inR, Pl.z_inR2, Pl.z_lenlt, ↓Pl.w_fzLmp, Pl.w_fzLmp, ↓Pl.w_flmp, Pl.w_flmp, Pl.frzL_mp, ↓Pl.p_all, Pl.p_all, ↓Pl.p_atInt, Pl.p_atInt, decide_true, decide_false, Bool.not_true, Bool.not_false, Int.reduceEq, Int.reduceLT, Int.reduceLE, ↓Pl.p_EqNN, Pl.p_EqNN, ↓Pl.p_NeNN, Pl.p_NeNN, ↓Pl.p_EqNI, Pl.p_EqNI, ↓Pl.p_EqIN, Pl.p_EqIN, ↓Pl.p_NeNI, Pl.p_NeNI, ↓Pl.p_NeIN, Pl.p_NeIN, ↓Pl.p_EqB, Pl.p_EqB, ↓Pl.p_NeB, Pl.p_NeB, Lw.fn_is_integer, Lw.fn_is_from, Lw.fn_is_between, Lw.fn_is_index, Lw.fn_is_ascending, Lw.fn_check_index, Lw.fn_are_turns, Lw.fn_is_places, Lw.fn_is_stretch, Lw.fn_is_entry_of, Lw.fn_are_ends, Lw.fn_is_tie_of, Lw.fn_is_book, Lw.fn_check_book, Lw.fn_check_day, Lw.fn_nought_in, Lw.fn_mark_in, Lw.fn_check_term, Lw.fn_check_holidays, Lw.fn_date_of, Lw.fn_number_of_date, Lw.fn_month_length, Lw.fn_weekday_of, Lw.fn_is_open_day, Lw.fn_is_open, Lw.fn_workdays_ahead, Lw.fn_workday_at, Lw.fn_lost_workdays, Lw.fn_open_days, Lw.fn_open_day_behind, Lw.fn_due_of, Lw.fn_due_day, Lw.fn_due_mark_in, Lw.fn_due_mark, Lw.fn__law_purse, Lw.fn__law_take, Lw.fn__law_pick, Lw.fn__law_match, Lw.fn__law_long, Lw.fn__law_counted, Lw.fn__law_drawn_day, Lw.fn__law_drawn_holidays, Lw.fn__law_is_work, Lw.fn__law_walked, Lw.fn__law_month_on, Lw.fn__law_due, Lw.fn__law_mark_right, Lw.fn_law, Lw.gl_MINUTES, Lw.gl_APART, Lw.gl_LOOK, Lw.gl_DAYS, Lw.gl_OPEN, Lw.gl_MONTHS, Lw.gl_END, Lw.gl_TERM_WORDS, Lw.gl_MONTH_DAYS, Lw.gl_FIRST_MONDAY, Lw.gl_FIRST_MARCH, Lw.gl_CYCLE, Lw.kw_is_open_0_1_0, Lw.kw_open_days_0_2_1_0, Lw.kw_due_day_0_2_1_0, Lw.kw_due_mark_0_3_2_1_0, $ls,*])
local macro_rules
  | `(tactic| simp_arith! [$ls,*]) => `(tactic| simp_arith [$ls,*])
local macro_rules
  | `(tactic| simp_arith! [$ls,*]) => `(tactic| simp_arith [c_is_integer, c_is_from, c_check_day, c_weekday_of, c_is_open_day, c_workdays_ahead, c_workday_at, $ls,*])
open Pu (wa dayN lost isO opn Beh nxt FD Ln DayAt longF)
theorem m12 {m : Int} (h1 : 1 ≤ m) (h2 : m ≤ 12) : m = 1 ∨ m = 2 ∨ m = 3 ∨ m = 4 ∨ m = 5 ∨ m = 6 ∨ m = 7 ∨ m = 8 ∨ m = 9 ∨ m = 10 ∨ m = 11 ∨ m = 12 := by omega
def mdays : List Int := [31, 28, 31, 30, 31, 30, 31, 31, 30, 31, 30, 31]
theorem p_md (m : Int) (h1 : 1 ≤ m) (h2 : m ≤ 12) (K : P → Prop) : optW (L2.atI [P.int 31, P.int 28, P.int 31, P.int 30, P.int 31, P.int 30, P.int 31, P.int 31, P.int 30, P.int 31, P.int 30, P.int 31] (m - 1)) K = K (.int (nth mdays (m - 1))) := p_atInt mdays (m - 1) K (by omega) (by show m - 1 < (12 : Int); omega)
theorem md_long (y m : Int) (h1 : 1 ≤ m) (h2 : m ≤ 12) (h3 : m ≠ 2) : nth mdays (m - 1) = longF y m := by
  rcases m12 h1 h2 with rfl | rfl | rfl | rfl | rfl | rfl | rfl | rfl | rfl | rfl | rfl | rfl <;> first | rfl | exact absurd rfl h3
theorem c_month_length (wf n : Nat) (hn : 1 ≤ n) (y m : Int) (h1 : 1 ≤ m) (h2 : m ≤ 12) : callN fnT globT wf n ix_month_length [.p (.int y), .p (.int m)] = .ok (.p (.int (longF y m))) none := by
  rw [← RW_eq, RW_callN fn_month_length rfl (by omega)]
  unfold bd_month_length
  simp_arith! []
  refine condD (fun h => ?_) (fun h => ?_)
  · subst h
    have e2 : nth mdays (2 - 1) = 28 := rfl
    have l1 : Pu.leap y = true → longF y 2 = 29 := fun z => by unfold longF; rw [z]; rfl
    have l2 : Pu.leap y = false → longF y 2 = 28 := fun z => by unfold longF; rw [z]; rfl
    have lp : Pu.leap y = (decide (y % 4 = 0) && (!decide (y % 100 = 0) || decide (y % 400 = 0))) := rfl
    simp_arith! []
    refine condD (fun h4 => ?_) (fun h4 => ?_)
    · simp_arith! []
      rw [l1 (by rw [lp, decide_eq_true (show y % 4 = 0 by omega), decide_eq_true h4, Bool.or_true]; rfl)]
      exact ⟨rfl, rfl⟩
    · simp_arith! []
      refine condD (fun h5 => ?_) (fun h5 => ?_)
      · simp_arith! []
        refine condD (fun h6 => ?_) (fun h6 => ?_)
        · simp_arith! [p_md 2 (by omega) (by omega)]
          rw [l2 (by rw [lp, decide_eq_true h6, decide_eq_false h4, Bool.or_false, Bool.not_true, Bool.and_false])]
          exact ⟨rfl, rfl⟩
        · simp_arith! []
          rw [l1 (by rw [lp, decide_eq_true h5, decide_eq_false h6]; rfl)]
          exact ⟨rfl, rfl⟩
      · simp_arith! [p_md 2 (by omega) (by omega)]
        rw [l2 (by rw [lp, decide_eq_false h5, Bool.false_and])]
        exact ⟨rfl, rfl⟩
  · simp_arith! [p_md m h1 h2]
    rw [md_long y m h1 h2 h]
    exact ⟨rfl, rfl⟩
theorem p_EqW {a b : Str} {r : Bool} (h : cmpop .Eq (.str a) (.str b) = some r) (K : Bool → Prop) : optW (cmpop .Eq (.str a) (.str b)) K = K r := by
  rw [h]
  rfl
theorem q_dd (K : Bool → Prop) : optW (cmpop .Eq (.str "days") (.str "days")) K = K true := p_EqW (by decide +kernel) K
theorem q_od (K : Bool → Prop) : optW (cmpop .Eq (.str "open") (.str "days")) K = K false := p_EqW (by decide +kernel) K
theorem q_md (K : Bool → Prop) : optW (cmpop .Eq (.str "months") (.str "days")) K = K false := p_EqW (by decide +kernel) K
theorem q_ed (K : Bool → Prop) : optW (cmpop .Eq (.str "end") (.str "days")) K = K false := p_EqW (by decide +kernel) K
theorem q_oo (K : Bool → Prop) : optW (cmpop .Eq (.str "open") (.str "open")) K = K true := p_EqW (by decide +kernel) K
theorem q_mo (K : Bool → Prop) : optW (cmpop .Eq (.str "months") (.str "open")) K = K false := p_EqW (by decide +kernel) K
theorem q_eo (K : Bool → Prop) : optW (cmpop .Eq (.str "end") (.str "open")) K = K false := p_EqW (by decide +kernel) K
theorem q_me (K : Bool → Prop) : optW (cmpop .Eq (.str "months") (.str "end")) K = K false := p_EqW (by decide +kernel) K
theorem q_ee (K : Bool → Prop) : optW (cmpop .Eq (.str "end") (.str "end")) K = K true := p_EqW (by decide +kernel) K
local macro_rules
  | `(tactic| simp_arith! [$ls,*]) => `(tactic| simp_arith [c_is_integer, c_is_from, c_check_day, c_weekday_of, c_is_open_day, c_workdays_ahead, c_workday_at, q_dd, q_od, q_md, q_ed, q_oo, q_mo, q_eo, q_me, q_ee, $ls,*])
theorem c_due_days (wf n : Nat) (hn : 4 ≤ n) (d k : Int) (hk : 0 ≤ k) (hs : List Int) (h : Hol hs) : callN fnT globT wf n ix_due_day [.p (.int d), .p (.tup [.str "days", .int k]), .p (.tup (hs.map .int))] = .ok (.p (.int (d + k))) none := by
  have e : callN fnT globT wf (n - 1) ix_due_of [.p (.int d), .p (.tup [.str "days", .int k]), .p (.tup (hs.map .int))] = .ok (.p (.int (d + k))) none := by
    rw [← RW_eq, RW_callN fn_due_of rfl (by omega)]
    unfold bd_due_of
    simp_arith! []
    exact ⟨rfl, rfl⟩
  rw [← RW_eq, RW_callN fn_due_day rfl (by omega)]
  unfold bd_due_day
  simp_arith! [c_check_term wf (n - 1) (by omega) "days" (.inl rfl) k hk, c_check_holidays wf (n - 1) (by omega) hs h, e]
  exact ⟨rfl, rfl⟩
/-- x is the due day of an open term -/
def DueO (hs : List Int) (d k x : Int) : Prop := (k = 0 ∧ isO hs d = true ∧ x = d) ∨ (¬ (k = 0 ∧ isO hs d = true) ∧ Beh hs d (if k > 1 then k else 1) x)
theorem c_due_open (wf n : Nat) (hn : 6 ≤ n) (hw : 2000 < wf) (d k : Int) (hk : 0 ≤ k) (hs : List Int) (h : Hol hs) : ∃ x, DueO hs d k x ∧ callN fnT globT wf n ix_due_day [.p (.int d), .p (.tup [.str "open", .int k]), .p (.tup (hs.map .int))] = .ok (.p (.int x)) none := by
  have e : ∃ x, DueO hs d k x ∧ callN fnT globT wf (n - 1) ix_due_of [.p (.int d), .p (.tup [.str "open", .int k]), .p (.tup (hs.map .int))] = .ok (.p (.int x)) none := by
    obtain ⟨y, hy, ey⟩ := w_behind wf (n - 1 - 1) (by omega) hw d (if k > 1 then k else 1) (by split <;> omega) hs h
    by_cases h0 : k = 0
    · cases ho : isO hs d with
      | true =>
        refine ⟨d, .inl ⟨h0, ho, rfl⟩, ?_⟩
        rw [← RW_eq, RW_callN fn_due_of rfl (by omega)]
        unfold bd_due_of
        simp_arith! []
        refine condDT h0 ?_
        simp_arith! [ho]
        exact ⟨rfl, rfl⟩
      | false =>
        refine ⟨y, .inr ⟨fun z => (by rw [ho] at z; cases z.2), hy⟩, ?_⟩
        rw [← RW_eq, RW_callN fn_due_of rfl (by omega)]
        unfold bd_due_of
        simp_arith! []
        refine condDT h0 ?_
        simp_arith! [ho, ey]
        exact ⟨rfl, rfl⟩
    · refine ⟨y, .inr ⟨fun z => h0 z.1, hy⟩, ?_⟩
      rw [← RW_eq, RW_callN fn_due_of rfl (by omega)]
      unfold bd_due_of
      simp_arith! []
      refine condDF h0 ?_
      simp_arith! [ey]
      exact ⟨rfl, rfl⟩
  obtain ⟨x, hx, ex⟩ := e
  refine ⟨x, hx, ?_⟩
  rw [← RW_eq, RW_callN fn_due_day rfl (by omega)]
  unfold bd_due_day
  simp_arith! [c_check_term wf (n - 1) (by omega) "open" (.inr (.inl rfl)) k hk, c_check_holidays wf (n - 1) (by omega) hs h, ex]
  exact ⟨rfl, rfl⟩
def moF (m S k : Int) : Int := FD (m + k) + (if Ln (m + k) < S then Ln (m + k) else S) - 1
def enF (m k : Int) : Int := FD (m + k) + Ln (m + k) - 1
theorem m_div (m k : Int) : m / 12 + (m % 12 + 1 - 1 + k) / 12 = (m + k) / 12 := by omega
theorem m_mod (m k : Int) : (m % 12 + 1 - 1 + k) % 12 = (m + k) % 12 := by omega
theorem c_due_months (wf n : Nat) (hn : 4 ≤ n) (d k m S : Int) (hk : 0 ≤ k) (hd : DayAt d m S) (hs : List Int) (h : Hol hs) : callN fnT globT wf n ix_due_day [.p (.int d), .p (.tup [.str "months", .int k]), .p (.tup (hs.map .int))] = .ok (.p (.int (moF m S k))) none := by
  have e : callN fnT globT wf (n - 1) ix_due_of [.p (.int d), .p (.tup [.str "months", .int k]), .p (.tup (hs.map .int))] = .ok (.p (.int (moF m S k))) none := by
    rw [← RW_eq, RW_callN fn_due_of rfl (by omega)]
    unfold bd_due_of
    simp_arith! [c_date_of, Pu.date_at hd, m_div, m_mod]
    have e2 := c_month_length wf (n - 1 - 1) (by omega) ((m + k) / 12) ((m + k) % 12 + 1) (by omega) (by omega)
    simp_arith! [e2, c_number_of_date wf (n - 1 - 1) (by omega)]
    rw [m_div, m_mod, Pu.num_at]
    exact ⟨rfl, rfl⟩
  rw [← RW_eq, RW_callN fn_due_day rfl (by omega)]
  unfold bd_due_day
  simp_arith! [c_check_term wf (n - 1) (by omega) "months" (.inr (.inr (.inl rfl))) k hk, c_check_holidays wf (n - 1) (by omega) hs h, e]
  exact ⟨rfl, rfl⟩
theorem c_due_end (wf n : Nat) (hn : 4 ≤ n) (d k m S : Int) (hk : 0 ≤ k) (hd : DayAt d m S) (hs : List Int) (h : Hol hs) : callN fnT globT wf n ix_due_day [.p (.int d), .p (.tup [.str "end", .int k]), .p (.tup (hs.map .int))] = .ok (.p (.int (enF m k))) none := by
  have e : callN fnT globT wf (n - 1) ix_due_of [.p (.int d), .p (.tup [.str "end", .int k]), .p (.tup (hs.map .int))] = .ok (.p (.int (enF m k))) none := by
    rw [← RW_eq, RW_callN fn_due_of rfl (by omega)]
    unfold bd_due_of
    simp_arith! [c_date_of, Pu.date_at hd, m_div, m_mod]
    have e2 := c_month_length wf (n - 1 - 1) (by omega) ((m + k) / 12) ((m + k) % 12 + 1) (by omega) (by omega)
    simp_arith! [e2, c_number_of_date wf (n - 1 - 1) (by omega)]
    rw [m_div, m_mod, Pu.num_at]
    exact ⟨rfl, rfl⟩
  rw [← RW_eq, RW_callN fn_due_day rfl (by omega)]
  unfold bd_due_day
  simp_arith! [c_check_term wf (n - 1) (by omega) "end" (.inr (.inr (.inr rfl))) k hk, c_check_holidays wf (n - 1) (by omega) hs h, e]
  exact ⟨rfl, rfl⟩

end Lw

set_option Elab.async false
set_option linter.all false
set_option autoImplicit false
set_option maxRecDepth 100000
set_option maxHeartbeats 4000000
namespace Lw
open PySem L2 Pl
local macro_rules
  | `(tactic| trivial) => `(tactic| first | omega | ((with_reducible apply Pl.mulOk_l); first | decide | omega) | ((with_reducible apply Pl.mulOk_r); first | decide | omega) | ((with_reducible apply Pl.divOk_s) <;> omega) | ((with_reducible apply Pl.divOk_w) <;> omega) | ((with_reducible apply Pl.powOk_s) <;> omega) | ((with_reducible apply Pl.CompOk.mk); with_unfolding_all exact rfl) | ((with_reducible apply Pl.KeepOk.mk); with_unfolding_all exact rfl) | ((with_reducible apply Pl.mulSOk_s) <;> first | omega | decide) | with_reducible decide | with_reducible rfl | (simp only [List.length_cons, List.length_nil, List.length_append, List.length_map, List.length_take, List.length_drop]; omega) | assumption)
local macro_rules
  | `(tactic| simp_arith [$ls,*]) => `(tactic| simp (disch := trivial) only [↓Pl.w_some, ↓Pl.w_none, ↓Pl.w_frzp, ↓Pl.w_frzl, ↓Pl.w_fzL0, ↓Pl.w_fzL1, ↓Pl.w_fzL2, ↓Pl.w_flp, ↓Pl.w_fll, ↓Pl.w_flnil, ↓Pl.w_flcons, ↓Pl.w_fzLm, ↓Pl.w_flmap, ↓Pl.w_get0, ↓Pl.w_getS, ↓Pl.w_getP0, ↓Pl.w_getPS, ↓Pl.w_set0, ↓Pl.w_setS, ↓Pl.w_wipe0, ↓Pl.w_wipe1, ↓Pl.w_condT, ↓Pl.w_condF, ↓Pl.w_condN, ↓Pl.w_tyb, ↓Pl.w_inti, ↓Pl.w_itl, ↓Pl.w_itt, ↓Pl.w_its, ↓Pl.w_ll, ↓Pl.w_bindv, ↓Pl.w_bindt, ↓Pl.w_bindl, ↓Pl.w_binds0, ↓Pl.w_binds1, ↓Pl.w_lit, ↓Pl.w_var, ↓Pl.w_glob, ↓Pl.o_var, ↓Pl.r_var, ↓Pl.o_lit, ↓Pl.r_lit, ↓Pl.o_glob, ↓Pl.r_glob, ↓Pl.o_bin, ↓Pl.r_bin, ↓Pl.o_neg, ↓Pl.r_neg, ↓Pl.o_not, ↓Pl.r_not, ↓Pl.o_cmp, ↓Pl.r_cmp, ↓Pl.o_chain, ↓Pl.r_chain, ↓Pl.o_and, ↓Pl.r_and, ↓Pl.o_or, ↓Pl.r_or, ↓Pl.o_ife, ↓Pl.r_ife, ↓Pl.o_tup, ↓Pl.r_tup, ↓Pl.o_lst, ↓Pl.r_lst, ↓Pl.o_idx, ↓Pl.r_idx, ↓Pl.o_idx2, ↓Pl.r_idx2, ↓Pl.o_slc, ↓Pl.r_slc, ↓Pl.o_call, ↓Pl.r_call, ↓Pl.o_bi, ↓Pl.r_bi, ↓Pl.o_isi, ↓Pl.r_isi, ↓Pl.o_mkx, ↓Pl.r_mkx, ↓Pl.o_comp, ↓Pl.r_comp, ↓Pl.o_rng1, ↓Pl.r_rng1, ↓Pl.o_rng2, ↓Pl.r_rng2, ↓Pl.o_enum, ↓Pl.r_enum, ↓Pl.o_zip, ↓Pl.r_zip, ↓Pl.o_rng3, ↓Pl.r_rng3, ↓Pl.o_view, ↓Pl.r_view, ↓Pl.o_cnt, ↓Pl.r_cnt, ↓Pl.o_dnil, ↓Pl.r_dnil, ↓Pl.o_keys, ↓Pl.r_keys, ↓Pl.w_bin, ↓Pl.w_cmp, ↓Pl.tv_var, ↓Pl.iv_var, ↓Pl.tv_lit, ↓Pl.iv_lit, ↓Pl.tv_glob, ↓Pl.iv_glob, ↓Pl.iv_bin, ↓Pl.tv_chain, ↓Pl.iv_ife, ↓Pl.iv_tup, ↓Pl.iv_lst, ↓Pl.tv_idx, ↓Pl.iv_idx, ↓Pl.tv_idx2, ↓Pl.iv_idx2, ↓Pl.tv_slc, ↓Pl.iv_slc, ↓Pl.tv_call, ↓Pl.iv_call, ↓Pl.tv_isi, ↓Pl.tv_mkx, ↓Pl.iv_comp, ↓Pl.tv_bi, ↓Pl.iv_bi, ↓Pl.t_cmpW, ↓Pl.w_neg, ↓Pl.w_not, ↓Pl.t_notW, ↓Pl.t_and1W, ↓Pl.t_andW, ↓Pl.t_or1W, ↓Pl.t_orW, ↓Pl.w_and1, ↓Pl.w_and, ↓Pl.w_or1, ↓Pl.w_or, ↓Pl.w_chain, ↓Pl.w_ife, ↓Pl.s_nil, ↓Pl.s_cons, ↓Pl.w_tup, ↓Pl.w_lst, ↓Pl.w_idx, ↓Pl.w_pp, ↓Pl.w_atl, ↓Pl.w_atv, ↓Pl.w_idp, ↓Pl.w_idl, ↓Pl.w_idx2, ↓Pl.p_idx2P, ↓Pl.w_oin, ↓Pl.w_ois, ↓Pl.w_slc, ↓Pl.w_call, ↓Pl.w_callF, ↓Pl.w_callM, ↓Pl.w_callM_call, ↓Pl.w_callM_lst, ↓Pl.w_callM_bin, ↓Pl.w_callM_slc, ↓Pl.w_callM_bi, ↓Pl.w_callM_comp, ↓Pl.w_callM_ife, ↓Pl.w_callM_idx, ↓Pl.a_pos0, ↓Pl.a_pos1, ↓Pl.a_pos2, ↓Pl.a_pos3, ↓Pl.a_pos4, ↓Pl.a_pos5, ↓Pl.a_pos6, ↓Pl.a_pos7, ↓Pl.a_pos8, ↓Pl.a_pos9, ↓Pl.w_RWok, ↓Pl.w_RWexc, ↓Pl.w_bi1, ↓Pl.w_bi2, ↓Pl.w_isi, ↓Pl.w_mkx, ↓Pl.w_strs, ↓Pl.w_getO0, ↓Pl.w_getOS, ↓Pl.w_back0, ↓Pl.w_back1, ↓Pl.w_comp, ↓Pl.w_compT, ↓Pl.iv_rng1, ↓Pl.iv_rng2, ↓Pl.iv_rng3, ↓Pl.w_frzd, ↓Pl.w_dd, ↓Pl.w_keyi, ↓Pl.w_keys_, ↓Pl.w_dnil, ↓Pl.w_keys, ↓Pl.w_view0, ↓Pl.w_viewN, ↓Pl.w_viewS, ↓Pl.t_view, ↓Pl.w_view, ↓Pl.w_flI, ↓Pl.w_flB, ↓Pl.w_flS, ↓Pl.w_flN, ↓Pl.w_lstl, ↓Pl.w_cnt, ↓Pl.iv_enum, ↓Pl.w_zipl, ↓Pl.w_zipt, ↓Pl.iv_zip, ↓Pl.q_nx, ↓Pl.q_rt, ↓Pl.q_bk, ↓Pl.q_ct, ↓Pl.q_ex, ↓Pl.b_nilW, ↓Pl.b_asg, ↓Pl.b_asgt, ↓Pl.w_par0, ↓Pl.w_par1, ↓Pl.b_par, ↓Pl.b_asgL, ↓Pl.b_set, ↓Pl.b_set2, ↓Pl.p_set2P, ↓Pl.b_dset, ↓Pl.b_aug, ↓Pl.b_app, ↓Pl.b_expr, ↓Pl.b_ife, ↓Pl.b_for, ↓Pl.b_while, ↓Pl.b_retW, ↓Pl.b_retV, ↓Pl.b_raise, ↓Pl.b_raiseF, ↓Pl.b_pass, ↓Pl.b_brk, ↓Pl.b_cont, ↓Pl.b_frz, ↓Pl.b_try, ↓Pl.y_nx, ↓Pl.y_rt, ↓Pl.y_bk, ↓Pl.y_ct, ↓Pl.y_keep, ↓Pl.f_nxF, ↓Pl.f_rtF, ↓Pl.f_exF, ↓Pl.f_nxT, ↓Pl.f_rtT, ↓Pl.w_init0, ↓Pl.w_initN, ↓Pl.w_initS, ↓Pl.l_nx, ↓Pl.l_ct, ↓Pl.l_bk, ↓Pl.l_rt, ↓Pl.l_ex, ↓Pl.c_t0, ↓Pl.c_t1, ↓Pl.p_Add, ↓Pl.p_Sub, ↓Pl.p_Mul, ↓Pl.p_Div, ↓Pl.p_Mod, ↓Pl.p_Pow0, ↓Pl.p_Pow1, ↓Pl.p_Pow2, ↓Pl.p_Pow3, ↓Pl.p_Pow4, ↓Pl.p_Pow5, ↓Pl.p_Pow6, ↓Pl.p_Pow7, ↓Pl.p_Pow8, ↓Pl.p_Pow9, ↓Pl.p_Pow10, ↓Pl.p_Pow11, ↓Pl.p_Pow12, ↓Pl.p_Pow13, ↓Pl.p_Pow14, ↓Pl.p_Pow15, ↓Pl.p_Pow16, ↓Pl.p_Pow17, ↓Pl.p_Pow18, ↓Pl.p_Pow19, ↓Pl.p_Pow20, ↓Pl.p_Pow21, ↓Pl.p_Pow22, ↓Pl.p_Pow23, ↓Pl.p_Pow24, ↓Pl.p_Pow25, ↓Pl.p_Pow26, ↓Pl.p_Pow27, ↓Pl.p_Pow28, ↓Pl.p_Pow29, ↓Pl.p_Pow30, ↓Pl.p_Pow31, ↓Pl.p_Pow32, ↓Pl.p_Pow33, ↓Pl.p_Pow34, ↓Pl.p_Pow35, ↓Pl.p_Pow36, ↓Pl.p_Pow37, ↓Pl.p_Pow38, ↓Pl.p_Pow39, ↓Pl.p_Pow40, ↓Pl.p_Pow41, ↓Pl.p_Pow42, ↓Pl.p_Pow43, ↓Pl.p_Pow44, ↓Pl.p_Pow45, ↓Pl.p_Pow46, ↓Pl.p_Pow47, ↓Pl.p_Pow48, ↓Pl.p_Pow49, ↓Pl.p_Pow50, ↓Pl.p_Pow51, ↓Pl.p_Pow52, ↓Pl.p_Pow53, ↓Pl.p_Pow54, ↓Pl.p_Pow55, ↓Pl.p_Pow56, ↓Pl.p_Pow57, ↓Pl.p_Pow58, ↓Pl.p_Pow59, ↓Pl.p_Pow60, ↓Pl.p_Pow61, ↓Pl.p_Pow62, ↓Pl.p_Pow63, ↓Pl.p_Pow64, ↓Pl.p_Pow65, ↓Pl.p_MulS, ↓Pl.p_AddL, ↓Pl.p_AddT, ↓Pl.p_Lt, ↓Pl.p_LtE, ↓Pl.p_Gt, ↓Pl.p_GtE, ↓Pl.p_Eq, ↓Pl.p_NotEq, ↓Pl.p_IsN, ↓Pl.p_IsNotN, ↓Pl.p_Is_bl, ↓Pl.p_IsNot_bl, ↓Pl.p_Is_int, ↓Pl.p_IsNot_int, ↓Pl.p_Is_str, ↓Pl.p_IsNot_str, ↓Pl.p_Is_tup, ↓Pl.p_IsNot_tup, ↓Pl.p_Is_lst, ↓Pl.p_IsNot_lst, ↓Pl.p_Is_exc, ↓Pl.p_IsNot_exc, ↓Pl.p_Is_scr, ↓Pl.p_IsNot_scr, ↓Pl.p_IsB, ↓Pl.p_IsNotB, ↓Pl.p_idx_tup, ↓Pl.p_idx_lst, ↓Pl.p_idx_scr, ↓Pl.p_at0, ↓Pl.p_at1, ↓Pl.p_at2, ↓Pl.p_at3, ↓Pl.p_at4, ↓Pl.p_at5, ↓Pl.p_at6, ↓Pl.p_at7, ↓Pl.p_at8, ↓Pl.p_set0, ↓Pl.p_set1, ↓Pl.p_set2, ↓Pl.p_set3, ↓Pl.p_set4, ↓Pl.p_set5, ↓Pl.p_lenL, ↓Pl.p_lenT, ↓Pl.p_lenS, ↓Pl.p_abs, ↓Pl.p_max2, ↓Pl.p_min2, ↓Pl.p_int, ↓Pl.p_intb, ↓Pl.p_divmod, ↓Pl.p_listL, ↓Pl.p_listT, ↓Pl.p_tupL, ↓Pl.p_tupT, ↓Pl.p_augA, ↓Pl.p_augS, ↓Pl.p_isi_int_non, ↓Pl.p_isi_bool_non, ↓Pl.p_isi_str_non, ↓Pl.p_isi_list_non, ↓Pl.p_isi_tuple_non, ↓Pl.p_isi_lt_non, ↓Pl.p_isi_int_bl, ↓Pl.p_isi_bool_bl, ↓Pl.p_isi_str_bl, ↓Pl.p_isi_list_bl, ↓Pl.p_isi_tuple_bl, ↓Pl.p_isi_lt_bl, ↓Pl.p_isi_int_int, ↓Pl.p_isi_bool_int, ↓Pl.p_isi_str_int, ↓Pl.p_isi_list_int, ↓Pl.p_isi_tuple_int, ↓Pl.p_isi_lt_int, ↓Pl.p_isi_int_str, ↓Pl.p_isi_bool_str, ↓Pl.p_isi_str_str, ↓Pl.p_isi_list_str, ↓Pl.p_isi_tuple_str, ↓Pl.p_isi_lt_str, ↓Pl.p_isi_int_tup, ↓Pl.p_isi_bool_tup, ↓Pl.p_isi_str_tup, ↓Pl.p_isi_list_tup, ↓Pl.p_isi_tuple_tup, ↓Pl.p_isi_lt_tup, ↓Pl.p_isi_int_lst, ↓Pl.p_isi_bool_lst, ↓Pl.p_isi_str_lst, ↓Pl.p_isi_list_lst, ↓Pl.p_isi_tuple_lst, ↓Pl.p_isi_lt_lst, ↓Pl.p_isi_int_scr, ↓Pl.p_isi_bool_scr, ↓Pl.p_isi_str_scr, ↓Pl.p_isi_list_scr, ↓Pl.p_isi_tuple_scr, ↓Pl.p_isi_lt_scr, ↓Pl.p_isi_int_exc, ↓Pl.p_isi_bool_exc, ↓Pl.p_isi_str_exc, ↓Pl.p_isi_list_exc, ↓Pl.p_isi_tuple_exc, ↓Pl.p_isi_lt_exc, ↓Pl.p_sliceL, ↓Pl.p_sliceT, ↓Pl.z_l0, ↓Pl.z_l1, ↓Pl.z_l2, ↓Pl.z_l3, ↓Pl.z_l4, ↓Pl.z_l5, ↓Pl.z_l6, ↓Pl.z_l7, ↓Pl.z_l8, ↓Pl.z_l9, ↓Pl.z_l10, ↓Pl.z_l11, ↓Pl.z_l12, ↓Pl.z_szT, ↓Pl.z_inR, ↓Pl.z_inR2, ↓Pl.z_lenlt, Pl.w_some, Pl.w_none, Pl.w_frzp, Pl.w_frzl, Pl.w_fzL0, Pl.w_fzL1, Pl.w_fzL2, Pl.w_flp, Pl.w_fll, Pl.w_flnil, Pl.w_flcons, Pl.w_fzLm, Pl.w_flmap, Pl.w_get0, Pl.w_getS, Pl.w_getP0, Pl.w_getPS, Pl.w_set0, Pl.w_setS, Pl.w_wipe0, Pl.w_wipe1, Pl.w_condT, Pl.w_condF, Pl.w_condN, Pl.w_tyb, Pl.w_inti, Pl.w_itl, Pl.w_itt, Pl.w_its, Pl.w_ll, Pl.w_bindv, Pl.w_bindt, Pl.w_bindl, Pl.w_binds0, Pl.w_binds1, Pl.w_lit, Pl.w_var, Pl.w_glob, Pl.o_var, Pl.r_var, Pl.o_lit, Pl.r_lit, Pl.o_glob, Pl.r_glob, Pl.o_bin, Pl.r_bin, Pl.o_neg, Pl.r_neg, Pl.o_not, Pl.r_not, Pl.o_cmp, Pl.r_cmp, Pl.o_chain, Pl.r_chain, Pl.o_and, Pl.r_and, Pl.o_or, Pl.r_or, Pl.o_ife, Pl.r_ife, Pl.o_tup, Pl.r_tup, Pl.o_lst, Pl.r_lst, Pl.o_idx, Pl.r_idx, Pl.o_idx2, Pl.r_idx2, Pl.o_slc, Pl.r_slc, Pl.o_call, Pl.r_call, Pl.o_bi, Pl.r_bi, Pl.o_isi, Pl.r_isi, Pl.o_mkx, Pl.r_mkx, Pl.o_comp, Pl.r_comp, Pl.o_rng1, Pl.r_rng1, Pl.o_rng2, Pl.r_rng2, Pl.o_enum, Pl.r_enum, Pl.o_zip, Pl.r_zip, Pl.o_rng3, Pl.r_rng3, Pl.o_view, Pl.r_view, Pl.o_cnt, Pl.r_cnt, Pl.o_dnil, Pl.r_dnil, Pl.o_keys, Pl.r_keys, Pl.w_bin, Pl.w_cmp, Pl.tv_var, Pl.iv_var, Pl.tv_lit, Pl.iv_lit, Pl.tv_glob, Pl.iv_glob, Pl.iv_bin, Pl.tv_chain, Pl.iv_ife, Pl.iv_tup, Pl.iv_lst, Pl.tv_idx, Pl.iv_idx, Pl.tv_idx2, Pl.iv_idx2, Pl.tv_slc, Pl.iv_slc, Pl.tv_call, Pl.iv_call, Pl.tv_isi, Pl.tv_mkx, Pl.iv_comp, Pl.tv_bi, Pl.iv_bi, Pl.t_cmpW, Pl.w_neg, Pl.w_not, Pl.t_notW, Pl.t_and1W, Pl.t_andW, Pl.t_or1W, Pl.t_orW, Pl.w_and1, Pl.w_and, Pl.w_or1, Pl.w_or, Pl.w_chain, Pl.w_ife, Pl.s_nil, Pl.s_cons, Pl.w_tup, Pl.w_lst, Pl.w_idx, Pl.w_pp, Pl.w_atl, Pl.w_atv, Pl.w_idp, Pl.w_idl, Pl.w_idx2, Pl.p_idx2P, Pl.w_oin, Pl.w_ois, Pl.w_slc, Pl.w_call, Pl.w_callF, Pl.w_callM, Pl.w_callM_call, Pl.w_callM_lst, Pl.w_callM_bin, Pl.w_callM_slc, Pl.w_callM_bi, Pl.w_callM_comp, Pl.w_callM_ife, Pl.w_callM_idx, Pl.a_pos0, Pl.a_pos1, Pl.a_pos2, Pl.a_pos3, Pl.a_pos4, Pl.a_pos5, Pl.a_pos6, Pl.a_pos7, Pl.a_pos8, Pl.a_pos9, Pl.w_RWok, Pl.w_RWexc, Pl.w_pz0, Pl.w_pzp, Pl.w_pzl, Pl.w_fz0, Pl.w_fzp, Pl.w_fzl, Pl.w_fzmap, Pl.w_bi1, Pl.w_bi2, Pl.w_isi, Pl.w_mkx, Pl.w_strs, Pl.w_getO0, Pl.w_getOS, Pl.w_back0, Pl.w_back1, Pl.w_comp, Pl.w_compT, Pl.iv_rng1, Pl.iv_rng2, Pl.iv_rng3, Pl.w_frzd, Pl.w_dd, Pl.w_keyi, Pl.w_keys_, Pl.w_dnil, Pl.w_keys, Pl.w_view0, Pl.w_viewN, Pl.w_viewS, Pl.t_view, Pl.w_view, Pl.w_flI, Pl.w_flB, Pl.w_flS, Pl.w_flN, Pl.w_lstl, Pl.w_cnt, Pl.iv_enum, Pl.w_zipl, Pl.w_zipt, Pl.iv_zip, Pl.q_nx, Pl.q_rt, Pl.q_bk, Pl.q_ct, Pl.q_ex, Pl.b_nilW, Pl.b_asg, Pl.b_asgt, Pl.w_par0, Pl.w_par1, Pl.b_par, Pl.b_asgL, Pl.b_set, Pl.b_set2, Pl.p_set2P, Pl.b_dset, Pl.b_aug, Pl.b_app, Pl.b_expr, Pl.b_ife, Pl.b_for, Pl.b_while, Pl.b_retW, Pl.b_retV, Pl.b_raise, Pl.b_raiseF, Pl.b_pass, Pl.b_brk, Pl.b_cont, Pl.b_frz, Pl.b_try, Pl.y_nx, Pl.y_rt, Pl.y_bk, Pl.y_ct, Pl.y_keep, Pl.f_nxF, Pl.f_rtF, Pl.f_exF, Pl.f_nxT, Pl.f_rtT, Pl.w_init0, Pl.w_initN, Pl.w_initS, Pl.l_nx, Pl.l_ct, Pl.l_bk, Pl.l_rt, Pl.l_ex, Pl.c_t0, Pl.c_t1, Pl.p_Add, Pl.p_Sub, Pl.p_Mul, Pl.p_Div, Pl.p_Mod, Pl.p_Pow0, Pl.p_Pow1, Pl.p_Pow2, Pl.p_Pow3, Pl.p_Pow4, Pl.p_Pow5, Pl.p_Pow6, Pl.p_Pow7, Pl.p_Pow8, Pl.p_Pow9, Pl.p_Pow10, Pl.p_Pow11, Pl.p_Pow12, Pl.p_Pow13, Pl.p_Pow14, Pl.p_Pow15, Pl.p_Pow16, Pl.p_Pow17, Pl.p_Pow18, Pl.p_Pow19, Pl.p_Pow20, Pl.p_Pow21, Pl.p_Pow22, Pl.p_Pow23, Pl.p_Pow24, Pl.p_Pow25, Pl.p_Pow26, Pl.p_Pow27, Pl.p_Pow28, Pl.p_Pow29, Pl.p_Pow30, Pl.p_Pow31, Pl.p_Pow32, Pl.p_Pow33, Pl.p_Pow34, Pl.p_Pow35, Pl.p_Pow36, Pl.p_Pow37, Pl.p_Pow38, Pl.p_Pow39, Pl.p_Pow40, Pl.p_Pow41, Pl.p_Pow42, Pl.p_Pow43, Pl.p_Pow44, Pl.p_Pow45, Pl.p_Pow46, Pl.p_Pow47, Pl.p_Pow48, Pl.p_Pow49, Pl.p_Pow50, Pl.p_Pow51, Pl.p_Pow52, Pl.p_Pow53, Pl.p_Pow54, Pl.p_Pow55, Pl.p_Pow56, Pl.p_Pow57, Pl.p_Pow58, Pl.p_Pow59, Pl.p_Pow60, Pl.p_Pow61, Pl.p_Pow62, Pl.p_Pow63, Pl.p_Pow64, Pl.p_Pow65, Pl.p_MulS, Pl.p_AddL, Pl.p_AddT, Pl.p_Lt, Pl.p_LtE, Pl.p_Gt, Pl.p_GtE, Pl.p_Eq, Pl.p_NotEq, Pl.p_IsN, Pl.p_IsNotN, Pl.p_Is_bl, Pl.p_IsNot_bl, Pl.p_Is_int, Pl.p_IsNot_int, Pl.p_Is_str, Pl.p_IsNot_str, Pl.p_Is_tup, Pl.p_IsNot_tup, Pl.p_Is_lst, Pl.p_IsNot_lst, Pl.p_Is_exc, Pl.p_IsNot_exc, Pl.p_Is_scr, Pl.p_IsNot_scr, Pl.p_IsB, Pl.p_IsNotB, Pl.p_idx_tup, Pl.p_idx_lst, Pl.p_idx_scr, Pl.p_at0, Pl.p_at1, Pl.p_at2, Pl.p_at3, Pl.p_at4, Pl.p_at5, Pl.p_at6, Pl.p_at7, Pl.p_at8, Pl.p_set0, Pl.p_set1, Pl.p_set2, Pl.p_set3, Pl.p_set4, Pl.p_set5, Pl.p_lenL, Pl.p_lenT, Pl.p_lenS, Pl.p_abs, Pl.p_max2, Pl.p_min2, Pl.p_int, Pl.p_intb, Pl.p_divmod, Pl.p_listL, Pl.p_listT, Pl.p_tupL, Pl.p_tupT, Pl.p_augA, Pl.p_augS, Pl.p_isi_int_non, Pl.p_isi_bool_non, Pl.p_isi_str_non, Pl.p_isi_list_non, Pl.p_isi_tuple_non, Pl.p_isi_lt_non, Pl.p_isi_int_bl, Pl.p_isi_bool_bl, Pl.p_isi_str_bl, Pl.p_isi_list_bl, Pl.p_isi_tuple_bl, Pl.p_isi_lt_bl, Pl.p_isi_int_int, Pl.p_isi_bool_int, Pl.p_isi_str_int, Pl.p_isi_list_int, Pl.p_isi_tuple_int, Pl.p_isi_lt_int, Pl.p_isi_int_str, Pl.p_isi_bool_str, Pl.p_isi_str_str, Pl.p_isi_list_str, Pl.p_isi_tuple_str, Pl.p_isi_lt_str, Pl.p_isi_int_tup, Pl.p_isi_bool_tup, Pl.p_isi_str_tup, Pl.p_isi_list_tup, Pl.p_isi_tuple_tup, Pl.p_isi_lt_tup, Pl.p_isi_int_lst, Pl.p_isi_bool_lst, Pl.p_isi_str_lst, Pl.p_isi_list_lst, Pl.p_isi_tuple_lst, Pl.p_isi_lt_lst, Pl.p_isi_int_scr, Pl.p_isi_bool_scr, Pl.p_isi_str_scr, Pl.p_isi_list_scr, Pl.p_isi_tuple_scr, Pl.p_isi_lt_scr, Pl.p_isi_int_exc, Pl.p_isi_bool_exc, Pl.p_isi_str_exc, Pl.p_isi_list_exc, Pl.p_isi_tuple_exc, Pl.p_isi_lt_exc, Pl.p_sliceL, Pl.p_sliceT, Pl.z_l0, Pl.z_l1, Pl.z_l2, Pl.z_l3, Pl.z_l4, Pl.z_l5, Pl.z_l6, Pl.z_l7, Pl.z_l8, Pl.z_l9, Pl.z_l10, Pl.z_l11, Pl.z_l12, Pl.z_map0, Pl.z_map1, Pl.z_app0, Pl.z_app1, Pl.z_rep0, Pl.z_repS, Pl.z_gt, Pl.z_szT, Pl.z_inR, Pl.z_inR2, Pl.z_lenlt, ↓Pl.w_fzLmp, Pl.w_fzLmp, ↓Pl.w_flmp, Pl.w_flmp, Pl.frzL_mp, ↓Pl.p_all, Pl.p_all, ↓Pl.p_atInt, Pl.p_atInt, decide_true, decide_false, Bool.not_true, Bool.not_false, Int.reduceEq, Int.reduceLT, Int.reduceLE, ↓Pl.p_EqNN, Pl.p_EqNN, ↓Pl.p_NeNN, Pl.p_NeNN, ↓Pl.p_EqNI, Pl.p_EqNI, ↓Pl.p_EqIN, Pl.p_EqIN, ↓Pl.p_NeNI, Pl.p_NeNI, ↓Pl.p_NeIN, Pl.p_NeIN, ↓Pl.p_EqB, Pl.p_EqB, ↓Pl.p_NeB, Pl.p_NeB, Lw.fn_is_integer, Lw.fn_is_from, Lw.fn_is_between, Lw.fn_is_index, Lw.fn_is_ascending, Lw.fn_check_index, Lw.fn_are_turns, Lw.fn_is_places, Lw.fn_is_stretch, Lw.fn_is_entry_of, Lw.fn_are_ends, Lw.fn_is_tie_of, Lw.fn_is_book, Lw.fn_check_book, Lw.fn_check_day, Lw.fn_nought_in, Lw.fn_mark_in, Lw.fn_check_term, Lw.fn_check_holidays, Lw.fn_date_of, Lw.fn_number_of_date, Lw.fn_month_length, Lw.fn_weekday_of, Lw.fn_is_open_day, Lw.fn_is_open, Lw.fn_workdays_ahead, Lw.fn_workday_at, Lw.fn_lost_workdays, Lw.fn_open_days, Lw.fn_open_day_behind, Lw.fn_due_of, Lw.fn_due_day, Lw.fn_due_mark_in, Lw.fn_due_mark, Lw.fn__law_purse, Lw.fn__law_take, Lw.fn__law_pick, Lw.fn__law_match, Lw.fn__law_long, Lw.fn__law_counted, Lw.fn__law_drawn_day, Lw.fn__law_drawn_holidays, Lw.fn__law_is_work, Lw.fn__law_walked, Lw.fn__law_month_on, Lw.fn__law_due, Lw.fn__law_mark_right, Lw.fn_law, Lw.gl_MINUTES, Lw.gl_APART, Lw.gl_LOOK, Lw.gl_DAYS, Lw.gl_OPEN, Lw.gl_MONTHS, Lw.gl_END, Lw.gl_TERM_WORDS, Lw.gl_MONTH_DAYS, Lw.gl_FIRST_MONDAY, Lw.gl_FIRST_MARCH, Lw.gl_CYCLE, Lw.kw_is_open_0_1_0, Lw.kw_open_days_0_2_1_0, Lw.kw_due_day_0_2_1_0, Lw.kw_due_mark_0_3_2_1_0, $ls,*])
local macro_rules
  | `(tactic| simp_arith! [$ls,*]) => `(tactic| simp_arith [$ls,*])
local macro_rules
  | `(tactic| simp_arith! [$ls,*]) => `(tactic| simp_arith [c_is_integer, c_is_from, c_check_day, c_weekday_of, c_is_open_day, c_workdays_ahead, c_workday_at, $ls,*])
open Pu (wa dayN lost isO opn Beh nxt FD Ln DayAt longF)
theorem p_In4 (m : Int) (K : Bool → Prop) : optW (cmpop .In (.int m) (.tup [.int 4, .int 6, .int 9, .int 11])) K = K (decide (m = 4 ∨ m = 6 ∨ m = 9 ∨ m = 11)) := by
  have e : cmpop .In (.int m) (.tup [.int 4, .int 6, .int 9, .int 11]) = some (decide (m = 4 ∨ m = 6 ∨ m = 9 ∨ m = 11)) := by
    show inP (.int m) ([4, 6, 9, 11].map P.int) = _
    unfold inP
    rw [flat_ints]
    show some (L2.inV (.int m) (([4, 6, 9, 11].map P.int).map P.toV)) = _
    rw [inV_ints]
    congr 1
    simp
  rw [e]
  rfl
theorem c_long (wf n : Nat) (hn : 1 ≤ n) (y m : Int) : callN fnT globT wf n ix__law_long [.p (.int y), .p (.int m)] = .ok (.p (.int (longF y m))) none := by
  rw [← RW_eq, RW_callN fn__law_long rfl (by omega)]
  unfold bd__law_long
  simp_arith! []
  refine condD (fun h => ?_) (fun h => ?_)
  · subst h
    have lf : longF y 2 = if Pu.leap y then 29 else 28 := rfl
    have lp : Pu.leap y = (decide (y % 4 = 0) && (!decide (y % 100 = 0) || decide (y % 400 = 0))) := rfl
    simp_arith! []
    refine condD (fun h4 => ?_) (fun h4 => ?_)
    · simp_arith! []
      refine condD (fun h5 => ?_) (fun h5 => ?_)
      · simp_arith! []
        rw [lf, lp, decide_eq_true h4, decide_eq_true h5]
        cases decide (y % 400 = 0) <;> exact ⟨rfl, rfl⟩
      · simp_arith! []
        rw [lf, lp, decide_eq_true h4, decide_eq_false h5]
        exact ⟨rfl, rfl⟩
    · simp_arith! []
      rw [lf, lp, decide_eq_false h4]
      exact ⟨rfl, rfl⟩
  · simp_arith! [p_In4]
    have lf : longF y m = if m = 4 ∨ m = 6 ∨ m = 9 ∨ m = 11 then 30 else 31 := if_neg h
    refine condD (fun h4 => ?_) (fun h4 => ?_)
    · simp_arith! []
      rw [lf, if_pos h4]
      exact ⟨rfl, rfl⟩
    · simp_arith! []
      rw [lf, if_neg h4]
      exact ⟨rfl, rfl⟩
local macro_rules
  | `(tactic| simp_arith! [$ls,*]) => `(tactic| simp_arith [c_is_integer, c_is_from, c_check_day, c_weekday_of, c_is_open_day, c_workdays_ahead, c_workday_at, c_long, $ls,*])
theorem Ln_at (y i : Int) (h0 : 0 ≤ i) (h1 : i < 12) : Ln (12 * y + i) = longF y (i + 1) := by
  unfold Ln
  rw [show (12 * y + i) / 12 = y by omega, show (12 * y + i) % 12 = i by omega]
theorem FD_at (y i : Int) (h0 : 0 ≤ i) (h1 : i < 12) : FD (12 * y + (i + 1)) = FD (12 * y + i) + longF y (i + 1) := by
  have e := Pu.FD_step (12 * y + i)
  rw [Ln_at y i h0 h1] at e
  rw [← e, Int.add_assoc]
theorem FD_year (y : Int) : FD (12 * (y + 1)) = FD (12 * y) + (337 + longF y 2) := by
  have a0 := FD_at y 0 (by omega) (by omega)
  have a1 := FD_at y 1 (by omega) (by omega)
  have a2 := FD_at y 2 (by omega) (by omega)
  have a3 := FD_at y 3 (by omega) (by omega)
  have a4 := FD_at y 4 (by omega) (by omega)
  have a5 := FD_at y 5 (by omega) (by omega)
  have a6 := FD_at y 6 (by omega) (by omega)
  have a7 := FD_at y 7 (by omega) (by omega)
  have a8 := FD_at y 8 (by omega) (by omega)
  have a9 := FD_at y 9 (by omega) (by omega)
  have a10 := FD_at y 10 (by omega) (by omega)
  have a11 := FD_at y 11 (by omega) (by omega)
  have l : ∀ m : Int, m ≠ 2 → longF y m = if m = 4 ∨ m = 6 ∨ m = 9 ∨ m = 11 then 30 else 31 := fun m h => if_neg h
  have b0 : longF y (0 + 1) = 31 := rfl
  have b2 : longF y (2 + 1) = 31 := rfl
  have b3 : longF y (3 + 1) = 30 := rfl
  have b4 : longF y (4 + 1) = 31 := rfl
  have b5 : longF y (5 + 1) = 30 := rfl
  have b6 : longF y (6 + 1) = 31 := rfl
  have b7 : longF y (7 + 1) = 31 := rfl
  have b8 : longF y (8 + 1) = 30 := rfl
  have b9 : longF y (9 + 1) = 31 := rfl
  have b10 : longF y (10 + 1) = 30 := rfl
  have b11 : longF y (11 + 1) = 31 := rfl
  have b1 : longF y (1 + 1) = longF y 2 := rfl
  rw [b0] at a0; rw [b1] at a1; rw [b2] at a2; rw [b3] at a3; rw [b4] at a4; rw [b5] at a5; rw [b6] at a6; rw [b7] at a7; rw [b8] at a8; rw [b9] at a9; rw [b10] at a10; rw [b11] at a11
  rw [Int.add_zero] at a0
  rw [show 12 * (y + 1) = 12 * y + (11 + 1) by omega]
  simp only [show (0 : Int) + 1 = 1 from rfl, show (1 : Int) + 1 = 2 from rfl, show (2 : Int) + 1 = 3 from rfl, show (3 : Int) + 1 = 4 from rfl, show (4 : Int) + 1 = 5 from rfl, show (5 : Int) + 1 = 6 from rfl, show (6 : Int) + 1 = 7 from rfl, show (7 : Int) + 1 = 8 from rfl, show (8 : Int) + 1 = 9 from rfl, show (9 : Int) + 1 = 10 from rfl, show (10 : Int) + 1 = 11 from rfl, show (11 : Int) + 1 = 12 from rfl] at a0 a1 a2 a3 a4 a5 a6 a7 a8 a9 a10 a11 ⊢
  omega
theorem FD_cycle (t : Int) : FD (12 * (2000 + 400 * t)) = 146097 * t := by
  rw [Pu.FD_eq, show 12 * (2000 + 400 * t) / 12 = 2000 + 400 * t by omega, show 12 * (2000 + 400 * t) % 12 = 0 by omega, show (2000 + 400 * t - 2000) / 400 = t by omega, show (2000 + 400 * t - 2000) % 400 = 0 by omega]
  show 146097 * t + 0 + 0 = _
  omega
theorem c_counted (wf n : Nat) (hn : 2 ≤ n) (hw : 200000 < wf) (d : Int) : ∃ m S, DayAt d m S ∧ callN fnT globT wf n ix__law_counted [.p (.int d)] = .ok (.p (.tup [.int (m / 12), .int (m % 12 + 1), .int S])) none := by
  have key : RW (callN fnT globT wf n ix__law_counted [.p (.int d)]) (fun d1 o1 => ∃ m S, DayAt d m S ∧ Ans d1 o1 (.p (.tup [.int (m / 12), .int (m % 12 + 1), .int S])) none) (fun _ _ => False) := by
    rw [RW_callN fn__law_counted rfl (by omega)]
    unfold bd__law_counted
    simp_arith! []
    obtain ⟨t, ht⟩ : ∃ t, t = d / 146097 := ⟨_, rfl⟩
    rw [← ht]
    have f0 := FD_cycle t
    refine WW_inv (fun k ρ => ∃ l y : Int, (k : Int) = l ∧ l = d - FD (12 * y) ∧ Is ρ [some (.p (.int d)), some (.p (.int t)), some (.p (.int l)), some (.p (.int y)), some (.p (.int 1))]) ?_ wf (d - 146097 * t).toNat _ (by omega) ⟨d - 146097 * t, 2000 + 400 * t, by omega, by omega, rfl⟩
    rintro k ρ ⟨l, y, hk, hl, rfl⟩
    have fy := FD_year y
    have lo := Pu.long_lo y 2
    simp_arith! []
    refine condD (fun h1 => ?_) (fun h1 => ?_)
    · simp_arith! []
      exact ⟨(l - 337 - longF y 2).toNat, by omega, _, _, by omega, by omega, rfl⟩
    · simp_arith! []
      refine WW_inv (fun k ρ => ∃ l m : Int, (k : Int) = l ∧ 1 ≤ m ∧ m ≤ 12 ∧ l = d - FD (12 * y + (m - 1)) ∧ Is ρ [some (.p (.int d)), some (.p (.int t)), some (.p (.int l)), some (.p (.int y)), some (.p (.int m))]) ?_ wf l.toNat _ (by omega) ⟨l, 1, by omega, by omega, by omega, by rw [show (1 : Int) - 1 = 0 from rfl, Int.add_zero]; exact hl, rfl⟩
      rintro k2 ρ ⟨l2, m, hk2, hm1, hm2, hl2, rfl⟩
      have fm := FD_at y (m - 1) (by omega) (by omega)
      rw [show m - 1 + 1 = m by omega] at fm
      have lm := Pu.long_lo y m
      simp_arith! []
      refine condD (fun h2 => ?_) (fun h2 => ?_)
      · simp_arith! []
        have hm3 : m + 1 ≤ 12 := by
          by_cases e : m = 12
          · exfalso
            subst e
            rw [show 12 * (y + 1) = 12 * y + 12 by omega] at fy
            omega
          · omega
        exact ⟨(l2 - longF y m).toNat, by omega, _, _, by omega, by omega, hm3, by rw [show m + 1 - 1 = m by omega]; omega, rfl⟩
      · simp_arith! []
        refine ⟨12 * y + (m - 1), l2 + 1, ⟨by omega, by omega, ?_⟩, ?_, rfl⟩
        · rw [Ln_at y (m - 1) (by omega) (by omega), show m - 1 + 1 = m by omega]
          omega
        · rw [show (12 * y + (m - 1)) / 12 = y by omega, show (12 * y + (m - 1)) % 12 + 1 = m by omega]
  revert key
  generalize callN fnT globT wf n ix__law_counted [.p (.int d)] = r
  intro key
  cases r with
  | ok d1 o1 =>
    obtain ⟨m, S, hx, e1, e2⟩ := key
    subst e1 e2
    exact ⟨m, S, hx, rfl⟩
  | exc c fs => exact key.elim
  | bad => exact key.elim

end Lw

set_option Elab.async false
set_option linter.all false
set_option autoImplicit false
set_option maxRecDepth 100000
set_option maxHeartbeats 4000000
namespace Lw
open PySem L2 Pl
local macro_rules
  | `(tactic| trivial) => `(tactic| first | omega | ((with_reducible apply Pl.mulOk_l); first | decide | omega) | ((with_reducible apply Pl.mulOk_r); first | decide | omega) | ((with_reducible apply Pl.divOk_s) <;> omega) | ((with_reducible apply Pl.divOk_w) <;> omega) | ((with_reducible apply Pl.powOk_s) <;> omega) | ((with_reducible apply Pl.CompOk.mk); with_unfolding_all exact rfl) | ((with_reducible apply Pl.KeepOk.mk); with_unfolding_all exact rfl) | ((with_reducible apply Pl.mulSOk_s) <;> first | omega | decide) | with_reducible decide | with_reducible rfl | (simp only [List.length_cons, List.length_nil, List.length_append, List.length_map, List.length_take, List.length_drop]; omega) | assumption)
local macro_rules
  | `(tactic| simp_arith [$ls,*]) => `(tactic| simp (disch := trivial) only [↓Pl.w_some, ↓Pl.w_none, ↓Pl.w_frzp, ↓Pl.w_frzl, ↓Pl.w_fzL0, ↓Pl.w_fzL1, ↓Pl.w_fzL2, ↓Pl.w_flp, ↓Pl.w_fll, ↓Pl.w_flnil, ↓Pl.w_flcons, ↓Pl.w_fzLm, ↓Pl.w_flmap, ↓Pl.w_get0, ↓Pl.w_getS, ↓Pl.w_getP0, ↓Pl.w_getPS, ↓Pl.w_set0, ↓Pl.w_setS, ↓Pl.w_wipe0, ↓Pl.w_wipe1, ↓Pl.w_condT, ↓Pl.w_condF, ↓Pl.w_condN, ↓Pl.w_tyb, ↓Pl.w_inti, ↓Pl.w_itl, ↓Pl.w_itt, ↓Pl.w_its, ↓Pl.w_ll, ↓Pl.w_bindv, ↓Pl.w_bindt, ↓Pl.w_bindl, ↓Pl.w_binds0, ↓Pl.w_binds1, ↓Pl.w_lit, ↓Pl.w_var, ↓Pl.w_glob, ↓Pl.o_var, ↓Pl.r_var, ↓Pl.o_lit, ↓Pl.r_lit, ↓Pl.o_glob, ↓Pl.r_glob, ↓Pl.o_bin, ↓Pl.r_bin, ↓Pl.o_neg, ↓Pl.r_neg, ↓Pl.o_not, ↓Pl.r_not, ↓Pl.o_cmp, ↓Pl.r_cmp, ↓Pl.o_chain, ↓Pl.r_chain, ↓Pl.o_and, ↓Pl.r_and, ↓Pl.o_or, ↓Pl.r_or, ↓Pl.o_ife, ↓Pl.r_ife, ↓Pl.o_tup, ↓Pl.r_tup, ↓Pl.o_lst, ↓Pl.r_lst, ↓Pl.o_idx, ↓Pl.r_idx, ↓Pl.o_idx2, ↓Pl.r_idx2, ↓Pl.o_slc, ↓Pl.r_slc, ↓Pl.o_call, ↓Pl.r_call, ↓Pl.o_bi, ↓Pl.r_bi, ↓Pl.o_isi, ↓Pl.r_isi, ↓Pl.o_mkx, ↓Pl.r_mkx, ↓Pl.o_comp, ↓Pl.r_comp, ↓Pl.o_rng1, ↓Pl.r_rng1, ↓Pl.o_rng2, ↓Pl.r_rng2, ↓Pl.o_enum, ↓Pl.r_enum, ↓Pl.o_zip, ↓Pl.r_zip, ↓Pl.o_rng3, ↓Pl.r_rng3, ↓Pl.o_view, ↓Pl.r_view, ↓Pl.o_cnt, ↓Pl.r_cnt, ↓Pl.o_dnil, ↓Pl.r_dnil, ↓Pl.o_keys, ↓Pl.r_keys, ↓Pl.w_bin, ↓Pl.w_cmp, ↓Pl.tv_var, ↓Pl.iv_var, ↓Pl.tv_lit, ↓Pl.iv_lit, ↓Pl.tv_glob, ↓Pl.iv_glob, ↓Pl.iv_bin, ↓Pl.tv_chain, ↓Pl.iv_ife, ↓Pl.iv_tup, ↓Pl.iv_lst, ↓Pl.tv_idx, ↓Pl.iv_idx, ↓Pl.tv_idx2, ↓Pl.iv_idx2, ↓Pl.tv_slc, ↓Pl.iv_slc, ↓Pl.tv_call, ↓Pl.iv_call, ↓Pl.tv_isi, ↓Pl.tv_mkx, ↓Pl.iv_comp, ↓Pl.tv_bi, ↓Pl.iv_bi, ↓Pl.t_cmpW, ↓Pl.w_neg, ↓Pl.w_not, ↓Pl.t_notW, ↓Pl.t_and1W, ↓Pl.t_andW, ↓Pl.t_or1W, ↓Pl.t_orW, ↓Pl.w_and1, ↓Pl.w_and, ↓Pl.w_or1, ↓Pl.w_or, ↓Pl.w_chain, ↓Pl.w_ife, ↓Pl.s_nil, ↓Pl.s_cons, ↓Pl.w_tup, ↓Pl.w_lst, ↓Pl.w_idx, ↓Pl.w_pp, ↓Pl.w_atl, ↓Pl.w_atv, ↓Pl.w_idp, ↓Pl.w_idl, ↓Pl.w_idx2, ↓Pl.p_idx2P, ↓Pl.w_oin, ↓Pl.w_ois, ↓Pl.w_slc, ↓Pl.w_call, ↓Pl.w_callF, ↓Pl.w_callM, ↓Pl.w_callM_call, ↓Pl.w_callM_lst, ↓Pl.w_callM_bin, ↓Pl.w_callM_slc, ↓Pl.w_callM_bi, ↓Pl.w_callM_comp, ↓Pl.w_callM_ife, ↓Pl.w_callM_idx, ↓Pl.a_pos0, ↓Pl.a_pos1, ↓Pl.a_pos2, ↓Pl.a_pos3, ↓Pl.a_pos4, ↓Pl.a_pos5, ↓Pl.a_pos6, ↓Pl.a_pos7, ↓Pl.a_pos8, ↓Pl.a_pos9, ↓Pl.w_RWok, ↓Pl.w_RWexc, ↓Pl.w_bi1, ↓Pl.w_bi2, ↓Pl.w_isi, ↓Pl.w_mkx, ↓Pl.w_strs, ↓Pl.w_getO0, ↓Pl.w_getOS, ↓Pl.w_back0, ↓Pl.w_back1, ↓Pl.w_comp, ↓Pl.w_compT, ↓Pl.iv_rng1, ↓Pl.iv_rng2, ↓Pl.iv_rng3, ↓Pl.w_frzd, ↓Pl.w_dd, ↓Pl.w_keyi, ↓Pl.w_keys_, ↓Pl.w_dnil, ↓Pl.w_keys, ↓Pl.w_view0, ↓Pl.w_viewN, ↓Pl.w_viewS, ↓Pl.t_view, ↓Pl.w_view, ↓Pl.w_flI, ↓Pl.w_flB, ↓Pl.w_flS, ↓Pl.w_flN, ↓Pl.w_lstl, ↓Pl.w_cnt, ↓Pl.iv_enum, ↓Pl.w_zipl, ↓Pl.w_zipt, ↓Pl.iv_zip, ↓Pl.q_nx, ↓Pl.q_rt, ↓Pl.q_bk, ↓Pl.q_ct, ↓Pl.q_ex, ↓Pl.b_nilW, ↓Pl.b_asg, ↓Pl.b_asgt, ↓Pl.w_par0, ↓Pl.w_par1, ↓Pl.b_par, ↓Pl.b_asgL, ↓Pl.b_set, ↓Pl.b_set2, ↓Pl.p_set2P, ↓Pl.b_dset, ↓Pl.b_aug, ↓Pl.b_app, ↓Pl.b_expr, ↓Pl.b_ife, ↓Pl.b_for, ↓Pl.b_while, ↓Pl.b_retW, ↓Pl.b_retV, ↓Pl.b_raise, ↓Pl.b_raiseF, ↓Pl.b_pass, ↓Pl.b_brk, ↓Pl.b_cont, ↓Pl.b_frz, ↓Pl.b_try, ↓Pl.y_nx, ↓Pl.y_rt, ↓Pl.y_bk, ↓Pl.y_ct, ↓Pl.y_keep, ↓Pl.f_nxF, ↓Pl.f_rtF, ↓Pl.f_exF, ↓Pl.f_nxT, ↓Pl.f_rtT, ↓Pl.w_init0, ↓Pl.w_initN, ↓Pl.w_initS, ↓Pl.l_nx, ↓Pl.l_ct, ↓Pl.l_bk, ↓Pl.l_rt, ↓Pl.l_ex, ↓Pl.c_t0, ↓Pl.c_t1, ↓Pl.p_Add, ↓Pl.p_Sub, ↓Pl.p_Mul, ↓Pl.p_Div, ↓Pl.p_Mod, ↓Pl.p_Pow0, ↓Pl.p_Pow1, ↓Pl.p_Pow2, ↓Pl.p_Pow3, ↓Pl.p_Pow4, ↓Pl.p_Pow5, ↓Pl.p_Pow6, ↓Pl.p_Pow7, ↓Pl.p_Pow8, ↓Pl.p_Pow9, ↓Pl.p_Pow10, ↓Pl.p_Pow11, ↓Pl.p_Pow12, ↓Pl.p_Pow13, ↓Pl.p_Pow14, ↓Pl.p_Pow15, ↓Pl.p_Pow16, ↓Pl.p_Pow17, ↓Pl.p_Pow18, ↓Pl.p_Pow19, ↓Pl.p_Pow20, ↓Pl.p_Pow21, ↓Pl.p_Pow22, ↓Pl.p_Pow23, ↓Pl.p_Pow24, ↓Pl.p_Pow25, ↓Pl.p_Pow26, ↓Pl.p_Pow27, ↓Pl.p_Pow28, ↓Pl.p_Pow29, ↓Pl.p_Pow30, ↓Pl.p_Pow31, ↓Pl.p_Pow32, ↓Pl.p_Pow33, ↓Pl.p_Pow34, ↓Pl.p_Pow35, ↓Pl.p_Pow36, ↓Pl.p_Pow37, ↓Pl.p_Pow38, ↓Pl.p_Pow39, ↓Pl.p_Pow40, ↓Pl.p_Pow41, ↓Pl.p_Pow42, ↓Pl.p_Pow43, ↓Pl.p_Pow44, ↓Pl.p_Pow45, ↓Pl.p_Pow46, ↓Pl.p_Pow47, ↓Pl.p_Pow48, ↓Pl.p_Pow49, ↓Pl.p_Pow50, ↓Pl.p_Pow51, ↓Pl.p_Pow52, ↓Pl.p_Pow53, ↓Pl.p_Pow54, ↓Pl.p_Pow55, ↓Pl.p_Pow56, ↓Pl.p_Pow57, ↓Pl.p_Pow58, ↓Pl.p_Pow59, ↓Pl.p_Pow60, ↓Pl.p_Pow61, ↓Pl.p_Pow62, ↓Pl.p_Pow63, ↓Pl.p_Pow64, ↓Pl.p_Pow65, ↓Pl.p_MulS, ↓Pl.p_AddL, ↓Pl.p_AddT, ↓Pl.p_Lt, ↓Pl.p_LtE, ↓Pl.p_Gt, ↓Pl.p_GtE, ↓Pl.p_Eq, ↓Pl.p_NotEq, ↓Pl.p_IsN, ↓Pl.p_IsNotN, ↓Pl.p_Is_bl, ↓Pl.p_IsNot_bl, ↓Pl.p_Is_int, ↓Pl.p_IsNot_int, ↓Pl.p_Is_str, ↓Pl.p_IsNot_str, ↓Pl.p_Is_tup, ↓Pl.p_IsNot_tup, ↓Pl.p_Is_lst, ↓Pl.p_IsNot_lst, ↓Pl.p_Is_exc, ↓Pl.p_IsNot_exc, ↓Pl.p_Is_scr, ↓Pl.p_IsNot_scr, ↓Pl.p_IsB, ↓Pl.p_IsNotB, ↓Pl.p_idx_tup, ↓Pl.p_idx_lst, ↓Pl.p_idx_scr, ↓Pl.p_at0, ↓Pl.p_at1, ↓Pl.p_at2, ↓Pl.p_at3, ↓Pl.p_at4, ↓Pl.p_at5, ↓Pl.p_at6, ↓Pl.p_at7, ↓Pl.p_at8, ↓Pl.p_set0, ↓Pl.p_set1, ↓Pl.p_set2, ↓Pl.p_set3, ↓Pl.p_set4, ↓Pl.p_set5, ↓Pl.p_lenL, ↓Pl.p_lenT, ↓Pl.p_lenS, ↓Pl.p_abs, ↓Pl.p_max2, ↓Pl.p_min2, ↓Pl.p_int, ↓Pl.p_intb, ↓Pl.p_divmod, ↓Pl.p_listL, ↓Pl.p_listT, ↓Pl.p_tupL, ↓Pl.p_tupT, ↓Pl.p_augA, ↓Pl.p_augS, ↓Pl.p_isi_int_non, ↓Pl.p_isi_bool_non, ↓Pl.p_isi_str_non, ↓Pl.p_isi_list_non, ↓Pl.p_isi_tuple_non, ↓Pl.p_isi_lt_non, ↓Pl.p_isi_int_bl, ↓Pl.p_isi_bool_bl, ↓Pl.p_isi_str_bl, ↓Pl.p_isi_list_bl, ↓Pl.p_isi_tuple_bl, ↓Pl.p_isi_lt_bl, ↓Pl.p_isi_int_int, ↓Pl.p_isi_bool_int, ↓Pl.p_isi_str_int, ↓Pl.p_isi_list_int, ↓Pl.p_isi_tuple_int, ↓Pl.p_isi_lt_int, ↓Pl.p_isi_int_str, ↓Pl.p_isi_bool_str, ↓Pl.p_isi_str_str, ↓Pl.p_isi_list_str, ↓Pl.p_isi_tuple_str, ↓Pl.p_isi_lt_str, ↓Pl.p_isi_int_tup, ↓Pl.p_isi_bool_tup, ↓Pl.p_isi_str_tup, ↓Pl.p_isi_list_tup, ↓Pl.p_isi_tuple_tup, ↓Pl.p_isi_lt_tup, ↓Pl.p_isi_int_lst, ↓Pl.p_isi_bool_lst, ↓Pl.p_isi_str_lst, ↓Pl.p_isi_list_lst, ↓Pl.p_isi_tuple_lst, ↓Pl.p_isi_lt_lst, ↓Pl.p_isi_int_scr, ↓Pl.p_isi_bool_scr, ↓Pl.p_isi_str_scr, ↓Pl.p_isi_list_scr, ↓Pl.p_isi_tuple_scr, ↓Pl.p_isi_lt_scr, ↓Pl.p_isi_int_exc, ↓Pl.p_isi_bool_exc, ↓Pl.p_isi_str_exc, ↓Pl.p_isi_list_exc, ↓Pl.p_isi_tuple_exc, ↓Pl.p_isi_lt_exc, ↓Pl.p_sliceL, ↓Pl.p_sliceT, ↓Pl.z_l0, ↓Pl.z_l1, ↓Pl.z_l2, ↓Pl.z_l3, ↓Pl.z_l4, ↓Pl.z_l5, ↓Pl.z_l6, ↓Pl.z_l7, ↓Pl.z_l8, ↓Pl.z_l9, ↓Pl.z_l10, ↓Pl.z_l11, ↓Pl.z_l12, ↓Pl.z_szT, ↓Pl.z_inR, ↓Pl.z_inR2, ↓Pl.z_lenlt, Pl.w_some, Pl.w_none, Pl.w_frzp, Pl.w_frzl, Pl.w_fzL0, Pl.w_fzL1, Pl.w_fzL2, Pl.w_flp, Pl.w_fll, Pl.w_flnil, Pl.w_flcons, Pl.w_fzLm, Pl.w_flmap, Pl.w_get0, Pl.w_getS, Pl.w_getP0, Pl.w_getPS, Pl.w_set0, Pl.w_setS, Pl.w_wipe0, Pl.w_wipe1, Pl.w_condT, Pl.w_condF, Pl.w_condN, Pl.w_tyb, Pl.w_inti, Pl.w_itl, Pl.w_itt, Pl.w_its, Pl.w_ll, Pl.w_bindv, Pl.w_bindt, Pl.w_bindl, Pl.w_binds0, Pl.w_binds1, Pl.w_lit, Pl.w_var, Pl.w_glob, Pl.o_var, Pl.r_var, Pl.o_lit, Pl.r_lit, Pl.o_glob, Pl.r_glob, Pl.o_bin, Pl.r_bin, Pl.o_neg, Pl.r_neg, Pl.o_not, Pl.r_not, Pl.o_cmp, Pl.r_cmp, Pl.o_chain, Pl.r_chain, Pl.o_and, Pl.r_and, Pl.o_or, Pl.r_or, Pl.o_ife, Pl.r_ife, Pl.o_tup, Pl.r_tup, Pl.o_lst, Pl.r_lst, Pl.o_idx, Pl.r_idx, Pl.o_idx2, Pl.r_idx2, Pl.o_slc, Pl.r_slc, Pl.o_call, Pl.r_call, Pl.o_bi, Pl.r_bi, Pl.o_isi, Pl.r_isi, Pl.o_mkx, Pl.r_mkx, Pl.o_comp, Pl.r_comp, Pl.o_rng1, Pl.r_rng1, Pl.o_rng2, Pl.r_rng2, Pl.o_enum, Pl.r_enum, Pl.o_zip, Pl.r_zip, Pl.o_rng3, Pl.r_rng3, Pl.o_view, Pl.r_view, Pl.o_cnt, Pl.r_cnt, Pl.o_dnil, Pl.r_dnil, Pl.o_keys, Pl.r_keys, Pl.w_bin, Pl.w_cmp, Pl.tv_var, Pl.iv_var, Pl.tv_lit, Pl.iv_lit, Pl.tv_glob, Pl.iv_glob, Pl.iv_bin, Pl.tv_chain, Pl.iv_ife, Pl.iv_tup, Pl.iv_lst, Pl.tv_idx, Pl.iv_idx, Pl.tv_idx2, Pl.iv_idx2, Pl.tv_slc, Pl.iv_slc, Pl.tv_call, Pl.iv_call, Pl.tv_isi, Pl.tv_mkx, Pl.iv_comp, Pl.tv_bi, Pl.iv_bi, Pl.t_cmpW, Pl.w_neg, Pl.w_not, Pl.t_notW, Pl.t_and1W, Pl.t_andW, Pl.t_or1W, Pl.t_orW, Pl.w_and1, Pl.w_and, Pl.w_or1, Pl.w_or, Pl.w_chain, Pl.w_ife, Pl.s_nil, Pl.s_cons, Pl.w_tup, Pl.w_lst, Pl.w_idx, Pl.w_pp, Pl.w_atl, Pl.w_atv, Pl.w_idp, Pl.w_idl, Pl.w_idx2, Pl.p_idx2P, Pl.w_oin, Pl.w_ois, Pl.w_slc, Pl.w_call, Pl.w_callF, Pl.w_callM, Pl.w_callM_call, Pl.w_callM_lst, Pl.w_callM_bin, Pl.w_callM_slc, Pl.w_callM_bi, Pl.w_callM_comp, Pl.w_callM_ife, Pl.w_callM_idx, Pl.a_pos0, Pl.a_pos1, Pl.a_pos2, Pl.a_pos3, Pl.a_pos4, Pl.a_pos5, Pl.a_pos6, Pl.a_pos7, Pl.a_pos8, Pl.a_pos9, Pl.w_RWok, Pl.w_RWexc, Pl.w_pz0, Pl.w_pzp, Pl.w_pzl, Pl.w_fz0, Pl.w_fzp, Pl.w_fzl, Pl.w_fzmap, Pl.w_bi1, Pl.w_bi2, Pl.w_isi, Pl.w_mkx, Pl.w_strs, Pl.w_getO0, Pl.w_getOS, Pl.w_back0, Pl.w_back1, Pl.w_comp, Pl.w_compT, Pl.iv_rng1, Pl.iv_rng2, Pl.iv_rng3, Pl.w_frzd, Pl.w_dd, Pl.w_keyi, Pl.w_keys_, Pl.w_dnil, Pl.w_keys, Pl.w_view0, Pl.w_viewN, Pl.w_viewS, Pl.t_view, Pl.w_view, Pl.w_flI, Pl.w_flB, Pl.w_flS, Pl.w_flN, Pl.w_lstl, Pl.w_cnt, Pl.iv_enum, Pl.w_zipl, Pl.w_zipt, Pl.iv_zip, Pl.q_nx, Pl.q_rt, Pl.q_bk, Pl.q_ct, Pl.q_ex, Pl.b_nilW, Pl.b_asg, Pl.b_asgt, Pl.w_par0, Pl.w_par1, Pl.b_par, Pl.b_asgL, Pl.b_set, Pl.b_set2, Pl.p_set2P, Pl.b_dset, Pl.b_aug, Pl.b_app, Pl.b_expr, Pl.b_ife, Pl.b_for, Pl.b_while, Pl.b_retW, Pl.b_retV, Pl.b_raise, Pl.b_raiseF, Pl.b_pass, Pl.b_brk, Pl.b_cont, Pl.b_frz, Pl.b_try, Pl.y_nx, Pl.y_rt, Pl.y_bk, Pl.y_ct, Pl.y_keep, Pl.f_nxF, Pl.f_rtF, Pl.f_exF, Pl.f_nxT, Pl.f_rtT, Pl.w_init0, Pl.w_initN, Pl.w_initS, Pl.l_nx, Pl.l_ct, Pl.l_bk, Pl.l_rt, Pl.l_ex, Pl.c_t0, Pl.c_t1, Pl.p_Add, Pl.p_Sub, Pl.p_Mul, Pl.p_Div, Pl.p_Mod, Pl.p_Pow0, Pl.p_Pow1, Pl.p_Pow2, Pl.p_Pow3, Pl.p_Pow4, Pl.p_Pow5, Pl.p_Pow6, Pl.p_Pow7, Pl.p_Pow8, Pl.p_Pow9, Pl.p_Pow10, Pl.p_Pow11, Pl.p_Pow12, Pl.p_Pow13, Pl.p_Pow14, Pl.p_Pow15, Pl.p_Pow16, Pl.p_Pow17, Pl.p_Pow18, Pl.p_Pow19, Pl.p_Pow20, Pl.p_Pow21, Pl.p_Pow22, Pl.p_Pow23, Pl.p_Pow24, Pl.p_Pow25, Pl.p_Pow26, Pl.p_Pow27, Pl.p_Pow28, Pl.p_Pow29, Pl.p_Pow30, Pl.p_Pow31, Pl.p_Pow32, Pl.p_Pow33, Pl.p_Pow34, Pl.p_Pow35, Pl.p_Pow36, Pl.p_Pow37, Pl.p_Pow38, Pl.p_Pow39, Pl.p_Pow40, Pl.p_Pow41, Pl.p_Pow42, Pl.p_Pow43, Pl.p_Pow44, Pl.p_Pow45, Pl.p_Pow46, Pl.p_Pow47, Pl.p_Pow48, Pl.p_Pow49, Pl.p_Pow50, Pl.p_Pow51, Pl.p_Pow52, Pl.p_Pow53, Pl.p_Pow54, Pl.p_Pow55, Pl.p_Pow56, Pl.p_Pow57, Pl.p_Pow58, Pl.p_Pow59, Pl.p_Pow60, Pl.p_Pow61, Pl.p_Pow62, Pl.p_Pow63, Pl.p_Pow64, Pl.p_Pow65, Pl.p_MulS, Pl.p_AddL, Pl.p_AddT, Pl.p_Lt, Pl.p_LtE, Pl.p_Gt, Pl.p_GtE, Pl.p_Eq, Pl.p_NotEq, Pl.p_IsN, Pl.p_IsNotN, Pl.p_Is_bl, Pl.p_IsNot_bl, Pl.p_Is_int, Pl.p_IsNot_int, Pl.p_Is_str, Pl.p_IsNot_str, Pl.p_Is_tup, Pl.p_IsNot_tup, Pl.p_Is_lst, Pl.p_IsNot_lst, Pl.p_Is_exc, Pl.p_IsNot_exc, Pl.p_Is_scr, Pl.p_IsNot_scr, Pl.p_IsB, Pl.p_IsNotB, Pl.p_idx_tup, Pl.p_idx_lst, Pl.p_idx_scr, Pl.p_at0, Pl.p_at1, Pl.p_at2, Pl.p_at3, Pl.p_at4, Pl.p_at5, Pl.p_at6, Pl.p_at7, Pl.p_at8, Pl.p_set0, Pl.p_set1, Pl.p_set2, Pl.p_set3, Pl.p_set4, Pl.p_set5, Pl.p_lenL, Pl.p_lenT, Pl.p_lenS, Pl.p_abs, Pl.p_max2, Pl.p_min2, Pl.p_int, Pl.p_intb, Pl.p_divmod, Pl.p_listL, Pl.p_listT, Pl.p_tupL, Pl.p_tupT, Pl.p_augA, Pl.p_augS, Pl.p_isi_int_non, Pl.p_isi_bool_non, Pl.p_isi_str_non, Pl.p_isi_list_non, Pl.p_isi_tuple_non, Pl.p_isi_lt_non, Pl.p_isi_int_bl, Pl.p_isi_bool_bl, Pl.p_isi_str_bl, Pl.p_isi_list_bl, Pl.p_isi_tuple_bl, Pl.p_isi_lt_bl, Pl.p_isi_int_int, Pl.p_isi_bool_int, Pl.p_isi_str_int, Pl.p_isi_list_int, Pl.p_isi_tuple_int, Pl.p_isi_lt_int, Pl.p_isi_int_str, Pl.p_isi_bool_str, Pl.p_isi_str_str, Pl.p_isi_list_str, Pl.p_isi_tuple_str, Pl.p_isi_lt_str, Pl.p_isi_int_tup, Pl.p_isi_bool_tup, Pl.p_isi_str_tup, Pl.p_isi_list_tup, Pl.p_isi_tuple_tup, Pl.p_isi_lt_tup, Pl.p_isi_int_lst, Pl.p_isi_bool_lst, Pl.p_isi_str_lst, Pl.p_isi_list_lst, Pl.p_isi_tuple_lst, Pl.p_isi_lt_lst, Pl.p_isi_int_scr, Pl.p_isi_bool_scr, Pl.p_isi_str_scr, Pl.p_isi_list_scr, Pl.p_isi_tuple_scr, Pl.p_isi_lt_scr, Pl.p_isi_int_exc, Pl.p_isi_bool_exc, Pl.p_isi_str_exc, Pl.p_isi_list_exc, Pl.p_isi_tuple_exc, Pl.p_isi_lt_exc, Pl.p_sliceL, Pl.p_sliceT, Pl.z_l0, Pl.z_l1, Pl.z_l2, Pl.z_l3, Pl.z_l4, Pl.z_l5, Pl.z_l6, Pl.z_l7, Pl.z_l8, Pl.z_l9, Pl.z_l10, Pl.z_l11, Pl.z_l12, Pl.z_map0, Pl.z_map1, Pl.z_app0, Pl.z_app1, Pl.z_rep0, Pl.z_repS, Pl.z_gt, Pl.z_szT, Pl.z_inR, Pl.z_inR2, Pl.z_lenlt, ↓Pl.w_fzLmp, Pl.w_fzLmp, ↓Pl.w_flmp, Pl.w_flmp, Pl.frzL_mp, ↓Pl.p_all, Pl.p_all, ↓Pl.p_atInt, Pl.p_atInt, decide_true, decide_false, Bool.not_true, Bool.not_false, Int.reduceEq, Int.reduceLT, Int.reduceLE, ↓Pl.p_EqNN, Pl.p_EqNN, ↓Pl.p_NeNN, Pl.p_NeNN, ↓Pl.p_EqNI, Pl.p_EqNI, ↓Pl.p_EqIN, Pl.p_EqIN, ↓Pl.p_NeNI, Pl.p_NeNI, ↓Pl.p_NeIN, Pl.p_NeIN, ↓Pl.p_EqB, Pl.p_EqB, ↓Pl.p_NeB, Pl.p_NeB, Lw.fn_is_integer, Lw.fn_is_from, Lw.fn_is_between, Lw.fn_is_index, Lw.fn_is_ascending, Lw.fn_check_index, Lw.fn_are_turns, Lw.fn_is_places, Lw.fn_is_stretch, Lw.fn_is_entry_of, Lw.fn_are_ends, Lw.fn_is_tie_of, Lw.fn_is_book, Lw.fn_check_book, Lw.fn_check_day, Lw.fn_nought_in, Lw.fn_mark_in, Lw.fn_check_term, Lw.fn_check_holidays, Lw.fn_date_of, Lw.fn_number_of_date, Lw.fn_month_length, Lw.fn_weekday_of, Lw.fn_is_open_day, Lw.fn_is_open, Lw.fn_workdays_ahead, Lw.fn_workday_at, Lw.fn_lost_workdays, Lw.fn_open_days, Lw.fn_open_day_behind, Lw.fn_due_of, Lw.fn_due_day, Lw.fn_due_mark_in, Lw.fn_due_mark, Lw.fn__law_purse, Lw.fn__law_take, Lw.fn__law_pick, Lw.fn__law_match, Lw.fn__law_long, Lw.fn__law_counted, Lw.fn__law_drawn_day, Lw.fn__law_drawn_holidays, Lw.fn__law_is_work, Lw.fn__law_walked, Lw.fn__law_month_on, Lw.fn__law_due, Lw.fn__law_mark_right, Lw.fn_law, Lw.gl_MINUTES, Lw.gl_APART, Lw.gl_LOOK, Lw.gl_DAYS, Lw.gl_OPEN, Lw.gl_MONTHS, Lw.gl_END, Lw.gl_TERM_WORDS, Lw.gl_MONTH_DAYS, Lw.gl_FIRST_MONDAY, Lw.gl_FIRST_MARCH, Lw.gl_CYCLE, Lw.kw_is_open_0_1_0, Lw.kw_open_days_0_2_1_0, Lw.kw_due_day_0_2_1_0, Lw.kw_due_mark_0_3_2_1_0, $ls,*])
local macro_rules
  | `(tactic| simp_arith! [$ls,*]) => `(tactic| simp_arith [$ls,*])
local macro_rules
  | `(tactic| simp_arith! [$ls,*]) => `(tactic| simp_arith [c_is_integer, c_is_from, c_check_day, c_weekday_of, c_is_open_day, c_workdays_ahead, c_workday_at, c_long, q_dd, q_od, q_md, q_ed, q_oo, q_mo, q_eo, q_me, q_ee, $ls,*])
open Pu (wa dayN lost isO opn Beh nxt FD Ln DayAt longF)
theorem c_is_work (wf n : Nat) (hn : 1 ≤ n) (d : Int) (hs : List Int) : callN fnT globT wf n ix__law_is_work [.p (.int d), .p (.tup (hs.map .int))] = .ok (.p (.bl (isO hs d))) none := by
  rw [← RW_eq, RW_callN fn__law_is_work rfl (by omega)]
  unfold bd__law_is_work isO Pu.wk
  have e : (d + 5) % 7 = (d - 2) % 7 := by omega
  simp_arith! [e]
  refine condD (fun h => ?_) (fun h => ?_)
  · simp_arith! [p_NotInI]
    rw [decide_eq_true h]
    exact ⟨rfl, rfl⟩
  · simp_arith! []
    rw [decide_eq_false h]
    exact ⟨rfl, rfl⟩
local macro_rules
  | `(tactic| simp_arith! [$ls,*]) => `(tactic| simp_arith [c_is_integer, c_is_from, c_check_day, c_weekday_of, c_is_open_day, c_workdays_ahead, c_workday_at, c_long, q_dd, q_od, q_md, q_ed, q_oo, q_mo, q_eo, q_me, q_ee, c_is_work, $ls,*])
theorem dayN_far (d q : Int) (h : 0 ≤ q) : dayN (wa (d + 1) + q) ≤ d + 2 * q + 10 := by
  unfold dayN Pu.wa
  split <;> omega
theorem beh_far {hs : List Int} (h : Hol hs) {d k x : Int} (hk : 1 ≤ k) (b : Beh hs d k x) : x ≤ d + 2 * (k + 1000) + 10 := by
  have e := Pu.beh_lost h.nodup b
  have l1 := Pu.lost_le (d + 1) x hs
  have l2 := Pu.lost_nn (d + 1) x hs
  have hl := h.len
  have f := dayN_far d (k + lost (d + 1) x hs - 1) (by omega)
  have e2 : x = dayN (wa (d + 1) + (k + lost (d + 1) x hs - 1)) := by
    have : wa (d + 1) + (k + lost (d + 1) x hs - 1) = wa (d + 1) + k + lost (d + 1) x hs - 1 := by omega
    rw [this]
    exact e
  omega
theorem c_walked (wf n : Nat) (hn : 2 ≤ n) (hw : 200000 < wf) (d k x : Int) (hk : 0 ≤ k) (hk2 : k ≤ 10000) (hs : List Int) (h : Hol hs) (hx : DueO hs d k x) : callN fnT globT wf n ix__law_walked [.p (.int d), .p (.int k), .p (.tup (hs.map .int))] = .ok (.p (.int x)) none := by
  have nd := h.nodup
  rw [← RW_eq, RW_callN fn__law_walked rfl (by omega)]
  unfold bd__law_walked
  have walk : ∀ q : Int, q = (if k > 1 then k else 1) → Beh hs d q x → BW fnT globT (callN fnT globT wf (n - 1)) wf [.while_ (.cmp .Gt (.var 3) (.lit (.int 0))) [.frz 4, .asg (.v 4) (.bin .Add (.var 4) (.lit (.int 1))), .frz 4, .asg (.v 3) (.bin .Sub (.var 3) (.bi .int [.call ix__law_is_work [.var 4, .var 2] [] []]))], .retV 4] [some (.p (.int d)), some (.p (.int k)), some (.p (.tup (hs.map .int))), some (.p (.int q)), some (.p (.int d))] (fnQ false (fun d1 o1 => Ans d1 o1 (.p (.int x)) none) fun _ _ => False) := by
    intro q hq b
    have q1 : 1 ≤ q := by rw [hq]; split <;> omega
    have q2 : q ≤ 10000 := by rw [hq]; split <;> omega
    have fx := beh_far h q1 b
    have gx := b.gt
    have o0 := Pu.opn_none hs (d + 1)
    rw [show d + 1 - 1 = d by omega] at o0
    simp_arith! []
    refine WW_inv (fun m ρ => ∃ l y : Int, (m : Int) = x - y ∧ d ≤ y ∧ y ≤ x ∧ l = q - opn hs (d + 1) y ∧ Is ρ [some (.p (.int d)), some (.p (.int k)), some (.p (.tup (hs.map .int))), some (.p (.int l)), some (.p (.int y))]) ?_ wf (x - d).toNat _ (by omega) ⟨q, d, by omega, by omega, by omega, by omega, rfl⟩
    rintro m ρ ⟨l, y, hm, hy1, hy2, hl, rfl⟩
    simp_arith! []
    refine condD (fun h1 => ?_) (fun h1 => ?_)
    · have hyx : y < x := by
        by_cases e : y = x
        · subst e
          have := b.cnt
          omega
        · omega
      have st := Pu.opn_step nd (a := d + 1) (b := y) (by omega)
      simp_arith! []
      refine ⟨(x - (y + 1)).toNat, by omega, _, _, by omega, by omega, by omega, ?_, rfl⟩
      rw [hl, st]
      omega
    · have hyx : y = x := by
        by_cases e : y = x
        · exact e
        · exfalso
          have st := Pu.opn_step nd (a := d + 1) (b := x - 1) (by omega)
          rw [show x - 1 + 1 = x by omega, b.op, if_pos rfl, b.cnt] at st
          have mo := Pu.opn_le nd (a := d + 1) (b := y) (c := x - 1) (by omega) (by omega)
          omega
      simp_arith! []
      rw [hyx]
      exact ⟨rfl, rfl⟩
  simp_arith! []
  rcases hx with ⟨k0, o1, rfl⟩ | ⟨no, b⟩
  · refine condDT k0 ?_
    simp_arith! [o1]
    exact ⟨rfl, rfl⟩
  · have R := walk _ rfl b
    by_cases k0 : k = 0
    · have of : isO hs d = false := by
        cases e : isO hs d with
        | true => exact absurd ⟨k0, e⟩ no
        | false => rfl
      refine condDT k0 ?_
      revert R
      simp_arith! [of]
      exact id
    · refine condDF k0 ?_
      revert R
      simp_arith! []
      exact id
theorem c_month_on (wf n : Nat) (hn : 3 ≤ n) (hw : 200000 < wf) (d k : Int) (last : Bool) (hk : 0 ≤ k) (hk2 : k ≤ 10000) : ∃ m S, DayAt d m S ∧ callN fnT globT wf n ix__law_month_on [.p (.int d), .p (.int k), .p (.bl last)] = .ok (.p (.int (if last then enF m k else moF m S k))) none := by
  obtain ⟨m, S, hd, ec⟩ := c_counted wf (n - 1) (by omega) hw d
  refine ⟨m, S, hd, ?_⟩
  have q1 := hd.eq
  rw [← RW_eq, RW_callN fn__law_month_on rfl (by omega)]
  unfold bd__law_month_on
  have e1 : ∀ j : Int, 12 * (m / 12) + (m % 12 + 1) - 1 + j = m + j := fun j => by omega
  simp_arith! [ec, e1]
  have eL : ∀ j : Int, longF ((m + j) / 12) ((m + j) % 12 + 1) = Ln (m + j) := fun j => rfl
  rw [e1, eL]
  refine FW_range0 (fun i ρ => ∃ x6 : Option D, Is ρ [some (.p (.int d)), some (.p (.int k)), some (.p (.bl last)), some (.p (.int (m + k))), some (.p (.int (Ln (m + k)))), some (.p (.int (FD (m + (i : Int))))), x6, some (.p (.int (m / 12))), some (.p (.int (m % 12 + 1))), some (.p (.int S)), some (.p (.int ((m + k) / 12))), some (.p (.int ((m + k) % 12 + 1)))]) ⟨_, by rw [show d - (S - 1) = FD (m + ((0 : Nat) : Int)) by rw [show m + ((0 : Nat) : Int) = m by omega]; omega]; rfl⟩ ?_ ?_
  · rintro i ρ hi ⟨x6, rfl⟩
    simp_arith! [e1]
    rw [eL, ← Pu.FD_step]
    exact ⟨_, by rw [show m + (i : Int) + 1 = m + ((i + 1 : Nat) : Int) by omega]; rfl⟩
  · rintro ρ ⟨x6, rfl⟩
    rw [show ((k.toNat : Nat) : Int) = k by omega]
    cases last with
    | true =>
      simp_arith! []
      exact ⟨rfl, rfl⟩
    | false =>
      simp_arith! []
      exact ⟨rfl, rfl⟩
/-- the law's own due day is the program's -/
theorem due_both (wf n : Nat) (hn : 8 ≤ n) (hw : 200000 < wf) (w : Str) (hwd : Word w) (d k : Int) (hk : 0 ≤ k) (hk2 : k ≤ 10000) (hs : List Int) (h : Hol hs) : ∃ x : Int, callN fnT globT wf n ix__law_due [.p (.int d), .p (.tup [.str w, .int k]), .p (.tup (hs.map .int))] = .ok (.p (.int x)) none ∧ callN fnT globT wf n ix_due_day [.p (.int d), .p (.tup [.str w, .int k]), .p (.tup (hs.map .int))] = .ok (.p (.int x)) none := by
  rcases hwd with rfl | rfl | rfl | rfl
  · refine ⟨d + k, ?_, c_due_days wf n (by omega) d k hk hs h⟩
    rw [← RW_eq, RW_callN fn__law_due rfl (by omega)]
    unfold bd__law_due
    simp_arith! []
    exact ⟨rfl, rfl⟩
  · obtain ⟨x, hx, ex⟩ := c_due_open wf n (by omega) (by omega) d k hk hs h
    refine ⟨x, ?_, ex⟩
    rw [← RW_eq, RW_callN fn__law_due rfl (by omega)]
    unfold bd__law_due
    simp_arith! [c_walked wf (n - 1) (by omega) hw d k x hk hk2 hs h hx]
    exact ⟨rfl, rfl⟩
  · obtain ⟨m, S, hd, e⟩ := c_month_on wf (n - 1) (by omega) hw d k false hk hk2
    refine ⟨moF m S k, ?_, c_due_months wf n (by omega) d k m S hk hd hs h⟩
    rw [← RW_eq, RW_callN fn__law_due rfl (by omega)]
    unfold bd__law_due
    simp_arith! [e]
    exact ⟨rfl, rfl⟩
  · obtain ⟨m, S, hd, e⟩ := c_month_on wf (n - 1) (by omega) hw d k true hk hk2
    refine ⟨enF m k, ?_, c_due_end wf n (by omega) d k m S hk hd hs h⟩
    rw [← RW_eq, RW_callN fn__law_due rfl (by omega)]
    unfold bd__law_due
    simp_arith! [e]
    exact ⟨rfl, rfl⟩

end Lw

set_option Elab.async false
set_option linter.all false
set_option autoImplicit false
set_option maxRecDepth 100000
set_option maxHeartbeats 4000000
namespace Lw
open PySem L2 Pl
local macro_rules
  | `(tactic| trivial) => `(tactic| first | omega | ((with_reducible apply Pl.mulOk_l); first | decide | omega) | ((with_reducible apply Pl.mulOk_r); first | decide | omega) | ((with_reducible apply Pl.divOk_s) <;> omega) | ((with_reducible apply Pl.divOk_w) <;> omega) | ((with_reducible apply Pl.powOk_s) <;> omega) | ((with_reducible apply Pl.CompOk.mk); with_unfolding_all exact rfl) | ((with_reducible apply Pl.KeepOk.mk); with_unfolding_all exact rfl) | ((with_reducible apply Pl.mulSOk_s) <;> first | omega | decide) | with_reducible decide | with_reducible rfl | (simp only [List.length_cons, List.length_nil, List.length_append, List.length_map, List.length_take, List.length_drop]; omega) | assumption)
local macro_rules
  | `(tactic| simp_arith [$ls,*]) => `(tactic| simp (disch := trivial) only [↓Pl.w_some, ↓Pl.w_none, ↓Pl.w_frzp, ↓Pl.w_frzl, ↓Pl.w_fzL0, ↓Pl.w_fzL1, ↓Pl.w_fzL2, ↓Pl.w_flp, ↓Pl.w_fll, ↓Pl.w_flnil, ↓Pl.w_flcons, ↓Pl.w_fzLm, ↓Pl.w_flmap, ↓Pl.w_get0, ↓Pl.w_getS, ↓Pl.w_getP0, ↓Pl.w_getPS, ↓Pl.w_set0, ↓Pl.w_setS, ↓Pl.w_wipe0, ↓Pl.w_wipe1, ↓Pl.w_condT, ↓Pl.w_condF, ↓Pl.w_condN, ↓Pl.w_tyb, ↓Pl.w_inti, ↓Pl.w_itl, ↓Pl.w_itt, ↓Pl.w_its, ↓Pl.w_ll, ↓Pl.w_bindv, ↓Pl.w_bindt, ↓Pl.w_bindl, ↓Pl.w_binds0, ↓Pl.w_binds1, ↓Pl.w_lit, ↓Pl.w_var, ↓Pl.w_glob, ↓Pl.o_var, ↓Pl.r_var, ↓Pl.o_lit, ↓Pl.r_lit, ↓Pl.o_glob, ↓Pl.r_glob, ↓Pl.o_bin, ↓Pl.r_bin, ↓Pl.o_neg, ↓Pl.r_neg, ↓Pl.o_not, ↓Pl.r_not, ↓Pl.o_cmp, ↓Pl.r_cmp, ↓Pl.o_chain, ↓Pl.r_chain, ↓Pl.o_and, ↓Pl.r_and, ↓Pl.o_or, ↓Pl.r_or, ↓Pl.o_ife, ↓Pl.r_ife, ↓Pl.o_tup, ↓Pl.r_tup, ↓Pl.o_lst, ↓Pl.r_lst, ↓Pl.o_idx, ↓Pl.r_idx, ↓Pl.o_idx2, ↓Pl.r_idx2, ↓Pl.o_slc, ↓Pl.r_slc, ↓Pl.o_call, ↓Pl.r_call, ↓Pl.o_bi, ↓Pl.r_bi, ↓Pl.o_isi, ↓Pl.r_isi, ↓Pl.o_mkx, ↓Pl.r_mkx, ↓Pl.o_comp, ↓Pl.r_comp, ↓Pl.o_rng1, ↓Pl.r_rng1, ↓Pl.o_rng2, ↓Pl.r_rng2, ↓Pl.o_enum, ↓Pl.r_enum, ↓Pl.o_zip, ↓Pl.r_zip, ↓Pl.o_rng3, ↓Pl.r_rng3, ↓Pl.o_view, ↓Pl.r_view, ↓Pl.o_cnt, ↓Pl.r_cnt, ↓Pl.o_dnil, ↓Pl.r_dnil, ↓Pl.o_keys, ↓Pl.r_keys, ↓Pl.w_bin, ↓Pl.w_cmp, ↓Pl.tv_var, ↓Pl.iv_var, ↓Pl.tv_lit, ↓Pl.iv_lit, ↓Pl.tv_glob, ↓Pl.iv_glob, ↓Pl.iv_bin, ↓Pl.tv_chain, ↓Pl.iv_ife, ↓Pl.iv_tup, ↓Pl.iv_lst, ↓Pl.tv_idx, ↓Pl.iv_idx, ↓Pl.tv_idx2, ↓Pl.iv_idx2, ↓Pl.tv_slc, ↓Pl.iv_slc, ↓Pl.tv_call, ↓Pl.iv_call, ↓Pl.tv_isi, ↓Pl.tv_mkx, ↓Pl.iv_comp, ↓Pl.tv_bi, ↓Pl.iv_bi, ↓Pl.t_cmpW, ↓Pl.w_neg, ↓Pl.w_not, ↓Pl.t_notW, ↓Pl.t_and1W, ↓Pl.t_andW, ↓Pl.t_or1W, ↓Pl.t_orW, ↓Pl.w_and1, ↓Pl.w_and, ↓Pl.w_or1, ↓Pl.w_or, ↓Pl.w_chain, ↓Pl.w_ife, ↓Pl.s_nil, ↓Pl.s_cons, ↓Pl.w_tup, ↓Pl.w_lst, ↓Pl.w_idx, ↓Pl.w_pp, ↓Pl.w_atl, ↓Pl.w_atv, ↓Pl.w_idp, ↓Pl.w_idl, ↓Pl.w_idx2, ↓Pl.p_idx2P, ↓Pl.w_oin, ↓Pl.w_ois, ↓Pl.w_slc, ↓Pl.w_call, ↓Pl.w_callF, ↓Pl.w_callM, ↓Pl.w_callM_call, ↓Pl.w_callM_lst, ↓Pl.w_callM_bin, ↓Pl.w_callM_slc, ↓Pl.w_callM_bi, ↓Pl.w_callM_comp, ↓Pl.w_callM_ife, ↓Pl.w_callM_idx, ↓Pl.a_pos0, ↓Pl.a_pos1, ↓Pl.a_pos2, ↓Pl.a_pos3, ↓Pl.a_pos4, ↓Pl.a_pos5, ↓Pl.a_pos6, ↓Pl.a_pos7, ↓Pl.a_pos8, ↓Pl.a_pos9, ↓Pl.w_RWok, ↓Pl.w_RWexc, ↓Pl.w_bi1, ↓Pl.w_bi2, ↓Pl.w_isi, ↓Pl.w_mkx, ↓Pl.w_strs, ↓Pl.w_getO0, ↓Pl.w_getOS, ↓Pl.w_back0, ↓Pl.w_back1, ↓Pl.w_comp, ↓Pl.w_compT, ↓Pl.iv_rng1, ↓Pl.iv_rng2, ↓Pl.iv_rng3, ↓Pl.w_frzd, ↓Pl.w_dd, ↓Pl.w_keyi, ↓Pl.w_keys_, ↓Pl.w_dnil, ↓Pl.w_keys, ↓Pl.w_view0, ↓Pl.w_viewN, ↓Pl.w_viewS, ↓Pl.t_view, ↓Pl.w_view, ↓Pl.w_flI, ↓Pl.w_flB, ↓Pl.w_flS, ↓Pl.w_flN, ↓Pl.w_lstl, ↓Pl.w_cnt, ↓Pl.iv_enum, ↓Pl.w_zipl, ↓Pl.w_zipt, ↓Pl.iv_zip, ↓Pl.q_nx, ↓Pl.q_rt, ↓Pl.q_bk, ↓Pl.q_ct, ↓Pl.q_ex, ↓Pl.b_nilW, ↓Pl.b_asg, ↓Pl.b_asgt, ↓Pl.w_par0, ↓Pl.w_par1, ↓Pl.b_par, ↓Pl.b_asgL, ↓Pl.b_set, ↓Pl.b_set2, ↓Pl.p_set2P, ↓Pl.b_dset, ↓Pl.b_aug, ↓Pl.b_app, ↓Pl.b_expr, ↓Pl.b_ife, ↓Pl.b_for, ↓Pl.b_while, ↓Pl.b_retW, ↓Pl.b_retV, ↓Pl.b_raise, ↓Pl.b_raiseF, ↓Pl.b_pass, ↓Pl.b_brk, ↓Pl.b_cont, ↓Pl.b_frz, ↓Pl.b_try, ↓Pl.y_nx, ↓Pl.y_rt, ↓Pl.y_bk, ↓Pl.y_ct, ↓Pl.y_keep, ↓Pl.f_nxF, ↓Pl.f_rtF, ↓Pl.f_exF, ↓Pl.f_nxT, ↓Pl.f_rtT, ↓Pl.w_init0, ↓Pl.w_initN, ↓Pl.w_initS, ↓Pl.l_nx, ↓Pl.l_ct, ↓Pl.l_bk, ↓Pl.l_rt, ↓Pl.l_ex, ↓Pl.c_t0, ↓Pl.c_t1, ↓Pl.p_Add, ↓Pl.p_Sub, ↓Pl.p_Mul, ↓Pl.p_Div, ↓Pl.p_Mod, ↓Pl.p_Pow0, ↓Pl.p_Pow1, ↓Pl.p_Pow2, ↓Pl.p_Pow3, ↓Pl.p_Pow4, ↓Pl.p_Pow5, ↓Pl.p_Pow6, ↓Pl.p_Pow7, ↓Pl.p_Pow8, ↓Pl.p_Pow9, ↓Pl.p_Pow10, ↓Pl.p_Pow11, ↓Pl.p_Pow12, ↓Pl.p_Pow13, ↓Pl.p_Pow14, ↓Pl.p_Pow15, ↓Pl.p_Pow16, ↓Pl.p_Pow17, ↓Pl.p_Pow18, ↓Pl.p_Pow19, ↓Pl.p_Pow20, ↓Pl.p_Pow21, ↓Pl.p_Pow22, ↓Pl.p_Pow23, ↓Pl.p_Pow24, ↓Pl.p_Pow25, ↓Pl.p_Pow26, ↓Pl.p_Pow27, ↓Pl.p_Pow28, ↓Pl.p_Pow29, ↓Pl.p_Pow30, ↓Pl.p_Pow31, ↓Pl.p_Pow32, ↓Pl.p_Pow33, ↓Pl.p_Pow34, ↓Pl.p_Pow35, ↓Pl.p_Pow36, ↓Pl.p_Pow37, ↓Pl.p_Pow38, ↓Pl.p_Pow39, ↓Pl.p_Pow40, ↓Pl.p_Pow41, ↓Pl.p_Pow42, ↓Pl.p_Pow43, ↓Pl.p_Pow44, ↓Pl.p_Pow45, ↓Pl.p_Pow46, ↓Pl.p_Pow47, ↓Pl.p_Pow48, ↓Pl.p_Pow49, ↓Pl.p_Pow50, ↓Pl.p_Pow51, ↓Pl.p_Pow52, ↓Pl.p_Pow53, ↓Pl.p_Pow54, ↓Pl.p_Pow55, ↓Pl.p_Pow56, ↓Pl.p_Pow57, ↓Pl.p_Pow58, ↓Pl.p_Pow59, ↓Pl.p_Pow60, ↓Pl.p_Pow61, ↓Pl.p_Pow62, ↓Pl.p_Pow63, ↓Pl.p_Pow64, ↓Pl.p_Pow65, ↓Pl.p_MulS, ↓Pl.p_AddL, ↓Pl.p_AddT, ↓Pl.p_Lt, ↓Pl.p_LtE, ↓Pl.p_Gt, ↓Pl.p_GtE, ↓Pl.p_Eq, ↓Pl.p_NotEq, ↓Pl.p_IsN, ↓Pl.p_IsNotN, ↓Pl.p_Is_bl, ↓Pl.p_IsNot_bl, ↓Pl.p_Is_int, ↓Pl.p_IsNot_int, ↓Pl.p_Is_str, ↓Pl.p_IsNot_str, ↓Pl.p_Is_tup, ↓Pl.p_IsNot_tup, ↓Pl.p_Is_lst, ↓Pl.p_IsNot_lst, ↓Pl.p_Is_exc, ↓Pl.p_IsNot_exc, ↓Pl.p_Is_scr, ↓Pl.p_IsNot_scr, ↓Pl.p_IsB, ↓Pl.p_IsNotB, ↓Pl.p_idx_tup, ↓Pl.p_idx_lst, ↓Pl.p_idx_scr, ↓Pl.p_at0, ↓Pl.p_at1, ↓Pl.p_at2, ↓Pl.p_at3, ↓Pl.p_at4, ↓Pl.p_at5, ↓Pl.p_at6, ↓Pl.p_at7, ↓Pl.p_at8, ↓Pl.p_set0, ↓Pl.p_set1, ↓Pl.p_set2, ↓Pl.p_set3, ↓Pl.p_set4, ↓Pl.p_set5, ↓Pl.p_lenL, ↓Pl.p_lenT, ↓Pl.p_lenS, ↓Pl.p_abs, ↓Pl.p_max2, ↓Pl.p_min2, ↓Pl.p_int, ↓Pl.p_intb, ↓Pl.p_divmod, ↓Pl.p_listL, ↓Pl.p_listT, ↓Pl.p_tupL, ↓Pl.p_tupT, ↓Pl.p_augA, ↓Pl.p_augS, ↓Pl.p_isi_int_non, ↓Pl.p_isi_bool_non, ↓Pl.p_isi_str_non, ↓Pl.p_isi_list_non, ↓Pl.p_isi_tuple_non, ↓Pl.p_isi_lt_non, ↓Pl.p_isi_int_bl, ↓Pl.p_isi_bool_bl, ↓Pl.p_isi_str_bl, ↓Pl.p_isi_list_bl, ↓Pl.p_isi_tuple_bl, ↓Pl.p_isi_lt_bl, ↓Pl.p_isi_int_int, ↓Pl.p_isi_bool_int, ↓Pl.p_isi_str_int, ↓Pl.p_isi_list_int, ↓Pl.p_isi_tuple_int, ↓Pl.p_isi_lt_int, ↓Pl.p_isi_int_str, ↓Pl.p_isi_bool_str, ↓Pl.p_isi_str_str, ↓Pl.p_isi_list_str, ↓Pl.p_isi_tuple_str, ↓Pl.p_isi_lt_str, ↓Pl.p_isi_int_tup, ↓Pl.p_isi_bool_tup, ↓Pl.p_isi_str_tup, ↓Pl.p_isi_list_tup, ↓Pl.p_isi_tuple_tup, ↓Pl.p_isi_lt_tup, ↓Pl.p_isi_int_lst, ↓Pl.p_isi_bool_lst, ↓Pl.p_isi_str_lst, ↓Pl.p_isi_list_lst, ↓Pl.p_isi_tuple_lst, ↓Pl.p_isi_lt_lst, ↓Pl.p_isi_int_scr, ↓Pl.p_isi_bool_scr, ↓Pl.p_isi_str_scr, ↓Pl.p_isi_list_scr, ↓Pl.p_isi_tuple_scr, ↓Pl.p_isi_lt_scr, ↓Pl.p_isi_int_exc, ↓Pl.p_isi_bool_exc, ↓Pl.p_isi_str_exc, ↓Pl.p_isi_list_exc, ↓Pl.p_isi_tuple_exc, ↓Pl.p_isi_lt_exc, ↓Pl.p_sliceL, ↓Pl.p_sliceT, ↓Pl.z_l0, ↓Pl.z_l1, ↓Pl.z_l2, ↓Pl.z_l3, ↓Pl.z_l4, ↓Pl.z_l5, ↓Pl.z_l6, ↓Pl.z_l7, ↓Pl.z_l8, ↓Pl.z_l9, ↓Pl.z_l10, ↓Pl.z_l11, ↓Pl.z_l12, ↓Pl.z_szT, ↓Pl.z_inR, ↓Pl.z_inR2, ↓Pl.z_lenlt, Pl.w_some, Pl.w_none, Pl.w_frzp, Pl.w_frzl, Pl.w_fzL0, Pl.w_fzL1, Pl.w_fzL2, Pl.w_flp, Pl.w_fll, Pl.w_flnil, Pl.w_flcons, Pl.w_fzLm, Pl.w_flmap, Pl.w_get0, Pl.w_getS, Pl.w_getP0, Pl.w_getPS, Pl.w_set0, Pl.w_setS, Pl.w_wipe0, Pl.w_wipe1, Pl.w_condT, Pl.w_condF, Pl.w_condN, Pl.w_tyb, Pl.w_inti, Pl.w_itl, Pl.w_itt, Pl.w_its, Pl.w_ll, Pl.w_bindv, Pl.w_bindt, Pl.w_bindl, Pl.w_binds0, Pl.w_binds1, Pl.w_lit, Pl.w_var, Pl.w_glob, Pl.o_var, Pl.r_var, Pl.o_lit, Pl.r_lit, Pl.o_glob, Pl.r_glob, Pl.o_bin, Pl.r_bin, Pl.o_neg, Pl.r_neg, Pl.o_not, Pl.r_not, Pl.o_cmp, Pl.r_cmp, Pl.o_chain, Pl.r_chain, Pl.o_and, Pl.r_and, Pl.o_or, Pl.r_or, Pl.o_ife, Pl.r_ife, Pl.o_tup, Pl.r_tup, Pl.o_lst, Pl.r_lst, Pl.o_idx, Pl.r_idx, Pl.o_idx2, Pl.r_idx2, Pl.o_slc, Pl.r_slc, Pl.o_call, Pl.r_call, Pl.o_bi, Pl.r_bi, Pl.o_isi, Pl.r_isi, Pl.o_mkx, Pl.r_mkx, Pl.o_comp, Pl.r_comp, Pl.o_rng1, Pl.r_rng1, Pl.o_rng2, Pl.r_rng2, Pl.o_enum, Pl.r_enum, Pl.o_zip, Pl.r_zip, Pl.o_rng3, Pl.r_rng3, Pl.o_view, Pl.r_view, Pl.o_cnt, Pl.r_cnt, Pl.o_dnil, Pl.r_dnil, Pl.o_keys, Pl.r_keys, Pl.w_bin, Pl.w_cmp, Pl.tv_var, Pl.iv_var, Pl.tv_lit, Pl.iv_lit, Pl.tv_glob, Pl.iv_glob, Pl.iv_bin, Pl.tv_chain, Pl.iv_ife, Pl.iv_tup, Pl.iv_lst, Pl.tv_idx, Pl.iv_idx, Pl.tv_idx2, Pl.iv_idx2, Pl.tv_slc, Pl.iv_slc, Pl.tv_call, Pl.iv_call, Pl.tv_isi, Pl.tv_mkx, Pl.iv_comp, Pl.tv_bi, Pl.iv_bi, Pl.t_cmpW, Pl.w_neg, Pl.w_not, Pl.t_notW, Pl.t_and1W, Pl.t_andW, Pl.t_or1W, Pl.t_orW, Pl.w_and1, Pl.w_and, Pl.w_or1, Pl.w_or, Pl.w_chain, Pl.w_ife, Pl.s_nil, Pl.s_cons, Pl.w_tup, Pl.w_lst, Pl.w_idx, Pl.w_pp, Pl.w_atl, Pl.w_atv, Pl.w_idp, Pl.w_idl, Pl.w_idx2, Pl.p_idx2P, Pl.w_oin, Pl.w_ois, Pl.w_slc, Pl.w_call, Pl.w_callF, Pl.w_callM, Pl.w_callM_call, Pl.w_callM_lst, Pl.w_callM_bin, Pl.w_callM_slc, Pl.w_callM_bi, Pl.w_callM_comp, Pl.w_callM_ife, Pl.w_callM_idx, Pl.a_pos0, Pl.a_pos1, Pl.a_pos2, Pl.a_pos3, Pl.a_pos4, Pl.a_pos5, Pl.a_pos6, Pl.a_pos7, Pl.a_pos8, Pl.a_pos9, Pl.w_RWok, Pl.w_RWexc, Pl.w_pz0, Pl.w_pzp, Pl.w_pzl, Pl.w_fz0, Pl.w_fzp, Pl.w_fzl, Pl.w_fzmap, Pl.w_bi1, Pl.w_bi2, Pl.w_isi, Pl.w_mkx, Pl.w_strs, Pl.w_getO0, Pl.w_getOS, Pl.w_back0, Pl.w_back1, Pl.w_comp, Pl.w_compT, Pl.iv_rng1, Pl.iv_rng2, Pl.iv_rng3, Pl.w_frzd, Pl.w_dd, Pl.w_keyi, Pl.w_keys_, Pl.w_dnil, Pl.w_keys, Pl.w_view0, Pl.w_viewN, Pl.w_viewS, Pl.t_view, Pl.w_view, Pl.w_flI, Pl.w_flB, Pl.w_flS, Pl.w_flN, Pl.w_lstl, Pl.w_cnt, Pl.iv_enum, Pl.w_zipl, Pl.w_zipt, Pl.iv_zip, Pl.q_nx, Pl.q_rt, Pl.q_bk, Pl.q_ct, Pl.q_ex, Pl.b_nilW, Pl.b_asg, Pl.b_asgt, Pl.w_par0, Pl.w_par1, Pl.b_par, Pl.b_asgL, Pl.b_set, Pl.b_set2, Pl.p_set2P, Pl.b_dset, Pl.b_aug, Pl.b_app, Pl.b_expr, Pl.b_ife, Pl.b_for, Pl.b_while, Pl.b_retW, Pl.b_retV, Pl.b_raise, Pl.b_raiseF, Pl.b_pass, Pl.b_brk, Pl.b_cont, Pl.b_frz, Pl.b_try, Pl.y_nx, Pl.y_rt, Pl.y_bk, Pl.y_ct, Pl.y_keep, Pl.f_nxF, Pl.f_rtF, Pl.f_exF, Pl.f_nxT, Pl.f_rtT, Pl.w_init0, Pl.w_initN, Pl.w_initS, Pl.l_nx, Pl.l_ct, Pl.l_bk, Pl.l_rt, Pl.l_ex, Pl.c_t0, Pl.c_t1, Pl.p_Add, Pl.p_Sub, Pl.p_Mul, Pl.p_Div, Pl.p_Mod, Pl.p_Pow0, Pl.p_Pow1, Pl.p_Pow2, Pl.p_Pow3, Pl.p_Pow4, Pl.p_Pow5, Pl.p_Pow6, Pl.p_Pow7, Pl.p_Pow8, Pl.p_Pow9, Pl.p_Pow10, Pl.p_Pow11, Pl.p_Pow12, Pl.p_Pow13, Pl.p_Pow14, Pl.p_Pow15, Pl.p_Pow16, Pl.p_Pow17, Pl.p_Pow18, Pl.p_Pow19, Pl.p_Pow20, Pl.p_Pow21, Pl.p_Pow22, Pl.p_Pow23, Pl.p_Pow24, Pl.p_Pow25, Pl.p_Pow26, Pl.p_Pow27, Pl.p_Pow28, Pl.p_Pow29, Pl.p_Pow30, Pl.p_Pow31, Pl.p_Pow32, Pl.p_Pow33, Pl.p_Pow34, Pl.p_Pow35, Pl.p_Pow36, Pl.p_Pow37, Pl.p_Pow38, Pl.p_Pow39, Pl.p_Pow40, Pl.p_Pow41, Pl.p_Pow42, Pl.p_Pow43, Pl.p_Pow44, Pl.p_Pow45, Pl.p_Pow46, Pl.p_Pow47, Pl.p_Pow48, Pl.p_Pow49, Pl.p_Pow50, Pl.p_Pow51, Pl.p_Pow52, Pl.p_Pow53, Pl.p_Pow54, Pl.p_Pow55, Pl.p_Pow56, Pl.p_Pow57, Pl.p_Pow58, Pl.p_Pow59, Pl.p_Pow60, Pl.p_Pow61, Pl.p_Pow62, Pl.p_Pow63, Pl.p_Pow64, Pl.p_Pow65, Pl.p_MulS, Pl.p_AddL, Pl.p_AddT, Pl.p_Lt, Pl.p_LtE, Pl.p_Gt, Pl.p_GtE, Pl.p_Eq, Pl.p_NotEq, Pl.p_IsN, Pl.p_IsNotN, Pl.p_Is_bl, Pl.p_IsNot_bl, Pl.p_Is_int, Pl.p_IsNot_int, Pl.p_Is_str, Pl.p_IsNot_str, Pl.p_Is_tup, Pl.p_IsNot_tup, Pl.p_Is_lst, Pl.p_IsNot_lst, Pl.p_Is_exc, Pl.p_IsNot_exc, Pl.p_Is_scr, Pl.p_IsNot_scr, Pl.p_IsB, Pl.p_IsNotB, Pl.p_idx_tup, Pl.p_idx_lst, Pl.p_idx_scr, Pl.p_at0, Pl.p_at1, Pl.p_at2, Pl.p_at3, Pl.p_at4, Pl.p_at5, Pl.p_at6, Pl.p_at7, Pl.p_at8, Pl.p_set0, Pl.p_set1, Pl.p_set2, Pl.p_set3, Pl.p_set4, Pl.p_set5, Pl.p_lenL, Pl.p_lenT, Pl.p_lenS, Pl.p_abs, Pl.p_max2, Pl.p_min2, Pl.p_int, Pl.p_intb, Pl.p_divmod, Pl.p_listL, Pl.p_listT, Pl.p_tupL, Pl.p_tupT, Pl.p_augA, Pl.p_augS, Pl.p_isi_int_non, Pl.p_isi_bool_non, Pl.p_isi_str_non, Pl.p_isi_list_non, Pl.p_isi_tuple_non, Pl.p_isi_lt_non, Pl.p_isi_int_bl, Pl.p_isi_bool_bl, Pl.p_isi_str_bl, Pl.p_isi_list_bl, Pl.p_isi_tuple_bl, Pl.p_isi_lt_bl, Pl.p_isi_int_int, Pl.p_isi_bool_int, Pl.p_isi_str_int, Pl.p_isi_list_int, Pl.p_isi_tuple_int, Pl.p_isi_lt_int, Pl.p_isi_int_str, Pl.p_isi_bool_str, Pl.p_isi_str_str, Pl.p_isi_list_str, Pl.p_isi_tuple_str, Pl.p_isi_lt_str, Pl.p_isi_int_tup, Pl.p_isi_bool_tup, Pl.p_isi_str_tup, Pl.p_isi_list_tup, Pl.p_isi_tuple_tup, Pl.p_isi_lt_tup, Pl.p_isi_int_lst, Pl.p_isi_bool_lst, Pl.p_isi_str_lst, Pl.p_isi_list_lst, Pl.p_isi_tuple_lst, Pl.p_isi_lt_lst, Pl.p_isi_int_scr, Pl.p_isi_bool_scr, Pl.p_isi_str_scr, Pl.p_isi_list_scr, Pl.p_isi_tuple_scr, Pl.p_isi_lt_scr, Pl.p_isi_int_exc, Pl.p_isi_bool_exc, Pl.p_isi_str_exc, Pl.p_isi_list_exc, Pl.p_isi_tuple_exc, Pl.p_isi_lt_exc, Pl.p_sliceL, Pl.p_sliceT, Pl.z_l0, Pl.z_l1, Pl.z_l2, Pl.z_l3, Pl.z_l4, Pl.z_l5, Pl.z_l6, Pl.z_l7, Pl.z_l8, Pl.z_l9, Pl.z_l10, Pl.z_l11, Pl.z_l12, Pl.z_map0, Pl.z_map1, Pl.z_app0, Pl.z_app1, Pl.z_rep0, Pl.z_repS, Pl.z_gt, Pl.z_szT, Pl.z_inR, Pl.z_inR2, Pl.z_lenlt, ↓Pl.w_fzLmp, Pl.w_fzLmp, ↓Pl.w_flmp, Pl.w_flmp, Pl.frzL_mp, ↓Pl.p_all, Pl.p_all, ↓Pl.p_atInt, Pl.p_atInt, decide_true, decide_false, Bool.not_true, Bool.not_false, Int.reduceEq, Int.reduceLT, Int.reduceLE, ↓Pl.p_EqNN, Pl.p_EqNN, ↓Pl.p_NeNN, Pl.p_NeNN, ↓Pl.p_EqNI, Pl.p_EqNI, ↓Pl.p_EqIN, Pl.p_EqIN, ↓Pl.p_NeNI, Pl.p_NeNI, ↓Pl.p_NeIN, Pl.p_NeIN, ↓Pl.p_EqB, Pl.p_EqB, ↓Pl.p_NeB, Pl.p_NeB, Lw.fn_is_integer, Lw.fn_is_from, Lw.fn_is_between, Lw.fn_is_index, Lw.fn_is_ascending, Lw.fn_check_index, Lw.fn_are_turns, Lw.fn_is_places, Lw.fn_is_stretch, Lw.fn_is_entry_of, Lw.fn_are_ends, Lw.fn_is_tie_of, Lw.fn_is_book, Lw.fn_check_book, Lw.fn_check_day, Lw.fn_nought_in, Lw.fn_mark_in, Lw.fn_check_term, Lw.fn_check_holidays, Lw.fn_date_of, Lw.fn_number_of_date, Lw.fn_month_length, Lw.fn_weekday_of, Lw.fn_is_open_day, Lw.fn_is_open, Lw.fn_workdays_ahead, Lw.fn_workday_at, Lw.fn_lost_workdays, Lw.fn_open_days, Lw.fn_open_day_behind, Lw.fn_due_of, Lw.fn_due_day, Lw.fn_due_mark_in, Lw.fn_due_mark, Lw.fn__law_purse, Lw.fn__law_take, Lw.fn__law_pick, Lw.fn__law_match, Lw.fn__law_long, Lw.fn__law_counted, Lw.fn__law_drawn_day, Lw.fn__law_drawn_holidays, Lw.fn__law_is_work, Lw.fn__law_walked, Lw.fn__law_month_on, Lw.fn__law_due, Lw.fn__law_mark_right, Lw.fn_law, Lw.gl_MINUTES, Lw.gl_APART, Lw.gl_LOOK, Lw.gl_DAYS, Lw.gl_OPEN, Lw.gl_MONTHS, Lw.gl_END, Lw.gl_TERM_WORDS, Lw.gl_MONTH_DAYS, Lw.gl_FIRST_MONDAY, Lw.gl_FIRST_MARCH, Lw.gl_CYCLE, Lw.kw_is_open_0_1_0, Lw.kw_open_days_0_2_1_0, Lw.kw_due_day_0_2_1_0, Lw.kw_due_mark_0_3_2_1_0, $ls,*])
local macro_rules
  | `(tactic| simp_arith! [$ls,*]) => `(tactic| simp_arith [$ls,*])
local macro_rules
  | `(tactic| simp_arith! [$ls,*]) => `(tactic| simp_arith [c_is_integer, c_is_from, c_check_day, c_weekday_of, c_is_open_day, c_workdays_ahead, c_workday_at, $ls,*])
/-- what the draws are taken from; c: how often at most was drawn -/
def pL (a b c : Int) : D := .l [.p (.int a), .p (.int b), .p (.int c)]
def Urn (c : Int) (u : D) : Prop := ∃ a b c', u = pL a b c' ∧ 0 ≤ a ∧ 0 ≤ b ∧ b < 10 ^ 41 ∧ 0 ≤ c' ∧ c' ≤ c
theorem Urn.mono {c c' : Int} {u : D} (h : Urn c u) (hc : c ≤ c') : Urn c' u := by
  obtain ⟨a, b, d, h1, h2, h3, h4, h5, h6⟩ := h
  exact ⟨a, b, d, h1, h2, h3, h4, h5, by omega⟩
theorem w_take {wf n : Nat} {c s : Int} {u : D} {K : D → Option D → Prop} {X : Nat → List P → Prop} (hu : Urn c u) (hn : 1 ≤ n) (hc : c < 10 ^ 9) (h1 : 1 ≤ s) (h2 : s < 2 ^ 60) (h : ∀ r u', Urn (c + 1) u' → 0 ≤ r → r < s → K (.p (.int r)) (some u')) : RW (callN fnT globT wf n ix__law_take [u, .p (.int s)]) K X := by
  obtain ⟨a, b, d, rfl, h3, h4, h5, h6, h7⟩ := hu
  rw [RW_callN fn__law_take rfl hn]
  unfold bd__law_take pL
  simp_arith! []
  refine condD (fun h0 => ?_) (fun h0 => ?_)
  · simp_arith! []
    exact h _ _ ⟨_, _, _, rfl, Int.ediv_nonneg h3 (by omega), h4, h5, h6, by omega⟩ (Int.emod_nonneg _ (by omega)) (Int.emod_lt_of_pos _ (by omega))
  · simp_arith! []
    exact h _ _ ⟨_, _, _, rfl, h3, h4, h5, by omega, by omega⟩ (Int.emod_nonneg _ (by omega)) (Int.emod_lt_of_pos _ (by omega))
theorem w_purse {wf n : Nat} {K : D → Option D → Prop} {X : Nat → List P → Prop} (hn : 1 ≤ n) (ns : List Int) (k : Int) (h0 : 0 ≤ k) (h1 : k < 64) (h : ∀ u, Urn 0 u → K u none) : RW (callN fnT globT wf n ix__law_purse [.p (.scr (ns.map .int)), .p (.int k)]) K X := by
  rw [RW_callN fn__law_purse rfl hn]
  unfold bd__law_purse
  simp_arith! [List.length_map]
  have fin : ∀ cell : Int, Urn 0 (pL (if (if cell < 0 then -cell else cell) - 10 ^ 18 > 0 then (if cell < 0 then -cell else cell) - 10 ^ 18 else 0) (cell % (10 ^ 37 + 9) * 73 + 89 * k + 41) 0) := by
    intro cell
    have := Int.emod_nonneg cell (show (10 ^ 37 + 9 : Int) ≠ 0 by decide)
    have := Int.emod_lt_of_pos cell (show (0 : Int) < 10 ^ 37 + 9 by decide)
    exact ⟨_, _, _, rfl, by split <;> omega, by omega, by omega, by omega, by omega⟩
  refine condD (fun hk => ?_) (fun hk => ?_)
  · simp_arith! []
    exact h _ (fin _)
  · simp_arith! []
    exact h _ ⟨_, _, _, rfl, by simp, by omega, by omega, by omega, by omega⟩
theorem at_some {xs : List P} {r : Int} {K : P → Prop} (h0 : 0 ≤ r) (h1 : r < xs.length) (h : ∀ x ∈ xs, K x) : optW (L2.atI xs r) K := by
  have hr : r.toNat < xs.length := by omega
  have e := atI_natW xs r.toNat hr
  rw [show ((r.toNat : Nat) : Int) = r by omega] at e
  rw [e]
  exact h _ (List.getElem_mem hr)
theorem w_pick {wf n : Nat} {c : Int} {u : D} {xs : List P} {K : D → Option D → Prop} {X : Nat → List P → Prop} (hu : Urn c u) (hn : 2 ≤ n) (hc : c < 10 ^ 9) (h1 : 1 ≤ xs.length) (h2 : xs.length ≤ 1000) (h : ∀ x ∈ xs, ∀ u', Urn (c + 1) u' → K (.p x) (some u')) : RW (callN fnT globT wf n ix__law_pick [u, .p (.lst xs)]) K X := by
  rw [RW_callN fn__law_pick rfl (by omega)]
  unfold bd__law_pick
  simp_arith! []
  refine w_take hu (by omega) hc (by omega) (by omega) fun r u1 hu1 a0 a1 => ?_
  simp_arith! []
  refine at_some a0 a1 fun x hx => ?_
  simp_arith! []
  exact h x hx u1 hu1
theorem w_drawn_day {wf n : Nat} {c : Int} {u : D} {K : D → Option D → Prop} {X : Nat → List P → Prop} (hu : Urn c u) (hn : 3 ≤ n) (hc : c < 10 ^ 8) (h : ∀ d u', Urn (c + 10) u' → -(10 ^ 8) ≤ d → d ≤ 10 ^ 8 → K (.p (.int d)) (some u')) : RW (callN fnT globT wf n ix__law_drawn_day [u]) K X := by
  rw [RW_callN fn__law_drawn_day rfl (by omega)]
  unfold bd__law_drawn_day
  simp_arith! []
  refine w_take hu (by omega) (by omega) (by omega) (by omega) fun r1 u1 hu1 a0 a1 => ?_
  simp_arith! []
  refine w_take hu1 (by omega) (by omega) (by omega) (by omega) fun r2 u2 hu2 b0 b1 => ?_
  simp_arith! []
  refine w_take hu2 (by omega) (by omega) (by omega) (by omega) fun r3 u3 hu3 c0 c1 => ?_
  simp_arith! []
  refine w_take hu3 (by omega) (by omega) (by omega) (by omega) fun r4 u4 hu4 d0 d1 => ?_
  simp_arith! []
  refine w_take hu4 (by omega) (by omega) (by omega) (by omega) fun r5 u5 hu5 e0 e1 => ?_
  simp_arith! []
  refine w_take hu5 (by omega) (by omega) (by omega) (by omega) fun r6 u6 hu6 f0 f1 => ?_
  simp_arith! []
  refine w_pick hu6 (by omega) (by omega) (by simp) (by simp) fun x hx u7 hu7 => ?_
  have hi : ∃ i : Int, x = .int i ∧ -(10 ^ 8) ≤ i ∧ i ≤ 10 ^ 8 := by
    simp only [List.mem_cons, List.not_mem_nil, or_false] at hx
    rcases hx with rfl | rfl | rfl | rfl | rfl | rfl | rfl <;> exact ⟨_, rfl, by omega, by omega⟩
  obtain ⟨i, rfl, i1, i2⟩ := hi
  simp_arith! []
  exact h _ _ (hu7.mono (by omega)) i1 i2
theorem has_inl (i : Int) : ∀ ns : List Int, hasK (.inl i) (ns.map Sum.inl) = ns.contains i
  | [] => rfl
  | n :: ns => by
    have ih := has_inl i ns
    unfold hasK at ih ⊢
    rw [List.map_cons, List.any_cons, List.contains_cons, ih, L2.key_ll, Bool.beq_comm (a := n)]
theorem put_inl (i : Int) (ns : List Int) : putKs (.inl i) (ns.map Sum.inl) = (if ns.contains i then ns else ns ++ [i]).map Sum.inl := by
  unfold putKs
  rw [has_inl]
  split
  · rfl
  · rw [List.map_append]
    rfl
theorem p_sorted (ns : List Int) (K : D → Prop) : optW (biop .sorted [.lst (ns.map .int)]) K = K (.l ((sortI ns).map fun n => .p (.int n))) := by
  have e : ints? (ns.map .int) = some ns := by
    induction ns with
    | nil => rfl
    | cons n ns ih =>
      show (ints? (ns.map .int)).map (n :: ·) = _
      rw [ih]
      rfl
  show optW ((ints? (ns.map .int)).map _) K = _
  rw [e]
  rfl
theorem hol_sort {ns : List Int} (hl : ns.length ≤ 1000) (nd : ns.Nodup) : Hol (sortI ns) := by
  have p := sortI_perm ns
  have s := sortI_srt ns
  have n2 : (sortI ns).Nodup := p.nodup_iff.mpr nd
  refine ⟨by rw [p.length_eq]; exact hl, ?_⟩
  have := s.and n2
  exact this.imp fun {a b} q => by have := q.1; have := q.2; omega
theorem w_drawn_holidays {wf n : Nat} {c d : Int} {u : D} {K : D → Option D → Prop} {X : Nat → List P → Prop} (hu : Urn c u) (hn : 3 ≤ n) (hc : c < 10 ^ 8) (h : ∀ hs u', Urn (c + 100) u' → Hol hs → K (.p (.tup (hs.map .int))) (some u')) : RW (callN fnT globT wf n ix__law_drawn_holidays [u, .p (.int d)]) K X := by
  rw [RW_callN fn__law_drawn_holidays rfl (by omega)]
  unfold bd__law_drawn_holidays
  simp_arith! []
  refine w_take hu (by omega) (by omega) (by omega) (by omega) fun r1 u1 hu1 a0 a1 => ?_
  simp_arith! []
  refine FW_range0 (fun i ρ => ∃ (u' : D) (ns : List Int) (xs : List P) (x3 : Option D), Urn (c + 1 + (i : Int)) u' ∧ ns.length ≤ i ∧ ns.Nodup ∧ Is ρ [some u', some (.p (.int d)), some (.d (ns.map Sum.inl) xs), x3]) ⟨u1, [], [], _, hu1.mono (by omega), Nat.le_refl _, List.nodup_nil, rfl⟩ ?_ ?_
  · rintro i ρ hi ⟨u2, ns, xs, x3, hu2, hl, nd, rfl⟩
    have hi2 : i < 13 := by omega
    simp_arith! []
    refine w_take hu2 (by omega) (by omega) (by omega) (by omega) fun r2 u3 hu3 _ _ => ?_
    simp_arith! [List.length_map]
    rw [put_inl]
    refine ⟨u3, _, _, _, hu3.mono (by omega), ?_, ?_, rfl⟩
    · split
      · omega
      · rw [List.length_append]
        simp only [List.length_cons, List.length_nil]
        omega
    · split
      · exact nd
      · rename_i hc2
        refine List.nodup_append.mpr ⟨nd, by simp, fun a ha b hb e => ?_⟩
        rw [List.mem_singleton.mp hb] at e
        subst e
        exact hc2 (List.contains_iff_mem.mpr ha)
  · rintro ρ ⟨u2, ns, xs, x3, hu2, hl, nd, rfl⟩
    have ek : (ns.map Sum.inl).map kP = ns.map P.int := by
      rw [List.map_map]
      rfl
    simp_arith! []
    rw [ek]
    simp_arith! [p_sorted]
    exact h _ _ (hu2.mono (by omega)) (hol_sort (by omega) nd)
theorem p_atN {α : Type} (xs : List α) (i : Nat) (h : i < xs.length) (K : α → Prop) : optW (L2.atI xs (i : Int)) K = K xs[i] := by
  rw [atI_natW xs i h]
  rfl
theorem filter_no {α : Type} (xs : List α) : xs.filter (fun _ => false) = [] := List.filter_eq_nil_iff.mpr fun _ _ h => by cases h
theorem c_match_int (wf n : Nat) (hn : 1 ≤ n) (i : Int) : callN fnT globT wf n ix__law_match [.p (.int i), .p (.int i)] = .ok (.p (.bl true)) none := by
  rw [← RW_eq, RW_callN fn__law_match rfl (by omega)]
  unfold bd__law_match
  simp_arith! [eq_self]
  exact ⟨rfl, rfl⟩
theorem c_match_bl (wf n : Nat) (hn : 1 ≤ n) (b : Bool) : callN fnT globT wf n ix__law_match [.p (.bl b), .p (.bl b)] = .ok (.p (.bl true)) none := by
  rw [← RW_eq, RW_callN fn__law_match rfl (by omega)]
  unfold bd__law_match
  simp_arith! [eq_self]
  exact ⟨rfl, rfl⟩
theorem c_match_tup (wf n : Nat) (hn : 1 ≤ n) (xs : List P) (hl : xs.length ≤ 1000) (h : ∀ x ∈ xs, callN fnT globT wf (n - 1) ix__law_match [.p x, .p x] = .ok (.p (.bl true)) none) : callN fnT globT wf n ix__law_match [.p (.tup xs), .p (.tup xs)] = .ok (.p (.bl true)) none := by
  have n0 : ∀ K : Bool → Prop, optW (cmpop .Eq (.lst []) (.lst [])) K = K true := p_EqSelf (shp_lst (d := 63) fun x hx => by cases hx)
  rw [← RW_eq, RW_callN fn__law_match rfl (by omega)]
  unfold bd__law_match
  simp_arith! [eq_self]
  refine CW_pure (fun x => .p x) (fun _ => false) (by rw [rangeOf_len]; omega) ?_ ?_
  · intro x hx
    rw [rangeOf_map] at hx
    obtain ⟨j, hj, rfl⟩ := List.mem_map.mp hx
    have hj2 : j < xs.length := by have := List.mem_range.mp hj; omega
    have e := h _ (List.getElem_mem hj2)
    have q := p_atN xs j hj2
    rw [show (0 : Int) + (j : Int) = (j : Int) by omega]
    simp_arith! [q, e]
    exact ⟨rfl, rfl⟩
  rw [filter_no]
  simp_arith! [n0]
  exact ⟨rfl, rfl⟩
theorem c_match_lst (wf n : Nat) (hn : 1 ≤ n) (xs : List P) (hl : xs.length ≤ 1000) (h : ∀ x ∈ xs, callN fnT globT wf (n - 1) ix__law_match [.p x, .p x] = .ok (.p (.bl true)) none) : callN fnT globT wf n ix__law_match [.p (.lst xs), .p (.lst xs)] = .ok (.p (.bl true)) none := by
  have n0 : ∀ K : Bool → Prop, optW (cmpop .Eq (.lst []) (.lst [])) K = K true := p_EqSelf (shp_lst (d := 63) fun x hx => by cases hx)
  rw [← RW_eq, RW_callN fn__law_match rfl (by omega)]
  unfold bd__law_match
  simp_arith! [eq_self]
  refine CW_pure (fun x => .p x) (fun _ => false) (by rw [rangeOf_len]; omega) ?_ ?_
  · intro x hx
    rw [rangeOf_map] at hx
    obtain ⟨j, hj, rfl⟩ := List.mem_map.mp hx
    have hj2 : j < xs.length := by have := List.mem_range.mp hj; omega
    have e := h _ (List.getElem_mem hj2)
    have q := p_atN xs j hj2
    rw [show (0 : Int) + (j : Int) = (j : Int) by omega]
    simp_arith! [q, e]
    exact ⟨rfl, rfl⟩
  rw [filter_no]
  simp_arith! [n0]
  exact ⟨rfl, rfl⟩

end Lw

set_option Elab.async false
set_option linter.all false
set_option autoImplicit false
set_option maxRecDepth 100000
set_option maxHeartbeats 4000000
namespace Lw
open PySem L2 Pl
local macro_rules
  | `(tactic| trivial) => `(tactic| first | omega | ((with_reducible apply Pl.mulOk_l); first | decide | omega) | ((with_reducible apply Pl.mulOk_r); first | decide | omega) | ((with_reducible apply Pl.divOk_s) <;> omega) | ((with_reducible apply Pl.divOk_w) <;> omega) | ((with_reducible apply Pl.powOk_s) <;> omega) | ((with_reducible apply Pl.CompOk.mk); with_unfolding_all exact rfl) | ((with_reducible apply Pl.KeepOk.mk); with_unfolding_all exact rfl) | ((with_reducible apply Pl.mulSOk_s) <;> first | omega | decide) | with_reducible decide | with_reducible rfl | (simp only [List.length_cons, List.length_nil, List.length_append, List.length_map, List.length_take, List.length_drop]; omega) | assumption)
local macro_rules
  | `(tactic| simp_arith [$ls,*]) => `(tactic| simp (disch := trivial) only [↓Pl.w_some, ↓Pl.w_none, ↓Pl.w_frzp, ↓Pl.w_frzl, ↓Pl.w_fzL0, ↓Pl.w_fzL1, ↓Pl.w_fzL2, ↓Pl.w_flp, ↓Pl.w_fll, ↓Pl.w_flnil, ↓Pl.w_flcons, ↓Pl.w_fzLm, ↓Pl.w_flmap, ↓Pl.w_get0, ↓Pl.w_getS, ↓Pl.w_getP0, ↓Pl.w_getPS, ↓Pl.w_set0, ↓Pl.w_setS, ↓Pl.w_wipe0, ↓Pl.w_wipe1, ↓Pl.w_condT, ↓Pl.w_condF, ↓Pl.w_condN, ↓Pl.w_tyb, ↓Pl.w_inti, ↓Pl.w_itl, ↓Pl.w_itt, ↓Pl.w_its, ↓Pl.w_ll, ↓Pl.w_bindv, ↓Pl.w_bindt, ↓Pl.w_bindl, ↓Pl.w_binds0, ↓Pl.w_binds1, ↓Pl.w_lit, ↓Pl.w_var, ↓Pl.w_glob, ↓Pl.o_var, ↓Pl.r_var, ↓Pl.o_lit, ↓Pl.r_lit, ↓Pl.o_glob, ↓Pl.r_glob, ↓Pl.o_bin, ↓Pl.r_bin, ↓Pl.o_neg, ↓Pl.r_neg, ↓Pl.o_not, ↓Pl.r_not, ↓Pl.o_cmp, ↓Pl.r_cmp, ↓Pl.o_chain, ↓Pl.r_chain, ↓Pl.o_and, ↓Pl.r_and, ↓Pl.o_or, ↓Pl.r_or, ↓Pl.o_ife, ↓Pl.r_ife, ↓Pl.o_tup, ↓Pl.r_tup, ↓Pl.o_lst, ↓Pl.r_lst, ↓Pl.o_idx, ↓Pl.r_idx, ↓Pl.o_idx2, ↓Pl.r_idx2, ↓Pl.o_slc, ↓Pl.r_slc, ↓Pl.o_call, ↓Pl.r_call, ↓Pl.o_bi, ↓Pl.r_bi, ↓Pl.o_isi, ↓Pl.r_isi, ↓Pl.o_mkx, ↓Pl.r_mkx, ↓Pl.o_comp, ↓Pl.r_comp, ↓Pl.o_rng1, ↓Pl.r_rng1, ↓Pl.o_rng2, ↓Pl.r_rng2, ↓Pl.o_enum, ↓Pl.r_enum, ↓Pl.o_zip, ↓Pl.r_zip, ↓Pl.o_rng3, ↓Pl.r_rng3, ↓Pl.o_view, ↓Pl.r_view, ↓Pl.o_cnt, ↓Pl.r_cnt, ↓Pl.o_dnil, ↓Pl.r_dnil, ↓Pl.o_keys, ↓Pl.r_keys, ↓Pl.w_bin, ↓Pl.w_cmp, ↓Pl.tv_var, ↓Pl.iv_var, ↓Pl.tv_lit, ↓Pl.iv_lit, ↓Pl.tv_glob, ↓Pl.iv_glob, ↓Pl.iv_bin, ↓Pl.tv_chain, ↓Pl.iv_ife, ↓Pl.iv_tup, ↓Pl.iv_lst, ↓Pl.tv_idx, ↓Pl.iv_idx, ↓Pl.tv_idx2, ↓Pl.iv_idx2, ↓Pl.tv_slc, ↓Pl.iv_slc, ↓Pl.tv_call, ↓Pl.iv_call, ↓Pl.tv_isi, ↓Pl.tv_mkx, ↓Pl.iv_comp, ↓Pl.tv_bi, ↓Pl.iv_bi, ↓Pl.t_cmpW, ↓Pl.w_neg, ↓Pl.w_not, ↓Pl.t_notW, ↓Pl.t_and1W, ↓Pl.t_andW, ↓Pl.t_or1W, ↓Pl.t_orW, ↓Pl.w_and1, ↓Pl.w_and, ↓Pl.w_or1, ↓Pl.w_or, ↓Pl.w_chain, ↓Pl.w_ife, ↓Pl.s_nil, ↓Pl.s_cons, ↓Pl.w_tup, ↓Pl.w_lst, ↓Pl.w_idx, ↓Pl.w_pp, ↓Pl.w_atl, ↓Pl.w_atv, ↓Pl.w_idp, ↓Pl.w_idl, ↓Pl.w_idx2, ↓Pl.p_idx2P, ↓Pl.w_oin, ↓Pl.w_ois, ↓Pl.w_slc, ↓Pl.w_call, ↓Pl.w_callF, ↓Pl.w_callM, ↓Pl.w_callM_call, ↓Pl.w_callM_lst, ↓Pl.w_callM_bin, ↓Pl.w_callM_slc, ↓Pl.w_callM_bi, ↓Pl.w_callM_comp, ↓Pl.w_callM_ife, ↓Pl.w_callM_idx, ↓Pl.a_pos0, ↓Pl.a_pos1, ↓Pl.a_pos2, ↓Pl.a_pos3, ↓Pl.a_pos4, ↓Pl.a_pos5, ↓Pl.a_pos6, ↓Pl.a_pos7, ↓Pl.a_pos8, ↓Pl.a_pos9, ↓Pl.w_RWok, ↓Pl.w_RWexc, ↓Pl.w_bi1, ↓Pl.w_bi2, ↓Pl.w_isi, ↓Pl.w_mkx, ↓Pl.w_strs, ↓Pl.w_getO0, ↓Pl.w_getOS, ↓Pl.w_back0, ↓Pl.w_back1, ↓Pl.w_comp, ↓Pl.w_compT, ↓Pl.iv_rng1, ↓Pl.iv_rng2, ↓Pl.iv_rng3, ↓Pl.w_frzd, ↓Pl.w_dd, ↓Pl.w_keyi, ↓Pl.w_keys_, ↓Pl.w_dnil, ↓Pl.w_keys, ↓Pl.w_view0, ↓Pl.w_viewN, ↓Pl.w_viewS, ↓Pl.t_view, ↓Pl.w_view, ↓Pl.w_flI, ↓Pl.w_flB, ↓Pl.w_flS, ↓Pl.w_flN, ↓Pl.w_lstl, ↓Pl.w_cnt, ↓Pl.iv_enum, ↓Pl.w_zipl, ↓Pl.w_zipt, ↓Pl.iv_zip, ↓Pl.q_nx, ↓Pl.q_rt, ↓Pl.q_bk, ↓Pl.q_ct, ↓Pl.q_ex, ↓Pl.b_nilW, ↓Pl.b_asg, ↓Pl.b_asgt, ↓Pl.w_par0, ↓Pl.w_par1, ↓Pl.b_par, ↓Pl.b_asgL, ↓Pl.b_set, ↓Pl.b_set2, ↓Pl.p_set2P, ↓Pl.b_dset, ↓Pl.b_aug, ↓Pl.b_app, ↓Pl.b_expr, ↓Pl.b_ife, ↓Pl.b_for, ↓Pl.b_while, ↓Pl.b_retW, ↓Pl.b_retV, ↓Pl.b_raise, ↓Pl.b_raiseF, ↓Pl.b_pass, ↓Pl.b_brk, ↓Pl.b_cont, ↓Pl.b_frz, ↓Pl.b_try, ↓Pl.y_nx, ↓Pl.y_rt, ↓Pl.y_bk, ↓Pl.y_ct, ↓Pl.y_keep, ↓Pl.f_nxF, ↓Pl.f_rtF, ↓Pl.f_exF, ↓Pl.f_nxT, ↓Pl.f_rtT, ↓Pl.w_init0, ↓Pl.w_initN, ↓Pl.w_initS, ↓Pl.l_nx, ↓Pl.l_ct, ↓Pl.l_bk, ↓Pl.l_rt, ↓Pl.l_ex, ↓Pl.c_t0, ↓Pl.c_t1, ↓Pl.p_Add, ↓Pl.p_Sub, ↓Pl.p_Mul, ↓Pl.p_Div, ↓Pl.p_Mod, ↓Pl.p_Pow0, ↓Pl.p_Pow1, ↓Pl.p_Pow2, ↓Pl.p_Pow3, ↓Pl.p_Pow4, ↓Pl.p_Pow5, ↓Pl.p_Pow6, ↓Pl.p_Pow7, ↓Pl.p_Pow8, ↓Pl.p_Pow9, ↓Pl.p_Pow10, ↓Pl.p_Pow11, ↓Pl.p_Pow12, ↓Pl.p_Pow13, ↓Pl.p_Pow14, ↓Pl.p_Pow15, ↓Pl.p_Pow16, ↓Pl.p_Pow17, ↓Pl.p_Pow18, ↓Pl.p_Pow19, ↓Pl.p_Pow20, ↓Pl.p_Pow21, ↓Pl.p_Pow22, ↓Pl.p_Pow23, ↓Pl.p_Pow24, ↓Pl.p_Pow25, ↓Pl.p_Pow26, ↓Pl.p_Pow27, ↓Pl.p_Pow28, ↓Pl.p_Pow29, ↓Pl.p_Pow30, ↓Pl.p_Pow31, ↓Pl.p_Pow32, ↓Pl.p_Pow33, ↓Pl.p_Pow34, ↓Pl.p_Pow35, ↓Pl.p_Pow36, ↓Pl.p_Pow37, ↓Pl.p_Pow38, ↓Pl.p_Pow39, ↓Pl.p_Pow40, ↓Pl.p_Pow41, ↓Pl.p_Pow42, ↓Pl.p_Pow43, ↓Pl.p_Pow44, ↓Pl.p_Pow45, ↓Pl.p_Pow46, ↓Pl.p_Pow47, ↓Pl.p_Pow48, ↓Pl.p_Pow49, ↓Pl.p_Pow50, ↓Pl.p_Pow51, ↓Pl.p_Pow52, ↓Pl.p_Pow53, ↓Pl.p_Pow54, ↓Pl.p_Pow55, ↓Pl.p_Pow56, ↓Pl.p_Pow57, ↓Pl.p_Pow58, ↓Pl.p_Pow59, ↓Pl.p_Pow60, ↓Pl.p_Pow61, ↓Pl.p_Pow62, ↓Pl.p_Pow63, ↓Pl.p_Pow64, ↓Pl.p_Pow65, ↓Pl.p_MulS, ↓Pl.p_AddL, ↓Pl.p_AddT, ↓Pl.p_Lt, ↓Pl.p_LtE, ↓Pl.p_Gt, ↓Pl.p_GtE, ↓Pl.p_Eq, ↓Pl.p_NotEq, ↓Pl.p_IsN, ↓Pl.p_IsNotN, ↓Pl.p_Is_bl, ↓Pl.p_IsNot_bl, ↓Pl.p_Is_int, ↓Pl.p_IsNot_int, ↓Pl.p_Is_str, ↓Pl.p_IsNot_str, ↓Pl.p_Is_tup, ↓Pl.p_IsNot_tup, ↓Pl.p_Is_lst, ↓Pl.p_IsNot_lst, ↓Pl.p_Is_exc, ↓Pl.p_IsNot_exc, ↓Pl.p_Is_scr, ↓Pl.p_IsNot_scr, ↓Pl.p_IsB, ↓Pl.p_IsNotB, ↓Pl.p_idx_tup, ↓Pl.p_idx_lst, ↓Pl.p_idx_scr, ↓Pl.p_at0, ↓Pl.p_at1, ↓Pl.p_at2, ↓Pl.p_at3, ↓Pl.p_at4, ↓Pl.p_at5, ↓Pl.p_at6, ↓Pl.p_at7, ↓Pl.p_at8, ↓Pl.p_set0, ↓Pl.p_set1, ↓Pl.p_set2, ↓Pl.p_set3, ↓Pl.p_set4, ↓Pl.p_set5, ↓Pl.p_lenL, ↓Pl.p_lenT, ↓Pl.p_lenS, ↓Pl.p_abs, ↓Pl.p_max2, ↓Pl.p_min2, ↓Pl.p_int, ↓Pl.p_intb, ↓Pl.p_divmod, ↓Pl.p_listL, ↓Pl.p_listT, ↓Pl.p_tupL, ↓Pl.p_tupT, ↓Pl.p_augA, ↓Pl.p_augS, ↓Pl.p_isi_int_non, ↓Pl.p_isi_bool_non, ↓Pl.p_isi_str_non, ↓Pl.p_isi_list_non, ↓Pl.p_isi_tuple_non, ↓Pl.p_isi_lt_non, ↓Pl.p_isi_int_bl, ↓Pl.p_isi_bool_bl, ↓Pl.p_isi_str_bl, ↓Pl.p_isi_list_bl, ↓Pl.p_isi_tuple_bl, ↓Pl.p_isi_lt_bl, ↓Pl.p_isi_int_int, ↓Pl.p_isi_bool_int, ↓Pl.p_isi_str_int, ↓Pl.p_isi_list_int, ↓Pl.p_isi_tuple_int, ↓Pl.p_isi_lt_int, ↓Pl.p_isi_int_str, ↓Pl.p_isi_bool_str, ↓Pl.p_isi_str_str, ↓Pl.p_isi_list_str, ↓Pl.p_isi_tuple_str, ↓Pl.p_isi_lt_str, ↓Pl.p_isi_int_tup, ↓Pl.p_isi_bool_tup, ↓Pl.p_isi_str_tup, ↓Pl.p_isi_list_tup, ↓Pl.p_isi_tuple_tup, ↓Pl.p_isi_lt_tup, ↓Pl.p_isi_int_lst, ↓Pl.p_isi_bool_lst, ↓Pl.p_isi_str_lst, ↓Pl.p_isi_list_lst, ↓Pl.p_isi_tuple_lst, ↓Pl.p_isi_lt_lst, ↓Pl.p_isi_int_scr, ↓Pl.p_isi_bool_scr, ↓Pl.p_isi_str_scr, ↓Pl.p_isi_list_scr, ↓Pl.p_isi_tuple_scr, ↓Pl.p_isi_lt_scr, ↓Pl.p_isi_int_exc, ↓Pl.p_isi_bool_exc, ↓Pl.p_isi_str_exc, ↓Pl.p_isi_list_exc, ↓Pl.p_isi_tuple_exc, ↓Pl.p_isi_lt_exc, ↓Pl.p_sliceL, ↓Pl.p_sliceT, ↓Pl.z_l0, ↓Pl.z_l1, ↓Pl.z_l2, ↓Pl.z_l3, ↓Pl.z_l4, ↓Pl.z_l5, ↓Pl.z_l6, ↓Pl.z_l7, ↓Pl.z_l8, ↓Pl.z_l9, ↓Pl.z_l10, ↓Pl.z_l11, ↓Pl.z_l12, ↓Pl.z_szT, ↓Pl.z_inR, ↓Pl.z_inR2, ↓Pl.z_lenlt, Pl.w_some, Pl.w_none, Pl.w_frzp, Pl.w_frzl, Pl.w_fzL0, Pl.w_fzL1, Pl.w_fzL2, Pl.w_flp, Pl.w_fll, Pl.w_flnil, Pl.w_flcons, Pl.w_fzLm, Pl.w_flmap, Pl.w_get0, Pl.w_getS, Pl.w_getP0, Pl.w_getPS, Pl.w_set0, Pl.w_setS, Pl.w_wipe0, Pl.w_wipe1, Pl.w_condT, Pl.w_condF, Pl.w_condN, Pl.w_tyb, Pl.w_inti, Pl.w_itl, Pl.w_itt, Pl.w_its, Pl.w_ll, Pl.w_bindv, Pl.w_bindt, Pl.w_bindl, Pl.w_binds0, Pl.w_binds1, Pl.w_lit, Pl.w_var, Pl.w_glob, Pl.o_var, Pl.r_var, Pl.o_lit, Pl.r_lit, Pl.o_glob, Pl.r_glob, Pl.o_bin, Pl.r_bin, Pl.o_neg, Pl.r_neg, Pl.o_not, Pl.r_not, Pl.o_cmp, Pl.r_cmp, Pl.o_chain, Pl.r_chain, Pl.o_and, Pl.r_and, Pl.o_or, Pl.r_or, Pl.o_ife, Pl.r_ife, Pl.o_tup, Pl.r_tup, Pl.o_lst, Pl.r_lst, Pl.o_idx, Pl.r_idx, Pl.o_idx2, Pl.r_idx2, Pl.o_slc, Pl.r_slc, Pl.o_call, Pl.r_call, Pl.o_bi, Pl.r_bi, Pl.o_isi, Pl.r_isi, Pl.o_mkx, Pl.r_mkx, Pl.o_comp, Pl.r_comp, Pl.o_rng1, Pl.r_rng1, Pl.o_rng2, Pl.r_rng2, Pl.o_enum, Pl.r_enum, Pl.o_zip, Pl.r_zip, Pl.o_rng3, Pl.r_rng3, Pl.o_view, Pl.r_view, Pl.o_cnt, Pl.r_cnt, Pl.o_dnil, Pl.r_dnil, Pl.o_keys, Pl.r_keys, Pl.w_bin, Pl.w_cmp, Pl.tv_var, Pl.iv_var, Pl.tv_lit, Pl.iv_lit, Pl.tv_glob, Pl.iv_glob, Pl.iv_bin, Pl.tv_chain, Pl.iv_ife, Pl.iv_tup, Pl.iv_lst, Pl.tv_idx, Pl.iv_idx, Pl.tv_idx2, Pl.iv_idx2, Pl.tv_slc, Pl.iv_slc, Pl.tv_call, Pl.iv_call, Pl.tv_isi, Pl.tv_mkx, Pl.iv_comp, Pl.tv_bi, Pl.iv_bi, Pl.t_cmpW, Pl.w_neg, Pl.w_not, Pl.t_notW, Pl.t_and1W, Pl.t_andW, Pl.t_or1W, Pl.t_orW, Pl.w_and1, Pl.w_and, Pl.w_or1, Pl.w_or, Pl.w_chain, Pl.w_ife, Pl.s_nil, Pl.s_cons, Pl.w_tup, Pl.w_lst, Pl.w_idx, Pl.w_pp, Pl.w_atl, Pl.w_atv, Pl.w_idp, Pl.w_idl, Pl.w_idx2, Pl.p_idx2P, Pl.w_oin, Pl.w_ois, Pl.w_slc, Pl.w_call, Pl.w_callF, Pl.w_callM, Pl.w_callM_call, Pl.w_callM_lst, Pl.w_callM_bin, Pl.w_callM_slc, Pl.w_callM_bi, Pl.w_callM_comp, Pl.w_callM_ife, Pl.w_callM_idx, Pl.a_pos0, Pl.a_pos1, Pl.a_pos2, Pl.a_pos3, Pl.a_pos4, Pl.a_pos5, Pl.a_pos6, Pl.a_pos7, Pl.a_pos8, Pl.a_pos9, Pl.w_RWok, Pl.w_RWexc, Pl.w_pz0, Pl.w_pzp, Pl.w_pzl, Pl.w_fz0, Pl.w_fzp, Pl.w_fzl, Pl.w_fzmap, Pl.w_bi1, Pl.w_bi2, Pl.w_isi, Pl.w_mkx, Pl.w_strs, Pl.w_getO0, Pl.w_getOS, Pl.w_back0, Pl.w_back1, Pl.w_comp, Pl.w_compT, Pl.iv_rng1, Pl.iv_rng2, Pl.iv_rng3, Pl.w_frzd, Pl.w_dd, Pl.w_keyi, Pl.w_keys_, Pl.w_dnil, Pl.w_keys, Pl.w_view0, Pl.w_viewN, Pl.w_viewS, Pl.t_view, Pl.w_view, Pl.w_flI, Pl.w_flB, Pl.w_flS, Pl.w_flN, Pl.w_lstl, Pl.w_cnt, Pl.iv_enum, Pl.w_zipl, Pl.w_zipt, Pl.iv_zip, Pl.q_nx, Pl.q_rt, Pl.q_bk, Pl.q_ct, Pl.q_ex, Pl.b_nilW, Pl.b_asg, Pl.b_asgt, Pl.w_par0, Pl.w_par1, Pl.b_par, Pl.b_asgL, Pl.b_set, Pl.b_set2, Pl.p_set2P, Pl.b_dset, Pl.b_aug, Pl.b_app, Pl.b_expr, Pl.b_ife, Pl.b_for, Pl.b_while, Pl.b_retW, Pl.b_retV, Pl.b_raise, Pl.b_raiseF, Pl.b_pass, Pl.b_brk, Pl.b_cont, Pl.b_frz, Pl.b_try, Pl.y_nx, Pl.y_rt, Pl.y_bk, Pl.y_ct, Pl.y_keep, Pl.f_nxF, Pl.f_rtF, Pl.f_exF, Pl.f_nxT, Pl.f_rtT, Pl.w_init0, Pl.w_initN, Pl.w_initS, Pl.l_nx, Pl.l_ct, Pl.l_bk, Pl.l_rt, Pl.l_ex, Pl.c_t0, Pl.c_t1, Pl.p_Add, Pl.p_Sub, Pl.p_Mul, Pl.p_Div, Pl.p_Mod, Pl.p_Pow0, Pl.p_Pow1, Pl.p_Pow2, Pl.p_Pow3, Pl.p_Pow4, Pl.p_Pow5, Pl.p_Pow6, Pl.p_Pow7, Pl.p_Pow8, Pl.p_Pow9, Pl.p_Pow10, Pl.p_Pow11, Pl.p_Pow12, Pl.p_Pow13, Pl.p_Pow14, Pl.p_Pow15, Pl.p_Pow16, Pl.p_Pow17, Pl.p_Pow18, Pl.p_Pow19, Pl.p_Pow20, Pl.p_Pow21, Pl.p_Pow22, Pl.p_Pow23, Pl.p_Pow24, Pl.p_Pow25, Pl.p_Pow26, Pl.p_Pow27, Pl.p_Pow28, Pl.p_Pow29, Pl.p_Pow30, Pl.p_Pow31, Pl.p_Pow32, Pl.p_Pow33, Pl.p_Pow34, Pl.p_Pow35, Pl.p_Pow36, Pl.p_Pow37, Pl.p_Pow38, Pl.p_Pow39, Pl.p_Pow40, Pl.p_Pow41, Pl.p_Pow42, Pl.p_Pow43, Pl.p_Pow44, Pl.p_Pow45, Pl.p_Pow46, Pl.p_Pow47, Pl.p_Pow48, Pl.p_Pow49, Pl.p_Pow50, Pl.p_Pow51, Pl.p_Pow52, Pl.p_Pow53, Pl.p_Pow54, Pl.p_Pow55, Pl.p_Pow56, Pl.p_Pow57, Pl.p_Pow58, Pl.p_Pow59, Pl.p_Pow60, Pl.p_Pow61, Pl.p_Pow62, Pl.p_Pow63, Pl.p_Pow64, Pl.p_Pow65, Pl.p_MulS, Pl.p_AddL, Pl.p_AddT, Pl.p_Lt, Pl.p_LtE, Pl.p_Gt, Pl.p_GtE, Pl.p_Eq, Pl.p_NotEq, Pl.p_IsN, Pl.p_IsNotN, Pl.p_Is_bl, Pl.p_IsNot_bl, Pl.p_Is_int, Pl.p_IsNot_int, Pl.p_Is_str, Pl.p_IsNot_str, Pl.p_Is_tup, Pl.p_IsNot_tup, Pl.p_Is_lst, Pl.p_IsNot_lst, Pl.p_Is_exc, Pl.p_IsNot_exc, Pl.p_Is_scr, Pl.p_IsNot_scr, Pl.p_IsB, Pl.p_IsNotB, Pl.p_idx_tup, Pl.p_idx_lst, Pl.p_idx_scr, Pl.p_at0, Pl.p_at1, Pl.p_at2, Pl.p_at3, Pl.p_at4, Pl.p_at5, Pl.p_at6, Pl.p_at7, Pl.p_at8, Pl.p_set0, Pl.p_set1, Pl.p_set2, Pl.p_set3, Pl.p_set4, Pl.p_set5, Pl.p_lenL, Pl.p_lenT, Pl.p_lenS, Pl.p_abs, Pl.p_max2, Pl.p_min2, Pl.p_int, Pl.p_intb, Pl.p_divmod, Pl.p_listL, Pl.p_listT, Pl.p_tupL, Pl.p_tupT, Pl.p_augA, Pl.p_augS, Pl.p_isi_int_non, Pl.p_isi_bool_non, Pl.p_isi_str_non, Pl.p_isi_list_non, Pl.p_isi_tuple_non, Pl.p_isi_lt_non, Pl.p_isi_int_bl, Pl.p_isi_bool_bl, Pl.p_isi_str_bl, Pl.p_isi_list_bl, Pl.p_isi_tuple_bl, Pl.p_isi_lt_bl, Pl.p_isi_int_int, Pl.p_isi_bool_int, Pl.p_isi_str_int, Pl.p_isi_list_int, Pl.p_isi_tuple_int, Pl.p_isi_lt_int, Pl.p_isi_int_str, Pl.p_isi_bool_str, Pl.p_isi_str_str, Pl.p_isi_list_str, Pl.p_isi_tuple_str, Pl.p_isi_lt_str, Pl.p_isi_int_tup, Pl.p_isi_bool_tup, Pl.p_isi_str_tup, Pl.p_isi_list_tup, Pl.p_isi_tuple_tup, Pl.p_isi_lt_tup, Pl.p_isi_int_lst, Pl.p_isi_bool_lst, Pl.p_isi_str_lst, Pl.p_isi_list_lst, Pl.p_isi_tuple_lst, Pl.p_isi_lt_lst, Pl.p_isi_int_scr, Pl.p_isi_bool_scr, Pl.p_isi_str_scr, Pl.p_isi_list_scr, Pl.p_isi_tuple_scr, Pl.p_isi_lt_scr, Pl.p_isi_int_exc, Pl.p_isi_bool_exc, Pl.p_isi_str_exc, Pl.p_isi_list_exc, Pl.p_isi_tuple_exc, Pl.p_isi_lt_exc, Pl.p_sliceL, Pl.p_sliceT, Pl.z_l0, Pl.z_l1, Pl.z_l2, Pl.z_l3, Pl.z_l4, Pl.z_l5, Pl.z_l6, Pl.z_l7, Pl.z_l8, Pl.z_l9, Pl.z_l10, Pl.z_l11, Pl.z_l12, Pl.z_map0, Pl.z_map1, Pl.z_app0, Pl.z_app1, Pl.z_rep0, Pl.z_repS, Pl.z_gt, Pl.z_szT, Pl.z_inR, Pl.z_inR2, Pl.z_lenlt, ↓Pl.w_fzLmp, Pl.w_fzLmp, ↓Pl.w_flmp, Pl.w_flmp, Pl.frzL_mp, ↓Pl.p_all, Pl.p_all, ↓Pl.p_atInt, Pl.p_atInt, decide_true, decide_false, Bool.not_true, Bool.not_false, Int.reduceEq, Int.reduceLT, Int.reduceLE, ↓Pl.p_EqNN, Pl.p_EqNN, ↓Pl.p_NeNN, Pl.p_NeNN, ↓Pl.p_EqNI, Pl.p_EqNI, ↓Pl.p_EqIN, Pl.p_EqIN, ↓Pl.p_NeNI, Pl.p_NeNI, ↓Pl.p_NeIN, Pl.p_NeIN, ↓Pl.p_EqB, Pl.p_EqB, ↓Pl.p_NeB, Pl.p_NeB, Lw.fn_is_integer, Lw.fn_is_from, Lw.fn_is_between, Lw.fn_is_index, Lw.fn_is_ascending, Lw.fn_check_index, Lw.fn_are_turns, Lw.fn_is_places, Lw.fn_is_stretch, Lw.fn_is_entry_of, Lw.fn_are_ends, Lw.fn_is_tie_of, Lw.fn_is_book, Lw.fn_check_book, Lw.fn_check_day, Lw.fn_nought_in, Lw.fn_mark_in, Lw.fn_check_term, Lw.fn_check_holidays, Lw.fn_date_of, Lw.fn_number_of_date, Lw.fn_month_length, Lw.fn_weekday_of, Lw.fn_is_open_day, Lw.fn_is_open, Lw.fn_workdays_ahead, Lw.fn_workday_at, Lw.fn_lost_workdays, Lw.fn_open_days, Lw.fn_open_day_behind, Lw.fn_due_of, Lw.fn_due_day, Lw.fn_due_mark_in, Lw.fn_due_mark, Lw.fn__law_purse, Lw.fn__law_take, Lw.fn__law_pick, Lw.fn__law_match, Lw.fn__law_long, Lw.fn__law_counted, Lw.fn__law_drawn_day, Lw.fn__law_drawn_holidays, Lw.fn__law_is_work, Lw.fn__law_walked, Lw.fn__law_month_on, Lw.fn__law_due, Lw.fn__law_mark_right, Lw.fn_law, Lw.gl_MINUTES, Lw.gl_APART, Lw.gl_LOOK, Lw.gl_DAYS, Lw.gl_OPEN, Lw.gl_MONTHS, Lw.gl_END, Lw.gl_TERM_WORDS, Lw.gl_MONTH_DAYS, Lw.gl_FIRST_MONDAY, Lw.gl_FIRST_MARCH, Lw.gl_CYCLE, Lw.kw_is_open_0_1_0, Lw.kw_open_days_0_2_1_0, Lw.kw_due_day_0_2_1_0, Lw.kw_due_mark_0_3_2_1_0, $ls,*])
local macro_rules
  | `(tactic| simp_arith! [$ls,*]) => `(tactic| simp_arith [$ls,*])
local macro_rules
  | `(tactic| simp_arith! [$ls,*]) => `(tactic| simp_arith [c_is_integer, c_is_from, c_check_day, c_weekday_of, c_is_open_day, c_workdays_ahead, c_workday_at, c_long, c_is_work, $ls,*])
open Pu (wa dayN lost isO opn Beh nxt FD Ln DayAt longF)
theorem p_all0 (K : D → Prop) : optW (biop .all [.lst []]) K = K (.p (.bl true)) := nr rfl
theorem p_all1 (K : D → Prop) : optW (biop .all [.lst [.bl true]]) K = K (.p (.bl true)) := nr rfl
theorem p_all2 (K : D → Prop) : optW (biop .all [.lst [.bl true, .bl true]]) K = K (.p (.bl true)) := nr rfl
theorem p_all3 (K : D → Prop) : optW (biop .all [.lst [.bl true, .bl true, .bl true]]) K = K (.p (.bl true)) := nr rfl
theorem p_sum0 (K : D → Prop) : optW (biop .sum [.lst []]) K = K (.p (.int 0)) := nr rfl
theorem p_sum1 (K : D → Prop) : optW (biop .sum [.lst [.int 3]]) K = K (.p (.int 3)) := nr rfl
theorem p_sum2 (K : D → Prop) : optW (biop .sum [.lst [.int 3, .int 3]]) K = K (.p (.int 6)) := nr rfl
local macro_rules
  | `(tactic| simp_arith! [$ls,*]) => `(tactic| simp_arith [c_is_integer, c_is_from, c_check_day, c_weekday_of, c_is_open_day, c_workdays_ahead, c_workday_at, c_long, c_is_work, p_all0, p_all1, p_all2, p_all3, p_sum0, p_sum1, p_sum2, $ls,*])
theorem c_is_index (wf n : Nat) (hn : 3 ≤ n) (i j : Int) (h0 : 0 ≤ j) (h1 : j < i) : callN fnT globT wf n ix_is_index [.p (.int i), .p (.int j)] = .ok (.p (.bl true)) none := by
  have e : callN fnT globT wf (n - 1) ix_is_between [.p (.int 0), .p (.int j), .p (.int (i - 1))] = .ok (.p (.bl true)) none := by
    rw [← RW_eq, RW_callN fn_is_between rfl (by omega)]
    unfold bd_is_between
    simp_arith! []
    refine condDT h0 ?_
    simp_arith! []
    rw [decide_eq_true (show j ≤ i - 1 by omega)]
    exact ⟨rfl, rfl⟩
  rw [← RW_eq, RW_callN fn_is_index rfl (by omega)]
  unfold bd_is_index
  simp_arith! [e]
  exact ⟨rfl, rfl⟩
theorem c_check_index (wf n : Nat) (hn : 4 ≤ n) (i j : Int) (h0 : 0 ≤ j) (h1 : j < i) : callN fnT globT wf n ix_check_index [.p (.int i), .p (.int j)] = .ok (.p .non) none := by
  rw [← RW_eq, RW_callN fn_check_index rfl (by omega)]
  unfold bd_check_index
  simp_arith! [c_is_index wf (n - 1) (by omega) i j h0 h1]
  exact ⟨rfl, rfl⟩
theorem pair_R {R : Int → Int → Prop} : ∀ {a : List Int} {b : List Int} {p : P}, (∀ (i : Nat) (x y : Int), a[i]? = some x → b[i]? = some y → R x y) → p ∈ pairsOf (a.map .int) (b.map .int) → ∃ x y : Int, p = .tup [.int x, .int y] ∧ R x y
  | [], _, _, _, h => by cases h
  | _ :: _, [], _, _, h => by cases h
  | x :: a, y :: b, p, q, h => by
    rcases List.mem_cons.mp h with h | h
    · exact ⟨x, y, h, q 0 x y rfl rfl⟩
    · exact pair_R (fun i u v h1 h2 => q (i + 1) u v h1 h2) h
theorem c_are_turns (wf n : Nat) (hn : 2 ≤ n) (ts : List Int) (hl : ts.length ≤ 1000) (h : ∀ (i : Nat) (x y : Int), ts[i]? = some x → (ts.drop 1)[i]? = some y → x < y - 1) : callN fnT globT wf n ix_are_turns [.p (.tup (ts.map .int))] = .ok (.p (.bl true)) none := by
  rw [← RW_eq, RW_callN fn_are_turns rfl (by omega)]
  unfold bd_are_turns
  simp_arith! []
  refine CW_map (fun _ => .p (.bl true)) (by rw [List.length_map]; omega) ?_ ?_
  · intro p hp
    obtain ⟨x, _, rfl⟩ := List.mem_map.mp hp
    simp_arith! []
    exact ⟨rfl, rfl⟩
  simp_arith! [all_true, cut_tail]
  refine CW_map (fun _ => .p (.bl true)) (by rw [pairs_len, List.length_map]; omega) ?_ ?_
  · intro p hp
    have q := pair_R (R := fun x y => x < y - 1) h hp
    obtain ⟨x, y, rfl, hxy⟩ := q
    simp_arith! []
    rw [decide_eq_true (show 2 ≤ y - x by omega)]
    exact ⟨rfl, rfl⟩
  simp_arith! [all_true]
  exact ⟨rfl, rfl⟩
/-- two turns, and the places with them -/
def tuP (f g : Int) : P := .tup [.int f, .int g]
def plP (f g : Int) : P := .tup [tuP f g, tuP f g, .tup []]
theorem tuP_eq (f g : Int) : tuP f g = .tup [.int f, .int g] := rfl
theorem plP_eq (f g : Int) : plP f g = .tup [.tup [.int f, .int g], .tup [.int f, .int g], .tup []] := rfl
theorem c_is_places (wf n : Nat) (hn : 3 ≤ n) (f g : Int) (h : f + 2 ≤ g) : callN fnT globT wf n ix_is_places [.p (plP f g)] = .ok (.p (.bl true)) none := by
  have e1 : callN fnT globT wf (n - 1) ix_are_turns [.p (.tup [.int f, .int g])] = .ok (.p (.bl true)) none := c_are_turns wf (n - 1) (by omega) [f, g] (by simp) fun i x y h1 h2 => by
    match i, h1, h2 with
    | 0, h1, h2 =>
      simp at h1 h2
      omega
    | i + 1, h1, h2 => simp at h2
  have e2 : callN fnT globT wf (n - 1) ix_are_turns [.p (.tup [])] = .ok (.p (.bl true)) none := c_are_turns wf (n - 1) (by omega) [] (by simp) fun i x y h1 h2 => by simp at h1
  have ne : ∀ K : Bool → Prop, optW (cmpop .NotEq (.tup [.tup [.int f, .int g], .tup [.int f, .int g], .tup []]) (.tup [])) K = K true := fun K => by
    have q : cmpop .NotEq (.tup [.tup [.int f, .int g], .tup [.int f, .int g], .tup []]) (.tup []) = some true := rfl
    rw [q]
    rfl
  rw [← RW_eq, RW_callN fn_is_places rfl (by omega)]
  unfold bd_is_places
  simp_arith! [plP_eq, ne]
  refine CW_map (fun _ => .p (.bl true)) (by simp) ?_ ?_
  · intro p hp
    simp only [List.mem_cons, List.not_mem_nil, or_false] at hp
    rcases hp with rfl | rfl | rfl
    · simp_arith! [e1]
      exact ⟨rfl, rfl⟩
    · simp_arith! [e1]
      exact ⟨rfl, rfl⟩
    · simp_arith! [e2]
      exact ⟨rfl, rfl⟩
  simp_arith! []
  exact ⟨rfl, rfl⟩

end Lw

set_option Elab.async false
set_option linter.all false
set_option autoImplicit false
set_option maxRecDepth 100000
set_option maxHeartbeats 4000000
namespace Lw
open PySem L2 Pl
local macro_rules
  | `(tactic| trivial) => `(tactic| first | omega | ((with_reducible apply Pl.mulOk_l); first | decide | omega) | ((with_reducible apply Pl.mulOk_r); first | decide | omega) | ((with_reducible apply Pl.divOk_s) <;> omega) | ((with_reducible apply Pl.divOk_w) <;> omega) | ((with_reducible apply Pl.powOk_s) <;> omega) | ((with_reducible apply Pl.CompOk.mk); with_unfolding_all exact rfl) | ((with_reducible apply Pl.KeepOk.mk); with_unfolding_all exact rfl) | ((with_reducible apply Pl.mulSOk_s) <;> first | omega | decide) | with_reducible decide | with_reducible rfl | (simp only [List.length_cons, List.length_nil, List.length_append, List.length_map, List.length_take, List.length_drop]; omega) | assumption)
local macro_rules
  | `(tactic| simp_arith [$ls,*]) => `(tactic| simp (disch := trivial) only [↓Pl.w_some, ↓Pl.w_none, ↓Pl.w_frzp, ↓Pl.w_frzl, ↓Pl.w_fzL0, ↓Pl.w_fzL1, ↓Pl.w_fzL2, ↓Pl.w_flp, ↓Pl.w_fll, ↓Pl.w_flnil, ↓Pl.w_flcons, ↓Pl.w_fzLm, ↓Pl.w_flmap, ↓Pl.w_get0, ↓Pl.w_getS, ↓Pl.w_getP0, ↓Pl.w_getPS, ↓Pl.w_set0, ↓Pl.w_setS, ↓Pl.w_wipe0, ↓Pl.w_wipe1, ↓Pl.w_condT, ↓Pl.w_condF, ↓Pl.w_condN, ↓Pl.w_tyb, ↓Pl.w_inti, ↓Pl.w_itl, ↓Pl.w_itt, ↓Pl.w_its, ↓Pl.w_ll, ↓Pl.w_bindv, ↓Pl.w_bindt, ↓Pl.w_bindl, ↓Pl.w_binds0, ↓Pl.w_binds1, ↓Pl.w_lit, ↓Pl.w_var, ↓Pl.w_glob, ↓Pl.o_var, ↓Pl.r_var, ↓Pl.o_lit, ↓Pl.r_lit, ↓Pl.o_glob, ↓Pl.r_glob, ↓Pl.o_bin, ↓Pl.r_bin, ↓Pl.o_neg, ↓Pl.r_neg, ↓Pl.o_not, ↓Pl.r_not, ↓Pl.o_cmp, ↓Pl.r_cmp, ↓Pl.o_chain, ↓Pl.r_chain, ↓Pl.o_and, ↓Pl.r_and, ↓Pl.o_or, ↓Pl.r_or, ↓Pl.o_ife, ↓Pl.r_ife, ↓Pl.o_tup, ↓Pl.r_tup, ↓Pl.o_lst, ↓Pl.r_lst, ↓Pl.o_idx, ↓Pl.r_idx, ↓Pl.o_idx2, ↓Pl.r_idx2, ↓Pl.o_slc, ↓Pl.r_slc, ↓Pl.o_call, ↓Pl.r_call, ↓Pl.o_bi, ↓Pl.r_bi, ↓Pl.o_isi, ↓Pl.r_isi, ↓Pl.o_mkx, ↓Pl.r_mkx, ↓Pl.o_comp, ↓Pl.r_comp, ↓Pl.o_rng1, ↓Pl.r_rng1, ↓Pl.o_rng2, ↓Pl.r_rng2, ↓Pl.o_enum, ↓Pl.r_enum, ↓Pl.o_zip, ↓Pl.r_zip, ↓Pl.o_rng3, ↓Pl.r_rng3, ↓Pl.o_view, ↓Pl.r_view, ↓Pl.o_cnt, ↓Pl.r_cnt, ↓Pl.o_dnil, ↓Pl.r_dnil, ↓Pl.o_keys, ↓Pl.r_keys, ↓Pl.w_bin, ↓Pl.w_cmp, ↓Pl.tv_var, ↓Pl.iv_var, ↓Pl.tv_lit, ↓Pl.iv_lit, ↓Pl.tv_glob, ↓Pl.iv_glob, ↓Pl.iv_bin, ↓Pl.tv_chain, ↓Pl.iv_ife, ↓Pl.iv_tup, ↓Pl.iv_lst, ↓Pl.tv_idx, ↓Pl.iv_idx, ↓Pl.tv_idx2, ↓Pl.iv_idx2, ↓Pl.tv_slc, ↓Pl.iv_slc, ↓Pl.tv_call, ↓Pl.iv_call, ↓Pl.tv_isi, ↓Pl.tv_mkx, ↓Pl.iv_comp, ↓Pl.tv_bi, ↓Pl.iv_bi, ↓Pl.t_cmpW, ↓Pl.w_neg, ↓Pl.w_not, ↓Pl.t_notW, ↓Pl.t_and1W, ↓Pl.t_andW, ↓Pl.t_or1W, ↓Pl.t_orW, ↓Pl.w_and1, ↓Pl.w_and, ↓Pl.w_or1, ↓Pl.w_or, ↓Pl.w_chain, ↓Pl.w_ife, ↓Pl.s_nil, ↓Pl.s_cons, ↓Pl.w_tup, ↓Pl.w_lst, ↓Pl.w_idx, ↓Pl.w_pp, ↓Pl.w_atl, ↓Pl.w_atv, ↓Pl.w_idp, ↓Pl.w_idl, ↓Pl.w_idx2, ↓Pl.p_idx2P, ↓Pl.w_oin, ↓Pl.w_ois, ↓Pl.w_slc, ↓Pl.w_call, ↓Pl.w_callF, ↓Pl.w_callM, ↓Pl.w_callM_call, ↓Pl.w_callM_lst, ↓Pl.w_callM_bin, ↓Pl.w_callM_slc, ↓Pl.w_callM_bi, ↓Pl.w_callM_comp, ↓Pl.w_callM_ife, ↓Pl.w_callM_idx, ↓Pl.a_pos0, ↓Pl.a_pos1, ↓Pl.a_pos2, ↓Pl.a_pos3, ↓Pl.a_pos4, ↓Pl.a_pos5, ↓Pl.a_pos6, ↓Pl.a_pos7, ↓Pl.a_pos8, ↓Pl.a_pos9, ↓Pl.w_RWok, ↓Pl.w_RWexc, ↓Pl.w_bi1, ↓Pl.w_bi2, ↓Pl.w_isi, ↓Pl.w_mkx, ↓Pl.w_strs, ↓Pl.w_getO0, ↓Pl.w_getOS, ↓Pl.w_back0, ↓Pl.w_back1, ↓Pl.w_comp, ↓Pl.w_compT, ↓Pl.iv_rng1, ↓Pl.iv_rng2, ↓Pl.iv_rng3, ↓Pl.w_frzd, ↓Pl.w_dd, ↓Pl.w_keyi, ↓Pl.w_keys_, ↓Pl.w_dnil, ↓Pl.w_keys, ↓Pl.w_view0, ↓Pl.w_viewN, ↓Pl.w_viewS, ↓Pl.t_view, ↓Pl.w_view, ↓Pl.w_flI, ↓Pl.w_flB, ↓Pl.w_flS, ↓Pl.w_flN, ↓Pl.w_lstl, ↓Pl.w_cnt, ↓Pl.iv_enum, ↓Pl.w_zipl, ↓Pl.w_zipt, ↓Pl.iv_zip, ↓Pl.q_nx, ↓Pl.q_rt, ↓Pl.q_bk, ↓Pl.q_ct, ↓Pl.q_ex, ↓Pl.b_nilW, ↓Pl.b_asg, ↓Pl.b_asgt, ↓Pl.w_par0, ↓Pl.w_par1, ↓Pl.b_par, ↓Pl.b_asgL, ↓Pl.b_set, ↓Pl.b_set2, ↓Pl.p_set2P, ↓Pl.b_dset, ↓Pl.b_aug, ↓Pl.b_app, ↓Pl.b_expr, ↓Pl.b_ife, ↓Pl.b_for, ↓Pl.b_while, ↓Pl.b_retW, ↓Pl.b_retV, ↓Pl.b_raise, ↓Pl.b_raiseF, ↓Pl.b_pass, ↓Pl.b_brk, ↓Pl.b_cont, ↓Pl.b_frz, ↓Pl.b_try, ↓Pl.y_nx, ↓Pl.y_rt, ↓Pl.y_bk, ↓Pl.y_ct, ↓Pl.y_keep, ↓Pl.f_nxF, ↓Pl.f_rtF, ↓Pl.f_exF, ↓Pl.f_nxT, ↓Pl.f_rtT, ↓Pl.w_init0, ↓Pl.w_initN, ↓Pl.w_initS, ↓Pl.l_nx, ↓Pl.l_ct, ↓Pl.l_bk, ↓Pl.l_rt, ↓Pl.l_ex, ↓Pl.c_t0, ↓Pl.c_t1, ↓Pl.p_Add, ↓Pl.p_Sub, ↓Pl.p_Mul, ↓Pl.p_Div, ↓Pl.p_Mod, ↓Pl.p_Pow0, ↓Pl.p_Pow1, ↓Pl.p_Pow2, ↓Pl.p_Pow3, ↓Pl.p_Pow4, ↓Pl.p_Pow5, ↓Pl.p_Pow6, ↓Pl.p_Pow7, ↓Pl.p_Pow8, ↓Pl.p_Pow9, ↓Pl.p_Pow10, ↓Pl.p_Pow11, ↓Pl.p_Pow12, ↓Pl.p_Pow13, ↓Pl.p_Pow14, ↓Pl.p_Pow15, ↓Pl.p_Pow16, ↓Pl.p_Pow17, ↓Pl.p_Pow18, ↓Pl.p_Pow19, ↓Pl.p_Pow20, ↓Pl.p_Pow21, ↓Pl.p_Pow22, ↓Pl.p_Pow23, ↓Pl.p_Pow24, ↓Pl.p_Pow25, ↓Pl.p_Pow26, ↓Pl.p_Pow27, ↓Pl.p_Pow28, ↓Pl.p_Pow29, ↓Pl.p_Pow30, ↓Pl.p_Pow31, ↓Pl.p_Pow32, ↓Pl.p_Pow33, ↓Pl.p_Pow34, ↓Pl.p_Pow35, ↓Pl.p_Pow36, ↓Pl.p_Pow37, ↓Pl.p_Pow38, ↓Pl.p_Pow39, ↓Pl.p_Pow40, ↓Pl.p_Pow41, ↓Pl.p_Pow42, ↓Pl.p_Pow43, ↓Pl.p_Pow44, ↓Pl.p_Pow45, ↓Pl.p_Pow46, ↓Pl.p_Pow47, ↓Pl.p_Pow48, ↓Pl.p_Pow49, ↓Pl.p_Pow50, ↓Pl.p_Pow51, ↓Pl.p_Pow52, ↓Pl.p_Pow53, ↓Pl.p_Pow54, ↓Pl.p_Pow55, ↓Pl.p_Pow56, ↓Pl.p_Pow57, ↓Pl.p_Pow58, ↓Pl.p_Pow59, ↓Pl.p_Pow60, ↓Pl.p_Pow61, ↓Pl.p_Pow62, ↓Pl.p_Pow63, ↓Pl.p_Pow64, ↓Pl.p_Pow65, ↓Pl.p_MulS, ↓Pl.p_AddL, ↓Pl.p_AddT, ↓Pl.p_Lt, ↓Pl.p_LtE, ↓Pl.p_Gt, ↓Pl.p_GtE, ↓Pl.p_Eq, ↓Pl.p_NotEq, ↓Pl.p_IsN, ↓Pl.p_IsNotN, ↓Pl.p_Is_bl, ↓Pl.p_IsNot_bl, ↓Pl.p_Is_int, ↓Pl.p_IsNot_int, ↓Pl.p_Is_str, ↓Pl.p_IsNot_str, ↓Pl.p_Is_tup, ↓Pl.p_IsNot_tup, ↓Pl.p_Is_lst, ↓Pl.p_IsNot_lst, ↓Pl.p_Is_exc, ↓Pl.p_IsNot_exc, ↓Pl.p_Is_scr, ↓Pl.p_IsNot_scr, ↓Pl.p_IsB, ↓Pl.p_IsNotB, ↓Pl.p_idx_tup, ↓Pl.p_idx_lst, ↓Pl.p_idx_scr, ↓Pl.p_at0, ↓Pl.p_at1, ↓Pl.p_at2, ↓Pl.p_at3, ↓Pl.p_at4, ↓Pl.p_at5, ↓Pl.p_at6, ↓Pl.p_at7, ↓Pl.p_at8, ↓Pl.p_set0, ↓Pl.p_set1, ↓Pl.p_set2, ↓Pl.p_set3, ↓Pl.p_set4, ↓Pl.p_set5, ↓Pl.p_lenL, ↓Pl.p_lenT, ↓Pl.p_lenS, ↓Pl.p_abs, ↓Pl.p_max2, ↓Pl.p_min2, ↓Pl.p_int, ↓Pl.p_intb, ↓Pl.p_divmod, ↓Pl.p_listL, ↓Pl.p_listT, ↓Pl.p_tupL, ↓Pl.p_tupT, ↓Pl.p_augA, ↓Pl.p_augS, ↓Pl.p_isi_int_non, ↓Pl.p_isi_bool_non, ↓Pl.p_isi_str_non, ↓Pl.p_isi_list_non, ↓Pl.p_isi_tuple_non, ↓Pl.p_isi_lt_non, ↓Pl.p_isi_int_bl, ↓Pl.p_isi_bool_bl, ↓Pl.p_isi_str_bl, ↓Pl.p_isi_list_bl, ↓Pl.p_isi_tuple_bl, ↓Pl.p_isi_lt_bl, ↓Pl.p_isi_int_int, ↓Pl.p_isi_bool_int, ↓Pl.p_isi_str_int, ↓Pl.p_isi_list_int, ↓Pl.p_isi_tuple_int, ↓Pl.p_isi_lt_int, ↓Pl.p_isi_int_str, ↓Pl.p_isi_bool_str, ↓Pl.p_isi_str_str, ↓Pl.p_isi_list_str, ↓Pl.p_isi_tuple_str, ↓Pl.p_isi_lt_str, ↓Pl.p_isi_int_tup, ↓Pl.p_isi_bool_tup, ↓Pl.p_isi_str_tup, ↓Pl.p_isi_list_tup, ↓Pl.p_isi_tuple_tup, ↓Pl.p_isi_lt_tup, ↓Pl.p_isi_int_lst, ↓Pl.p_isi_bool_lst, ↓Pl.p_isi_str_lst, ↓Pl.p_isi_list_lst, ↓Pl.p_isi_tuple_lst, ↓Pl.p_isi_lt_lst, ↓Pl.p_isi_int_scr, ↓Pl.p_isi_bool_scr, ↓Pl.p_isi_str_scr, ↓Pl.p_isi_list_scr, ↓Pl.p_isi_tuple_scr, ↓Pl.p_isi_lt_scr, ↓Pl.p_isi_int_exc, ↓Pl.p_isi_bool_exc, ↓Pl.p_isi_str_exc, ↓Pl.p_isi_list_exc, ↓Pl.p_isi_tuple_exc, ↓Pl.p_isi_lt_exc, ↓Pl.p_sliceL, ↓Pl.p_sliceT, ↓Pl.z_l0, ↓Pl.z_l1, ↓Pl.z_l2, ↓Pl.z_l3, ↓Pl.z_l4, ↓Pl.z_l5, ↓Pl.z_l6, ↓Pl.z_l7, ↓Pl.z_l8, ↓Pl.z_l9, ↓Pl.z_l10, ↓Pl.z_l11, ↓Pl.z_l12, ↓Pl.z_szT, ↓Pl.z_inR, ↓Pl.z_inR2, ↓Pl.z_lenlt, Pl.w_some, Pl.w_none, Pl.w_frzp, Pl.w_frzl, Pl.w_fzL0, Pl.w_fzL1, Pl.w_fzL2, Pl.w_flp, Pl.w_fll, Pl.w_flnil, Pl.w_flcons, Pl.w_fzLm, Pl.w_flmap, Pl.w_get0, Pl.w_getS, Pl.w_getP0, Pl.w_getPS, Pl.w_set0, Pl.w_setS, Pl.w_wipe0, Pl.w_wipe1, Pl.w_condT, Pl.w_condF, Pl.w_condN, Pl.w_tyb, Pl.w_inti, Pl.w_itl, Pl.w_itt, Pl.w_its, Pl.w_ll, Pl.w_bindv, Pl.w_bindt, Pl.w_bindl, Pl.w_binds0, Pl.w_binds1, Pl.w_lit, Pl.w_var, Pl.w_glob, Pl.o_var, Pl.r_var, Pl.o_lit, Pl.r_lit, Pl.o_glob, Pl.r_glob, Pl.o_bin, Pl.r_bin, Pl.o_neg, Pl.r_neg, Pl.o_not, Pl.r_not, Pl.o_cmp, Pl.r_cmp, Pl.o_chain, Pl.r_chain, Pl.o_and, Pl.r_and, Pl.o_or, Pl.r_or, Pl.o_ife, Pl.r_ife, Pl.o_tup, Pl.r_tup, Pl.o_lst, Pl.r_lst, Pl.o_idx, Pl.r_idx, Pl.o_idx2, Pl.r_idx2, Pl.o_slc, Pl.r_slc, Pl.o_call, Pl.r_call, Pl.o_bi, Pl.r_bi, Pl.o_isi, Pl.r_isi, Pl.o_mkx, Pl.r_mkx, Pl.o_comp, Pl.r_comp, Pl.o_rng1, Pl.r_rng1, Pl.o_rng2, Pl.r_rng2, Pl.o_enum, Pl.r_enum, Pl.o_zip, Pl.r_zip, Pl.o_rng3, Pl.r_rng3, Pl.o_view, Pl.r_view, Pl.o_cnt, Pl.r_cnt, Pl.o_dnil, Pl.r_dnil, Pl.o_keys, Pl.r_keys, Pl.w_bin, Pl.w_cmp, Pl.tv_var, Pl.iv_var, Pl.tv_lit, Pl.iv_lit, Pl.tv_glob, Pl.iv_glob, Pl.iv_bin, Pl.tv_chain, Pl.iv_ife, Pl.iv_tup, Pl.iv_lst, Pl.tv_idx, Pl.iv_idx, Pl.tv_idx2, Pl.iv_idx2, Pl.tv_slc, Pl.iv_slc, Pl.tv_call, Pl.iv_call, Pl.tv_isi, Pl.tv_mkx, Pl.iv_comp, Pl.tv_bi, Pl.iv_bi, Pl.t_cmpW, Pl.w_neg, Pl.w_not, Pl.t_notW, Pl.t_and1W, Pl.t_andW, Pl.t_or1W, Pl.t_orW, Pl.w_and1, Pl.w_and, Pl.w_or1, Pl.w_or, Pl.w_chain, Pl.w_ife, Pl.s_nil, Pl.s_cons, Pl.w_tup, Pl.w_lst, Pl.w_idx, Pl.w_pp, Pl.w_atl, Pl.w_atv, Pl.w_idp, Pl.w_idl, Pl.w_idx2, Pl.p_idx2P, Pl.w_oin, Pl.w_ois, Pl.w_slc, Pl.w_call, Pl.w_callF, Pl.w_callM, Pl.w_callM_call, Pl.w_callM_lst, Pl.w_callM_bin, Pl.w_callM_slc, Pl.w_callM_bi, Pl.w_callM_comp, Pl.w_callM_ife, Pl.w_callM_idx, Pl.a_pos0, Pl.a_pos1, Pl.a_pos2, Pl.a_pos3, Pl.a_pos4, Pl.a_pos5, Pl.a_pos6, Pl.a_pos7, Pl.a_pos8, Pl.a_pos9, Pl.w_RWok, Pl.w_RWexc, Pl.w_pz0, Pl.w_pzp, Pl.w_pzl, Pl.w_fz0, Pl.w_fzp, Pl.w_fzl, Pl.w_fzmap, Pl.w_bi1, Pl.w_bi2, Pl.w_isi, Pl.w_mkx, Pl.w_strs, Pl.w_getO0, Pl.w_getOS, Pl.w_back0, Pl.w_back1, Pl.w_comp, Pl.w_compT, Pl.iv_rng1, Pl.iv_rng2, Pl.iv_rng3, Pl.w_frzd, Pl.w_dd, Pl.w_keyi, Pl.w_keys_, Pl.w_dnil, Pl.w_keys, Pl.w_view0, Pl.w_viewN, Pl.w_viewS, Pl.t_view, Pl.w_view, Pl.w_flI, Pl.w_flB, Pl.w_flS, Pl.w_flN, Pl.w_lstl, Pl.w_cnt, Pl.iv_enum, Pl.w_zipl, Pl.w_zipt, Pl.iv_zip, Pl.q_nx, Pl.q_rt, Pl.q_bk, Pl.q_ct, Pl.q_ex, Pl.b_nilW, Pl.b_asg, Pl.b_asgt, Pl.w_par0, Pl.w_par1, Pl.b_par, Pl.b_asgL, Pl.b_set, Pl.b_set2, Pl.p_set2P, Pl.b_dset, Pl.b_aug, Pl.b_app, Pl.b_expr, Pl.b_ife, Pl.b_for, Pl.b_while, Pl.b_retW, Pl.b_retV, Pl.b_raise, Pl.b_raiseF, Pl.b_pass, Pl.b_brk, Pl.b_cont, Pl.b_frz, Pl.b_try, Pl.y_nx, Pl.y_rt, Pl.y_bk, Pl.y_ct, Pl.y_keep, Pl.f_nxF, Pl.f_rtF, Pl.f_exF, Pl.f_nxT, Pl.f_rtT, Pl.w_init0, Pl.w_initN, Pl.w_initS, Pl.l_nx, Pl.l_ct, Pl.l_bk, Pl.l_rt, Pl.l_ex, Pl.c_t0, Pl.c_t1, Pl.p_Add, Pl.p_Sub, Pl.p_Mul, Pl.p_Div, Pl.p_Mod, Pl.p_Pow0, Pl.p_Pow1, Pl.p_Pow2, Pl.p_Pow3, Pl.p_Pow4, Pl.p_Pow5, Pl.p_Pow6, Pl.p_Pow7, Pl.p_Pow8, Pl.p_Pow9, Pl.p_Pow10, Pl.p_Pow11, Pl.p_Pow12, Pl.p_Pow13, Pl.p_Pow14, Pl.p_Pow15, Pl.p_Pow16, Pl.p_Pow17, Pl.p_Pow18, Pl.p_Pow19, Pl.p_Pow20, Pl.p_Pow21, Pl.p_Pow22, Pl.p_Pow23, Pl.p_Pow24, Pl.p_Pow25, Pl.p_Pow26, Pl.p_Pow27, Pl.p_Pow28, Pl.p_Pow29, Pl.p_Pow30, Pl.p_Pow31, Pl.p_Pow32, Pl.p_Pow33, Pl.p_Pow34, Pl.p_Pow35, Pl.p_Pow36, Pl.p_Pow37, Pl.p_Pow38, Pl.p_Pow39, Pl.p_Pow40, Pl.p_Pow41, Pl.p_Pow42, Pl.p_Pow43, Pl.p_Pow44, Pl.p_Pow45, Pl.p_Pow46, Pl.p_Pow47, Pl.p_Pow48, Pl.p_Pow49, Pl.p_Pow50, Pl.p_Pow51, Pl.p_Pow52, Pl.p_Pow53, Pl.p_Pow54, Pl.p_Pow55, Pl.p_Pow56, Pl.p_Pow57, Pl.p_Pow58, Pl.p_Pow59, Pl.p_Pow60, Pl.p_Pow61, Pl.p_Pow62, Pl.p_Pow63, Pl.p_Pow64, Pl.p_Pow65, Pl.p_MulS, Pl.p_AddL, Pl.p_AddT, Pl.p_Lt, Pl.p_LtE, Pl.p_Gt, Pl.p_GtE, Pl.p_Eq, Pl.p_NotEq, Pl.p_IsN, Pl.p_IsNotN, Pl.p_Is_bl, Pl.p_IsNot_bl, Pl.p_Is_int, Pl.p_IsNot_int, Pl.p_Is_str, Pl.p_IsNot_str, Pl.p_Is_tup, Pl.p_IsNot_tup, Pl.p_Is_lst, Pl.p_IsNot_lst, Pl.p_Is_exc, Pl.p_IsNot_exc, Pl.p_Is_scr, Pl.p_IsNot_scr, Pl.p_IsB, Pl.p_IsNotB, Pl.p_idx_tup, Pl.p_idx_lst, Pl.p_idx_scr, Pl.p_at0, Pl.p_at1, Pl.p_at2, Pl.p_at3, Pl.p_at4, Pl.p_at5, Pl.p_at6, Pl.p_at7, Pl.p_at8, Pl.p_set0, Pl.p_set1, Pl.p_set2, Pl.p_set3, Pl.p_set4, Pl.p_set5, Pl.p_lenL, Pl.p_lenT, Pl.p_lenS, Pl.p_abs, Pl.p_max2, Pl.p_min2, Pl.p_int, Pl.p_intb, Pl.p_divmod, Pl.p_listL, Pl.p_listT, Pl.p_tupL, Pl.p_tupT, Pl.p_augA, Pl.p_augS, Pl.p_isi_int_non, Pl.p_isi_bool_non, Pl.p_isi_str_non, Pl.p_isi_list_non, Pl.p_isi_tuple_non, Pl.p_isi_lt_non, Pl.p_isi_int_bl, Pl.p_isi_bool_bl, Pl.p_isi_str_bl, Pl.p_isi_list_bl, Pl.p_isi_tuple_bl, Pl.p_isi_lt_bl, Pl.p_isi_int_int, Pl.p_isi_bool_int, Pl.p_isi_str_int, Pl.p_isi_list_int, Pl.p_isi_tuple_int, Pl.p_isi_lt_int, Pl.p_isi_int_str, Pl.p_isi_bool_str, Pl.p_isi_str_str, Pl.p_isi_list_str, Pl.p_isi_tuple_str, Pl.p_isi_lt_str, Pl.p_isi_int_tup, Pl.p_isi_bool_tup, Pl.p_isi_str_tup, Pl.p_isi_list_tup, Pl.p_isi_tuple_tup, Pl.p_isi_lt_tup, Pl.p_isi_int_lst, Pl.p_isi_bool_lst, Pl.p_isi_str_lst, Pl.p_isi_list_lst, Pl.p_isi_tuple_lst, Pl.p_isi_lt_lst, Pl.p_isi_int_scr, Pl.p_isi_bool_scr, Pl.p_isi_str_scr, Pl.p_isi_list_scr, Pl.p_isi_tuple_scr, Pl.p_isi_lt_scr, Pl.p_isi_int_exc, Pl.p_isi_bool_exc, Pl.p_isi_str_exc, Pl.p_isi_list_exc, Pl.p_isi_tuple_exc, Pl.p_isi_lt_exc, Pl.p_sliceL, Pl.p_sliceT, Pl.z_l0, Pl.z_l1, Pl.z_l2, Pl.z_l3, Pl.z_l4, Pl.z_l5, Pl.z_l6, Pl.z_l7, Pl.z_l8, Pl.z_l9, Pl.z_l10, Pl.z_l11, Pl.z_l12, Pl.z_map0, Pl.z_map1, Pl.z_app0, Pl.z_app1, Pl.z_rep0, Pl.z_repS, Pl.z_gt, Pl.z_szT, Pl.z_inR, Pl.z_inR2, Pl.z_lenlt, ↓Pl.w_fzLmp, Pl.w_fzLmp, ↓Pl.w_flmp, Pl.w_flmp, Pl.frzL_mp, ↓Pl.p_all, Pl.p_all, ↓Pl.p_atInt, Pl.p_atInt, decide_true, decide_false, Bool.not_true, Bool.not_false, Int.reduceEq, Int.reduceLT, Int.reduceLE, ↓Pl.p_EqNN, Pl.p_EqNN, ↓Pl.p_NeNN, Pl.p_NeNN, ↓Pl.p_EqNI, Pl.p_EqNI, ↓Pl.p_EqIN, Pl.p_EqIN, ↓Pl.p_NeNI, Pl.p_NeNI, ↓Pl.p_NeIN, Pl.p_NeIN, ↓Pl.p_EqB, Pl.p_EqB, ↓Pl.p_NeB, Pl.p_NeB, Lw.fn_is_integer, Lw.fn_is_from, Lw.fn_is_between, Lw.fn_is_index, Lw.fn_is_ascending, Lw.fn_check_index, Lw.fn_are_turns, Lw.fn_is_places, Lw.fn_is_stretch, Lw.fn_is_entry_of, Lw.fn_are_ends, Lw.fn_is_tie_of, Lw.fn_is_book, Lw.fn_check_book, Lw.fn_check_day, Lw.fn_nought_in, Lw.fn_mark_in, Lw.fn_check_term, Lw.fn_check_holidays, Lw.fn_date_of, Lw.fn_number_of_date, Lw.fn_month_length, Lw.fn_weekday_of, Lw.fn_is_open_day, Lw.fn_is_open, Lw.fn_workdays_ahead, Lw.fn_workday_at, Lw.fn_lost_workdays, Lw.fn_open_days, Lw.fn_open_day_behind, Lw.fn_due_of, Lw.fn_due_day, Lw.fn_due_mark_in, Lw.fn_due_mark, Lw.fn__law_purse, Lw.fn__law_take, Lw.fn__law_pick, Lw.fn__law_match, Lw.fn__law_long, Lw.fn__law_counted, Lw.fn__law_drawn_day, Lw.fn__law_drawn_holidays, Lw.fn__law_is_work, Lw.fn__law_walked, Lw.fn__law_month_on, Lw.fn__law_due, Lw.fn__law_mark_right, Lw.fn_law, Lw.gl_MINUTES, Lw.gl_APART, Lw.gl_LOOK, Lw.gl_DAYS, Lw.gl_OPEN, Lw.gl_MONTHS, Lw.gl_END, Lw.gl_TERM_WORDS, Lw.gl_MONTH_DAYS, Lw.gl_FIRST_MONDAY, Lw.gl_FIRST_MARCH, Lw.gl_CYCLE, Lw.kw_is_open_0_1_0, Lw.kw_open_days_0_2_1_0, Lw.kw_due_day_0_2_1_0, Lw.kw_due_mark_0_3_2_1_0, $ls,*])
local macro_rules
  | `(tactic| simp_arith! [$ls,*]) => `(tactic| simp_arith [$ls,*])
local macro_rules
  | `(tactic| simp_arith! [$ls,*]) => `(tactic| simp_arith [c_is_integer, c_is_from, c_check_day, c_weekday_of, c_is_open_day, c_workdays_ahead, c_workday_at, c_long, c_is_work, p_all0, p_all1, p_all2, p_all3, p_sum0, p_sum1, p_sum2, $ls,*])
open Pu (wa dayN lost isO opn Beh nxt FD Ln DayAt longF)
/-- an entry at one of both places with turns: the stretch s holds the day d -/
def Fits (f g s d : Int) : Prop := (s = 0 ∧ d < f) ∨ (s = 1 ∧ f - 1 ≤ d ∧ d < g) ∨ (s = 2 ∧ g - 1 ≤ d)
def enP (p s a : Int) : P := .tup [.int p, .int s, .int a]
theorem enP_eq (p s a : Int) : enP p s a = .tup [.int p, .int s, .int a] := rfl
theorem l2 : ∀ (x y : P), (([x, y] : List P).length : Int) = 2 := fun _ _ => rfl
theorem l3 : ∀ (x y z : P), (([x, y, z] : List P).length : Int) = 3 := fun _ _ _ => rfl
theorem c_entry (wf n : Nat) (hn : 5 ≤ n) (f g p s d r : Int) (hp : p = 0 ∨ p = 1) (hr0 : 0 ≤ r) (hr1 : r < 1440) (h : Fits f g s d) : callN fnT globT wf n ix_is_entry_of [.p (plP f g), .p (enP p s (1440 * d + r))] = .ok (.p (.bl true)) none := by
  have ed : (1440 * d + r) / 1440 = d := by omega
  have es : ∀ q : Int, q = 0 ∨ q = 1 → callN fnT globT wf (n - 1) ix_is_stretch [.p (.tup [.tup [.int f, .int g], .tup [.int f, .int g], .tup []]), .p (.int q), .p (.int s)] = .ok (.p (.bl true)) none := by
    intro q hq
    have s0 : 0 ≤ s ∧ s < 3 := by
      rcases h with ⟨rfl, _⟩ | ⟨rfl, _⟩ | ⟨rfl, _⟩ <;> omega
    have i1 := c_is_index wf (n - 1 - 1) (by omega) 3 q (by omega) (by omega)
    have i2 := c_is_index wf (n - 1 - 1) (by omega) (2 + 1) s (by omega) (by omega)
    rw [← RW_eq, RW_callN fn_is_stretch rfl (by omega)]
    unfold bd_is_stretch
    rcases hq with rfl | rfl
    · simp_arith! [i1, i2]
      exact ⟨rfl, rfl⟩
    · simp_arith! [i1, i2]
      exact ⟨rfl, rfl⟩
  rw [← RW_eq, RW_callN fn_is_entry_of rfl (by omega)]
  unfold bd_is_entry_of
  rcases hp with rfl | rfl
  · simp_arith! [plP_eq, enP_eq, es 0 (.inl rfl), ed]
    rcases h with ⟨rfl, h1⟩ | ⟨rfl, h1, h2⟩ | ⟨rfl, h1⟩
    · simp_arith! []
      rw [ed, decide_eq_true h1]
      exact ⟨rfl, rfl⟩
    · simp_arith! [Int.reduceSub]
      refine condDF (by omega) ?_
      simp_arith! []
      rw [ed, decide_eq_true h2]
      exact ⟨rfl, rfl⟩
    · simp_arith! [Int.reduceSub]
      refine condDF (by omega) ?_
      simp_arith! []
      exact ⟨rfl, rfl⟩
  · simp_arith! [plP_eq, enP_eq, es 1 (.inr rfl), ed]
    rcases h with ⟨rfl, h1⟩ | ⟨rfl, h1, h2⟩ | ⟨rfl, h1⟩
    · simp_arith! []
      rw [ed, decide_eq_true h1]
      exact ⟨rfl, rfl⟩
    · simp_arith! [Int.reduceSub]
      refine condDF (by omega) ?_
      simp_arith! []
      rw [ed, decide_eq_true h2]
      exact ⟨rfl, rfl⟩
    · simp_arith! [Int.reduceSub]
      refine condDF (by omega) ?_
      simp_arith! []
      exact ⟨rfl, rfl⟩
theorem c_entry2 (wf n : Nat) (hn : 5 ≤ n) (f g a : Int) : callN fnT globT wf n ix_is_entry_of [.p (plP f g), .p (enP 2 0 a)] = .ok (.p (.bl true)) none := by
  have es : callN fnT globT wf (n - 1) ix_is_stretch [.p (.tup [.tup [.int f, .int g], .tup [.int f, .int g], .tup []]), .p (.int 2), .p (.int 0)] = .ok (.p (.bl true)) none := by
    have i1 := c_is_index wf (n - 1 - 1) (by omega) 3 2 (by omega) (by omega)
    have i2 := c_is_index wf (n - 1 - 1) (by omega) (0 + 1) 0 (by omega) (by omega)
    rw [← RW_eq, RW_callN fn_is_stretch rfl (by omega)]
    unfold bd_is_stretch
    simp_arith! [i1, i2]
    exact ⟨rfl, rfl⟩
  rw [← RW_eq, RW_callN fn_is_entry_of rfl (by omega)]
  unfold bd_is_entry_of
  simp_arith! [plP_eq, enP_eq, es]
  exact ⟨rfl, rfl⟩
def bkP (f g : Int) (es : List P) : P := .tup [plP f g, .tup es, .tup []]
theorem bkP_eq (f g : Int) (es : List P) : bkP f g es = .tup [plP f g, .tup es, .tup []] := rfl
theorem c_check_book (wf n : Nat) (hn : 7 ≤ n) (f g : Int) (h : f + 2 ≤ g) (es : List P) (hl : es.length ≤ 1000) (he : ∀ e ∈ es, callN fnT globT wf (n - 2) ix_is_entry_of [.p (plP f g), .p e] = .ok (.p (.bl true)) none) : callN fnT globT wf n ix_check_book [.p (bkP f g es)] = .ok (.p .non) none := by
  have eb : callN fnT globT wf (n - 1) ix_is_book [.p (bkP f g es)] = .ok (.p (.bl true)) none := by
    rw [← RW_eq, RW_callN fn_is_book rfl (by omega)]
    unfold bd_is_book
    simp_arith! [bkP_eq, c_is_places wf (n - 1 - 1) (by omega) f g h]
    refine CW_map (fun _ => .p (.bl true)) (by omega) ?_ ?_
    · intro e hm
      have q := he e hm
      rw [show n - 2 = n - 1 - 1 by omega] at q
      simp_arith! [q]
      exact ⟨rfl, rfl⟩
    simp_arith! [all_true]
    refine CW_map (fun _ => .p (.bl true)) (by simp) ?_ ?_
    · intro e hm
      cases hm
    simp_arith! []
    exact ⟨rfl, rfl⟩
  rw [← RW_eq, RW_callN fn_check_book rfl (by omega)]
  unfold bd_check_book
  simp_arith! [eb]
  exact ⟨rfl, rfl⟩
def gle (day : Int) : P → Bool
  | .int t => decide (t ≤ day)
  | _ => false
/-- how many of both turns have been by then -/
def cn (f g day : Int) : Int := (([P.int f, P.int g].filter (gle day)).length : Int)
theorem cn_eq (f g day : Int) (h : f + 2 ≤ g) : (cn f g day = 0 ∧ day < f) ∨ (cn f g day = 1 ∧ f ≤ day ∧ day < g) ∨ (cn f g day = 2 ∧ g ≤ day) := by
  unfold cn
  rw [List.filter_cons, List.filter_cons]
  by_cases h1 : f ≤ day
  · by_cases h2 : g ≤ day
    · right; right
      simp [gle, h1, h2]
    · right; left
      simp [gle, h1, h2]
      omega
  · left
    have h2 : ¬ g ≤ day := by omega
    simp [gle, h1, h2]
    omega
theorem cutA (x y z : P) : cutP [x, y, z] none (some 0) = [] := rfl
theorem cutB (x y z : P) : cutP [x, y, z] none (some 1) = [x] := rfl
theorem cutC (x y z : P) : cutP [x, y, z] none (some 2) = [x, y] := rfl
/-- the first mark of a place -/
def mkN (f g p day : Int) : Int := if p = 0 then cn f g day else if p = 1 then 3 + cn f g day else 6
theorem c_mark_in (wf n : Nat) (hn : 2 ≤ n) (f g p day : Int) (hp : p = 0 ∨ p = 1 ∨ p = 2) : callN fnT globT wf n ix_mark_in [.p (plP f g), .p (.int p), .p (.int day)] = .ok (.p (.tup [.int (mkN f g p day), .int (1440 * day)])) none := by
  have nz : ∀ (s : Int) (q k : Int) (hq : (q = 0 ∧ k = 0) ∨ (q = 1 ∧ k = 3) ∨ (q = 2 ∧ k = 6)), callN fnT globT wf (n - 1) ix_nought_in [.p (.tup [.tup [.int f, .int g], .tup [.int f, .int g], .tup []]), .p (.int q), .p (.int s)] = .ok (.p (.int (k + s))) none := by
    intro s q k hq
    rw [← RW_eq, RW_callN fn_nought_in rfl (by omega)]
    unfold bd_nought_in
    rcases hq with ⟨rfl, rfl⟩ | ⟨rfl, rfl⟩ | ⟨rfl, rfl⟩
    · simp_arith! [cutA]
      refine CW_map (fun _ => .p (.int 3)) (by simp) ?_ ?_
      · intro e hm
        cases hm
      simp_arith! []
      exact ⟨rfl, rfl⟩
    · simp_arith! [cutB]
      refine CW_map (fun _ => .p (.int 3)) (by simp) ?_ ?_
      · intro e hm
        rw [List.mem_singleton.mp hm]
        simp_arith! []
        exact ⟨rfl, rfl⟩
      simp_arith! []
      exact ⟨rfl, rfl⟩
    · simp_arith! [cutC]
      refine CW_map (fun _ => .p (.int 3)) (by simp) ?_ ?_
      · intro e hm
        simp only [List.mem_cons, List.not_mem_nil, or_false] at hm
        rcases hm with rfl | rfl
        · simp_arith! []
          exact ⟨rfl, rfl⟩
        · simp_arith! []
          exact ⟨rfl, rfl⟩
      simp_arith! []
      exact ⟨rfl, rfl⟩
  rw [← RW_eq, RW_callN fn_mark_in rfl (by omega)]
  unfold bd_mark_in
  have cmp : ∀ (K : List D → Pl.Env → Prop) (p : Int), K (([P.int f, P.int g].filter (gle day)).map fun x => D.p x) [some (.p (.tup [.tup [.int f, .int g], .tup [.int f, .int g], .tup []])), some (.p (.int p)), some (.p (.int day)), none, none] → CW fnT globT (callN fnT globT wf (n - 1)) (.var 4) (.v 4) [4] [.cmp .LtE (.var 4) (.var 2)] [P.int f, P.int g] [some (.p (.tup [.tup [.int f, .int g], .tup [.int f, .int g], .tup []])), some (.p (.int p)), some (.p (.int day)), none, none] [] K := by
    intro K p hK
    refine CW_pure (fun x => .p x) (gle day) (by simp) ?_ hK
    intro x hx
    have hi : ∃ t : Int, x = .int t := by
      simp only [List.mem_cons, List.not_mem_nil, or_false] at hx
      rcases hx with rfl | rfl <;> exact ⟨_, rfl⟩
    obtain ⟨t, rfl⟩ := hi
    simp_arith! []
    refine ⟨rfl, ?_⟩
    refine condD (fun h0 => ?_) (fun h0 => ?_)
    · simp_arith! []
      exact ⟨rfl, rfl⟩
    · simp_arith! []
      exact rfl
  rcases hp with rfl | rfl | rfl
  · simp_arith! [plP_eq]
    refine cmp _ _ ?_
    have q := nz (cn f g day) 0 0 (.inl ⟨rfl, rfl⟩)
    generalize hxs : [P.int f, P.int g].filter (gle day) = xs
    have hc : (xs.length : Int) = cn f g day := by rw [← hxs]; rfl
    simp_arith! [hc, q]
    rw [Int.zero_add]
    exact ⟨rfl, rfl⟩
  · simp_arith! [plP_eq]
    refine cmp _ _ ?_
    have q := nz (cn f g day) 1 3 (.inr (.inl ⟨rfl, rfl⟩))
    generalize hxs : [P.int f, P.int g].filter (gle day) = xs
    have hc : (xs.length : Int) = cn f g day := by rw [← hxs]; rfl
    simp_arith! [hc, q]
    exact ⟨rfl, rfl⟩
  · simp_arith! [plP_eq]
    refine CW_pure (fun x => .p x) (fun _ => true) (by simp) (fun x hx => by cases hx) ?_
    have q := nz 0 2 6 (.inr (.inr ⟨rfl, rfl⟩))
    simp_arith! [List.filter_nil, q]
    exact ⟨rfl, rfl⟩

end Lw

set_option Elab.async false
set_option linter.all false
set_option autoImplicit false
set_option maxRecDepth 100000
set_option maxHeartbeats 4000000
namespace Lw
open PySem L2 Pl
local macro_rules
  | `(tactic| trivial) => `(tactic| first | omega | ((with_reducible apply Pl.mulOk_l); first | decide | omega) | ((with_reducible apply Pl.mulOk_r); first | decide | omega) | ((with_reducible apply Pl.divOk_s) <;> omega) | ((with_reducible apply Pl.divOk_w) <;> omega) | ((with_reducible apply Pl.powOk_s) <;> omega) | ((with_reducible apply Pl.CompOk.mk); with_unfolding_all exact rfl) | ((with_reducible apply Pl.KeepOk.mk); with_unfolding_all exact rfl) | ((with_reducible apply Pl.mulSOk_s) <;> first | omega | decide) | with_reducible decide | with_reducible rfl | (simp only [List.length_cons, List.length_nil, List.length_append, List.length_map, List.length_take, List.length_drop]; omega) | assumption)
local macro_rules
  | `(tactic| simp_arith [$ls,*]) => `(tactic| simp (disch := trivial) only [↓Pl.w_some, ↓Pl.w_none, ↓Pl.w_frzp, ↓Pl.w_frzl, ↓Pl.w_fzL0, ↓Pl.w_fzL1, ↓Pl.w_fzL2, ↓Pl.w_flp, ↓Pl.w_fll, ↓Pl.w_flnil, ↓Pl.w_flcons, ↓Pl.w_fzLm, ↓Pl.w_flmap, ↓Pl.w_get0, ↓Pl.w_getS, ↓Pl.w_getP0, ↓Pl.w_getPS, ↓Pl.w_set0, ↓Pl.w_setS, ↓Pl.w_wipe0, ↓Pl.w_wipe1, ↓Pl.w_condT, ↓Pl.w_condF, ↓Pl.w_condN, ↓Pl.w_tyb, ↓Pl.w_inti, ↓Pl.w_itl, ↓Pl.w_itt, ↓Pl.w_its, ↓Pl.w_ll, ↓Pl.w_bindv, ↓Pl.w_bindt, ↓Pl.w_bindl, ↓Pl.w_binds0, ↓Pl.w_binds1, ↓Pl.w_lit, ↓Pl.w_var, ↓Pl.w_glob, ↓Pl.o_var, ↓Pl.r_var, ↓Pl.o_lit, ↓Pl.r_lit, ↓Pl.o_glob, ↓Pl.r_glob, ↓Pl.o_bin, ↓Pl.r_bin, ↓Pl.o_neg, ↓Pl.r_neg, ↓Pl.o_not, ↓Pl.r_not, ↓Pl.o_cmp, ↓Pl.r_cmp, ↓Pl.o_chain, ↓Pl.r_chain, ↓Pl.o_and, ↓Pl.r_and, ↓Pl.o_or, ↓Pl.r_or, ↓Pl.o_ife, ↓Pl.r_ife, ↓Pl.o_tup, ↓Pl.r_tup, ↓Pl.o_lst, ↓Pl.r_lst, ↓Pl.o_idx, ↓Pl.r_idx, ↓Pl.o_idx2, ↓Pl.r_idx2, ↓Pl.o_slc, ↓Pl.r_slc, ↓Pl.o_call, ↓Pl.r_call, ↓Pl.o_bi, ↓Pl.r_bi, ↓Pl.o_isi, ↓Pl.r_isi, ↓Pl.o_mkx, ↓Pl.r_mkx, ↓Pl.o_comp, ↓Pl.r_comp, ↓Pl.o_rng1, ↓Pl.r_rng1, ↓Pl.o_rng2, ↓Pl.r_rng2, ↓Pl.o_enum, ↓Pl.r_enum, ↓Pl.o_zip, ↓Pl.r_zip, ↓Pl.o_rng3, ↓Pl.r_rng3, ↓Pl.o_view, ↓Pl.r_view, ↓Pl.o_cnt, ↓Pl.r_cnt, ↓Pl.o_dnil, ↓Pl.r_dnil, ↓Pl.o_keys, ↓Pl.r_keys, ↓Pl.w_bin, ↓Pl.w_cmp, ↓Pl.tv_var, ↓Pl.iv_var, ↓Pl.tv_lit, ↓Pl.iv_lit, ↓Pl.tv_glob, ↓Pl.iv_glob, ↓Pl.iv_bin, ↓Pl.tv_chain, ↓Pl.iv_ife, ↓Pl.iv_tup, ↓Pl.iv_lst, ↓Pl.tv_idx, ↓Pl.iv_idx, ↓Pl.tv_idx2, ↓Pl.iv_idx2, ↓Pl.tv_slc, ↓Pl.iv_slc, ↓Pl.tv_call, ↓Pl.iv_call, ↓Pl.tv_isi, ↓Pl.tv_mkx, ↓Pl.iv_comp, ↓Pl.tv_bi, ↓Pl.iv_bi, ↓Pl.t_cmpW, ↓Pl.w_neg, ↓Pl.w_not, ↓Pl.t_notW, ↓Pl.t_and1W, ↓Pl.t_andW, ↓Pl.t_or1W, ↓Pl.t_orW, ↓Pl.w_and1, ↓Pl.w_and, ↓Pl.w_or1, ↓Pl.w_or, ↓Pl.w_chain, ↓Pl.w_ife, ↓Pl.s_nil, ↓Pl.s_cons, ↓Pl.w_tup, ↓Pl.w_lst, ↓Pl.w_idx, ↓Pl.w_pp, ↓Pl.w_atl, ↓Pl.w_atv, ↓Pl.w_idp, ↓Pl.w_idl, ↓Pl.w_idx2, ↓Pl.p_idx2P, ↓Pl.w_oin, ↓Pl.w_ois, ↓Pl.w_slc, ↓Pl.w_call, ↓Pl.w_callF, ↓Pl.w_callM, ↓Pl.w_callM_call, ↓Pl.w_callM_lst, ↓Pl.w_callM_bin, ↓Pl.w_callM_slc, ↓Pl.w_callM_bi, ↓Pl.w_callM_comp, ↓Pl.w_callM_ife, ↓Pl.w_callM_idx, ↓Pl.a_pos0, ↓Pl.a_pos1, ↓Pl.a_pos2, ↓Pl.a_pos3, ↓Pl.a_pos4, ↓Pl.a_pos5, ↓Pl.a_pos6, ↓Pl.a_pos7, ↓Pl.a_pos8, ↓Pl.a_pos9, ↓Pl.w_RWok, ↓Pl.w_RWexc, ↓Pl.w_bi1, ↓Pl.w_bi2, ↓Pl.w_isi, ↓Pl.w_mkx, ↓Pl.w_strs, ↓Pl.w_getO0, ↓Pl.w_getOS, ↓Pl.w_back0, ↓Pl.w_back1, ↓Pl.w_comp, ↓Pl.w_compT, ↓Pl.iv_rng1, ↓Pl.iv_rng2, ↓Pl.iv_rng3, ↓Pl.w_frzd, ↓Pl.w_dd, ↓Pl.w_keyi, ↓Pl.w_keys_, ↓Pl.w_dnil, ↓Pl.w_keys, ↓Pl.w_view0, ↓Pl.w_viewN, ↓Pl.w_viewS, ↓Pl.t_view, ↓Pl.w_view, ↓Pl.w_flI, ↓Pl.w_flB, ↓Pl.w_flS, ↓Pl.w_flN, ↓Pl.w_lstl, ↓Pl.w_cnt, ↓Pl.iv_enum, ↓Pl.w_zipl, ↓Pl.w_zipt, ↓Pl.iv_zip, ↓Pl.q_nx, ↓Pl.q_rt, ↓Pl.q_bk, ↓Pl.q_ct, ↓Pl.q_ex, ↓Pl.b_nilW, ↓Pl.b_asg, ↓Pl.b_asgt, ↓Pl.w_par0, ↓Pl.w_par1, ↓Pl.b_par, ↓Pl.b_asgL, ↓Pl.b_set, ↓Pl.b_set2, ↓Pl.p_set2P, ↓Pl.b_dset, ↓Pl.b_aug, ↓Pl.b_app, ↓Pl.b_expr, ↓Pl.b_ife, ↓Pl.b_for, ↓Pl.b_while, ↓Pl.b_retW, ↓Pl.b_retV, ↓Pl.b_raise, ↓Pl.b_raiseF, ↓Pl.b_pass, ↓Pl.b_brk, ↓Pl.b_cont, ↓Pl.b_frz, ↓Pl.b_try, ↓Pl.y_nx, ↓Pl.y_rt, ↓Pl.y_bk, ↓Pl.y_ct, ↓Pl.y_keep, ↓Pl.f_nxF, ↓Pl.f_rtF, ↓Pl.f_exF, ↓Pl.f_nxT, ↓Pl.f_rtT, ↓Pl.w_init0, ↓Pl.w_initN, ↓Pl.w_initS, ↓Pl.l_nx, ↓Pl.l_ct, ↓Pl.l_bk, ↓Pl.l_rt, ↓Pl.l_ex, ↓Pl.c_t0, ↓Pl.c_t1, ↓Pl.p_Add, ↓Pl.p_Sub, ↓Pl.p_Mul, ↓Pl.p_Div, ↓Pl.p_Mod, ↓Pl.p_Pow0, ↓Pl.p_Pow1, ↓Pl.p_Pow2, ↓Pl.p_Pow3, ↓Pl.p_Pow4, ↓Pl.p_Pow5, ↓Pl.p_Pow6, ↓Pl.p_Pow7, ↓Pl.p_Pow8, ↓Pl.p_Pow9, ↓Pl.p_Pow10, ↓Pl.p_Pow11, ↓Pl.p_Pow12, ↓Pl.p_Pow13, ↓Pl.p_Pow14, ↓Pl.p_Pow15, ↓Pl.p_Pow16, ↓Pl.p_Pow17, ↓Pl.p_Pow18, ↓Pl.p_Pow19, ↓Pl.p_Pow20, ↓Pl.p_Pow21, ↓Pl.p_Pow22, ↓Pl.p_Pow23, ↓Pl.p_Pow24, ↓Pl.p_Pow25, ↓Pl.p_Pow26, ↓Pl.p_Pow27, ↓Pl.p_Pow28, ↓Pl.p_Pow29, ↓Pl.p_Pow30, ↓Pl.p_Pow31, ↓Pl.p_Pow32, ↓Pl.p_Pow33, ↓Pl.p_Pow34, ↓Pl.p_Pow35, ↓Pl.p_Pow36, ↓Pl.p_Pow37, ↓Pl.p_Pow38, ↓Pl.p_Pow39, ↓Pl.p_Pow40, ↓Pl.p_Pow41, ↓Pl.p_Pow42, ↓Pl.p_Pow43, ↓Pl.p_Pow44, ↓Pl.p_Pow45, ↓Pl.p_Pow46, ↓Pl.p_Pow47, ↓Pl.p_Pow48, ↓Pl.p_Pow49, ↓Pl.p_Pow50, ↓Pl.p_Pow51, ↓Pl.p_Pow52, ↓Pl.p_Pow53, ↓Pl.p_Pow54, ↓Pl.p_Pow55, ↓Pl.p_Pow56, ↓Pl.p_Pow57, ↓Pl.p_Pow58, ↓Pl.p_Pow59, ↓Pl.p_Pow60, ↓Pl.p_Pow61, ↓Pl.p_Pow62, ↓Pl.p_Pow63, ↓Pl.p_Pow64, ↓Pl.p_Pow65, ↓Pl.p_MulS, ↓Pl.p_AddL, ↓Pl.p_AddT, ↓Pl.p_Lt, ↓Pl.p_LtE, ↓Pl.p_Gt, ↓Pl.p_GtE, ↓Pl.p_Eq, ↓Pl.p_NotEq, ↓Pl.p_IsN, ↓Pl.p_IsNotN, ↓Pl.p_Is_bl, ↓Pl.p_IsNot_bl, ↓Pl.p_Is_int, ↓Pl.p_IsNot_int, ↓Pl.p_Is_str, ↓Pl.p_IsNot_str, ↓Pl.p_Is_tup, ↓Pl.p_IsNot_tup, ↓Pl.p_Is_lst, ↓Pl.p_IsNot_lst, ↓Pl.p_Is_exc, ↓Pl.p_IsNot_exc, ↓Pl.p_Is_scr, ↓Pl.p_IsNot_scr, ↓Pl.p_IsB, ↓Pl.p_IsNotB, ↓Pl.p_idx_tup, ↓Pl.p_idx_lst, ↓Pl.p_idx_scr, ↓Pl.p_at0, ↓Pl.p_at1, ↓Pl.p_at2, ↓Pl.p_at3, ↓Pl.p_at4, ↓Pl.p_at5, ↓Pl.p_at6, ↓Pl.p_at7, ↓Pl.p_at8, ↓Pl.p_set0, ↓Pl.p_set1, ↓Pl.p_set2, ↓Pl.p_set3, ↓Pl.p_set4, ↓Pl.p_set5, ↓Pl.p_lenL, ↓Pl.p_lenT, ↓Pl.p_lenS, ↓Pl.p_abs, ↓Pl.p_max2, ↓Pl.p_min2, ↓Pl.p_int, ↓Pl.p_intb, ↓Pl.p_divmod, ↓Pl.p_listL, ↓Pl.p_listT, ↓Pl.p_tupL, ↓Pl.p_tupT, ↓Pl.p_augA, ↓Pl.p_augS, ↓Pl.p_isi_int_non, ↓Pl.p_isi_bool_non, ↓Pl.p_isi_str_non, ↓Pl.p_isi_list_non, ↓Pl.p_isi_tuple_non, ↓Pl.p_isi_lt_non, ↓Pl.p_isi_int_bl, ↓Pl.p_isi_bool_bl, ↓Pl.p_isi_str_bl, ↓Pl.p_isi_list_bl, ↓Pl.p_isi_tuple_bl, ↓Pl.p_isi_lt_bl, ↓Pl.p_isi_int_int, ↓Pl.p_isi_bool_int, ↓Pl.p_isi_str_int, ↓Pl.p_isi_list_int, ↓Pl.p_isi_tuple_int, ↓Pl.p_isi_lt_int, ↓Pl.p_isi_int_str, ↓Pl.p_isi_bool_str, ↓Pl.p_isi_str_str, ↓Pl.p_isi_list_str, ↓Pl.p_isi_tuple_str, ↓Pl.p_isi_lt_str, ↓Pl.p_isi_int_tup, ↓Pl.p_isi_bool_tup, ↓Pl.p_isi_str_tup, ↓Pl.p_isi_list_tup, ↓Pl.p_isi_tuple_tup, ↓Pl.p_isi_lt_tup, ↓Pl.p_isi_int_lst, ↓Pl.p_isi_bool_lst, ↓Pl.p_isi_str_lst, ↓Pl.p_isi_list_lst, ↓Pl.p_isi_tuple_lst, ↓Pl.p_isi_lt_lst, ↓Pl.p_isi_int_scr, ↓Pl.p_isi_bool_scr, ↓Pl.p_isi_str_scr, ↓Pl.p_isi_list_scr, ↓Pl.p_isi_tuple_scr, ↓Pl.p_isi_lt_scr, ↓Pl.p_isi_int_exc, ↓Pl.p_isi_bool_exc, ↓Pl.p_isi_str_exc, ↓Pl.p_isi_list_exc, ↓Pl.p_isi_tuple_exc, ↓Pl.p_isi_lt_exc, ↓Pl.p_sliceL, ↓Pl.p_sliceT, ↓Pl.z_l0, ↓Pl.z_l1, ↓Pl.z_l2, ↓Pl.z_l3, ↓Pl.z_l4, ↓Pl.z_l5, ↓Pl.z_l6, ↓Pl.z_l7, ↓Pl.z_l8, ↓Pl.z_l9, ↓Pl.z_l10, ↓Pl.z_l11, ↓Pl.z_l12, ↓Pl.z_szT, ↓Pl.z_inR, ↓Pl.z_inR2, ↓Pl.z_lenlt, Pl.w_some, Pl.w_none, Pl.w_frzp, Pl.w_frzl, Pl.w_fzL0, Pl.w_fzL1, Pl.w_fzL2, Pl.w_flp, Pl.w_fll, Pl.w_flnil, Pl.w_flcons, Pl.w_fzLm, Pl.w_flmap, Pl.w_get0, Pl.w_getS, Pl.w_getP0, Pl.w_getPS, Pl.w_set0, Pl.w_setS, Pl.w_wipe0, Pl.w_wipe1, Pl.w_condT, Pl.w_condF, Pl.w_condN, Pl.w_tyb, Pl.w_inti, Pl.w_itl, Pl.w_itt, Pl.w_its, Pl.w_ll, Pl.w_bindv, Pl.w_bindt, Pl.w_bindl, Pl.w_binds0, Pl.w_binds1, Pl.w_lit, Pl.w_var, Pl.w_glob, Pl.o_var, Pl.r_var, Pl.o_lit, Pl.r_lit, Pl.o_glob, Pl.r_glob, Pl.o_bin, Pl.r_bin, Pl.o_neg, Pl.r_neg, Pl.o_not, Pl.r_not, Pl.o_cmp, Pl.r_cmp, Pl.o_chain, Pl.r_chain, Pl.o_and, Pl.r_and, Pl.o_or, Pl.r_or, Pl.o_ife, Pl.r_ife, Pl.o_tup, Pl.r_tup, Pl.o_lst, Pl.r_lst, Pl.o_idx, Pl.r_idx, Pl.o_idx2, Pl.r_idx2, Pl.o_slc, Pl.r_slc, Pl.o_call, Pl.r_call, Pl.o_bi, Pl.r_bi, Pl.o_isi, Pl.r_isi, Pl.o_mkx, Pl.r_mkx, Pl.o_comp, Pl.r_comp, Pl.o_rng1, Pl.r_rng1, Pl.o_rng2, Pl.r_rng2, Pl.o_enum, Pl.r_enum, Pl.o_zip, Pl.r_zip, Pl.o_rng3, Pl.r_rng3, Pl.o_view, Pl.r_view, Pl.o_cnt, Pl.r_cnt, Pl.o_dnil, Pl.r_dnil, Pl.o_keys, Pl.r_keys, Pl.w_bin, Pl.w_cmp, Pl.tv_var, Pl.iv_var, Pl.tv_lit, Pl.iv_lit, Pl.tv_glob, Pl.iv_glob, Pl.iv_bin, Pl.tv_chain, Pl.iv_ife, Pl.iv_tup, Pl.iv_lst, Pl.tv_idx, Pl.iv_idx, Pl.tv_idx2, Pl.iv_idx2, Pl.tv_slc, Pl.iv_slc, Pl.tv_call, Pl.iv_call, Pl.tv_isi, Pl.tv_mkx, Pl.iv_comp, Pl.tv_bi, Pl.iv_bi, Pl.t_cmpW, Pl.w_neg, Pl.w_not, Pl.t_notW, Pl.t_and1W, Pl.t_andW, Pl.t_or1W, Pl.t_orW, Pl.w_and1, Pl.w_and, Pl.w_or1, Pl.w_or, Pl.w_chain, Pl.w_ife, Pl.s_nil, Pl.s_cons, Pl.w_tup, Pl.w_lst, Pl.w_idx, Pl.w_pp, Pl.w_atl, Pl.w_atv, Pl.w_idp, Pl.w_idl, Pl.w_idx2, Pl.p_idx2P, Pl.w_oin, Pl.w_ois, Pl.w_slc, Pl.w_call, Pl.w_callF, Pl.w_callM, Pl.w_callM_call, Pl.w_callM_lst, Pl.w_callM_bin, Pl.w_callM_slc, Pl.w_callM_bi, Pl.w_callM_comp, Pl.w_callM_ife, Pl.w_callM_idx, Pl.a_pos0, Pl.a_pos1, Pl.a_pos2, Pl.a_pos3, Pl.a_pos4, Pl.a_pos5, Pl.a_pos6, Pl.a_pos7, Pl.a_pos8, Pl.a_pos9, Pl.w_RWok, Pl.w_RWexc, Pl.w_pz0, Pl.w_pzp, Pl.w_pzl, Pl.w_fz0, Pl.w_fzp, Pl.w_fzl, Pl.w_fzmap, Pl.w_bi1, Pl.w_bi2, Pl.w_isi, Pl.w_mkx, Pl.w_strs, Pl.w_getO0, Pl.w_getOS, Pl.w_back0, Pl.w_back1, Pl.w_comp, Pl.w_compT, Pl.iv_rng1, Pl.iv_rng2, Pl.iv_rng3, Pl.w_frzd, Pl.w_dd, Pl.w_keyi, Pl.w_keys_, Pl.w_dnil, Pl.w_keys, Pl.w_view0, Pl.w_viewN, Pl.w_viewS, Pl.t_view, Pl.w_view, Pl.w_flI, Pl.w_flB, Pl.w_flS, Pl.w_flN, Pl.w_lstl, Pl.w_cnt, Pl.iv_enum, Pl.w_zipl, Pl.w_zipt, Pl.iv_zip, Pl.q_nx, Pl.q_rt, Pl.q_bk, Pl.q_ct, Pl.q_ex, Pl.b_nilW, Pl.b_asg, Pl.b_asgt, Pl.w_par0, Pl.w_par1, Pl.b_par, Pl.b_asgL, Pl.b_set, Pl.b_set2, Pl.p_set2P, Pl.b_dset, Pl.b_aug, Pl.b_app, Pl.b_expr, Pl.b_ife, Pl.b_for, Pl.b_while, Pl.b_retW, Pl.b_retV, Pl.b_raise, Pl.b_raiseF, Pl.b_pass, Pl.b_brk, Pl.b_cont, Pl.b_frz, Pl.b_try, Pl.y_nx, Pl.y_rt, Pl.y_bk, Pl.y_ct, Pl.y_keep, Pl.f_nxF, Pl.f_rtF, Pl.f_exF, Pl.f_nxT, Pl.f_rtT, Pl.w_init0, Pl.w_initN, Pl.w_initS, Pl.l_nx, Pl.l_ct, Pl.l_bk, Pl.l_rt, Pl.l_ex, Pl.c_t0, Pl.c_t1, Pl.p_Add, Pl.p_Sub, Pl.p_Mul, Pl.p_Div, Pl.p_Mod, Pl.p_Pow0, Pl.p_Pow1, Pl.p_Pow2, Pl.p_Pow3, Pl.p_Pow4, Pl.p_Pow5, Pl.p_Pow6, Pl.p_Pow7, Pl.p_Pow8, Pl.p_Pow9, Pl.p_Pow10, Pl.p_Pow11, Pl.p_Pow12, Pl.p_Pow13, Pl.p_Pow14, Pl.p_Pow15, Pl.p_Pow16, Pl.p_Pow17, Pl.p_Pow18, Pl.p_Pow19, Pl.p_Pow20, Pl.p_Pow21, Pl.p_Pow22, Pl.p_Pow23, Pl.p_Pow24, Pl.p_Pow25, Pl.p_Pow26, Pl.p_Pow27, Pl.p_Pow28, Pl.p_Pow29, Pl.p_Pow30, Pl.p_Pow31, Pl.p_Pow32, Pl.p_Pow33, Pl.p_Pow34, Pl.p_Pow35, Pl.p_Pow36, Pl.p_Pow37, Pl.p_Pow38, Pl.p_Pow39, Pl.p_Pow40, Pl.p_Pow41, Pl.p_Pow42, Pl.p_Pow43, Pl.p_Pow44, Pl.p_Pow45, Pl.p_Pow46, Pl.p_Pow47, Pl.p_Pow48, Pl.p_Pow49, Pl.p_Pow50, Pl.p_Pow51, Pl.p_Pow52, Pl.p_Pow53, Pl.p_Pow54, Pl.p_Pow55, Pl.p_Pow56, Pl.p_Pow57, Pl.p_Pow58, Pl.p_Pow59, Pl.p_Pow60, Pl.p_Pow61, Pl.p_Pow62, Pl.p_Pow63, Pl.p_Pow64, Pl.p_Pow65, Pl.p_MulS, Pl.p_AddL, Pl.p_AddT, Pl.p_Lt, Pl.p_LtE, Pl.p_Gt, Pl.p_GtE, Pl.p_Eq, Pl.p_NotEq, Pl.p_IsN, Pl.p_IsNotN, Pl.p_Is_bl, Pl.p_IsNot_bl, Pl.p_Is_int, Pl.p_IsNot_int, Pl.p_Is_str, Pl.p_IsNot_str, Pl.p_Is_tup, Pl.p_IsNot_tup, Pl.p_Is_lst, Pl.p_IsNot_lst, Pl.p_Is_exc, Pl.p_IsNot_exc, Pl.p_Is_scr, Pl.p_IsNot_scr, Pl.p_IsB, Pl.p_IsNotB, Pl.p_idx_tup, Pl.p_idx_lst, Pl.p_idx_scr, Pl.p_at0, Pl.p_at1, Pl.p_at2, Pl.p_at3, Pl.p_at4, Pl.p_at5, Pl.p_at6, Pl.p_at7, Pl.p_at8, Pl.p_set0, Pl.p_set1, Pl.p_set2, Pl.p_set3, Pl.p_set4, Pl.p_set5, Pl.p_lenL, Pl.p_lenT, Pl.p_lenS, Pl.p_abs, Pl.p_max2, Pl.p_min2, Pl.p_int, Pl.p_intb, Pl.p_divmod, Pl.p_listL, Pl.p_listT, Pl.p_tupL, Pl.p_tupT, Pl.p_augA, Pl.p_augS, Pl.p_isi_int_non, Pl.p_isi_bool_non, Pl.p_isi_str_non, Pl.p_isi_list_non, Pl.p_isi_tuple_non, Pl.p_isi_lt_non, Pl.p_isi_int_bl, Pl.p_isi_bool_bl, Pl.p_isi_str_bl, Pl.p_isi_list_bl, Pl.p_isi_tuple_bl, Pl.p_isi_lt_bl, Pl.p_isi_int_int, Pl.p_isi_bool_int, Pl.p_isi_str_int, Pl.p_isi_list_int, Pl.p_isi_tuple_int, Pl.p_isi_lt_int, Pl.p_isi_int_str, Pl.p_isi_bool_str, Pl.p_isi_str_str, Pl.p_isi_list_str, Pl.p_isi_tuple_str, Pl.p_isi_lt_str, Pl.p_isi_int_tup, Pl.p_isi_bool_tup, Pl.p_isi_str_tup, Pl.p_isi_list_tup, Pl.p_isi_tuple_tup, Pl.p_isi_lt_tup, Pl.p_isi_int_lst, Pl.p_isi_bool_lst, Pl.p_isi_str_lst, Pl.p_isi_list_lst, Pl.p_isi_tuple_lst, Pl.p_isi_lt_lst, Pl.p_isi_int_scr, Pl.p_isi_bool_scr, Pl.p_isi_str_scr, Pl.p_isi_list_scr, Pl.p_isi_tuple_scr, Pl.p_isi_lt_scr, Pl.p_isi_int_exc, Pl.p_isi_bool_exc, Pl.p_isi_str_exc, Pl.p_isi_list_exc, Pl.p_isi_tuple_exc, Pl.p_isi_lt_exc, Pl.p_sliceL, Pl.p_sliceT, Pl.z_l0, Pl.z_l1, Pl.z_l2, Pl.z_l3, Pl.z_l4, Pl.z_l5, Pl.z_l6, Pl.z_l7, Pl.z_l8, Pl.z_l9, Pl.z_l10, Pl.z_l11, Pl.z_l12, Pl.z_map0, Pl.z_map1, Pl.z_app0, Pl.z_app1, Pl.z_rep0, Pl.z_repS, Pl.z_gt, Pl.z_szT, Pl.z_inR, Pl.z_inR2, Pl.z_lenlt, ↓Pl.w_fzLmp, Pl.w_fzLmp, ↓Pl.w_flmp, Pl.w_flmp, Pl.frzL_mp, ↓Pl.p_all, Pl.p_all, ↓Pl.p_atInt, Pl.p_atInt, decide_true, decide_false, Bool.not_true, Bool.not_false, Int.reduceEq, Int.reduceLT, Int.reduceLE, ↓Pl.p_EqNN, Pl.p_EqNN, ↓Pl.p_NeNN, Pl.p_NeNN, ↓Pl.p_EqNI, Pl.p_EqNI, ↓Pl.p_EqIN, Pl.p_EqIN, ↓Pl.p_NeNI, Pl.p_NeNI, ↓Pl.p_NeIN, Pl.p_NeIN, ↓Pl.p_EqB, Pl.p_EqB, ↓Pl.p_NeB, Pl.p_NeB, Lw.fn_is_integer, Lw.fn_is_from, Lw.fn_is_between, Lw.fn_is_index, Lw.fn_is_ascending, Lw.fn_check_index, Lw.fn_are_turns, Lw.fn_is_places, Lw.fn_is_stretch, Lw.fn_is_entry_of, Lw.fn_are_ends, Lw.fn_is_tie_of, Lw.fn_is_book, Lw.fn_check_book, Lw.fn_check_day, Lw.fn_nought_in, Lw.fn_mark_in, Lw.fn_check_term, Lw.fn_check_holidays, Lw.fn_date_of, Lw.fn_number_of_date, Lw.fn_month_length, Lw.fn_weekday_of, Lw.fn_is_open_day, Lw.fn_is_open, Lw.fn_workdays_ahead, Lw.fn_workday_at, Lw.fn_lost_workdays, Lw.fn_open_days, Lw.fn_open_day_behind, Lw.fn_due_of, Lw.fn_due_day, Lw.fn_due_mark_in, Lw.fn_due_mark, Lw.fn__law_purse, Lw.fn__law_take, Lw.fn__law_pick, Lw.fn__law_match, Lw.fn__law_long, Lw.fn__law_counted, Lw.fn__law_drawn_day, Lw.fn__law_drawn_holidays, Lw.fn__law_is_work, Lw.fn__law_walked, Lw.fn__law_month_on, Lw.fn__law_due, Lw.fn__law_mark_right, Lw.fn_law, Lw.gl_MINUTES, Lw.gl_APART, Lw.gl_LOOK, Lw.gl_DAYS, Lw.gl_OPEN, Lw.gl_MONTHS, Lw.gl_END, Lw.gl_TERM_WORDS, Lw.gl_MONTH_DAYS, Lw.gl_FIRST_MONDAY, Lw.gl_FIRST_MARCH, Lw.gl_CYCLE, Lw.kw_is_open_0_1_0, Lw.kw_open_days_0_2_1_0, Lw.kw_due_day_0_2_1_0, Lw.kw_due_mark_0_3_2_1_0, $ls,*])
local macro_rules
  | `(tactic| simp_arith! [$ls,*]) => `(tactic| simp_arith [$ls,*])
local macro_rules
  | `(tactic| simp_arith! [$ls,*]) => `(tactic| simp_arith [c_is_integer, c_is_from, c_check_day, c_weekday_of, c_is_open_day, c_workdays_ahead, c_workday_at, c_long, c_is_work, p_all0, p_all1, p_all2, p_all3, p_sum0, p_sum1, p_sum2, $ls,*])
open Pu (wa dayN lost isO opn Beh nxt FD Ln DayAt longF)
theorem w_due_of {wf n : Nat} {w : Str} {d k x : Int} {hs : List Int} {K : D → Option D → Prop} {X : Nat → List P → Prop} (hn : 5 ≤ n) (hwd : Word w) (hk : 0 ≤ k) (h : Hol hs) (e : callN fnT globT wf (n + 1) ix_due_day [.p (.int d), .p (.tup [.str w, .int k]), .p (.tup (hs.map .int))] = .ok (.p (.int x)) none) (hK : ∀ o, K (.p (.int x)) o) : RW (callN fnT globT wf n ix_due_of [.p (.int d), .p (.tup [.str w, .int k]), .p (.tup (hs.map .int))]) K X := by
  have R : RW (callN fnT globT wf (n + 1) ix_due_day [.p (.int d), .p (.tup [.str w, .int k]), .p (.tup (hs.map .int))]) (fun d1 o1 => Ans d1 o1 (.p (.int x)) none) (fun _ _ => False) := by
    rw [RW_eq]
    exact e
  rw [RW_callN fn_due_day rfl (by omega)] at R
  revert R
  unfold bd_due_day
  have e0 : n + 1 - 1 = n := by omega
  rw [e0]
  simp_arith! [c_check_term wf n (by omega) w hwd k hk, c_check_holidays wf n (by omega) hs h]
  intro R
  refine RW_mono R (fun a o q => ?_) (fun c fs q => ?_)
  · revert q
    simp_arith! []
    intro q
    rw [show a = .p (.int x) from q.1]
    exact hK o
  · revert q
    simp_arith! []
    exact False.elim
theorem c_due_mark (wf n : Nat) (hn : 9 ≤ n) (f g : Int) (hfg : f + 2 ≤ g) (es : List P) (hl : es.length ≤ 1000) (he : ∀ e ∈ es, callN fnT globT wf (n - 1 - 2) ix_is_entry_of [.p (plP f g), .p e] = .ok (.p (.bl true)) none) (i : Nat) (p s d r : Int) (hi : es[i]? = some (enP p s (1440 * d + r))) (hp : p = 0 ∨ p = 1 ∨ p = 2) (hr0 : 0 ≤ r) (hr1 : r < 1440) (w : Str) (hwd : Word w) (k x : Int) (hk : 0 ≤ k) (hs : List Int) (h : Hol hs) (e : ∀ m, 8 ≤ m → callN fnT globT wf m ix_due_day [.p (.int d), .p (.tup [.str w, .int k]), .p (.tup (hs.map .int))] = .ok (.p (.int x)) none) : callN fnT globT wf n ix_due_mark [.p (bkP f g es), .p (.int (i : Int)), .p (.tup [.str w, .int k]), .p (.tup (hs.map .int))] = .ok (.p (.tup [.int (mkN f g p (x + 1)), .int (1440 * (x + 1))])) none := by
  obtain ⟨hil, hie⟩ := List.getElem?_eq_some_iff.mp hi
  have ed : (1440 * d + r) / 1440 = d := by omega
  have em : callN fnT globT wf (n - 1) ix_due_mark_in [.p (plP f g), .p (enP p s (1440 * d + r)), .p (.tup [.str w, .int k]), .p (.tup (hs.map .int))] = .ok (.p (.tup [.int (mkN f g p (x + 1)), .int (1440 * (x + 1))])) none := by
    rw [← RW_eq, RW_callN fn_due_mark_in rfl (by omega)]
    unfold bd_due_mark_in
    simp_arith! [enP_eq, ed]
    refine w_due_of (by omega) hwd hk h (e _ (by omega)) fun o => ?_
    simp_arith! [c_mark_in wf (n - 1 - 1) (by omega) f g p (x + 1) hp]
    exact ⟨rfl, rfl⟩
  have q := p_atN es i hil
  rw [hie] at q
  rw [← RW_eq, RW_callN fn_due_mark rfl (by omega)]
  unfold bd_due_mark
  simp_arith! [c_check_book wf (n - 1) (by omega) f g hfg es hl he]
  simp_arith! [bkP_eq, c_check_index wf (n - 1) (by omega) (es.length : Int) (i : Int) (by omega) (by omega), c_check_term wf (n - 1) (by omega) w hwd k hk, c_check_holidays wf (n - 1) (by omega) hs h, q, em]
  exact ⟨rfl, rfl⟩

end Lw

set_option Elab.async false
set_option linter.all false
set_option autoImplicit false
set_option maxRecDepth 100000
set_option maxHeartbeats 4000000
namespace Lw
open PySem L2 Pl
local macro_rules
  | `(tactic| trivial) => `(tactic| first | omega | ((with_reducible apply Pl.mulOk_l); first | decide | omega) | ((with_reducible apply Pl.mulOk_r); first | decide | omega) | ((with_reducible apply Pl.divOk_s) <;> omega) | ((with_reducible apply Pl.divOk_w) <;> omega) | ((with_reducible apply Pl.powOk_s) <;> omega) | ((with_reducible apply Pl.CompOk.mk); with_unfolding_all exact rfl) | ((with_reducible apply Pl.KeepOk.mk); with_unfolding_all exact rfl) | ((with_reducible apply Pl.mulSOk_s) <;> first | omega | decide) | with_reducible decide | with_reducible rfl | (simp only [List.length_cons, List.length_nil, List.length_append, List.length_map, List.length_take, List.length_drop]; omega) | assumption)
local macro_rules
  | `(tactic| simp_arith [$ls,*]) => `(tactic| simp (disch := trivial) only [↓Pl.w_some, ↓Pl.w_none, ↓Pl.w_frzp, ↓Pl.w_frzl, ↓Pl.w_fzL0, ↓Pl.w_fzL1, ↓Pl.w_fzL2, ↓Pl.w_flp, ↓Pl.w_fll, ↓Pl.w_flnil, ↓Pl.w_flcons, ↓Pl.w_fzLm, ↓Pl.w_flmap, ↓Pl.w_get0, ↓Pl.w_getS, ↓Pl.w_getP0, ↓Pl.w_getPS, ↓Pl.w_set0, ↓Pl.w_setS, ↓Pl.w_wipe0, ↓Pl.w_wipe1, ↓Pl.w_condT, ↓Pl.w_condF, ↓Pl.w_condN, ↓Pl.w_tyb, ↓Pl.w_inti, ↓Pl.w_itl, ↓Pl.w_itt, ↓Pl.w_its, ↓Pl.w_ll, ↓Pl.w_bindv, ↓Pl.w_bindt, ↓Pl.w_bindl, ↓Pl.w_binds0, ↓Pl.w_binds1, ↓Pl.w_lit, ↓Pl.w_var, ↓Pl.w_glob, ↓Pl.o_var, ↓Pl.r_var, ↓Pl.o_lit, ↓Pl.r_lit, ↓Pl.o_glob, ↓Pl.r_glob, ↓Pl.o_bin, ↓Pl.r_bin, ↓Pl.o_neg, ↓Pl.r_neg, ↓Pl.o_not, ↓Pl.r_not, ↓Pl.o_cmp, ↓Pl.r_cmp, ↓Pl.o_chain, ↓Pl.r_chain, ↓Pl.o_and, ↓Pl.r_and, ↓Pl.o_or, ↓Pl.r_or, ↓Pl.o_ife, ↓Pl.r_ife, ↓Pl.o_tup, ↓Pl.r_tup, ↓Pl.o_lst, ↓Pl.r_lst, ↓Pl.o_idx, ↓Pl.r_idx, ↓Pl.o_idx2, ↓Pl.r_idx2, ↓Pl.o_slc, ↓Pl.r_slc, ↓Pl.o_call, ↓Pl.r_call, ↓Pl.o_bi, ↓Pl.r_bi, ↓Pl.o_isi, ↓Pl.r_isi, ↓Pl.o_mkx, ↓Pl.r_mkx, ↓Pl.o_comp, ↓Pl.r_comp, ↓Pl.o_rng1, ↓Pl.r_rng1, ↓Pl.o_rng2, ↓Pl.r_rng2, ↓Pl.o_enum, ↓Pl.r_enum, ↓Pl.o_zip, ↓Pl.r_zip, ↓Pl.o_rng3, ↓Pl.r_rng3, ↓Pl.o_view, ↓Pl.r_view, ↓Pl.o_cnt, ↓Pl.r_cnt, ↓Pl.o_dnil, ↓Pl.r_dnil, ↓Pl.o_keys, ↓Pl.r_keys, ↓Pl.w_bin, ↓Pl.w_cmp, ↓Pl.tv_var, ↓Pl.iv_var, ↓Pl.tv_lit, ↓Pl.iv_lit, ↓Pl.tv_glob, ↓Pl.iv_glob, ↓Pl.iv_bin, ↓Pl.tv_chain, ↓Pl.iv_ife, ↓Pl.iv_tup, ↓Pl.iv_lst, ↓Pl.tv_idx, ↓Pl.iv_idx, ↓Pl.tv_idx2, ↓Pl.iv_idx2, ↓Pl.tv_slc, ↓Pl.iv_slc, ↓Pl.tv_call, ↓Pl.iv_call, ↓Pl.tv_isi, ↓Pl.tv_mkx, ↓Pl.iv_comp, ↓Pl.tv_bi, ↓Pl.iv_bi, ↓Pl.t_cmpW, ↓Pl.w_neg, ↓Pl.w_not, ↓Pl.t_notW, ↓Pl.t_and1W, ↓Pl.t_andW, ↓Pl.t_or1W, ↓Pl.t_orW, ↓Pl.w_and1, ↓Pl.w_and, ↓Pl.w_or1, ↓Pl.w_or, ↓Pl.w_chain, ↓Pl.w_ife, ↓Pl.s_nil, ↓Pl.s_cons, ↓Pl.w_tup, ↓Pl.w_lst, ↓Pl.w_idx, ↓Pl.w_pp, ↓Pl.w_atl, ↓Pl.w_atv, ↓Pl.w_idp, ↓Pl.w_idl, ↓Pl.w_idx2, ↓Pl.p_idx2P, ↓Pl.w_oin, ↓Pl.w_ois, ↓Pl.w_slc, ↓Pl.w_call, ↓Pl.w_callF, ↓Pl.w_callM, ↓Pl.w_callM_call, ↓Pl.w_callM_lst, ↓Pl.w_callM_bin, ↓Pl.w_callM_slc, ↓Pl.w_callM_bi, ↓Pl.w_callM_comp, ↓Pl.w_callM_ife, ↓Pl.w_callM_idx, ↓Pl.a_pos0, ↓Pl.a_pos1, ↓Pl.a_pos2, ↓Pl.a_pos3, ↓Pl.a_pos4, ↓Pl.a_pos5, ↓Pl.a_pos6, ↓Pl.a_pos7, ↓Pl.a_pos8, ↓Pl.a_pos9, ↓Pl.w_RWok, ↓Pl.w_RWexc, ↓Pl.w_bi1, ↓Pl.w_bi2, ↓Pl.w_isi, ↓Pl.w_mkx, ↓Pl.w_strs, ↓Pl.w_getO0, ↓Pl.w_getOS, ↓Pl.w_back0, ↓Pl.w_back1, ↓Pl.w_comp, ↓Pl.w_compT, ↓Pl.iv_rng1, ↓Pl.iv_rng2, ↓Pl.iv_rng3, ↓Pl.w_frzd, ↓Pl.w_dd, ↓Pl.w_keyi, ↓Pl.w_keys_, ↓Pl.w_dnil, ↓Pl.w_keys, ↓Pl.w_view0, ↓Pl.w_viewN, ↓Pl.w_viewS, ↓Pl.t_view, ↓Pl.w_view, ↓Pl.w_flI, ↓Pl.w_flB, ↓Pl.w_flS, ↓Pl.w_flN, ↓Pl.w_lstl, ↓Pl.w_cnt, ↓Pl.iv_enum, ↓Pl.w_zipl, ↓Pl.w_zipt, ↓Pl.iv_zip, ↓Pl.q_nx, ↓Pl.q_rt, ↓Pl.q_bk, ↓Pl.q_ct, ↓Pl.q_ex, ↓Pl.b_nilW, ↓Pl.b_asg, ↓Pl.b_asgt, ↓Pl.w_par0, ↓Pl.w_par1, ↓Pl.b_par, ↓Pl.b_asgL, ↓Pl.b_set, ↓Pl.b_set2, ↓Pl.p_set2P, ↓Pl.b_dset, ↓Pl.b_aug, ↓Pl.b_app, ↓Pl.b_expr, ↓Pl.b_ife, ↓Pl.b_for, ↓Pl.b_while, ↓Pl.b_retW, ↓Pl.b_retV, ↓Pl.b_raise, ↓Pl.b_raiseF, ↓Pl.b_pass, ↓Pl.b_brk, ↓Pl.b_cont, ↓Pl.b_frz, ↓Pl.b_try, ↓Pl.y_nx, ↓Pl.y_rt, ↓Pl.y_bk, ↓Pl.y_ct, ↓Pl.y_keep, ↓Pl.f_nxF, ↓Pl.f_rtF, ↓Pl.f_exF, ↓Pl.f_nxT, ↓Pl.f_rtT, ↓Pl.w_init0, ↓Pl.w_initN, ↓Pl.w_initS, ↓Pl.l_nx, ↓Pl.l_ct, ↓Pl.l_bk, ↓Pl.l_rt, ↓Pl.l_ex, ↓Pl.c_t0, ↓Pl.c_t1, ↓Pl.p_Add, ↓Pl.p_Sub, ↓Pl.p_Mul, ↓Pl.p_Div, ↓Pl.p_Mod, ↓Pl.p_Pow0, ↓Pl.p_Pow1, ↓Pl.p_Pow2, ↓Pl.p_Pow3, ↓Pl.p_Pow4, ↓Pl.p_Pow5, ↓Pl.p_Pow6, ↓Pl.p_Pow7, ↓Pl.p_Pow8, ↓Pl.p_Pow9, ↓Pl.p_Pow10, ↓Pl.p_Pow11, ↓Pl.p_Pow12, ↓Pl.p_Pow13, ↓Pl.p_Pow14, ↓Pl.p_Pow15, ↓Pl.p_Pow16, ↓Pl.p_Pow17, ↓Pl.p_Pow18, ↓Pl.p_Pow19, ↓Pl.p_Pow20, ↓Pl.p_Pow21, ↓Pl.p_Pow22, ↓Pl.p_Pow23, ↓Pl.p_Pow24, ↓Pl.p_Pow25, ↓Pl.p_Pow26, ↓Pl.p_Pow27, ↓Pl.p_Pow28, ↓Pl.p_Pow29, ↓Pl.p_Pow30, ↓Pl.p_Pow31, ↓Pl.p_Pow32, ↓Pl.p_Pow33, ↓Pl.p_Pow34, ↓Pl.p_Pow35, ↓Pl.p_Pow36, ↓Pl.p_Pow37, ↓Pl.p_Pow38, ↓Pl.p_Pow39, ↓Pl.p_Pow40, ↓Pl.p_Pow41, ↓Pl.p_Pow42, ↓Pl.p_Pow43, ↓Pl.p_Pow44, ↓Pl.p_Pow45, ↓Pl.p_Pow46, ↓Pl.p_Pow47, ↓Pl.p_Pow48, ↓Pl.p_Pow49, ↓Pl.p_Pow50, ↓Pl.p_Pow51, ↓Pl.p_Pow52, ↓Pl.p_Pow53, ↓Pl.p_Pow54, ↓Pl.p_Pow55, ↓Pl.p_Pow56, ↓Pl.p_Pow57, ↓Pl.p_Pow58, ↓Pl.p_Pow59, ↓Pl.p_Pow60, ↓Pl.p_Pow61, ↓Pl.p_Pow62, ↓Pl.p_Pow63, ↓Pl.p_Pow64, ↓Pl.p_Pow65, ↓Pl.p_MulS, ↓Pl.p_AddL, ↓Pl.p_AddT, ↓Pl.p_Lt, ↓Pl.p_LtE, ↓Pl.p_Gt, ↓Pl.p_GtE, ↓Pl.p_Eq, ↓Pl.p_NotEq, ↓Pl.p_IsN, ↓Pl.p_IsNotN, ↓Pl.p_Is_bl, ↓Pl.p_IsNot_bl, ↓Pl.p_Is_int, ↓Pl.p_IsNot_int, ↓Pl.p_Is_str, ↓Pl.p_IsNot_str, ↓Pl.p_Is_tup, ↓Pl.p_IsNot_tup, ↓Pl.p_Is_lst, ↓Pl.p_IsNot_lst, ↓Pl.p_Is_exc, ↓Pl.p_IsNot_exc, ↓Pl.p_Is_scr, ↓Pl.p_IsNot_scr, ↓Pl.p_IsB, ↓Pl.p_IsNotB, ↓Pl.p_idx_tup, ↓Pl.p_idx_lst, ↓Pl.p_idx_scr, ↓Pl.p_at0, ↓Pl.p_at1, ↓Pl.p_at2, ↓Pl.p_at3, ↓Pl.p_at4, ↓Pl.p_at5, ↓Pl.p_at6, ↓Pl.p_at7, ↓Pl.p_at8, ↓Pl.p_set0, ↓Pl.p_set1, ↓Pl.p_set2, ↓Pl.p_set3, ↓Pl.p_set4, ↓Pl.p_set5, ↓Pl.p_lenL, ↓Pl.p_lenT, ↓Pl.p_lenS, ↓Pl.p_abs, ↓Pl.p_max2, ↓Pl.p_min2, ↓Pl.p_int, ↓Pl.p_intb, ↓Pl.p_divmod, ↓Pl.p_listL, ↓Pl.p_listT, ↓Pl.p_tupL, ↓Pl.p_tupT, ↓Pl.p_augA, ↓Pl.p_augS, ↓Pl.p_isi_int_non, ↓Pl.p_isi_bool_non, ↓Pl.p_isi_str_non, ↓Pl.p_isi_list_non, ↓Pl.p_isi_tuple_non, ↓Pl.p_isi_lt_non, ↓Pl.p_isi_int_bl, ↓Pl.p_isi_bool_bl, ↓Pl.p_isi_str_bl, ↓Pl.p_isi_list_bl, ↓Pl.p_isi_tuple_bl, ↓Pl.p_isi_lt_bl, ↓Pl.p_isi_int_int, ↓Pl.p_isi_bool_int, ↓Pl.p_isi_str_int, ↓Pl.p_isi_list_int, ↓Pl.p_isi_tuple_int, ↓Pl.p_isi_lt_int, ↓Pl.p_isi_int_str, ↓Pl.p_isi_bool_str, ↓Pl.p_isi_str_str, ↓Pl.p_isi_list_str, ↓Pl.p_isi_tuple_str, ↓Pl.p_isi_lt_str, ↓Pl.p_isi_int_tup, ↓Pl.p_isi_bool_tup, ↓Pl.p_isi_str_tup, ↓Pl.p_isi_list_tup, ↓Pl.p_isi_tuple_tup, ↓Pl.p_isi_lt_tup, ↓Pl.p_isi_int_lst, ↓Pl.p_isi_bool_lst, ↓Pl.p_isi_str_lst, ↓Pl.p_isi_list_lst, ↓Pl.p_isi_tuple_lst, ↓Pl.p_isi_lt_lst, ↓Pl.p_isi_int_scr, ↓Pl.p_isi_bool_scr, ↓Pl.p_isi_str_scr, ↓Pl.p_isi_list_scr, ↓Pl.p_isi_tuple_scr, ↓Pl.p_isi_lt_scr, ↓Pl.p_isi_int_exc, ↓Pl.p_isi_bool_exc, ↓Pl.p_isi_str_exc, ↓Pl.p_isi_list_exc, ↓Pl.p_isi_tuple_exc, ↓Pl.p_isi_lt_exc, ↓Pl.p_sliceL, ↓Pl.p_sliceT, ↓Pl.z_l0, ↓Pl.z_l1, ↓Pl.z_l2, ↓Pl.z_l3, ↓Pl.z_l4, ↓Pl.z_l5, ↓Pl.z_l6, ↓Pl.z_l7, ↓Pl.z_l8, ↓Pl.z_l9, ↓Pl.z_l10, ↓Pl.z_l11, ↓Pl.z_l12, ↓Pl.z_szT, ↓Pl.z_inR, ↓Pl.z_inR2, ↓Pl.z_lenlt, Pl.w_some, Pl.w_none, Pl.w_frzp, Pl.w_frzl, Pl.w_fzL0, Pl.w_fzL1, Pl.w_fzL2, Pl.w_flp, Pl.w_fll, Pl.w_flnil, Pl.w_flcons, Pl.w_fzLm, Pl.w_flmap, Pl.w_get0, Pl.w_getS, Pl.w_getP0, Pl.w_getPS, Pl.w_set0, Pl.w_setS, Pl.w_wipe0, Pl.w_wipe1, Pl.w_condT, Pl.w_condF, Pl.w_condN, Pl.w_tyb, Pl.w_inti, Pl.w_itl, Pl.w_itt, Pl.w_its, Pl.w_ll, Pl.w_bindv, Pl.w_bindt, Pl.w_bindl, Pl.w_binds0, Pl.w_binds1, Pl.w_lit, Pl.w_var, Pl.w_glob, Pl.o_var, Pl.r_var, Pl.o_lit, Pl.r_lit, Pl.o_glob, Pl.r_glob, Pl.o_bin, Pl.r_bin, Pl.o_neg, Pl.r_neg, Pl.o_not, Pl.r_not, Pl.o_cmp, Pl.r_cmp, Pl.o_chain, Pl.r_chain, Pl.o_and, Pl.r_and, Pl.o_or, Pl.r_or, Pl.o_ife, Pl.r_ife, Pl.o_tup, Pl.r_tup, Pl.o_lst, Pl.r_lst, Pl.o_idx, Pl.r_idx, Pl.o_idx2, Pl.r_idx2, Pl.o_slc, Pl.r_slc, Pl.o_call, Pl.r_call, Pl.o_bi, Pl.r_bi, Pl.o_isi, Pl.r_isi, Pl.o_mkx, Pl.r_mkx, Pl.o_comp, Pl.r_comp, Pl.o_rng1, Pl.r_rng1, Pl.o_rng2, Pl.r_rng2, Pl.o_enum, Pl.r_enum, Pl.o_zip, Pl.r_zip, Pl.o_rng3, Pl.r_rng3, Pl.o_view, Pl.r_view, Pl.o_cnt, Pl.r_cnt, Pl.o_dnil, Pl.r_dnil, Pl.o_keys, Pl.r_keys, Pl.w_bin, Pl.w_cmp, Pl.tv_var, Pl.iv_var, Pl.tv_lit, Pl.iv_lit, Pl.tv_glob, Pl.iv_glob, Pl.iv_bin, Pl.tv_chain, Pl.iv_ife, Pl.iv_tup, Pl.iv_lst, Pl.tv_idx, Pl.iv_idx, Pl.tv_idx2, Pl.iv_idx2, Pl.tv_slc, Pl.iv_slc, Pl.tv_call, Pl.iv_call, Pl.tv_isi, Pl.tv_mkx, Pl.iv_comp, Pl.tv_bi, Pl.iv_bi, Pl.t_cmpW, Pl.w_neg, Pl.w_not, Pl.t_notW, Pl.t_and1W, Pl.t_andW, Pl.t_or1W, Pl.t_orW, Pl.w_and1, Pl.w_and, Pl.w_or1, Pl.w_or, Pl.w_chain, Pl.w_ife, Pl.s_nil, Pl.s_cons, Pl.w_tup, Pl.w_lst, Pl.w_idx, Pl.w_pp, Pl.w_atl, Pl.w_atv, Pl.w_idp, Pl.w_idl, Pl.w_idx2, Pl.p_idx2P, Pl.w_oin, Pl.w_ois, Pl.w_slc, Pl.w_call, Pl.w_callF, Pl.w_callM, Pl.w_callM_call, Pl.w_callM_lst, Pl.w_callM_bin, Pl.w_callM_slc, Pl.w_callM_bi, Pl.w_callM_comp, Pl.w_callM_ife, Pl.w_callM_idx, Pl.a_pos0, Pl.a_pos1, Pl.a_pos2, Pl.a_pos3, Pl.a_pos4, Pl.a_pos5, Pl.a_pos6, Pl.a_pos7, Pl.a_pos8, Pl.a_pos9, Pl.w_RWok, Pl.w_RWexc, Pl.w_pz0, Pl.w_pzp, Pl.w_pzl, Pl.w_fz0, Pl.w_fzp, Pl.w_fzl, Pl.w_fzmap, Pl.w_bi1, Pl.w_bi2, Pl.w_isi, Pl.w_mkx, Pl.w_strs, Pl.w_getO0, Pl.w_getOS, Pl.w_back0, Pl.w_back1, Pl.w_comp, Pl.w_compT, Pl.iv_rng1, Pl.iv_rng2, Pl.iv_rng3, Pl.w_frzd, Pl.w_dd, Pl.w_keyi, Pl.w_keys_, Pl.w_dnil, Pl.w_keys, Pl.w_view0, Pl.w_viewN, Pl.w_viewS, Pl.t_view, Pl.w_view, Pl.w_flI, Pl.w_flB, Pl.w_flS, Pl.w_flN, Pl.w_lstl, Pl.w_cnt, Pl.iv_enum, Pl.w_zipl, Pl.w_zipt, Pl.iv_zip, Pl.q_nx, Pl.q_rt, Pl.q_bk, Pl.q_ct, Pl.q_ex, Pl.b_nilW, Pl.b_asg, Pl.b_asgt, Pl.w_par0, Pl.w_par1, Pl.b_par, Pl.b_asgL, Pl.b_set, Pl.b_set2, Pl.p_set2P, Pl.b_dset, Pl.b_aug, Pl.b_app, Pl.b_expr, Pl.b_ife, Pl.b_for, Pl.b_while, Pl.b_retW, Pl.b_retV, Pl.b_raise, Pl.b_raiseF, Pl.b_pass, Pl.b_brk, Pl.b_cont, Pl.b_frz, Pl.b_try, Pl.y_nx, Pl.y_rt, Pl.y_bk, Pl.y_ct, Pl.y_keep, Pl.f_nxF, Pl.f_rtF, Pl.f_exF, Pl.f_nxT, Pl.f_rtT, Pl.w_init0, Pl.w_initN, Pl.w_initS, Pl.l_nx, Pl.l_ct, Pl.l_bk, Pl.l_rt, Pl.l_ex, Pl.c_t0, Pl.c_t1, Pl.p_Add, Pl.p_Sub, Pl.p_Mul, Pl.p_Div, Pl.p_Mod, Pl.p_Pow0, Pl.p_Pow1, Pl.p_Pow2, Pl.p_Pow3, Pl.p_Pow4, Pl.p_Pow5, Pl.p_Pow6, Pl.p_Pow7, Pl.p_Pow8, Pl.p_Pow9, Pl.p_Pow10, Pl.p_Pow11, Pl.p_Pow12, Pl.p_Pow13, Pl.p_Pow14, Pl.p_Pow15, Pl.p_Pow16, Pl.p_Pow17, Pl.p_Pow18, Pl.p_Pow19, Pl.p_Pow20, Pl.p_Pow21, Pl.p_Pow22, Pl.p_Pow23, Pl.p_Pow24, Pl.p_Pow25, Pl.p_Pow26, Pl.p_Pow27, Pl.p_Pow28, Pl.p_Pow29, Pl.p_Pow30, Pl.p_Pow31, Pl.p_Pow32, Pl.p_Pow33, Pl.p_Pow34, Pl.p_Pow35, Pl.p_Pow36, Pl.p_Pow37, Pl.p_Pow38, Pl.p_Pow39, Pl.p_Pow40, Pl.p_Pow41, Pl.p_Pow42, Pl.p_Pow43, Pl.p_Pow44, Pl.p_Pow45, Pl.p_Pow46, Pl.p_Pow47, Pl.p_Pow48, Pl.p_Pow49, Pl.p_Pow50, Pl.p_Pow51, Pl.p_Pow52, Pl.p_Pow53, Pl.p_Pow54, Pl.p_Pow55, Pl.p_Pow56, Pl.p_Pow57, Pl.p_Pow58, Pl.p_Pow59, Pl.p_Pow60, Pl.p_Pow61, Pl.p_Pow62, Pl.p_Pow63, Pl.p_Pow64, Pl.p_Pow65, Pl.p_MulS, Pl.p_AddL, Pl.p_AddT, Pl.p_Lt, Pl.p_LtE, Pl.p_Gt, Pl.p_GtE, Pl.p_Eq, Pl.p_NotEq, Pl.p_IsN, Pl.p_IsNotN, Pl.p_Is_bl, Pl.p_IsNot_bl, Pl.p_Is_int, Pl.p_IsNot_int, Pl.p_Is_str, Pl.p_IsNot_str, Pl.p_Is_tup, Pl.p_IsNot_tup, Pl.p_Is_lst, Pl.p_IsNot_lst, Pl.p_Is_exc, Pl.p_IsNot_exc, Pl.p_Is_scr, Pl.p_IsNot_scr, Pl.p_IsB, Pl.p_IsNotB, Pl.p_idx_tup, Pl.p_idx_lst, Pl.p_idx_scr, Pl.p_at0, Pl.p_at1, Pl.p_at2, Pl.p_at3, Pl.p_at4, Pl.p_at5, Pl.p_at6, Pl.p_at7, Pl.p_at8, Pl.p_set0, Pl.p_set1, Pl.p_set2, Pl.p_set3, Pl.p_set4, Pl.p_set5, Pl.p_lenL, Pl.p_lenT, Pl.p_lenS, Pl.p_abs, Pl.p_max2, Pl.p_min2, Pl.p_int, Pl.p_intb, Pl.p_divmod, Pl.p_listL, Pl.p_listT, Pl.p_tupL, Pl.p_tupT, Pl.p_augA, Pl.p_augS, Pl.p_isi_int_non, Pl.p_isi_bool_non, Pl.p_isi_str_non, Pl.p_isi_list_non, Pl.p_isi_tuple_non, Pl.p_isi_lt_non, Pl.p_isi_int_bl, Pl.p_isi_bool_bl, Pl.p_isi_str_bl, Pl.p_isi_list_bl, Pl.p_isi_tuple_bl, Pl.p_isi_lt_bl, Pl.p_isi_int_int, Pl.p_isi_bool_int, Pl.p_isi_str_int, Pl.p_isi_list_int, Pl.p_isi_tuple_int, Pl.p_isi_lt_int, Pl.p_isi_int_str, Pl.p_isi_bool_str, Pl.p_isi_str_str, Pl.p_isi_list_str, Pl.p_isi_tuple_str, Pl.p_isi_lt_str, Pl.p_isi_int_tup, Pl.p_isi_bool_tup, Pl.p_isi_str_tup, Pl.p_isi_list_tup, Pl.p_isi_tuple_tup, Pl.p_isi_lt_tup, Pl.p_isi_int_lst, Pl.p_isi_bool_lst, Pl.p_isi_str_lst, Pl.p_isi_list_lst, Pl.p_isi_tuple_lst, Pl.p_isi_lt_lst, Pl.p_isi_int_scr, Pl.p_isi_bool_scr, Pl.p_isi_str_scr, Pl.p_isi_list_scr, Pl.p_isi_tuple_scr, Pl.p_isi_lt_scr, Pl.p_isi_int_exc, Pl.p_isi_bool_exc, Pl.p_isi_str_exc, Pl.p_isi_list_exc, Pl.p_isi_tuple_exc, Pl.p_isi_lt_exc, Pl.p_sliceL, Pl.p_sliceT, Pl.z_l0, Pl.z_l1, Pl.z_l2, Pl.z_l3, Pl.z_l4, Pl.z_l5, Pl.z_l6, Pl.z_l7, Pl.z_l8, Pl.z_l9, Pl.z_l10, Pl.z_l11, Pl.z_l12, Pl.z_map0, Pl.z_map1, Pl.z_app0, Pl.z_app1, Pl.z_rep0, Pl.z_repS, Pl.z_gt, Pl.z_szT, Pl.z_inR, Pl.z_inR2, Pl.z_lenlt, ↓Pl.w_fzLmp, Pl.w_fzLmp, ↓Pl.w_flmp, Pl.w_flmp, Pl.frzL_mp, ↓Pl.p_all, Pl.p_all, ↓Pl.p_atInt, Pl.p_atInt, decide_true, decide_false, Bool.not_true, Bool.not_false, Int.reduceEq, Int.reduceLT, Int.reduceLE, ↓Pl.p_EqNN, Pl.p_EqNN, ↓Pl.p_NeNN, Pl.p_NeNN, ↓Pl.p_EqNI, Pl.p_EqNI, ↓Pl.p_EqIN, Pl.p_EqIN, ↓Pl.p_NeNI, Pl.p_NeNI, ↓Pl.p_NeIN, Pl.p_NeIN, ↓Pl.p_EqB, Pl.p_EqB, ↓Pl.p_NeB, Pl.p_NeB, Lw.fn_is_integer, Lw.fn_is_from, Lw.fn_is_between, Lw.fn_is_index, Lw.fn_is_ascending, Lw.fn_check_index, Lw.fn_are_turns, Lw.fn_is_places, Lw.fn_is_stretch, Lw.fn_is_entry_of, Lw.fn_are_ends, Lw.fn_is_tie_of, Lw.fn_is_book, Lw.fn_check_book, Lw.fn_check_day, Lw.fn_nought_in, Lw.fn_mark_in, Lw.fn_check_term, Lw.fn_check_holidays, Lw.fn_date_of, Lw.fn_number_of_date, Lw.fn_month_length, Lw.fn_weekday_of, Lw.fn_is_open_day, Lw.fn_is_open, Lw.fn_workdays_ahead, Lw.fn_workday_at, Lw.fn_lost_workdays, Lw.fn_open_days, Lw.fn_open_day_behind, Lw.fn_due_of, Lw.fn_due_day, Lw.fn_due_mark_in, Lw.fn_due_mark, Lw.fn__law_purse, Lw.fn__law_take, Lw.fn__law_pick, Lw.fn__law_match, Lw.fn__law_long, Lw.fn__law_counted, Lw.fn__law_drawn_day, Lw.fn__law_drawn_holidays, Lw.fn__law_is_work, Lw.fn__law_walked, Lw.fn__law_month_on, Lw.fn__law_due, Lw.fn__law_mark_right, Lw.fn_law, Lw.gl_MINUTES, Lw.gl_APART, Lw.gl_LOOK, Lw.gl_DAYS, Lw.gl_OPEN, Lw.gl_MONTHS, Lw.gl_END, Lw.gl_TERM_WORDS, Lw.gl_MONTH_DAYS, Lw.gl_FIRST_MONDAY, Lw.gl_FIRST_MARCH, Lw.gl_CYCLE, Lw.kw_is_open_0_1_0, Lw.kw_open_days_0_2_1_0, Lw.kw_due_day_0_2_1_0, Lw.kw_due_mark_0_3_2_1_0, $ls,*])
local macro_rules
  | `(tactic| simp_arith! [$ls,*]) => `(tactic| simp_arith [$ls,*])
local macro_rules
  | `(tactic| simp_arith! [$ls,*]) => `(tactic| simp_arith [c_is_integer, c_is_from, c_check_day, c_weekday_of, c_is_open_day, c_workdays_ahead, c_workday_at, c_long, c_is_work, p_all0, p_all1, p_all2, p_all3, p_sum0, p_sum1, p_sum2, q_dd, q_od, q_md, q_ed, q_oo, q_mo, q_eo, q_me, q_ee, $ls,*])
open Pu (wa dayN lost isO opn Beh nxt FD Ln DayAt longF)
theorem DueO.uniq {hs : List Int} (nd : hs.Nodup) {d k x y : Int} (h1 : DueO hs d k x) (h2 : DueO hs d k y) : x = y := by
  rcases h1 with ⟨a, b, rfl⟩ | ⟨a, b⟩
  · rcases h2 with ⟨_, _, rfl⟩ | ⟨c, _⟩
    · rfl
    · exact absurd ⟨a, b⟩ c
  · rcases h2 with ⟨c, e, _⟩ | ⟨_, c⟩
    · exact absurd ⟨c, e⟩ a
    · exact b.uniq nd c
theorem day_inj {a m S m2 S2 : Int} (x : DayAt a m S) (y : DayAt a m2 S2) : m = m2 ∧ S = S2 := by
  have e := (Pu.date_at x).symm.trans (Pu.date_at y)
  injection e with e
  injection e with e1 e
  injection e with e2 e
  injection e with e3 e
  injection e1 with e1
  injection e2 with e2
  injection e3 with e3
  exact ⟨by omega, e3⟩
/-- one due day, however deep it is asked -/
theorem due_fix (wf : Nat) (hw : 200000 < wf) (w : Str) (hwd : Word w) (d k : Int) (hk : 0 ≤ k) (hk2 : k ≤ 10000) (hs : List Int) (h : Hol hs) : ∃ x : Int, ∀ n, 8 ≤ n → callN fnT globT wf n ix__law_due [.p (.int d), .p (.tup [.str w, .int k]), .p (.tup (hs.map .int))] = .ok (.p (.int x)) none ∧ callN fnT globT wf n ix_due_day [.p (.int d), .p (.tup [.str w, .int k]), .p (.tup (hs.map .int))] = .ok (.p (.int x)) none := by
  rcases hwd with rfl | rfl | rfl | rfl
  · refine ⟨d + k, fun n hn => ⟨?_, c_due_days wf n (by omega) d k hk hs h⟩⟩
    rw [← RW_eq, RW_callN fn__law_due rfl (by omega)]
    unfold bd__law_due
    simp_arith! []
    exact ⟨rfl, rfl⟩
  · obtain ⟨x, hx, _⟩ := c_due_open wf 8 (by omega) (by omega) d k hk hs h
    refine ⟨x, fun n hn => ?_⟩
    obtain ⟨y, hy, ey⟩ := c_due_open wf n (by omega) (by omega) d k hk hs h
    rw [hy.uniq h.nodup hx] at ey
    refine ⟨?_, ey⟩
    rw [← RW_eq, RW_callN fn__law_due rfl (by omega)]
    unfold bd__law_due
    simp_arith! [c_walked wf (n - 1) (by omega) hw d k x hk hk2 hs h hx]
    exact ⟨rfl, rfl⟩
  · obtain ⟨m, S, hd⟩ := Pu.day_ex d
    refine ⟨moF m S k, fun n hn => ⟨?_, c_due_months wf n (by omega) d k m S hk hd hs h⟩⟩
    obtain ⟨m2, S2, hd2, e⟩ := c_month_on wf (n - 1) (by omega) hw d k false hk hk2
    obtain ⟨rfl, rfl⟩ := day_inj hd hd2
    rw [← RW_eq, RW_callN fn__law_due rfl (by omega)]
    unfold bd__law_due
    simp_arith! [e]
    exact ⟨rfl, rfl⟩
  · obtain ⟨m, S, hd⟩ := Pu.day_ex d
    refine ⟨enF m k, fun n hn => ⟨?_, c_due_end wf n (by omega) d k m S hk hd hs h⟩⟩
    obtain ⟨m2, S2, hd2, e⟩ := c_month_on wf (n - 1) (by omega) hw d k true hk hk2
    obtain ⟨rfl, rfl⟩ := day_inj hd hd2
    rw [← RW_eq, RW_callN fn__law_due rfl (by omega)]
    unfold bd__law_due
    simp_arith! [e]
    exact ⟨rfl, rfl⟩
theorem c_match2 (wf n : Nat) (hn : 2 ≤ n) (a b : Int) : callN fnT globT wf n ix__law_match [.p (.tup [.int a, .int b]), .p (.tup [.int a, .int b])] = .ok (.p (.bl true)) none := c_match_tup wf n (by omega) [.int a, .int b] (by simp) fun x hx => by
  simp only [List.mem_cons, List.not_mem_nil, or_false] at hx
  rcases hx with rfl | rfl <;> exact c_match_int wf (n - 1) (by omega) _
/-- how many of both turns: in a comprehension of the law -/
theorem CW_cn {cf : Nat → List D → Ret} {f g day : Int} {cs : List Ex} {ρ : Pl.Env} {K : List D → Pl.Env → Prop} (hs : ∀ t : Int, bindW (.v 14) (.int t) ρ fun ρ1 => TCW fnT globT cf cs ρ1 fun b ρ2 => Is b (decide (t ≤ day)) ∧ condW b (VW fnT globT cf (.var 14) ρ2 (fun d ρ3 => Is d (.p (.int t)) ∧ wipeW ρ3 [14] fun ρ4 => Is ρ4 ρ) XF) (wipeW ρ2 [14] fun ρ4 => Is ρ4 ρ)) (he : K (([P.int f, P.int g].filter (gle day)).map fun x => D.p x) ρ) : CW fnT globT cf (.var 14) (.v 14) [14] cs [P.int f, P.int g] ρ [] K := by
  refine CW_pure (fun x => .p x) (gle day) (by simp) ?_ he
  intro x hx
  have hi : ∃ t : Int, x = .int t := by
    simp only [List.mem_cons, List.not_mem_nil, or_false] at hx
    rcases hx with rfl | rfl <;> exact ⟨_, rfl⟩
  obtain ⟨t, rfl⟩ := hi
  exact hs t

end Lw

set_option Elab.async false
set_option linter.all false
set_option autoImplicit false
set_option maxRecDepth 100000
set_option maxHeartbeats 4000000
namespace Lw
open PySem L2 Pl
local macro_rules
  | `(tactic| trivial) => `(tactic| first | omega | ((with_reducible apply Pl.mulOk_l); first | decide | omega) | ((with_reducible apply Pl.mulOk_r); first | decide | omega) | ((with_reducible apply Pl.divOk_s) <;> omega) | ((with_reducible apply Pl.divOk_w) <;> omega) | ((with_reducible apply Pl.powOk_s) <;> omega) | ((with_reducible apply Pl.CompOk.mk); with_unfolding_all exact rfl) | ((with_reducible apply Pl.KeepOk.mk); with_unfolding_all exact rfl) | ((with_reducible apply Pl.mulSOk_s) <;> first | omega | decide) | with_reducible decide | with_reducible rfl | (simp only [List.length_cons, List.length_nil, List.length_append, List.length_map, List.length_take, List.length_drop]; omega) | assumption)
local macro_rules
  | `(tactic| simp_arith [$ls,*]) => `(tactic| simp (disch := trivial) only [↓Pl.w_some, ↓Pl.w_none, ↓Pl.w_frzp, ↓Pl.w_frzl, ↓Pl.w_fzL0, ↓Pl.w_fzL1, ↓Pl.w_fzL2, ↓Pl.w_flp, ↓Pl.w_fll, ↓Pl.w_flnil, ↓Pl.w_flcons, ↓Pl.w_fzLm, ↓Pl.w_flmap, ↓Pl.w_get0, ↓Pl.w_getS, ↓Pl.w_getP0, ↓Pl.w_getPS, ↓Pl.w_set0, ↓Pl.w_setS, ↓Pl.w_wipe0, ↓Pl.w_wipe1, ↓Pl.w_condT, ↓Pl.w_condF, ↓Pl.w_condN, ↓Pl.w_tyb, ↓Pl.w_inti, ↓Pl.w_itl, ↓Pl.w_itt, ↓Pl.w_its, ↓Pl.w_ll, ↓Pl.w_bindv, ↓Pl.w_bindt, ↓Pl.w_bindl, ↓Pl.w_binds0, ↓Pl.w_binds1, ↓Pl.w_lit, ↓Pl.w_var, ↓Pl.w_glob, ↓Pl.o_var, ↓Pl.r_var, ↓Pl.o_lit, ↓Pl.r_lit, ↓Pl.o_glob, ↓Pl.r_glob, ↓Pl.o_bin, ↓Pl.r_bin, ↓Pl.o_neg, ↓Pl.r_neg, ↓Pl.o_not, ↓Pl.r_not, ↓Pl.o_cmp, ↓Pl.r_cmp, ↓Pl.o_chain, ↓Pl.r_chain, ↓Pl.o_and, ↓Pl.r_and, ↓Pl.o_or, ↓Pl.r_or, ↓Pl.o_ife, ↓Pl.r_ife, ↓Pl.o_tup, ↓Pl.r_tup, ↓Pl.o_lst, ↓Pl.r_lst, ↓Pl.o_idx, ↓Pl.r_idx, ↓Pl.o_idx2, ↓Pl.r_idx2, ↓Pl.o_slc, ↓Pl.r_slc, ↓Pl.o_call, ↓Pl.r_call, ↓Pl.o_bi, ↓Pl.r_bi, ↓Pl.o_isi, ↓Pl.r_isi, ↓Pl.o_mkx, ↓Pl.r_mkx, ↓Pl.o_comp, ↓Pl.r_comp, ↓Pl.o_rng1, ↓Pl.r_rng1, ↓Pl.o_rng2, ↓Pl.r_rng2, ↓Pl.o_enum, ↓Pl.r_enum, ↓Pl.o_zip, ↓Pl.r_zip, ↓Pl.o_rng3, ↓Pl.r_rng3, ↓Pl.o_view, ↓Pl.r_view, ↓Pl.o_cnt, ↓Pl.r_cnt, ↓Pl.o_dnil, ↓Pl.r_dnil, ↓Pl.o_keys, ↓Pl.r_keys, ↓Pl.w_bin, ↓Pl.w_cmp, ↓Pl.tv_var, ↓Pl.iv_var, ↓Pl.tv_lit, ↓Pl.iv_lit, ↓Pl.tv_glob, ↓Pl.iv_glob, ↓Pl.iv_bin, ↓Pl.tv_chain, ↓Pl.iv_ife, ↓Pl.iv_tup, ↓Pl.iv_lst, ↓Pl.tv_idx, ↓Pl.iv_idx, ↓Pl.tv_idx2, ↓Pl.iv_idx2, ↓Pl.tv_slc, ↓Pl.iv_slc, ↓Pl.tv_call, ↓Pl.iv_call, ↓Pl.tv_isi, ↓Pl.tv_mkx, ↓Pl.iv_comp, ↓Pl.tv_bi, ↓Pl.iv_bi, ↓Pl.t_cmpW, ↓Pl.w_neg, ↓Pl.w_not, ↓Pl.t_notW, ↓Pl.t_and1W, ↓Pl.t_andW, ↓Pl.t_or1W, ↓Pl.t_orW, ↓Pl.w_and1, ↓Pl.w_and, ↓Pl.w_or1, ↓Pl.w_or, ↓Pl.w_chain, ↓Pl.w_ife, ↓Pl.s_nil, ↓Pl.s_cons, ↓Pl.w_tup, ↓Pl.w_lst, ↓Pl.w_idx, ↓Pl.w_pp, ↓Pl.w_atl, ↓Pl.w_atv, ↓Pl.w_idp, ↓Pl.w_idl, ↓Pl.w_idx2, ↓Pl.p_idx2P, ↓Pl.w_oin, ↓Pl.w_ois, ↓Pl.w_slc, ↓Pl.w_call, ↓Pl.w_callF, ↓Pl.w_callM, ↓Pl.w_callM_call, ↓Pl.w_callM_lst, ↓Pl.w_callM_bin, ↓Pl.w_callM_slc, ↓Pl.w_callM_bi, ↓Pl.w_callM_comp, ↓Pl.w_callM_ife, ↓Pl.w_callM_idx, ↓Pl.a_pos0, ↓Pl.a_pos1, ↓Pl.a_pos2, ↓Pl.a_pos3, ↓Pl.a_pos4, ↓Pl.a_pos5, ↓Pl.a_pos6, ↓Pl.a_pos7, ↓Pl.a_pos8, ↓Pl.a_pos9, ↓Pl.w_RWok, ↓Pl.w_RWexc, ↓Pl.w_bi1, ↓Pl.w_bi2, ↓Pl.w_isi, ↓Pl.w_mkx, ↓Pl.w_strs, ↓Pl.w_getO0, ↓Pl.w_getOS, ↓Pl.w_back0, ↓Pl.w_back1, ↓Pl.w_comp, ↓Pl.w_compT, ↓Pl.iv_rng1, ↓Pl.iv_rng2, ↓Pl.iv_rng3, ↓Pl.w_frzd, ↓Pl.w_dd, ↓Pl.w_keyi, ↓Pl.w_keys_, ↓Pl.w_dnil, ↓Pl.w_keys, ↓Pl.w_view0, ↓Pl.w_viewN, ↓Pl.w_viewS, ↓Pl.t_view, ↓Pl.w_view, ↓Pl.w_flI, ↓Pl.w_flB, ↓Pl.w_flS, ↓Pl.w_flN, ↓Pl.w_lstl, ↓Pl.w_cnt, ↓Pl.iv_enum, ↓Pl.w_zipl, ↓Pl.w_zipt, ↓Pl.iv_zip, ↓Pl.q_nx, ↓Pl.q_rt, ↓Pl.q_bk, ↓Pl.q_ct, ↓Pl.q_ex, ↓Pl.b_nilW, ↓Pl.b_asg, ↓Pl.b_asgt, ↓Pl.w_par0, ↓Pl.w_par1, ↓Pl.b_par, ↓Pl.b_asgL, ↓Pl.b_set, ↓Pl.b_set2, ↓Pl.p_set2P, ↓Pl.b_dset, ↓Pl.b_aug, ↓Pl.b_app, ↓Pl.b_expr, ↓Pl.b_ife, ↓Pl.b_for, ↓Pl.b_while, ↓Pl.b_retW, ↓Pl.b_retV, ↓Pl.b_raise, ↓Pl.b_raiseF, ↓Pl.b_pass, ↓Pl.b_brk, ↓Pl.b_cont, ↓Pl.b_frz, ↓Pl.b_try, ↓Pl.y_nx, ↓Pl.y_rt, ↓Pl.y_bk, ↓Pl.y_ct, ↓Pl.y_keep, ↓Pl.f_nxF, ↓Pl.f_rtF, ↓Pl.f_exF, ↓Pl.f_nxT, ↓Pl.f_rtT, ↓Pl.w_init0, ↓Pl.w_initN, ↓Pl.w_initS, ↓Pl.l_nx, ↓Pl.l_ct, ↓Pl.l_bk, ↓Pl.l_rt, ↓Pl.l_ex, ↓Pl.c_t0, ↓Pl.c_t1, ↓Pl.p_Add, ↓Pl.p_Sub, ↓Pl.p_Mul, ↓Pl.p_Div, ↓Pl.p_Mod, ↓Pl.p_Pow0, ↓Pl.p_Pow1, ↓Pl.p_Pow2, ↓Pl.p_Pow3, ↓Pl.p_Pow4, ↓Pl.p_Pow5, ↓Pl.p_Pow6, ↓Pl.p_Pow7, ↓Pl.p_Pow8, ↓Pl.p_Pow9, ↓Pl.p_Pow10, ↓Pl.p_Pow11, ↓Pl.p_Pow12, ↓Pl.p_Pow13, ↓Pl.p_Pow14, ↓Pl.p_Pow15, ↓Pl.p_Pow16, ↓Pl.p_Pow17, ↓Pl.p_Pow18, ↓Pl.p_Pow19, ↓Pl.p_Pow20, ↓Pl.p_Pow21, ↓Pl.p_Pow22, ↓Pl.p_Pow23, ↓Pl.p_Pow24, ↓Pl.p_Pow25, ↓Pl.p_Pow26, ↓Pl.p_Pow27, ↓Pl.p_Pow28, ↓Pl.p_Pow29, ↓Pl.p_Pow30, ↓Pl.p_Pow31, ↓Pl.p_Pow32, ↓Pl.p_Pow33, ↓Pl.p_Pow34, ↓Pl.p_Pow35, ↓Pl.p_Pow36, ↓Pl.p_Pow37, ↓Pl.p_Pow38, ↓Pl.p_Pow39, ↓Pl.p_Pow40, ↓Pl.p_Pow41, ↓Pl.p_Pow42, ↓Pl.p_Pow43, ↓Pl.p_Pow44, ↓Pl.p_Pow45, ↓Pl.p_Pow46, ↓Pl.p_Pow47, ↓Pl.p_Pow48, ↓Pl.p_Pow49, ↓Pl.p_Pow50, ↓Pl.p_Pow51, ↓Pl.p_Pow52, ↓Pl.p_Pow53, ↓Pl.p_Pow54, ↓Pl.p_Pow55, ↓Pl.p_Pow56, ↓Pl.p_Pow57, ↓Pl.p_Pow58, ↓Pl.p_Pow59, ↓Pl.p_Pow60, ↓Pl.p_Pow61, ↓Pl.p_Pow62, ↓Pl.p_Pow63, ↓Pl.p_Pow64, ↓Pl.p_Pow65, ↓Pl.p_MulS, ↓Pl.p_AddL, ↓Pl.p_AddT, ↓Pl.p_Lt, ↓Pl.p_LtE, ↓Pl.p_Gt, ↓Pl.p_GtE, ↓Pl.p_Eq, ↓Pl.p_NotEq, ↓Pl.p_IsN, ↓Pl.p_IsNotN, ↓Pl.p_Is_bl, ↓Pl.p_IsNot_bl, ↓Pl.p_Is_int, ↓Pl.p_IsNot_int, ↓Pl.p_Is_str, ↓Pl.p_IsNot_str, ↓Pl.p_Is_tup, ↓Pl.p_IsNot_tup, ↓Pl.p_Is_lst, ↓Pl.p_IsNot_lst, ↓Pl.p_Is_exc, ↓Pl.p_IsNot_exc, ↓Pl.p_Is_scr, ↓Pl.p_IsNot_scr, ↓Pl.p_IsB, ↓Pl.p_IsNotB, ↓Pl.p_idx_tup, ↓Pl.p_idx_lst, ↓Pl.p_idx_scr, ↓Pl.p_at0, ↓Pl.p_at1, ↓Pl.p_at2, ↓Pl.p_at3, ↓Pl.p_at4, ↓Pl.p_at5, ↓Pl.p_at6, ↓Pl.p_at7, ↓Pl.p_at8, ↓Pl.p_set0, ↓Pl.p_set1, ↓Pl.p_set2, ↓Pl.p_set3, ↓Pl.p_set4, ↓Pl.p_set5, ↓Pl.p_lenL, ↓Pl.p_lenT, ↓Pl.p_lenS, ↓Pl.p_abs, ↓Pl.p_max2, ↓Pl.p_min2, ↓Pl.p_int, ↓Pl.p_intb, ↓Pl.p_divmod, ↓Pl.p_listL, ↓Pl.p_listT, ↓Pl.p_tupL, ↓Pl.p_tupT, ↓Pl.p_augA, ↓Pl.p_augS, ↓Pl.p_isi_int_non, ↓Pl.p_isi_bool_non, ↓Pl.p_isi_str_non, ↓Pl.p_isi_list_non, ↓Pl.p_isi_tuple_non, ↓Pl.p_isi_lt_non, ↓Pl.p_isi_int_bl, ↓Pl.p_isi_bool_bl, ↓Pl.p_isi_str_bl, ↓Pl.p_isi_list_bl, ↓Pl.p_isi_tuple_bl, ↓Pl.p_isi_lt_bl, ↓Pl.p_isi_int_int, ↓Pl.p_isi_bool_int, ↓Pl.p_isi_str_int, ↓Pl.p_isi_list_int, ↓Pl.p_isi_tuple_int, ↓Pl.p_isi_lt_int, ↓Pl.p_isi_int_str, ↓Pl.p_isi_bool_str, ↓Pl.p_isi_str_str, ↓Pl.p_isi_list_str, ↓Pl.p_isi_tuple_str, ↓Pl.p_isi_lt_str, ↓Pl.p_isi_int_tup, ↓Pl.p_isi_bool_tup, ↓Pl.p_isi_str_tup, ↓Pl.p_isi_list_tup, ↓Pl.p_isi_tuple_tup, ↓Pl.p_isi_lt_tup, ↓Pl.p_isi_int_lst, ↓Pl.p_isi_bool_lst, ↓Pl.p_isi_str_lst, ↓Pl.p_isi_list_lst, ↓Pl.p_isi_tuple_lst, ↓Pl.p_isi_lt_lst, ↓Pl.p_isi_int_scr, ↓Pl.p_isi_bool_scr, ↓Pl.p_isi_str_scr, ↓Pl.p_isi_list_scr, ↓Pl.p_isi_tuple_scr, ↓Pl.p_isi_lt_scr, ↓Pl.p_isi_int_exc, ↓Pl.p_isi_bool_exc, ↓Pl.p_isi_str_exc, ↓Pl.p_isi_list_exc, ↓Pl.p_isi_tuple_exc, ↓Pl.p_isi_lt_exc, ↓Pl.p_sliceL, ↓Pl.p_sliceT, ↓Pl.z_l0, ↓Pl.z_l1, ↓Pl.z_l2, ↓Pl.z_l3, ↓Pl.z_l4, ↓Pl.z_l5, ↓Pl.z_l6, ↓Pl.z_l7, ↓Pl.z_l8, ↓Pl.z_l9, ↓Pl.z_l10, ↓Pl.z_l11, ↓Pl.z_l12, ↓Pl.z_szT, ↓Pl.z_inR, ↓Pl.z_inR2, ↓Pl.z_lenlt, Pl.w_some, Pl.w_none, Pl.w_frzp, Pl.w_frzl, Pl.w_fzL0, Pl.w_fzL1, Pl.w_fzL2, Pl.w_flp, Pl.w_fll, Pl.w_flnil, Pl.w_flcons, Pl.w_fzLm, Pl.w_flmap, Pl.w_get0, Pl.w_getS, Pl.w_getP0, Pl.w_getPS, Pl.w_set0, Pl.w_setS, Pl.w_wipe0, Pl.w_wipe1, Pl.w_condT, Pl.w_condF, Pl.w_condN, Pl.w_tyb, Pl.w_inti, Pl.w_itl, Pl.w_itt, Pl.w_its, Pl.w_ll, Pl.w_bindv, Pl.w_bindt, Pl.w_bindl, Pl.w_binds0, Pl.w_binds1, Pl.w_lit, Pl.w_var, Pl.w_glob, Pl.o_var, Pl.r_var, Pl.o_lit, Pl.r_lit, Pl.o_glob, Pl.r_glob, Pl.o_bin, Pl.r_bin, Pl.o_neg, Pl.r_neg, Pl.o_not, Pl.r_not, Pl.o_cmp, Pl.r_cmp, Pl.o_chain, Pl.r_chain, Pl.o_and, Pl.r_and, Pl.o_or, Pl.r_or, Pl.o_ife, Pl.r_ife, Pl.o_tup, Pl.r_tup, Pl.o_lst, Pl.r_lst, Pl.o_idx, Pl.r_idx, Pl.o_idx2, Pl.r_idx2, Pl.o_slc, Pl.r_slc, Pl.o_call, Pl.r_call, Pl.o_bi, Pl.r_bi, Pl.o_isi, Pl.r_isi, Pl.o_mkx, Pl.r_mkx, Pl.o_comp, Pl.r_comp, Pl.o_rng1, Pl.r_rng1, Pl.o_rng2, Pl.r_rng2, Pl.o_enum, Pl.r_enum, Pl.o_zip, Pl.r_zip, Pl.o_rng3, Pl.r_rng3, Pl.o_view, Pl.r_view, Pl.o_cnt, Pl.r_cnt, Pl.o_dnil, Pl.r_dnil, Pl.o_keys, Pl.r_keys, Pl.w_bin, Pl.w_cmp, Pl.tv_var, Pl.iv_var, Pl.tv_lit, Pl.iv_lit, Pl.tv_glob, Pl.iv_glob, Pl.iv_bin, Pl.tv_chain, Pl.iv_ife, Pl.iv_tup, Pl.iv_lst, Pl.tv_idx, Pl.iv_idx, Pl.tv_idx2, Pl.iv_idx2, Pl.tv_slc, Pl.iv_slc, Pl.tv_call, Pl.iv_call, Pl.tv_isi, Pl.tv_mkx, Pl.iv_comp, Pl.tv_bi, Pl.iv_bi, Pl.t_cmpW, Pl.w_neg, Pl.w_not, Pl.t_notW, Pl.t_and1W, Pl.t_andW, Pl.t_or1W, Pl.t_orW, Pl.w_and1, Pl.w_and, Pl.w_or1, Pl.w_or, Pl.w_chain, Pl.w_ife, Pl.s_nil, Pl.s_cons, Pl.w_tup, Pl.w_lst, Pl.w_idx, Pl.w_pp, Pl.w_atl, Pl.w_atv, Pl.w_idp, Pl.w_idl, Pl.w_idx2, Pl.p_idx2P, Pl.w_oin, Pl.w_ois, Pl.w_slc, Pl.w_call, Pl.w_callF, Pl.w_callM, Pl.w_callM_call, Pl.w_callM_lst, Pl.w_callM_bin, Pl.w_callM_slc, Pl.w_callM_bi, Pl.w_callM_comp, Pl.w_callM_ife, Pl.w_callM_idx, Pl.a_pos0, Pl.a_pos1, Pl.a_pos2, Pl.a_pos3, Pl.a_pos4, Pl.a_pos5, Pl.a_pos6, Pl.a_pos7, Pl.a_pos8, Pl.a_pos9, Pl.w_RWok, Pl.w_RWexc, Pl.w_pz0, Pl.w_pzp, Pl.w_pzl, Pl.w_fz0, Pl.w_fzp, Pl.w_fzl, Pl.w_fzmap, Pl.w_bi1, Pl.w_bi2, Pl.w_isi, Pl.w_mkx, Pl.w_strs, Pl.w_getO0, Pl.w_getOS, Pl.w_back0, Pl.w_back1, Pl.w_comp, Pl.w_compT, Pl.iv_rng1, Pl.iv_rng2, Pl.iv_rng3, Pl.w_frzd, Pl.w_dd, Pl.w_keyi, Pl.w_keys_, Pl.w_dnil, Pl.w_keys, Pl.w_view0, Pl.w_viewN, Pl.w_viewS, Pl.t_view, Pl.w_view, Pl.w_flI, Pl.w_flB, Pl.w_flS, Pl.w_flN, Pl.w_lstl, Pl.w_cnt, Pl.iv_enum, Pl.w_zipl, Pl.w_zipt, Pl.iv_zip, Pl.q_nx, Pl.q_rt, Pl.q_bk, Pl.q_ct, Pl.q_ex, Pl.b_nilW, Pl.b_asg, Pl.b_asgt, Pl.w_par0, Pl.w_par1, Pl.b_par, Pl.b_asgL, Pl.b_set, Pl.b_set2, Pl.p_set2P, Pl.b_dset, Pl.b_aug, Pl.b_app, Pl.b_expr, Pl.b_ife, Pl.b_for, Pl.b_while, Pl.b_retW, Pl.b_retV, Pl.b_raise, Pl.b_raiseF, Pl.b_pass, Pl.b_brk, Pl.b_cont, Pl.b_frz, Pl.b_try, Pl.y_nx, Pl.y_rt, Pl.y_bk, Pl.y_ct, Pl.y_keep, Pl.f_nxF, Pl.f_rtF, Pl.f_exF, Pl.f_nxT, Pl.f_rtT, Pl.w_init0, Pl.w_initN, Pl.w_initS, Pl.l_nx, Pl.l_ct, Pl.l_bk, Pl.l_rt, Pl.l_ex, Pl.c_t0, Pl.c_t1, Pl.p_Add, Pl.p_Sub, Pl.p_Mul, Pl.p_Div, Pl.p_Mod, Pl.p_Pow0, Pl.p_Pow1, Pl.p_Pow2, Pl.p_Pow3, Pl.p_Pow4, Pl.p_Pow5, Pl.p_Pow6, Pl.p_Pow7, Pl.p_Pow8, Pl.p_Pow9, Pl.p_Pow10, Pl.p_Pow11, Pl.p_Pow12, Pl.p_Pow13, Pl.p_Pow14, Pl.p_Pow15, Pl.p_Pow16, Pl.p_Pow17, Pl.p_Pow18, Pl.p_Pow19, Pl.p_Pow20, Pl.p_Pow21, Pl.p_Pow22, Pl.p_Pow23, Pl.p_Pow24, Pl.p_Pow25, Pl.p_Pow26, Pl.p_Pow27, Pl.p_Pow28, Pl.p_Pow29, Pl.p_Pow30, Pl.p_Pow31, Pl.p_Pow32, Pl.p_Pow33, Pl.p_Pow34, Pl.p_Pow35, Pl.p_Pow36, Pl.p_Pow37, Pl.p_Pow38, Pl.p_Pow39, Pl.p_Pow40, Pl.p_Pow41, Pl.p_Pow42, Pl.p_Pow43, Pl.p_Pow44, Pl.p_Pow45, Pl.p_Pow46, Pl.p_Pow47, Pl.p_Pow48, Pl.p_Pow49, Pl.p_Pow50, Pl.p_Pow51, Pl.p_Pow52, Pl.p_Pow53, Pl.p_Pow54, Pl.p_Pow55, Pl.p_Pow56, Pl.p_Pow57, Pl.p_Pow58, Pl.p_Pow59, Pl.p_Pow60, Pl.p_Pow61, Pl.p_Pow62, Pl.p_Pow63, Pl.p_Pow64, Pl.p_Pow65, Pl.p_MulS, Pl.p_AddL, Pl.p_AddT, Pl.p_Lt, Pl.p_LtE, Pl.p_Gt, Pl.p_GtE, Pl.p_Eq, Pl.p_NotEq, Pl.p_IsN, Pl.p_IsNotN, Pl.p_Is_bl, Pl.p_IsNot_bl, Pl.p_Is_int, Pl.p_IsNot_int, Pl.p_Is_str, Pl.p_IsNot_str, Pl.p_Is_tup, Pl.p_IsNot_tup, Pl.p_Is_lst, Pl.p_IsNot_lst, Pl.p_Is_exc, Pl.p_IsNot_exc, Pl.p_Is_scr, Pl.p_IsNot_scr, Pl.p_IsB, Pl.p_IsNotB, Pl.p_idx_tup, Pl.p_idx_lst, Pl.p_idx_scr, Pl.p_at0, Pl.p_at1, Pl.p_at2, Pl.p_at3, Pl.p_at4, Pl.p_at5, Pl.p_at6, Pl.p_at7, Pl.p_at8, Pl.p_set0, Pl.p_set1, Pl.p_set2, Pl.p_set3, Pl.p_set4, Pl.p_set5, Pl.p_lenL, Pl.p_lenT, Pl.p_lenS, Pl.p_abs, Pl.p_max2, Pl.p_min2, Pl.p_int, Pl.p_intb, Pl.p_divmod, Pl.p_listL, Pl.p_listT, Pl.p_tupL, Pl.p_tupT, Pl.p_augA, Pl.p_augS, Pl.p_isi_int_non, Pl.p_isi_bool_non, Pl.p_isi_str_non, Pl.p_isi_list_non, Pl.p_isi_tuple_non, Pl.p_isi_lt_non, Pl.p_isi_int_bl, Pl.p_isi_bool_bl, Pl.p_isi_str_bl, Pl.p_isi_list_bl, Pl.p_isi_tuple_bl, Pl.p_isi_lt_bl, Pl.p_isi_int_int, Pl.p_isi_bool_int, Pl.p_isi_str_int, Pl.p_isi_list_int, Pl.p_isi_tuple_int, Pl.p_isi_lt_int, Pl.p_isi_int_str, Pl.p_isi_bool_str, Pl.p_isi_str_str, Pl.p_isi_list_str, Pl.p_isi_tuple_str, Pl.p_isi_lt_str, Pl.p_isi_int_tup, Pl.p_isi_bool_tup, Pl.p_isi_str_tup, Pl.p_isi_list_tup, Pl.p_isi_tuple_tup, Pl.p_isi_lt_tup, Pl.p_isi_int_lst, Pl.p_isi_bool_lst, Pl.p_isi_str_lst, Pl.p_isi_list_lst, Pl.p_isi_tuple_lst, Pl.p_isi_lt_lst, Pl.p_isi_int_scr, Pl.p_isi_bool_scr, Pl.p_isi_str_scr, Pl.p_isi_list_scr, Pl.p_isi_tuple_scr, Pl.p_isi_lt_scr, Pl.p_isi_int_exc, Pl.p_isi_bool_exc, Pl.p_isi_str_exc, Pl.p_isi_list_exc, Pl.p_isi_tuple_exc, Pl.p_isi_lt_exc, Pl.p_sliceL, Pl.p_sliceT, Pl.z_l0, Pl.z_l1, Pl.z_l2, Pl.z_l3, Pl.z_l4, Pl.z_l5, Pl.z_l6, Pl.z_l7, Pl.z_l8, Pl.z_l9, Pl.z_l10, Pl.z_l11, Pl.z_l12, Pl.z_map0, Pl.z_map1, Pl.z_app0, Pl.z_app1, Pl.z_rep0, Pl.z_repS, Pl.z_gt, Pl.z_szT, Pl.z_inR, Pl.z_inR2, Pl.z_lenlt, ↓Pl.w_fzLmp, Pl.w_fzLmp, ↓Pl.w_flmp, Pl.w_flmp, Pl.frzL_mp, ↓Pl.p_all, Pl.p_all, ↓Pl.p_atInt, Pl.p_atInt, decide_true, decide_false, Bool.not_true, Bool.not_false, Int.reduceEq, Int.reduceLT, Int.reduceLE, ↓Pl.p_EqNN, Pl.p_EqNN, ↓Pl.p_NeNN, Pl.p_NeNN, ↓Pl.p_EqNI, Pl.p_EqNI, ↓Pl.p_EqIN, Pl.p_EqIN, ↓Pl.p_NeNI, Pl.p_NeNI, ↓Pl.p_NeIN, Pl.p_NeIN, ↓Pl.p_EqB, Pl.p_EqB, ↓Pl.p_NeB, Pl.p_NeB, Lw.fn_is_integer, Lw.fn_is_from, Lw.fn_is_between, Lw.fn_is_index, Lw.fn_is_ascending, Lw.fn_check_index, Lw.fn_are_turns, Lw.fn_is_places, Lw.fn_is_stretch, Lw.fn_is_entry_of, Lw.fn_are_ends, Lw.fn_is_tie_of, Lw.fn_is_book, Lw.fn_check_book, Lw.fn_check_day, Lw.fn_nought_in, Lw.fn_mark_in, Lw.fn_check_term, Lw.fn_check_holidays, Lw.fn_date_of, Lw.fn_number_of_date, Lw.fn_month_length, Lw.fn_weekday_of, Lw.fn_is_open_day, Lw.fn_is_open, Lw.fn_workdays_ahead, Lw.fn_workday_at, Lw.fn_lost_workdays, Lw.fn_open_days, Lw.fn_open_day_behind, Lw.fn_due_of, Lw.fn_due_day, Lw.fn_due_mark_in, Lw.fn_due_mark, Lw.fn__law_purse, Lw.fn__law_take, Lw.fn__law_pick, Lw.fn__law_match, Lw.fn__law_long, Lw.fn__law_counted, Lw.fn__law_drawn_day, Lw.fn__law_drawn_holidays, Lw.fn__law_is_work, Lw.fn__law_walked, Lw.fn__law_month_on, Lw.fn__law_due, Lw.fn__law_mark_right, Lw.fn_law, Lw.gl_MINUTES, Lw.gl_APART, Lw.gl_LOOK, Lw.gl_DAYS, Lw.gl_OPEN, Lw.gl_MONTHS, Lw.gl_END, Lw.gl_TERM_WORDS, Lw.gl_MONTH_DAYS, Lw.gl_FIRST_MONDAY, Lw.gl_FIRST_MARCH, Lw.gl_CYCLE, Lw.kw_is_open_0_1_0, Lw.kw_open_days_0_2_1_0, Lw.kw_due_day_0_2_1_0, Lw.kw_due_mark_0_3_2_1_0, $ls,*])
local macro_rules
  | `(tactic| simp_arith! [$ls,*]) => `(tactic| simp_arith [$ls,*])
local macro_rules
  | `(tactic| simp_arith! [$ls,*]) => `(tactic| simp_arith [c_is_integer, c_is_from, c_check_day, c_weekday_of, c_is_open_day, c_workdays_ahead, c_workday_at, c_long, c_is_work, p_all0, p_all1, p_all2, p_all3, p_sum0, p_sum1, p_sum2, $ls,*])
open Pu (wa dayN lost isO opn Beh nxt FD Ln DayAt longF)
theorem fits_own {f g d : Int} (h : f + 2 ≤ g) : Fits f g (cn f g d) d := by
  rcases cn_eq f g d h with ⟨e, q⟩ | ⟨e, q, q2⟩ | ⟨e, q⟩
  · exact .inl ⟨e, q⟩
  · exact .inr (.inl ⟨e, by omega, q2⟩)
  · exact .inr (.inr ⟨e, by omega⟩)
theorem fits_next {f g d : Int} (h : f + 2 ≤ g) (hin : d + 1 = f ∨ d + 1 = g) : Fits f g (cn f g d + 1) d := by
  rcases cn_eq f g d h with ⟨e, q⟩ | ⟨e, q, q2⟩ | ⟨e, q⟩
  · rw [e]
    exact .inr (.inl ⟨rfl, by omega, by omega⟩)
  · rw [e]
    exact .inr (.inr ⟨rfl, by omega⟩)
  · omega
theorem p_In2 (x f g : Int) (K : Bool → Prop) : optW (cmpop .In (.int x) (.tup [.int f, .int g])) K = K (decide (x = f ∨ x = g)) := by
  have e : cmpop .In (.int x) (.tup [.int f, .int g]) = some (decide (x = f ∨ x = g)) := by
    show inP (.int x) ([f, g].map P.int) = _
    unfold inP
    rw [flat_ints]
    show some (L2.inV (.int x) (([f, g].map P.int).map P.toV)) = _
    rw [inV_ints]
    congr 1
    simp
  rw [e]
  rfl
def spD (x : Int) (y : P) : D := .p (.tup [y, .int (1440 * (x + 1))])
def dmD (f g x : Int) : P → D
  | .int p => .p (.tup [.int (mkN f g p (x + 1)), .int (1440 * (x + 1))])
  | _ => .p .non
theorem fits_ok {wf n : Nat} (hn : 5 ≤ n) {f g d r s : Int} (hr0 : 0 ≤ r) (hr1 : r < 1440) (h : Fits f g s d) (p : Int) (hp : p = 0 ∨ p = 1) : callN fnT globT wf n ix_is_entry_of [.p (plP f g), .p (enP p s (1440 * d + r))] = .ok (.p (.bl true)) none := c_entry wf n hn f g p s d r hp hr0 hr1 h
theorem c_due3 (wf n : Nat) (hn : 9 ≤ n) (f g : Int) (hfg : f + 2 ≤ g) (d r : Int) (hr0 : 0 ≤ r) (hr1 : r < 1440) (w : Str) (hwd : Word w) (k x : Int) (hk : 0 ≤ k) (hs : List Int) (h : Hol hs) (e : ∀ m, 8 ≤ m → callN fnT globT wf m ix_due_day [.p (.int d), .p (.tup [.str w, .int k]), .p (.tup (hs.map .int))] = .ok (.p (.int x)) none) (p : Int) (hp : p = 0 ∨ p = 1 ∨ p = 2) :
    callN fnT globT wf n ix_due_mark [.p (.tup [.tup [.tup [.int f, .int g], .tup [.int f, .int g], .tup []], .tup [.tup [.int 0, .int (cn f g d), .int (1440 * d + r)], .tup [.int 1, .int (cn f g d), .int (1440 * d + r)], .tup [.int 2, .int 0, .int (1440 * d + r)]], .tup []]), .p (.int p), .p (.tup [.str w, .int k]), .p (.tup (hs.map .int))] = .ok (dmD f g x (.int p)) none := by
  have F := fits_own (d := d) hfg
  have he : ∀ y ∈ [enP 0 (cn f g d) (1440 * d + r), enP 1 (cn f g d) (1440 * d + r), enP 2 0 (1440 * d + r)], callN fnT globT wf (n - 1 - 2) ix_is_entry_of [.p (plP f g), .p y] = .ok (.p (.bl true)) none := by
    intro y hy
    simp only [List.mem_cons, List.not_mem_nil, or_false] at hy
    rcases hy with rfl | rfl | rfl
    · exact c_entry wf _ (by omega) f g 0 _ d r (.inl rfl) hr0 hr1 F
    · exact c_entry wf _ (by omega) f g 1 _ d r (.inr rfl) hr0 hr1 F
    · exact c_entry2 wf _ (by omega) f g _
  rcases hp with rfl | rfl | rfl
  · exact c_due_mark wf n hn f g hfg _ (by simp) he 0 0 (cn f g d) d r rfl (.inl rfl) hr0 hr1 w hwd k x hk hs h e
  · exact c_due_mark wf n hn f g hfg _ (by simp) he 1 1 (cn f g d) d r rfl (.inr (.inl rfl)) hr0 hr1 w hwd k x hk hs h e
  · exact c_due_mark wf n hn f g hfg _ (by simp) he 2 2 0 d r rfl (.inr (.inr rfl)) hr0 hr1 w hwd k x hk hs h e
theorem c_due1 (wf n : Nat) (hn : 9 ≤ n) (f g : Int) (hfg : f + 2 ≤ g) (d r : Int) (hr0 : 0 ≤ r) (hr1 : r < 1440) (hin : d + 1 = f ∨ d + 1 = g) (w : Str) (hwd : Word w) (k x : Int) (hk : 0 ≤ k) (hs : List Int) (h : Hol hs) (e : ∀ m, 8 ≤ m → callN fnT globT wf m ix_due_day [.p (.int d), .p (.tup [.str w, .int k]), .p (.tup (hs.map .int))] = .ok (.p (.int x)) none) :
    callN fnT globT wf n ix_due_mark [.p (.tup [.tup [.tup [.int f, .int g], .tup [.int f, .int g], .tup []], .tup [.tup [.int 1, .int (cn f g d + 1), .int (1440 * d + r)], .tup [.int 1, .int (cn f g d + 1), .int (1440 * d + r)]], .tup []]), .p (.int 1), .p (.tup [.str w, .int k]), .p (.tup (hs.map .int))] = .ok (dmD f g x (.int 1)) none := by
  have F := fits_next (d := d) hfg hin
  have he : ∀ y ∈ [enP 1 (cn f g d + 1) (1440 * d + r), enP 1 (cn f g d + 1) (1440 * d + r)], callN fnT globT wf (n - 1 - 2) ix_is_entry_of [.p (plP f g), .p y] = .ok (.p (.bl true)) none := by
    intro y hy
    simp only [List.mem_cons, List.not_mem_nil, or_false] at hy
    rcases hy with rfl | rfl
    · exact c_entry wf _ (by omega) f g 1 _ d r (.inr rfl) hr0 hr1 F
    · exact c_entry wf _ (by omega) f g 1 _ d r (.inr rfl) hr0 hr1 F
  exact c_due_mark wf n hn f g hfg _ (by simp) he 1 1 (cn f g d + 1) d r rfl (.inr (.inl rfl)) hr0 hr1 w hwd k x hk hs h e
theorem w_mark_right {wf n : Nat} {c d k : Int} {w : Str} {u : D} {hs : List Int} {K : D → Option D → Prop} {X : Nat → List P → Prop} (hu : Urn c u) (hn : 12 ≤ n) (hw : 200000 < wf) (hc : c < 10 ^ 8) (hwd : Word w) (hk : 0 ≤ k) (hk2 : k ≤ 10000) (h : Hol hs) (hK : ∀ u', Urn (c + 5) u' → K (.p (.bl true)) (some u')) : RW (callN fnT globT wf n ix__law_mark_right [u, .p (.int d), .p (.tup [.str w, .int k]), .p (.tup (hs.map .int))]) K X := by
  obtain ⟨x, hx⟩ := due_fix wf hw w hwd d k hk hk2 hs h
  rw [RW_callN fn__law_mark_right rfl (by omega)]
  unfold bd__law_mark_right
  simp_arith! [(hx (n - 1) (by omega)).1]
  refine w_take hu (by omega) (by omega) (by omega) (by omega) fun r u1 hu1 r0 r1 => ?_
  simp_arith! []
  refine w_take hu1 (by omega) (by omega) (by omega) (by omega) fun sh u2 hu2 _ _ => ?_
  simp_arith! []
  refine w_pick hu2 (by omega) (by omega) (by simp) (by simp) fun y hy u3 hu3 => ?_
  have hf : ∃ f : Int, y = .int f := by
    simp only [List.mem_cons, List.not_mem_nil, or_false] at hy
    rcases hy with rfl | rfl | rfl | rfl <;> exact ⟨_, rfl⟩
  obtain ⟨f, rfl⟩ := hf
  clear hy
  simp_arith! []
  refine w_pick hu3 (by omega) (by omega) (by simp) (by simp) fun y hy u4 hu4 => ?_
  have hsp : ∃ s : Int, y = .int s ∧ 1 ≤ s ∧ s < 2 ^ 60 := by
    simp only [List.mem_cons, List.not_mem_nil, or_false] at hy
    rcases hy with rfl | rfl <;> exact ⟨_, rfl, by omega, by omega⟩
  obtain ⟨sp, rfl, sp1, sp2⟩ := hsp
  clear hy
  simp_arith! []
  refine w_take hu4 (by omega) (by omega) sp1 sp2 fun r2 u5 hu5 t0 t1 => ?_
  simp_arith! []
  generalize hg : f + 2 + r2 = g
  have hfg : f + 2 ≤ g := by omega
  refine CW_cn (day := d) (fun t => ?_) ?_
  · simp_arith! []
    refine ⟨rfl, ?_⟩
    refine condD (fun h0 => ?_) (fun h0 => ?_)
    · simp_arith! []
      exact ⟨rfl, rfl⟩
    · simp_arith! []
      exact rfl
  have hc1 : ((([P.int f, P.int g].filter (gle d)).length : Nat) : Int) = cn f g d := rfl
  generalize hxs : [P.int f, P.int g].filter (gle d) = xs at hc1
  simp_arith! [hc1]
  refine CW_cn (day := x + 1) (fun t => ?_) ?_
  · simp_arith! []
    refine ⟨rfl, ?_⟩
    refine condD (fun h0 => ?_) (fun h0 => ?_)
    · simp_arith! []
      exact ⟨rfl, rfl⟩
    · simp_arith! []
      exact rfl
  have hc2 : ((([P.int f, P.int g].filter (gle (x + 1))).length : Nat) : Int) = cn f g (x + 1) := rfl
  generalize hys : [P.int f, P.int g].filter (gle (x + 1)) = ys at hc2
  simp_arith! [hc2]
  rw [hc1, hc2]
  have e3 := fun p hp => c_due3 wf (n - 1) (by omega) f g hfg d r r0 r1 w hwd k x hk hs h (fun m hm => (hx m hm).2) p hp
  have e1 := fun hin => c_due1 wf (n - 1) (by omega) f g hfg d r r0 r1 hin w hwd k x hk hs h (fun m hm => (hx m hm).2)
  have em : callN fnT globT wf (n - 1) ix__law_match [.p (.lst [.tup [.int (cn f g (x + 1)), .int (1440 * (x + 1))], .tup [.int (3 + cn f g (x + 1)), .int (1440 * (x + 1))], .tup [.int 6, .int (1440 * (x + 1))]]), .p (.lst [.tup [.int (cn f g (x + 1)), .int (1440 * (x + 1))], .tup [.int (3 + cn f g (x + 1)), .int (1440 * (x + 1))], .tup [.int 6, .int (1440 * (x + 1))]])] = .ok (.p (.bl true)) none := by
    refine c_match_lst wf (n - 1) (by omega) _ (by simp) fun y hy => ?_
    simp only [List.mem_cons, List.not_mem_nil, or_false] at hy
    rcases hy with rfl | rfl | rfl <;> exact c_match2 wf _ (by omega) _ _
  refine CW_map (spD x) (by simp) ?_ ?_
  · intro y _
    simp_arith! []
    exact ⟨rfl, rfl⟩
  simp_arith! [List.map_cons, List.map_nil, spD]
  refine CW_map (dmD f g x) (by rw [rangeOf_len]; decide) ?_ ?_
  · intro y hy
    have hp : ∃ p : Int, (p = 0 ∨ p = 1 ∨ p = 2) ∧ y = .int p := by
      have : rangeOf 0 (3 : Int).toNat = [P.int 0, P.int 1, P.int 2] := rfl
      rw [this] at hy
      simp only [List.mem_cons, List.not_mem_nil, or_false] at hy
      rcases hy with rfl | rfl | rfl
      · exact ⟨0, .inl rfl, rfl⟩
      · exact ⟨1, .inr (.inl rfl), rfl⟩
      · exact ⟨2, .inr (.inr rfl), rfl⟩
    obtain ⟨p, hp, rfl⟩ := hp
    simp_arith! [e3 p hp]
    exact ⟨rfl, rfl⟩
  have er : (rangeOf 0 (3 : Int).toNat).map (dmD f g x) = [D.p (.tup [.int (cn f g (x + 1)), .int (1440 * (x + 1))]), D.p (.tup [.int (3 + cn f g (x + 1)), .int (1440 * (x + 1))]), D.p (.tup [.int 6, .int (1440 * (x + 1))])] := rfl
  rw [er]
  simp_arith! [em, p_In2]
  have em2 := c_match2 wf (n - 1) (by omega) (3 + cn f g (x + 1)) (1440 * (x + 1))
  have m1 : dmD f g x (.int 1) = D.p (.tup [.int (3 + cn f g (x + 1)), .int (1440 * (x + 1))]) := rfl
  have e31 := e3 1 (.inr (.inl rfl))
  rw [m1] at e31 e1
  refine condD (fun hin => ?_) (fun hin => ?_)
  · simp_arith! [e1 hin, em2]
    exact hK _ (hu5.mono (by omega))
  · simp_arith! [e31, em2]
    exact hK _ (hu5.mono (by omega))

end Lw

set_option Elab.async false
set_option linter.all false
set_option autoImplicit false
set_option maxRecDepth 100000
set_option maxHeartbeats 4000000
namespace Lw
open PySem L2 Pl
local macro_rules
  | `(tactic| trivial) => `(tactic| first | omega | ((with_reducible apply Pl.mulOk_l); first | decide | omega) | ((with_reducible apply Pl.mulOk_r); first | decide | omega) | ((with_reducible apply Pl.divOk_s) <;> omega) | ((with_reducible apply Pl.divOk_w) <;> omega) | ((with_reducible apply Pl.powOk_s) <;> omega) | ((with_reducible apply Pl.CompOk.mk); with_unfolding_all exact rfl) | ((with_reducible apply Pl.KeepOk.mk); with_unfolding_all exact rfl) | ((with_reducible apply Pl.mulSOk_s) <;> first | omega | decide) | with_reducible decide | with_reducible rfl | (simp only [List.length_cons, List.length_nil, List.length_append, List.length_map, List.length_take, List.length_drop]; omega) | assumption)
local macro_rules
  | `(tactic| simp_arith [$ls,*]) => `(tactic| simp (disch := trivial) only [↓Pl.w_some, ↓Pl.w_none, ↓Pl.w_frzp, ↓Pl.w_frzl, ↓Pl.w_fzL0, ↓Pl.w_fzL1, ↓Pl.w_fzL2, ↓Pl.w_flp, ↓Pl.w_fll, ↓Pl.w_flnil, ↓Pl.w_flcons, ↓Pl.w_fzLm, ↓Pl.w_flmap, ↓Pl.w_get0, ↓Pl.w_getS, ↓Pl.w_getP0, ↓Pl.w_getPS, ↓Pl.w_set0, ↓Pl.w_setS, ↓Pl.w_wipe0, ↓Pl.w_wipe1, ↓Pl.w_condT, ↓Pl.w_condF, ↓Pl.w_condN, ↓Pl.w_tyb, ↓Pl.w_inti, ↓Pl.w_itl, ↓Pl.w_itt, ↓Pl.w_its, ↓Pl.w_ll, ↓Pl.w_bindv, ↓Pl.w_bindt, ↓Pl.w_bindl, ↓Pl.w_binds0, ↓Pl.w_binds1, ↓Pl.w_lit, ↓Pl.w_var, ↓Pl.w_glob, ↓Pl.o_var, ↓Pl.r_var, ↓Pl.o_lit, ↓Pl.r_lit, ↓Pl.o_glob, ↓Pl.r_glob, ↓Pl.o_bin, ↓Pl.r_bin, ↓Pl.o_neg, ↓Pl.r_neg, ↓Pl.o_not, ↓Pl.r_not, ↓Pl.o_cmp, ↓Pl.r_cmp, ↓Pl.o_chain, ↓Pl.r_chain, ↓Pl.o_and, ↓Pl.r_and, ↓Pl.o_or, ↓Pl.r_or, ↓Pl.o_ife, ↓Pl.r_ife, ↓Pl.o_tup, ↓Pl.r_tup, ↓Pl.o_lst, ↓Pl.r_lst, ↓Pl.o_idx, ↓Pl.r_idx, ↓Pl.o_idx2, ↓Pl.r_idx2, ↓Pl.o_slc, ↓Pl.r_slc, ↓Pl.o_call, ↓Pl.r_call, ↓Pl.o_bi, ↓Pl.r_bi, ↓Pl.o_isi, ↓Pl.r_isi, ↓Pl.o_mkx, ↓Pl.r_mkx, ↓Pl.o_comp, ↓Pl.r_comp, ↓Pl.o_rng1, ↓Pl.r_rng1, ↓Pl.o_rng2, ↓Pl.r_rng2, ↓Pl.o_enum, ↓Pl.r_enum, ↓Pl.o_zip, ↓Pl.r_zip, ↓Pl.o_rng3, ↓Pl.r_rng3, ↓Pl.o_view, ↓Pl.r_view, ↓Pl.o_cnt, ↓Pl.r_cnt, ↓Pl.o_dnil, ↓Pl.r_dnil, ↓Pl.o_keys, ↓Pl.r_keys, ↓Pl.w_bin, ↓Pl.w_cmp, ↓Pl.tv_var, ↓Pl.iv_var, ↓Pl.tv_lit, ↓Pl.iv_lit, ↓Pl.tv_glob, ↓Pl.iv_glob, ↓Pl.iv_bin, ↓Pl.tv_chain, ↓Pl.iv_ife, ↓Pl.iv_tup, ↓Pl.iv_lst, ↓Pl.tv_idx, ↓Pl.iv_idx, ↓Pl.tv_idx2, ↓Pl.iv_idx2, ↓Pl.tv_slc, ↓Pl.iv_slc, ↓Pl.tv_call, ↓Pl.iv_call, ↓Pl.tv_isi, ↓Pl.tv_mkx, ↓Pl.iv_comp, ↓Pl.tv_bi, ↓Pl.iv_bi, ↓Pl.t_cmpW, ↓Pl.w_neg, ↓Pl.w_not, ↓Pl.t_notW, ↓Pl.t_and1W, ↓Pl.t_andW, ↓Pl.t_or1W, ↓Pl.t_orW, ↓Pl.w_and1, ↓Pl.w_and, ↓Pl.w_or1, ↓Pl.w_or, ↓Pl.w_chain, ↓Pl.w_ife, ↓Pl.s_nil, ↓Pl.s_cons, ↓Pl.w_tup, ↓Pl.w_lst, ↓Pl.w_idx, ↓Pl.w_pp, ↓Pl.w_atl, ↓Pl.w_atv, ↓Pl.w_idp, ↓Pl.w_idl, ↓Pl.w_idx2, ↓Pl.p_idx2P, ↓Pl.w_oin, ↓Pl.w_ois, ↓Pl.w_slc, ↓Pl.w_call, ↓Pl.w_callF, ↓Pl.w_callM, ↓Pl.w_callM_call, ↓Pl.w_callM_lst, ↓Pl.w_callM_bin, ↓Pl.w_callM_slc, ↓Pl.w_callM_bi, ↓Pl.w_callM_comp, ↓Pl.w_callM_ife, ↓Pl.w_callM_idx, ↓Pl.a_pos0, ↓Pl.a_pos1, ↓Pl.a_pos2, ↓Pl.a_pos3, ↓Pl.a_pos4, ↓Pl.a_pos5, ↓Pl.a_pos6, ↓Pl.a_pos7, ↓Pl.a_pos8, ↓Pl.a_pos9, ↓Pl.w_RWok, ↓Pl.w_RWexc, ↓Pl.w_bi1, ↓Pl.w_bi2, ↓Pl.w_isi, ↓Pl.w_mkx, ↓Pl.w_strs, ↓Pl.w_getO0, ↓Pl.w_getOS, ↓Pl.w_back0, ↓Pl.w_back1, ↓Pl.w_comp, ↓Pl.w_compT, ↓Pl.iv_rng1, ↓Pl.iv_rng2, ↓Pl.iv_rng3, ↓Pl.w_frzd, ↓Pl.w_dd, ↓Pl.w_keyi, ↓Pl.w_keys_, ↓Pl.w_dnil, ↓Pl.w_keys, ↓Pl.w_view0, ↓Pl.w_viewN, ↓Pl.w_viewS, ↓Pl.t_view, ↓Pl.w_view, ↓Pl.w_flI, ↓Pl.w_flB, ↓Pl.w_flS, ↓Pl.w_flN, ↓Pl.w_lstl, ↓Pl.w_cnt, ↓Pl.iv_enum, ↓Pl.w_zipl, ↓Pl.w_zipt, ↓Pl.iv_zip, ↓Pl.q_nx, ↓Pl.q_rt, ↓Pl.q_bk, ↓Pl.q_ct, ↓Pl.q_ex, ↓Pl.b_nilW, ↓Pl.b_asg, ↓Pl.b_asgt, ↓Pl.w_par0, ↓Pl.w_par1, ↓Pl.b_par, ↓Pl.b_asgL, ↓Pl.b_set, ↓Pl.b_set2, ↓Pl.p_set2P, ↓Pl.b_dset, ↓Pl.b_aug, ↓Pl.b_app, ↓Pl.b_expr, ↓Pl.b_ife, ↓Pl.b_for, ↓Pl.b_while, ↓Pl.b_retW, ↓Pl.b_retV, ↓Pl.b_raise, ↓Pl.b_raiseF, ↓Pl.b_pass, ↓Pl.b_brk, ↓Pl.b_cont, ↓Pl.b_frz, ↓Pl.b_try, ↓Pl.y_nx, ↓Pl.y_rt, ↓Pl.y_bk, ↓Pl.y_ct, ↓Pl.y_keep, ↓Pl.f_nxF, ↓Pl.f_rtF, ↓Pl.f_exF, ↓Pl.f_nxT, ↓Pl.f_rtT, ↓Pl.w_init0, ↓Pl.w_initN, ↓Pl.w_initS, ↓Pl.l_nx, ↓Pl.l_ct, ↓Pl.l_bk, ↓Pl.l_rt, ↓Pl.l_ex, ↓Pl.c_t0, ↓Pl.c_t1, ↓Pl.p_Add, ↓Pl.p_Sub, ↓Pl.p_Mul, ↓Pl.p_Div, ↓Pl.p_Mod, ↓Pl.p_Pow0, ↓Pl.p_Pow1, ↓Pl.p_Pow2, ↓Pl.p_Pow3, ↓Pl.p_Pow4, ↓Pl.p_Pow5, ↓Pl.p_Pow6, ↓Pl.p_Pow7, ↓Pl.p_Pow8, ↓Pl.p_Pow9, ↓Pl.p_Pow10, ↓Pl.p_Pow11, ↓Pl.p_Pow12, ↓Pl.p_Pow13, ↓Pl.p_Pow14, ↓Pl.p_Pow15, ↓Pl.p_Pow16, ↓Pl.p_Pow17, ↓Pl.p_Pow18, ↓Pl.p_Pow19, ↓Pl.p_Pow20, ↓Pl.p_Pow21, ↓Pl.p_Pow22, ↓Pl.p_Pow23, ↓Pl.p_Pow24, ↓Pl.p_Pow25, ↓Pl.p_Pow26, ↓Pl.p_Pow27, ↓Pl.p_Pow28, ↓Pl.p_Pow29, ↓Pl.p_Pow30, ↓Pl.p_Pow31, ↓Pl.p_Pow32, ↓Pl.p_Pow33, ↓Pl.p_Pow34, ↓Pl.p_Pow35, ↓Pl.p_Pow36, ↓Pl.p_Pow37, ↓Pl.p_Pow38, ↓Pl.p_Pow39, ↓Pl.p_Pow40, ↓Pl.p_Pow41, ↓Pl.p_Pow42, ↓Pl.p_Pow43, ↓Pl.p_Pow44, ↓Pl.p_Pow45, ↓Pl.p_Pow46, ↓Pl.p_Pow47, ↓Pl.p_Pow48, ↓Pl.p_Pow49, ↓Pl.p_Pow50, ↓Pl.p_Pow51, ↓Pl.p_Pow52, ↓Pl.p_Pow53, ↓Pl.p_Pow54, ↓Pl.p_Pow55, ↓Pl.p_Pow56, ↓Pl.p_Pow57, ↓Pl.p_Pow58, ↓Pl.p_Pow59, ↓Pl.p_Pow60, ↓Pl.p_Pow61, ↓Pl.p_Pow62, ↓Pl.p_Pow63, ↓Pl.p_Pow64, ↓Pl.p_Pow65, ↓Pl.p_MulS, ↓Pl.p_AddL, ↓Pl.p_AddT, ↓Pl.p_Lt, ↓Pl.p_LtE, ↓Pl.p_Gt, ↓Pl.p_GtE, ↓Pl.p_Eq, ↓Pl.p_NotEq, ↓Pl.p_IsN, ↓Pl.p_IsNotN, ↓Pl.p_Is_bl, ↓Pl.p_IsNot_bl, ↓Pl.p_Is_int, ↓Pl.p_IsNot_int, ↓Pl.p_Is_str, ↓Pl.p_IsNot_str, ↓Pl.p_Is_tup, ↓Pl.p_IsNot_tup, ↓Pl.p_Is_lst, ↓Pl.p_IsNot_lst, ↓Pl.p_Is_exc, ↓Pl.p_IsNot_exc, ↓Pl.p_Is_scr, ↓Pl.p_IsNot_scr, ↓Pl.p_IsB, ↓Pl.p_IsNotB, ↓Pl.p_idx_tup, ↓Pl.p_idx_lst, ↓Pl.p_idx_scr, ↓Pl.p_at0, ↓Pl.p_at1, ↓Pl.p_at2, ↓Pl.p_at3, ↓Pl.p_at4, ↓Pl.p_at5, ↓Pl.p_at6, ↓Pl.p_at7, ↓Pl.p_at8, ↓Pl.p_set0, ↓Pl.p_set1, ↓Pl.p_set2, ↓Pl.p_set3, ↓Pl.p_set4, ↓Pl.p_set5, ↓Pl.p_lenL, ↓Pl.p_lenT, ↓Pl.p_lenS, ↓Pl.p_abs, ↓Pl.p_max2, ↓Pl.p_min2, ↓Pl.p_int, ↓Pl.p_intb, ↓Pl.p_divmod, ↓Pl.p_listL, ↓Pl.p_listT, ↓Pl.p_tupL, ↓Pl.p_tupT, ↓Pl.p_augA, ↓Pl.p_augS, ↓Pl.p_isi_int_non, ↓Pl.p_isi_bool_non, ↓Pl.p_isi_str_non, ↓Pl.p_isi_list_non, ↓Pl.p_isi_tuple_non, ↓Pl.p_isi_lt_non, ↓Pl.p_isi_int_bl, ↓Pl.p_isi_bool_bl, ↓Pl.p_isi_str_bl, ↓Pl.p_isi_list_bl, ↓Pl.p_isi_tuple_bl, ↓Pl.p_isi_lt_bl, ↓Pl.p_isi_int_int, ↓Pl.p_isi_bool_int, ↓Pl.p_isi_str_int, ↓Pl.p_isi_list_int, ↓Pl.p_isi_tuple_int, ↓Pl.p_isi_lt_int, ↓Pl.p_isi_int_str, ↓Pl.p_isi_bool_str, ↓Pl.p_isi_str_str, ↓Pl.p_isi_list_str, ↓Pl.p_isi_tuple_str, ↓Pl.p_isi_lt_str, ↓Pl.p_isi_int_tup, ↓Pl.p_isi_bool_tup, ↓Pl.p_isi_str_tup, ↓Pl.p_isi_list_tup, ↓Pl.p_isi_tuple_tup, ↓Pl.p_isi_lt_tup, ↓Pl.p_isi_int_lst, ↓Pl.p_isi_bool_lst, ↓Pl.p_isi_str_lst, ↓Pl.p_isi_list_lst, ↓Pl.p_isi_tuple_lst, ↓Pl.p_isi_lt_lst, ↓Pl.p_isi_int_scr, ↓Pl.p_isi_bool_scr, ↓Pl.p_isi_str_scr, ↓Pl.p_isi_list_scr, ↓Pl.p_isi_tuple_scr, ↓Pl.p_isi_lt_scr, ↓Pl.p_isi_int_exc, ↓Pl.p_isi_bool_exc, ↓Pl.p_isi_str_exc, ↓Pl.p_isi_list_exc, ↓Pl.p_isi_tuple_exc, ↓Pl.p_isi_lt_exc, ↓Pl.p_sliceL, ↓Pl.p_sliceT, ↓Pl.z_l0, ↓Pl.z_l1, ↓Pl.z_l2, ↓Pl.z_l3, ↓Pl.z_l4, ↓Pl.z_l5, ↓Pl.z_l6, ↓Pl.z_l7, ↓Pl.z_l8, ↓Pl.z_l9, ↓Pl.z_l10, ↓Pl.z_l11, ↓Pl.z_l12, ↓Pl.z_szT, ↓Pl.z_inR, ↓Pl.z_inR2, ↓Pl.z_lenlt, Pl.w_some, Pl.w_none, Pl.w_frzp, Pl.w_frzl, Pl.w_fzL0, Pl.w_fzL1, Pl.w_fzL2, Pl.w_flp, Pl.w_fll, Pl.w_flnil, Pl.w_flcons, Pl.w_fzLm, Pl.w_flmap, Pl.w_get0, Pl.w_getS, Pl.w_getP0, Pl.w_getPS, Pl.w_set0, Pl.w_setS, Pl.w_wipe0, Pl.w_wipe1, Pl.w_condT, Pl.w_condF, Pl.w_condN, Pl.w_tyb, Pl.w_inti, Pl.w_itl, Pl.w_itt, Pl.w_its, Pl.w_ll, Pl.w_bindv, Pl.w_bindt, Pl.w_bindl, Pl.w_binds0, Pl.w_binds1, Pl.w_lit, Pl.w_var, Pl.w_glob, Pl.o_var, Pl.r_var, Pl.o_lit, Pl.r_lit, Pl.o_glob, Pl.r_glob, Pl.o_bin, Pl.r_bin, Pl.o_neg, Pl.r_neg, Pl.o_not, Pl.r_not, Pl.o_cmp, Pl.r_cmp, Pl.o_chain, Pl.r_chain, Pl.o_and, Pl.r_and, Pl.o_or, Pl.r_or, Pl.o_ife, Pl.r_ife, Pl.o_tup, Pl.r_tup, Pl.o_lst, Pl.r_lst, Pl.o_idx, Pl.r_idx, Pl.o_idx2, Pl.r_idx2, Pl.o_slc, Pl.r_slc, Pl.o_call, Pl.r_call, Pl.o_bi, Pl.r_bi, Pl.o_isi, Pl.r_isi, Pl.o_mkx, Pl.r_mkx, Pl.o_comp, Pl.r_comp, Pl.o_rng1, Pl.r_rng1, Pl.o_rng2, Pl.r_rng2, Pl.o_enum, Pl.r_enum, Pl.o_zip, Pl.r_zip, Pl.o_rng3, Pl.r_rng3, Pl.o_view, Pl.r_view, Pl.o_cnt, Pl.r_cnt, Pl.o_dnil, Pl.r_dnil, Pl.o_keys, Pl.r_keys, Pl.w_bin, Pl.w_cmp, Pl.tv_var, Pl.iv_var, Pl.tv_lit, Pl.iv_lit, Pl.tv_glob, Pl.iv_glob, Pl.iv_bin, Pl.tv_chain, Pl.iv_ife, Pl.iv_tup, Pl.iv_lst, Pl.tv_idx, Pl.iv_idx, Pl.tv_idx2, Pl.iv_idx2, Pl.tv_slc, Pl.iv_slc, Pl.tv_call, Pl.iv_call, Pl.tv_isi, Pl.tv_mkx, Pl.iv_comp, Pl.tv_bi, Pl.iv_bi, Pl.t_cmpW, Pl.w_neg, Pl.w_not, Pl.t_notW, Pl.t_and1W, Pl.t_andW, Pl.t_or1W, Pl.t_orW, Pl.w_and1, Pl.w_and, Pl.w_or1, Pl.w_or, Pl.w_chain, Pl.w_ife, Pl.s_nil, Pl.s_cons, Pl.w_tup, Pl.w_lst, Pl.w_idx, Pl.w_pp, Pl.w_atl, Pl.w_atv, Pl.w_idp, Pl.w_idl, Pl.w_idx2, Pl.p_idx2P, Pl.w_oin, Pl.w_ois, Pl.w_slc, Pl.w_call, Pl.w_callF, Pl.w_callM, Pl.w_callM_call, Pl.w_callM_lst, Pl.w_callM_bin, Pl.w_callM_slc, Pl.w_callM_bi, Pl.w_callM_comp, Pl.w_callM_ife, Pl.w_callM_idx, Pl.a_pos0, Pl.a_pos1, Pl.a_pos2, Pl.a_pos3, Pl.a_pos4, Pl.a_pos5, Pl.a_pos6, Pl.a_pos7, Pl.a_pos8, Pl.a_pos9, Pl.w_RWok, Pl.w_RWexc, Pl.w_pz0, Pl.w_pzp, Pl.w_pzl, Pl.w_fz0, Pl.w_fzp, Pl.w_fzl, Pl.w_fzmap, Pl.w_bi1, Pl.w_bi2, Pl.w_isi, Pl.w_mkx, Pl.w_strs, Pl.w_getO0, Pl.w_getOS, Pl.w_back0, Pl.w_back1, Pl.w_comp, Pl.w_compT, Pl.iv_rng1, Pl.iv_rng2, Pl.iv_rng3, Pl.w_frzd, Pl.w_dd, Pl.w_keyi, Pl.w_keys_, Pl.w_dnil, Pl.w_keys, Pl.w_view0, Pl.w_viewN, Pl.w_viewS, Pl.t_view, Pl.w_view, Pl.w_flI, Pl.w_flB, Pl.w_flS, Pl.w_flN, Pl.w_lstl, Pl.w_cnt, Pl.iv_enum, Pl.w_zipl, Pl.w_zipt, Pl.iv_zip, Pl.q_nx, Pl.q_rt, Pl.q_bk, Pl.q_ct, Pl.q_ex, Pl.b_nilW, Pl.b_asg, Pl.b_asgt, Pl.w_par0, Pl.w_par1, Pl.b_par, Pl.b_asgL, Pl.b_set, Pl.b_set2, Pl.p_set2P, Pl.b_dset, Pl.b_aug, Pl.b_app, Pl.b_expr, Pl.b_ife, Pl.b_for, Pl.b_while, Pl.b_retW, Pl.b_retV, Pl.b_raise, Pl.b_raiseF, Pl.b_pass, Pl.b_brk, Pl.b_cont, Pl.b_frz, Pl.b_try, Pl.y_nx, Pl.y_rt, Pl.y_bk, Pl.y_ct, Pl.y_keep, Pl.f_nxF, Pl.f_rtF, Pl.f_exF, Pl.f_nxT, Pl.f_rtT, Pl.w_init0, Pl.w_initN, Pl.w_initS, Pl.l_nx, Pl.l_ct, Pl.l_bk, Pl.l_rt, Pl.l_ex, Pl.c_t0, Pl.c_t1, Pl.p_Add, Pl.p_Sub, Pl.p_Mul, Pl.p_Div, Pl.p_Mod, Pl.p_Pow0, Pl.p_Pow1, Pl.p_Pow2, Pl.p_Pow3, Pl.p_Pow4, Pl.p_Pow5, Pl.p_Pow6, Pl.p_Pow7, Pl.p_Pow8, Pl.p_Pow9, Pl.p_Pow10, Pl.p_Pow11, Pl.p_Pow12, Pl.p_Pow13, Pl.p_Pow14, Pl.p_Pow15, Pl.p_Pow16, Pl.p_Pow17, Pl.p_Pow18, Pl.p_Pow19, Pl.p_Pow20, Pl.p_Pow21, Pl.p_Pow22, Pl.p_Pow23, Pl.p_Pow24, Pl.p_Pow25, Pl.p_Pow26, Pl.p_Pow27, Pl.p_Pow28, Pl.p_Pow29, Pl.p_Pow30, Pl.p_Pow31, Pl.p_Pow32, Pl.p_Pow33, Pl.p_Pow34, Pl.p_Pow35, Pl.p_Pow36, Pl.p_Pow37, Pl.p_Pow38, Pl.p_Pow39, Pl.p_Pow40, Pl.p_Pow41, Pl.p_Pow42, Pl.p_Pow43, Pl.p_Pow44, Pl.p_Pow45, Pl.p_Pow46, Pl.p_Pow47, Pl.p_Pow48, Pl.p_Pow49, Pl.p_Pow50, Pl.p_Pow51, Pl.p_Pow52, Pl.p_Pow53, Pl.p_Pow54, Pl.p_Pow55, Pl.p_Pow56, Pl.p_Pow57, Pl.p_Pow58, Pl.p_Pow59, Pl.p_Pow60, Pl.p_Pow61, Pl.p_Pow62, Pl.p_Pow63, Pl.p_Pow64, Pl.p_Pow65, Pl.p_MulS, Pl.p_AddL, Pl.p_AddT, Pl.p_Lt, Pl.p_LtE, Pl.p_Gt, Pl.p_GtE, Pl.p_Eq, Pl.p_NotEq, Pl.p_IsN, Pl.p_IsNotN, Pl.p_Is_bl, Pl.p_IsNot_bl, Pl.p_Is_int, Pl.p_IsNot_int, Pl.p_Is_str, Pl.p_IsNot_str, Pl.p_Is_tup, Pl.p_IsNot_tup, Pl.p_Is_lst, Pl.p_IsNot_lst, Pl.p_Is_exc, Pl.p_IsNot_exc, Pl.p_Is_scr, Pl.p_IsNot_scr, Pl.p_IsB, Pl.p_IsNotB, Pl.p_idx_tup, Pl.p_idx_lst, Pl.p_idx_scr, Pl.p_at0, Pl.p_at1, Pl.p_at2, Pl.p_at3, Pl.p_at4, Pl.p_at5, Pl.p_at6, Pl.p_at7, Pl.p_at8, Pl.p_set0, Pl.p_set1, Pl.p_set2, Pl.p_set3, Pl.p_set4, Pl.p_set5, Pl.p_lenL, Pl.p_lenT, Pl.p_lenS, Pl.p_abs, Pl.p_max2, Pl.p_min2, Pl.p_int, Pl.p_intb, Pl.p_divmod, Pl.p_listL, Pl.p_listT, Pl.p_tupL, Pl.p_tupT, Pl.p_augA, Pl.p_augS, Pl.p_isi_int_non, Pl.p_isi_bool_non, Pl.p_isi_str_non, Pl.p_isi_list_non, Pl.p_isi_tuple_non, Pl.p_isi_lt_non, Pl.p_isi_int_bl, Pl.p_isi_bool_bl, Pl.p_isi_str_bl, Pl.p_isi_list_bl, Pl.p_isi_tuple_bl, Pl.p_isi_lt_bl, Pl.p_isi_int_int, Pl.p_isi_bool_int, Pl.p_isi_str_int, Pl.p_isi_list_int, Pl.p_isi_tuple_int, Pl.p_isi_lt_int, Pl.p_isi_int_str, Pl.p_isi_bool_str, Pl.p_isi_str_str, Pl.p_isi_list_str, Pl.p_isi_tuple_str, Pl.p_isi_lt_str, Pl.p_isi_int_tup, Pl.p_isi_bool_tup, Pl.p_isi_str_tup, Pl.p_isi_list_tup, Pl.p_isi_tuple_tup, Pl.p_isi_lt_tup, Pl.p_isi_int_lst, Pl.p_isi_bool_lst, Pl.p_isi_str_lst, Pl.p_isi_list_lst, Pl.p_isi_tuple_lst, Pl.p_isi_lt_lst, Pl.p_isi_int_scr, Pl.p_isi_bool_scr, Pl.p_isi_str_scr, Pl.p_isi_list_scr, Pl.p_isi_tuple_scr, Pl.p_isi_lt_scr, Pl.p_isi_int_exc, Pl.p_isi_bool_exc, Pl.p_isi_str_exc, Pl.p_isi_list_exc, Pl.p_isi_tuple_exc, Pl.p_isi_lt_exc, Pl.p_sliceL, Pl.p_sliceT, Pl.z_l0, Pl.z_l1, Pl.z_l2, Pl.z_l3, Pl.z_l4, Pl.z_l5, Pl.z_l6, Pl.z_l7, Pl.z_l8, Pl.z_l9, Pl.z_l10, Pl.z_l11, Pl.z_l12, Pl.z_map0, Pl.z_map1, Pl.z_app0, Pl.z_app1, Pl.z_rep0, Pl.z_repS, Pl.z_gt, Pl.z_szT, Pl.z_inR, Pl.z_inR2, Pl.z_lenlt, ↓Pl.w_fzLmp, Pl.w_fzLmp, ↓Pl.w_flmp, Pl.w_flmp, Pl.frzL_mp, ↓Pl.p_all, Pl.p_all, ↓Pl.p_atInt, Pl.p_atInt, decide_true, decide_false, Bool.not_true, Bool.not_false, Int.reduceEq, Int.reduceLT, Int.reduceLE, ↓Pl.p_EqNN, Pl.p_EqNN, ↓Pl.p_NeNN, Pl.p_NeNN, ↓Pl.p_EqNI, Pl.p_EqNI, ↓Pl.p_EqIN, Pl.p_EqIN, ↓Pl.p_NeNI, Pl.p_NeNI, ↓Pl.p_NeIN, Pl.p_NeIN, ↓Pl.p_EqB, Pl.p_EqB, ↓Pl.p_NeB, Pl.p_NeB, Lw.fn_is_integer, Lw.fn_is_from, Lw.fn_is_between, Lw.fn_is_index, Lw.fn_is_ascending, Lw.fn_check_index, Lw.fn_are_turns, Lw.fn_is_places, Lw.fn_is_stretch, Lw.fn_is_entry_of, Lw.fn_are_ends, Lw.fn_is_tie_of, Lw.fn_is_book, Lw.fn_check_book, Lw.fn_check_day, Lw.fn_nought_in, Lw.fn_mark_in, Lw.fn_check_term, Lw.fn_check_holidays, Lw.fn_date_of, Lw.fn_number_of_date, Lw.fn_month_length, Lw.fn_weekday_of, Lw.fn_is_open_day, Lw.fn_is_open, Lw.fn_workdays_ahead, Lw.fn_workday_at, Lw.fn_lost_workdays, Lw.fn_open_days, Lw.fn_open_day_behind, Lw.fn_due_of, Lw.fn_due_day, Lw.fn_due_mark_in, Lw.fn_due_mark, Lw.fn__law_purse, Lw.fn__law_take, Lw.fn__law_pick, Lw.fn__law_match, Lw.fn__law_long, Lw.fn__law_counted, Lw.fn__law_drawn_day, Lw.fn__law_drawn_holidays, Lw.fn__law_is_work, Lw.fn__law_walked, Lw.fn__law_month_on, Lw.fn__law_due, Lw.fn__law_mark_right, Lw.fn_law, Lw.gl_MINUTES, Lw.gl_APART, Lw.gl_LOOK, Lw.gl_DAYS, Lw.gl_OPEN, Lw.gl_MONTHS, Lw.gl_END, Lw.gl_TERM_WORDS, Lw.gl_MONTH_DAYS, Lw.gl_FIRST_MONDAY, Lw.gl_FIRST_MARCH, Lw.gl_CYCLE, Lw.kw_is_open_0_1_0, Lw.kw_open_days_0_2_1_0, Lw.kw_due_day_0_2_1_0, Lw.kw_due_mark_0_3_2_1_0, $ls,*])
local macro_rules
  | `(tactic| simp_arith! [$ls,*]) => `(tactic| simp_arith [$ls,*])
local macro_rules
  | `(tactic| simp_arith! [$ls,*]) => `(tactic| simp_arith [c_is_integer, c_is_from, c_check_day, c_weekday_of, c_is_open_day, c_workdays_ahead, c_workday_at, c_long, c_is_work, p_all0, p_all1, p_all2, p_all3, p_sum0, p_sum1, p_sum2, $ls,*])
open Pu (wa dayN lost isO opn Beh nxt FD Ln DayAt longF)
def gO (hs : List Int) : P → Bool
  | .int t => isO hs t
  | _ => false
theorem cnt_open {hs : List Int} (nd : hs.Nodup) (a : Int) : ∀ n : Nat, (((rangeOf a n).filter (gO hs)).length : Int) = opn hs a (a + (n : Int) - 1)
  | 0 => by
    have := Pu.opn_none hs a
    rw [show a + ((0 : Nat) : Int) - 1 = a - 1 by omega, this]
    rfl
  | n + 1 => by
    have ih := cnt_open nd a n
    have st := Pu.opn_step nd (a := a) (b := a + (n : Int) - 1) (by omega)
    rw [show a + (n : Int) - 1 + 1 = a + ((n + 1 : Nat) : Int) - 1 by omega] at st
    rw [st, ← ih, rangeOf_map, rangeOf_map, List.range_succ, List.map_append, List.filter_append, List.length_append]
    have e : gO hs (.int (a + (n : Int))) = isO hs (a + ((n + 1 : Nat) : Int) - 1) := by
      show isO hs (a + (n : Int)) = _
      rw [show a + ((n + 1 : Nat) : Int) - 1 = a + (n : Int) by omega]
    rw [← e]
    cases q : gO hs (.int (a + (n : Int))) with
    | true => simp [q]
    | false => simp [q]
theorem cnt_rng {hs : List Int} (nd : hs.Nodup) (a b : Int) : (((rangeOf a (b + 1 - a).toNat).filter (gO hs)).length : Int) = if b < a then 0 else opn hs a b := by
  rw [cnt_open nd]
  split
  · rename_i h
    rw [show (b + 1 - a).toNat = 0 by omega, show a + ((0 : Nat) : Int) - 1 = a - 1 by omega]
    exact Pu.opn_none hs a
  · rw [show a + (((b + 1 - a).toNat : Nat) : Int) - 1 = b by omega]
theorem words_in {x : P} (h : x ∈ [P.str "days", P.str "open", P.str "months", P.str "end"]) : ∃ w, Word w ∧ x = .str w := by
  simp only [List.mem_cons, List.not_mem_nil, or_false] at h
  rcases h with rfl | rfl | rfl | rfl
  · exact ⟨_, .inl rfl, rfl⟩
  · exact ⟨_, .inr (.inl rfl), rfl⟩
  · exact ⟨_, .inr (.inr (.inl rfl)), rfl⟩
  · exact ⟨_, .inr (.inr (.inr rfl)), rfl⟩
def wfuel : Nat := 1000000
theorem law_w (ns : List Int) (hn : ns.length ≤ 63) : RW (callN fnT globT wfuel 40 ix_law [.p (.scr (ns.map .int))]) (fun d _ => Is d (.p (.bl true))) (fun _ _ => False) := by
  have hw : 200000 < wfuel := by decide
  rw [RW_callN fn_law rfl (by omega)]
  unfold bd_law
  simp_arith! [List.length_map]
  have hm : ∃ m : Nat, m ≤ 4 ∧ (if (if (ns.length : Int) < 4 then (ns.length : Int) else 4) > 1 then (if (ns.length : Int) < 4 then (ns.length : Int) else 4) else 1).toNat = m := ⟨_, by split <;> split <;> omega, rfl⟩
  obtain ⟨m, hm4, em⟩ := hm
  rw [em]
  refine FW_range0 (fun _ ρ => ∃ (x1 x2 x3 x4 x5 x6 x7 x8 x9 x10 x11 : Option D), Is ρ [some (.p (.scr (ns.map .int))), x1, x2, x3, x4, x5, x6, x7, x8, x9, x10, x11, none]) ⟨_, _, _, _, _, _, _, _, _, _, _, rfl⟩ ?_ ?_
  · rintro i ρ hi ⟨x1, x2, x3, x4, x5, x6, x7, x8, x9, x10, x11, rfl⟩
    simp_arith! []
    refine w_purse (by omega) ns i (by omega) (by omega) fun u hu => ?_
    simp_arith! []
    refine FW_range0 (fun t ρ => ∃ (u' : D) (x3 x4 x5 x6 x7 x8 x9 x10 x11 : Option D), Urn (1000 * (t : Int)) u' ∧ Is ρ [some (.p (.scr (ns.map .int))), some (.p (.int (i : Int))), some u', x3, x4, x5, x6, x7, x8, x9, x10, x11, none]) ⟨u, _, _, _, _, _, _, _, _, _, hu.mono (by omega), rfl⟩ ?_ ?_
    · rintro t ρ ht ⟨u0, x3, x4, x5, x6, x7, x8, x9, x10, x11, hu0, rfl⟩
      simp_arith! []
      refine w_drawn_day hu0 (by omega) (by omega) fun d u1 hu1 _ _ => ?_
      simp_arith! []
      refine w_drawn_holidays hu1 (by omega) (by omega) fun hs u2 hu2 h => ?_
      simp_arith! []
      refine FW_invP (fun _ ρ => ∃ (x6 x8 : Option D), Is ρ [some (.p (.scr (ns.map .int))), some (.p (.int (i : Int))), some u2, some (.p (.int (t : Int))), some (.p (.int d)), some (.p (.tup (hs.map .int))), x6, x7, x8, x9, x10, x11, none]) ⟨_, _, rfl⟩ ?_ ?_
      · rintro j x ρ hx ⟨x6, x8, rfl⟩
        have hx2 := List.mem_of_getElem? hx
        rw [rangeOf_map] at hx2
        obtain ⟨s, _, rfl⟩ := List.mem_map.mp hx2
        clear hx hx2
        generalize -2 + (s : Int) = q
        have em2 : callN fnT globT wfuel (40 - 1) ix__law_match [.p (.lst [.bl (isO hs (d + q)), .bl (isO hs (d + q))]), .p (.lst [.bl (isO hs (d + q)), .bl (isO hs (d + q))])] = .ok (.p (.bl true)) none := by
          refine c_match_lst wfuel _ (by omega) _ (by simp) fun y hy => ?_
          simp only [List.mem_cons, List.not_mem_nil, or_false] at hy
          rcases hy with rfl | rfl <;> exact c_match_bl wfuel _ (by omega) _
        simp_arith! [c_is_open wfuel (40 - 1) (by omega) _ hs h, em2]
        exact ⟨_, _, rfl⟩
      · rintro ρ ⟨x6, x8, rfl⟩
        simp_arith! []
        refine w_take hu2 (by omega) (by omega) (by omega) (by omega) fun r u3 hu3 a0 a1 => ?_
        simp_arith! []
        generalize hb : d + r - 4 = b
        refine CW_pure (fun x => .p x) (gO hs) (by rw [rangeOf_len]; omega) ?_ ?_
        · intro x hx
          rw [rangeOf_map] at hx
          obtain ⟨s, _, rfl⟩ := List.mem_map.mp hx
          generalize d + (s : Int) = q
          simp_arith! []
          refine ⟨rfl, ?_⟩
          cases isO hs q with
          | true =>
            simp_arith! []
            exact ⟨rfl, rfl⟩
          | false =>
            simp_arith! []
            exact rfl
        · have hc := cnt_rng h.nodup d b
          generalize (rangeOf d (b + 1 - d).toNat).filter (gO hs) = xs at hc
          simp_arith! []
          rw [hc]
          generalize hv : (if b < d then 0 else opn hs d b) = v
          have eo : callN fnT globT wfuel (40 - 1) ix_open_days [.p (.int d), .p (.int b), .p (.tup (hs.map .int))] = .ok (.p (.int v)) none := by
            rw [← hv]
            exact c_open_days wfuel _ (by omega) d b hs h
          have em2 : callN fnT globT wfuel (40 - 1) ix__law_match [.p (.lst [.int v, .int v]), .p (.lst [.int v, .int v])] = .ok (.p (.bl true)) none := by
            refine c_match_lst wfuel _ (by omega) _ (by simp) fun y hy => ?_
            simp only [List.mem_cons, List.not_mem_nil, or_false] at hy
            rcases hy with rfl | rfl <;> exact c_match_int wfuel _ (by omega) _
          simp_arith! [eo, em2]
          refine FW_invP (fun j ρ => ∃ (u' : D) (x7 x8 x9 x10 x11 : Option D), Urn (1000 * (t : Int) + 200 + 10 * (j : Int)) u' ∧ Is ρ [some (.p (.scr (ns.map .int))), some (.p (.int (i : Int))), some u', some (.p (.int (t : Int))), some (.p (.int d)), some (.p (.tup (hs.map .int))), x6, x7, x8, x9, x10, x11, none]) ⟨_, _, _, _, _, _, hu3.mono (by omega), rfl⟩ ?_ ?_
          · rintro j x ρ hx ⟨u4, x7, x8, x9, x10, x11, hu4, rfl⟩
            have hj : j < 4 := (List.getElem?_eq_some_iff.mp hx).1
            obtain ⟨w, hwd, rfl⟩ := words_in (List.mem_of_getElem? hx)
            clear hx
            simp_arith! []
            refine w_take hu4 (by omega) (by omega) (by omega) (by omega) fun k u5 hu5 k0 k1 => ?_
            simp_arith! []
            refine FW_invP (fun l ρ => ∃ (x8 x11 : Option D), (0 < l → ∃ kk : Int, 0 ≤ kk ∧ kk ≤ 31 ∧ x11 = some (.p (.int kk))) ∧ Is ρ [some (.p (.scr (ns.map .int))), some (.p (.int (i : Int))), some u5, some (.p (.int (t : Int))), some (.p (.int d)), some (.p (.tup (hs.map .int))), x6, x7, x8, x9, some (.p (.str w)), x11, none]) ⟨_, _, fun z => absurd z (by omega), rfl⟩ ?_ ?_
            · rintro l x ρ hx ⟨x8, x11, _, rfl⟩
              have hx2 := List.mem_of_getElem? hx
              have hk : ∃ kk : Int, 0 ≤ kk ∧ kk ≤ 31 ∧ x = .int kk := by
                simp only [List.mem_cons, List.not_mem_nil, or_false] at hx2
                rcases hx2 with rfl | rfl | rfl
                · exact ⟨_, by omega, by omega, rfl⟩
                · exact ⟨_, by omega, by omega, rfl⟩
                · exact ⟨_, k0, by omega, rfl⟩
              obtain ⟨kk, kk0, kk1, rfl⟩ := hk
              clear hx hx2
              obtain ⟨y, hy⟩ := due_fix wfuel hw w hwd d kk kk0 (by omega) hs h
              obtain ⟨y1, y2⟩ := hy (40 - 1) (by omega)
              simp_arith! [y1, y2, c_match_int wfuel (40 - 1) (by omega) y]
              exact ⟨_, _, fun _ => ⟨kk, kk0, kk1, rfl⟩, rfl⟩
            · rintro ρ ⟨x8, x11, h11, rfl⟩
              obtain ⟨kk, kk0, kk1, rfl⟩ := h11 (by simp)
              simp_arith! []
              refine w_mark_right hu5 (by omega) hw (by omega) hwd kk0 (by omega) h fun u6 hu6 => ?_
              simp_arith! []
              exact ⟨u6, _, _, _, _, _, hu6.mono (by omega), rfl⟩
          · rintro ρ ⟨u4, x7, x8, x9, x10, x11, hu4, rfl⟩
            simp_arith! []
            exact ⟨u4, _, _, _, _, _, _, _, _, _, hu4.mono (by simp; omega), rfl⟩
    · rintro ρ ⟨u0, x3, x4, x5, x6, x7, x8, x9, x10, x11, hu0, rfl⟩
      simp_arith! []
      exact ⟨_, _, _, _, _, _, _, _, _, _, _, rfl⟩
  · rintro ρ ⟨x1, x2, x3, x4, x5, x6, x7, x8, x9, x10, x11, rfl⟩
    simp_arith! []
    exact rfl
theorem law_true (ns : List Int) (h : ns.length ≤ 63) : ∃ out, callN G.fn G.glob wfuel 40 ix_law [.p (.scr (ns.map .int))] = .ok (.p (.bl true)) out := by
  have e := law_w ns h
  show ∃ out, callN fnT globT wfuel 40 ix_law [.p (.scr (ns.map .int))] = .ok (.p (.bl true)) out
  revert e
  generalize callN fnT globT wfuel 40 ix_law [.p (.scr (ns.map .int))] = r
  intro e
  cases r with
  | ok d o => exact ⟨o, by rw [show d = .p (.bl true) from e]⟩
  | exc c fs => exact e.elim
  | bad => exact e.elim

end Lw

set_option Elab.async false
set_option linter.all false
set_option autoImplicit false
set_option maxRecDepth 100000
set_option maxHeartbeats 0
namespace Lw
open PySem L2 Pl
abbrev R : PySem.W.OpenRow := PySem.W.OpenLaw.row PySem.Challenge.rw_dueanywhere_k29_due_days_walked
abbrev hk : PySem.W.Hook := hookP 4 (factB G) (defDs G T)
def ob (s : PySem.W.SharedT) : AlP := obsPG 4 (factB G) (defDs G T) (HandSHeadRun.getT s)
theorem ob_eq (s : PySem.W.SharedT) : ob s = hk.obs s.abs := obsPG_eq (HandSHeadRun.getT_eq s)
def loose : List Str := (["DueError", "InvalidIndex", "InvalidBook", "InvalidDay", "InvalidTerm", "InvalidHolidays", "is_integer", "is_from", "is_between", "is_index", "is_ascending", "check_index", "MINUTES", "APART", "LOOK", "are_turns", "is_places", "is_stretch", "is_entry_of", "are_ends"] : List Str) ++ (["is_tie_of", "is_book", "check_book", "check_day", "nought_in", "mark_in", "DAYS", "OPEN", "MONTHS", "END", "TERM_WORDS", "MONTH_DAYS", "FIRST_MONDAY", "FIRST_MARCH", "CYCLE", "check_term", "check_holidays", "date_of", "number_of_date", "month_length"] : List Str) ++ (["weekday_of", "is_open_day", "is_open", "workdays_ahead", "workday_at", "lost_workdays", "open_days", "open_day_behind", "due_of", "due_day", "due_mark_in", "due_mark", "_law_purse", "_law_take", "_law_pick", "_law_match", "_law_long", "_law_counted", "_law_drawn_day", "_law_drawn_holidays"] : List Str) ++ (["_law_is_work", "_law_walked", "_law_month_on", "_law_due", "_law_mark_right"] : List Str)
theorem run (w : World) : HandSHeadRun.RunEq R (PySem.W.view R.prog [70]) hk ob 20000 loose w := by
  intro os
  kernel_rfl
end Lw

set_option Elab.async false
set_option linter.all false
set_option autoImplicit false
set_option maxRecDepth 100000
set_option maxHeartbeats 0
namespace Lw
open PySem L2 Pl
theorem chk1 (f : Nat) (hf : f < G.nf) : defB G T f = true ∧ ((G.fn f).mt = true → 0 < (G.fn f).np) := by
  have h := List.all_eq_true.mp chk f (List.mem_range.mpr hf)
  rw [Bool.and_eq_true] at h
  refine ⟨h.1, fun z => ?_⟩
  have h2 := h.2
  rw [z] at h2
  exact of_decide_eq_true h2
end Lw
open PySem PySem.W PySem.Calls PyProof.Rows
theorem PySem.Challenge.cw_dueanywhere_k29_due_days_walked_holds : PySem.Challenge.rw_dueanywhere_k29_due_days_walked.Holds := by
  w_on; o_law
  refine HandSHeadRun.head_any (r := Lw.R) (q := view Lw.R.prog [70]) (H := Lw.hk) (ob := Lw.ob) (M := 20000) (loose := Lw.loose) (d := HandSHeadRun.topDef Lw.R.prog 70) (kwd := []) Lw.ob_eq
    (by kernel_rfl) (fun s => by kernel_rfl) Lw.run (by kernel_rfl) (by kernel_rfl) (by kernel_rfl) (by rfl) (by first | assumption | decide +kernel) (by decide +kernel) ⟨rfl, rfl, rfl, rfl, rfl, by decide +kernel⟩ ?hw ?hc
  case hw => w_witness2
  case hc =>
    refine Pl.walk_w (l := PySem.Challenge.rw_dueanywhere_k29_due_days_walked) (n := 63) (k := 40) (x := "_law_script") rfl (by decide) (by kernel_rfl) ⟨rfl, by decide, by decide⟩ ?F
    intro w mg fa h Y G hmg0
    obtain ⟨K, KX, c⟩ := Y
    have hmg : mg (Lw.G.fname 47) = some (.ref fa) := by
      have e : (HandSHeadRun.topDef Lw.R.prog 70).name = Lw.G.fname 47 := by kernel_rfl
      rw [← e]
      exact hmg0
    obtain ⟨fd, sp, hb, hs, hF⟩ := Pl.facts_of (P := (PySem.Challenge.rw_dueanywhere_k29_due_days_walked).prog) (w := w) (wf := Lw.wfuel) (n := 40) (fl := 47) (x := "_law_script") KX G (by decide) hmg c Lw.binds Lw.chk1 rfl rfl (by decide) Lw.law_true
    exact ⟨K, fd, sp, KX, hb, hs, hF⟩
