import PyProof.Rows.All
import Wide.All
import OpenK.AllK
import Wide.FinOn
import PySem.Challenge.RW_surefalls_k14_scripts_written
import HandS.ForMost
import HandS.ForExc
import HandS.Text
import HandS.Walk
import HandS.Zip
import HandS.IsInst
import HandS.TupAny
import HandS.TupMul
import HandS.Wide
import HandS.Lambda
import KE.DataEq
import PyProof.Rows.IntBool
import KE.GoesEnum
import HandS.Style
import HandS.ExcOwn
import HandS.More
import HandS.Property
import HandS.ClsMeth
import HandS.Star
import KE.KOpsOwn
import KE.KCallOwn
import HandS.Conv
import HandS.Iter
import KE.KStateDown
import KE.DataFind
import HandS.FStr
import HandS.HeadWalk
import HandS.SlotsOwn
import HandS.Exc
import HandS.TryMany
import HandS.ExcIs
import HandS.Defaults
import HandS.HeadHook1
import HandS.HeadHook2
import HandS.HeadHook3
import HandS.HeadHook4
import HandS.HeadEnd
import HandS.Base
import HandS.Call
import HandS.Ends
import HandS.Words
import HandS.WordsExc
import HandS.Head0
import HandS.Head1
import HandS.Head2
set_option Elab.async false
section
set_option linter.all false
/-! Mi, part A: pure values, the small language, its evaluator. -/
namespace Mi
open PySem L2

/-- pure values; cel n: the n-th mutable cell; scr: the script's own list; glo x: a def or class of the module -/
inductive PV where
  | non | bl (b : Bool) | int (i : Int) | str (x : Str)
  | tup (xs : List PV) | lst (xs : List PV) | cel (n : Nat) | scr (xs : List PV) | glo (x : Nat) | ty (n : String)
  /-- a dict that stays: flat values -/
  | dct (kvs : List (Key × V))
  /-- what a def was handed to call -/
  | clo

inductive CC where
  | lst (xs : List PV)
  | ins (c : Nat) (fs : List (Str × PV))
abbrev Sto := List CC
abbrev Env' := List (Option PV)

inductive R (α : Type) where
  | ok (a : α) (st : Sto)
  | ex (c : Nat) (st : Sto)
  | bad

namespace R
variable {α β : Type}
def bind (r : R α) (f : α → Sto → R β) : R β := match r with
  | .ok a st => f a st
  | .ex c st => .ex c st
  | .bad => .bad
def lift (o : Option α) (st : Sto) : R α := match o with
  | some a => .ok a st
  | none => .bad
/-- no error may leave -/
def noEx (r : R α) : R α := match r with
  | .ok a st => .ok a st
  | _ => .bad
@[simp] theorem noEx_ok (a : α) (st : Sto) : (R.ok a st).noEx = .ok a st := rfl
@[simp] theorem bind_ok (a : α) (st : Sto) (f : α → Sto → R β) : (R.ok a st).bind f = f a st := rfl
@[simp] theorem bind_ex (c : Nat) (st : Sto) (f : α → Sto → R β) : (R.ex c st).bind f = .ex c st := rfl
@[simp] theorem bind_bad (f : α → Sto → R β) : (R.bad).bind f = .bad := rfl
@[simp] theorem lift_some (a : α) (st : Sto) : lift (some a) st = .ok a st := rfl
@[simp] theorem lift_none (st : Sto) : lift (none : Option α) st = .bad := rfl
end R

/-! ### values -/
abbrev big : Nat := 1000000
mutual
/-- no cell within -/
def PV.noCel : PV → Bool
  | .cel _ => false
  | .clo => false
  | .tup xs => noCels xs
  | .lst xs => noCels xs
  | .scr xs => noCels xs
  | _ => true
def noCels : List PV → Bool
  | [] => true
  | x :: xs => x.noCel && noCels xs
end
mutual
/-- no function within -/
def PV.noClo : PV → Bool
  | .clo => false
  | .tup xs => noClos xs
  | .lst xs => noClos xs
  | .scr xs => noClos xs
  | _ => true
def noClos : List PV → Bool
  | [] => true
  | x :: xs => x.noClo && noClos xs
end
mutual
/-- no list within (nor cell) -/
def PV.noLst : PV → Bool
  | .cel _ => false
  | .lst _ => false
  | .scr _ => false
  | .dct _ => false
  | .clo => false
  | .tup xs => noLsts xs
  | _ => true
def noLsts : List PV → Bool
  | [] => true
  | x :: xs => x.noLst && noLsts xs
end
mutual
/-- plain data: none, bools, ints, texts, tuples, lists -/
def PV.dat : PV → Bool
  | .non | .bl _ | .int _ | .str _ => true
  | .tup xs => dats xs
  | .lst xs => dats xs
  | _ => false
def dats : List PV → Bool
  | [] => true
  | x :: xs => x.dat && dats xs
end
mutual
def PV.dep : PV → Nat
  | .tup xs => deps xs + 1
  | .lst xs => deps xs + 1
  | _ => 0
def deps : List PV → Nat
  | [] => 0
  | x :: xs => max x.dep (deps xs)
end
def b2i (b : Bool) : Int := if b then 1 else 0
mutual
/-- Python's == of data -/
def PV.eqv : PV → PV → Bool
  | .non, .non => true
  | .bl a, .bl b => a == b
  | .bl a, .int j => b2i a == j
  | .int i, .bl b => i == b2i b
  | .int i, .int j => i == j
  | .str x, .str y => x == y
  | .tup xs, .tup ys => eqvs xs ys
  | .lst xs, .lst ys => eqvs xs ys
  | _, _ => false
def eqvs : List PV → List PV → Bool
  | [], [] => true
  | x :: xs, y :: ys => x.eqv y && eqvs xs ys
  | _, _ => false
end

/-- a field is put -/
def putP (f : Str) (v : PV) : List (Str × PV) → List (Str × PV)
  | [] => [(f, v)]
  | (g, x) :: r => if g = f then (g, v) :: r else (g, x) :: putP f v r
/-- an instance of the class c; without that name; a field of it -/
def isIns (st : Sto) (c : Nat) : PV → Bool
  | .cel n => match st[n]? with
    | some (.ins d _) => decide (d = c)
    | _ => false
  | _ => false
def noFld (st : Sto) (m : Str) : PV → Bool
  | .cel n => match st[n]? with
    | some (.ins _ fs) => (fs.lookup m).isNone
    | _ => false
  | _ => false
def fldV (st : Sto) (c : Nat) (m : Str) : PV → Option PV
  | .cel n => match st[n]? with
    | some (.ins d fs) => if d = c then fs.lookup m else none
    | _ => none
  | _ => none
def fputV (st : Sto) (c : Nat) (m : Str) (o v : PV) : Option Sto := match o with
  | .cel n => (match st[n]? with
    | some (.ins d fs) => if d = c ∧ v.noClo = true ∧ fs.length < 900 then some (st.set n (.ins d (putP m v fs))) else none
    | _ => none)
  | _ => none
/-- a list's items: frozen, a cell's -/
def asL (st : Sto) : PV → Option (List PV)
  | .lst xs => some xs
  | .cel n => match st[n]? with
    | some (.lst xs) => some xs
    | _ => none
  | _ => none
/-- a cell read as a list -/
def snap (st : Sto) : PV → PV
  | .cel n => match st[n]? with
    | some (.lst xs) => .lst xs
    | _ => .cel n
  | v => v
/-- items of a list, a tuple -/
def asS (st : Sto) (v : PV) : Option (List PV) := match v with
  | .tup xs => some xs
  | .scr xs => some xs
  | v => asL st v
mutual
/-- cells of a pure def's end, frozen -/
def frz (st : Sto) : PV → Option PV
  | .cel n => match st[n]? with
    | some (.lst xs) => if noCels xs then some (.lst xs) else none
    | _ => none
  | .tup xs => (frzs st xs).map .tup
  | .lst xs => if noCels xs then some (.lst xs) else none
  | .scr xs => if noCels xs then some (.scr xs) else none
  | .clo => none
  | v => some v
def frzs (st : Sto) : List PV → Option (List PV)
  | [] => some []
  | x :: xs => (frz st x).bind fun y => (frzs st xs).map (y :: ·)
end
def cutG {α : Type} (xs : List α) (lo hi : Option Int) : List α := (xs.drop (HT.sIx xs.length 0 lo)).take (HT.sIx xs.length xs.length hi - HT.sIx xs.length 0 lo)

/-! ### operators by values -/
def divCap : Int := ((2 ^ 9000 : Nat) : Int)
def mulCap : Nat := 2 ^ 100000
def mulOk (i j : Int) : Bool := (decide (-(2 ^ 64) < i) && decide (i < 2 ^ 64)) || ((decide (-(2 ^ 64) < j) && decide (j < 2 ^ 64)) || (decide (i.natAbs < mulCap) && decide (j.natAbs < mulCap)))
def binV (st : Sto) : Operator → PV → PV → Option PV
  | .Add, .int i, .int j => some (.int (i + j))
  | .Add, .int i, .bl b => some (.int (i + b2i b))
  | .Add, .bl b, .int j => some (.int (b2i b + j))
  | .Sub, .int i, .int j => some (.int (i - j))
  | .Mult, .int i, .int j => if mulOk i j then some (.int (i * j)) else none
  | .FloorDiv, .int i, .int j => if decide (0 < j) && decide (j < divCap) then some (.int (i / j)) else none
  | .Mod, .int i, .int j => if decide (0 < j) then some (.int (i % j)) else none
  | .Pow, .int i, .int j => if decide (0 ≤ j) && (decide (j ≤ 64) && decide (i.natAbs < 2 ^ 32)) then some (.int (i ^ j.toNat)) else none
  | .Add, .str x, .str y => if x.length + y.length ≤ big then some (.str (x ++ y)) else none
  | .Add, .tup xs, .tup ys => if xs.length + ys.length ≤ big then some (.tup (xs ++ ys)) else none
  | .Mult, .tup xs, .int k => if decide (2 ≤ k) && (decide (k ≤ 1000) && (decide (xs.length ≤ 1000) && !xs.isEmpty)) then some (.tup (List.replicate k.toNat xs).flatten) else none
  | .Mult, .lst xs, .int k => if decide (0 ≤ k) && (decide (k ≤ 1000) && decide (xs.length ≤ 1000)) then some (.lst (List.replicate k.toNat xs).flatten) else none
  | .Add, x, y => match asL st x, asL st y with
    | some xs, some ys => if xs.length + ys.length ≤ big then some (.lst (xs ++ ys)) else none
    | _, _ => none
  | _, _, _ => none
def negV : PV → Option PV
  | .int i => some (.int (-i))
  | _ => none
def isN : PV → Bool
  | .non => true
  | _ => false
def eqV (st : Sto) (x y : PV) : Option Bool :=
  if (snap st x).dat && ((snap st y).dat && (decide ((snap st x).dep ≤ 60) || decide ((snap st y).dep ≤ 60))) then some ((snap st x).eqv (snap st y)) else none
def ints? : List PV → Option (List Int)
  | [] => some []
  | .int i :: r => (ints? r).map (i :: ·)
  | _ => none
def bools? : List PV → Option (List Bool)
  | [] => some []
  | .bl i :: r => (bools? r).map (i :: ·)
  | _ => none
def strs? : List PV → Option (List Str)
  | [] => some []
  | .str i :: r => (strs? r).map (i :: ·)
  | _ => none
def cmpV (st : Sto) : CmpOp → PV → PV → Option Bool
  | .Eq, x, y => eqV st x y
  | .NotEq, x, y => (eqV st x y).map (!·)
  | .Lt, .int i, .int j => some (decide (i < j))
  | .LtE, .int i, .int j => some (decide (i ≤ j))
  | .Gt, .int i, .int j => some (decide (j < i))
  | .GtE, .int i, .int j => some (decide (j ≤ i))
  | .Is, x, .non => some (isN x)
  | .IsNot, x, .non => some (!isN x)
  | .Is, .bl a, .bl b => some (a == b)
  | .Is, .non, .bl _ => some false
  | .IsNot, .bl a, .bl b => some (!(a == b))
  | .IsNot, .non, .bl _ => some true
  | .In, x, y => match asS st y with
    | some ys => if (snap st x).dat && (dats ys && decide (deps ys ≤ 60)) then some (ys.any fun z => z.eqv (snap st x)) else none
    | none => none
  | .NotIn, x, y => match asS st y with
    | some ys => if (snap st x).dat && (dats ys && decide (deps ys ≤ 60)) then some (!ys.any fun z => z.eqv (snap st x)) else none
    | none => none
  | _, _, _ => none
def truV (st : Sto) : PV → Option Bool
  | .non => some false
  | .bl b => some b
  | .int i => some (i != 0)
  | v => (asS st v).map fun xs => !xs.isEmpty
def ixV (st : Sto) (x y : PV) : Option PV := match y with
  | .int i => (match x with
    | .str z => if z.length ≤ big then (atI z.cps.toList i).map fun c => .str ⟨#[c]⟩ else none
    | x => (asS st x).bind fun xs => atI xs i)
  | _ => none
def isiV : PV → String → Option Bool
  | .non, "int" | .non, "bool" | .non, "str" | .non, "tuple" => some false
  | .bl _, "int" | .bl _, "bool" => some true
  | .bl _, "str" | .bl _, "tuple" => some false
  | .int _, "int" => some true
  | .int _, "bool" | .int _, "str" | .int _, "tuple" => some false
  | .str _, "str" => some true
  | .str _, "int" | .str _, "bool" | .str _, "tuple" => some false
  | .tup _, "tuple" => some true
  | .tup _, "int" | .tup _, "bool" | .tup _, "str" => some false
  | .lst _, "int" | .lst _, "bool" | .lst _, "str" | .lst _, "tuple" => some false
  | _, _ => none

inductive Bi where
  | len | abs | min2 | max2 | sum | all | any | tuple | list | int | bool | str | isi
  deriving DecidableEq
def biV (st : Sto) : Bi → List PV → Option PV
  | .len, [.str z] => if z.length ≤ big then some (.int z.length) else none
  | .len, [v] => (asS st v).map fun xs => .int xs.length
  | .abs, [.int i] => some (.int (if i < 0 then -i else i))
  | .min2, [.int i, .int j] => some (.int (if j < i then j else i))
  | .max2, [.int i, .int j] => some (.int (if j > i then j else i))
  | .sum, [v] => (asL st v).bind fun xs => (ints? xs).map fun ns => .int ns.sum
  | .all, [v] => (asL st v).bind fun xs => (bools? xs).map fun bs => .bl (bs.all id)
  | .any, [v] => (asL st v).bind fun xs => (bools? xs).map fun bs => .bl (bs.any id)
  | .tuple, [.tup xs] => some (.tup xs)
  | .tuple, [v] => (asL st v).map .tup
  | .list, [.tup xs] => some (.lst xs)
  | .list, [v] => (asL st v).map .lst
  | .int, [.int i] => some (.int i)
  | .int, [.bl b] => some (.int (b2i b))
  | .int, [.str x] => if x.length ≤ 640 then (PySem.intText? x).map .int else none
  | .str, [.int i] => if i.natAbs.log2 < 1920 then some (.str (toString i)) else none
  | .bool, [.bl b] => some (.bl b)
  | .isi, [v, .ty n] => (isiV v n).map .bl
  | _, _ => none

/-! ### dicts -/
def flatV? : PV → Option V
  | .non => some .non
  | .bl b => some (.bl b)
  | .int i => some (.int i)
  | .str x => some (.str x)
  | _ => none
def unflat : V → Option PV
  | .non => some .non
  | .bl b => some (.bl b)
  | .int i => some (.int i)
  | .str x => some (.str x)
  | _ => none
def key? : PV → Option Key
  | .int i => some (.inl i)
  | .str x => some (.inr x)
  | _ => none
def pair? : PV → Option (Key × V)
  | .tup [k, v] => (key? k).bind fun k => (flatV? v).map fun v => (k, v)
  | _ => none
def pairs? : List PV → Option (List (Key × V))
  | [] => some []
  | x :: xs => (pair? x).bind fun p => (pairs? xs).map (p :: ·)
def dctV (st : Sto) (x : PV) : Option PV := (asL st x).bind fun xs => (pairs? xs).bind fun ps => if ps.length ≤ big then some (.dct (mergeK [] ps)) else none
def getV (d k x : PV) : Option PV := match d with
  | .dct kvs => (key? k).bind fun k => (match valV kvs k with
    | some v => unflat v
    | none => some x)
  | _ => none

def cntV (st : Sto) (y z : PV) : Option PV := (asL st y).bind fun xs => if (snap st z).dat && (dats xs && decide (deps xs ≤ 60)) then some (.int (xs.countP fun v => v.eqv (snap st z) : Nat)) else none
def popV (st : Sto) : PV → R PV
  | .cel n => (match st[n]? with
    | some (.lst xs) => (match xs[xs.length - 1]? with
      | some v => .ok v (st.set n (.lst xs.dropLast))
      | none => .bad)
    | _ => .bad)
  | _ => .bad

/-! ### texts -/
def joinV (st : Sto) (a b : PV) : Option PV := match a with
  | .str x => (asS st b).bind fun ys => (strs? ys).bind fun zs => if (zs.map (·.length)).sum + zs.length * x.length ≤ big then some (.str (Txt.join x zs)) else none
  | _ => none
def splV (a b : PV) : Option PV := match a, b with
  | .str x, .str y => if (y.length == 0) = false ∧ x.length + 2 ≤ big then some (.lst ((Txt.split x y).map .str)) else none
  | _, _ => none
def fmtV : PV → Option PV
  | .str x => if x.length ≤ big then some (.str x) else none
  | .int i => if i.natAbs.log2 < 1920 then some (.str (toString i)) else none
  | _ => none
/-! ### the language -/
inductive Tg where
  | nm (i : Nat) | nil | cons (t ts : Tg)
inductive CM where
  | pure | snap | sto
inductive Ex where
  | var (i : Nat) | non | bl (b : Bool) | int (i : Int) | str (s : Str) | gl (x : Nat) | bty (n : String)
  | bin (o : Operator) (a b : Ex) | neg (a : Ex) | not (a : Ex) | and (a b : Ex) | or (a b : Ex)
  | cmp (o : CmpOp) (a b : Ex) | chn (o o' : CmpOp) (a b c : Ex) | ite (c a b : Ex)
  | nil | cons (a as : Ex)
  | tup (as : Ex) | lst (as : Ex) | cell (e : Ex)
  | call (m : CM) (f : Nat) (as : Ex) | bi (b : Bi) (as : Ex)
  | idx (a b : Ex) | sli (a lo hi : Ex) | omit
  | comp (tg : Tg) (ow : List Nat) (it c e : Ex)
  | lrg (a b : Ex) | lrd (a b : Ex)
  | comp2 (tg : Tg) (ow : List Nat) (it : Ex) (tg2 : Tg) (it2 e : Ex)
  | dict (a : Ex) | get (d k x : Ex)
  /-- a def called with a lambda behind its arguments: np parameters, the names that it captures -/
  | callL (f : Nat) (as : Ex) (np : Nat) (caps : List Nat) (body : Ex)
  /-- what was handed is called; a def that a name holds is called -/
  | calv (i : Nat) (as : Ex) | calg (m : CM) (i : Nat) (as : Ex)
  /-- a field of an instance of the class c; own operations, kept by the def f; a new instance; isinstance of an own class -/
  | fld (c : Nat) (x : Str) (e : Ex) | prop (c f : Nat) (e : Ex) | meth (c f : Nat) (e as : Ex) | item (c f : Nat) (a b : Ex) | ocall (c f : Nat) (e as : Ex)
  | ostr (c f : Nat) (e : Ex) | olen (c f : Nat) (e : Ex) | obool (c f : Nat) (e : Ex) | obin (o : Operator) (c f : Nat) (a b : Ex) | oinv (c f : Nat) (e : Ex)
  | ceq (c f : Nat) (a b : Ex) | isin (neg : Bool) (c f : Nat) (a e : Ex) | mk (c f : Nat) (as : Ex) | mks (v : Option Nat) (c f : Nat) (as e : Ex) | cm (c f : Nat) (as : Ex) | isc (c : Nat) (e : Ex)
  /-- texts -/
  | join (a b : Ex) | spl (a b : Ex) | fmt (e : Ex) | fs (as : Ex)
  /-- never asked -/
  | bot
  /-- how often; the last, taken off a cell -/
  | cnt (o x : Ex) | pop (o : Ex)
  | rng1 (a : Ex) | rng2 (a b : Ex) | zip (a b : Ex) | enu (a : Ex) | sq (a : Ex)
/-- what an except suite says -/
inductive Se where
  | str (s : Str) | non
  /-- isinstance(e, a class): the classes below it -/
  | isx (i : Nat) (c : Nat) (a b : Se)
inductive Su where
  | ret (e : Se) | set (i : Nat) (e : Se)
/-- except clauses: the class, the name, the suite -/
inductive Hn where
  | nil | cons (c : Nat) (i : Option Nat) (s : Su) (r : Hn)
inductive Sm where
  | skip | seq (a b : Sm)
  | set (i : Nat) (e : Ex) | setT (t : Tg) (e : Ex) | put (o i e : Ex) | app (o e : Ex)
  | ret (e : Ex) | ite (c : Ex) (a b : Sm) | for (t : Tg) (it : Ex) (b : Sm) | while (c : Ex) (b : Sm)
  | raise (c : Nat) (m : Str) | drop (e : Ex)
  | forC (t : Tg) (enu : Bool) (o : Ex) (b : Sm)
  | tryH (b : Sm) (h : Hn)
  /-- a field stored; an own operator in place; never reached -/
  | fput (c : Nat) (x : Str) (o e : Ex) | aug (o : Operator) (c f i : Nat) (e : Ex) | bot

/-- a comprehension's own slots forgotten -/
def wipeP (ρ : Env') : List Nat → Env'
  | [] => ρ
  | v :: vs => (wipeP ρ vs).set v none
def setTg : Tg → PV → Env' → Option Env'
  | .nm i, v, ρ => some (ρ.set i (some v))
  | .nil, .tup [], ρ => some ρ
  | .cons t ts, .tup (v :: vs), ρ => (setTg t v ρ).bind fun ρ' => setTg ts (.tup vs) ρ'
  | _, _, _ => none

/-- how a def is called: its name, its arguments, the cells; .. with a function behind the arguments; that function, called -/
structure CallF where
  call : Nat → List PV → Sto → R PV
  lam : Nat → List PV → (List PV → Sto → R PV) → Sto → R PV
  clo : List PV → Sto → R PV
  isF : Nat → Bool
instance : CoeFun CallF (fun _ => Nat → List PV → Sto → R PV) := ⟨CallF.call⟩
/-- what the module's names hold -/
abbrev SubF := Nat → Nat → Option Bool
structure GlobF where
  val : Nat → Option PV
  /-- a method's name -/
  mn : Nat → Str
  /-- which class stands below which -/
  S : SubF
instance : CoeFun GlobF (fun _ => Nat → Option PV) := ⟨GlobF.val⟩

def isStr : PV → Bool
  | .str _ => true
  | _ => false
/-- the other operand of an own operator -/
def opArg (st : Sto) (c : Nat) : PV → Bool
  | .tup _ => true
  | .cel n => isIns st c (.cel n)
  | _ => false
def iscV (st : Sto) (c : Nat) : PV → Option Bool
  | .non | .bl _ | .int _ | .str _ | .tup _ | .lst _ => some false
  | .cel n => (match st[n]? with
    | some (.lst _) => some false
    | some (.ins d _) => if d = c then some true else none
    | _ => none)
  | _ => none
def CM.isPure : CM → Bool
  | .sto => false
  | _ => true
def callP (cf : CallF) (m : CM) (f : Nat) (as : List PV) (st : Sto) : R PV := match m with
  | .sto => cf f as st
  | .pure => if noCels as then (match cf f as [] with
    | .ok v st' => R.lift (frz st' v) st
    | .ex c _ => .ex c st
    | .bad => .bad) else .bad
  | .snap => if noCels (as.map (Mi.snap st)) then (match cf f (as.map (Mi.snap st)) [] with
    | .ok v _ => if v.noLst then .ok v st else .bad
    | .ex c _ => .ex c st
    | .bad => .bad) else .bad

/-- a comprehension's turns -/
def compR (f : PV → Sto → R (Option PV)) : List PV → Sto → R (List PV)
  | [], st => .ok [] st
  | x :: xs, st => (f x st).bind fun o st1 => (compR f xs st1).bind fun ys st2 => .ok (match o with
    | some y => y :: ys
    | none => ys) st2
/-- .. of two for -/
def comp2R (f : PV → Sto → R (List PV)) : List PV → Sto → R (List PV)
  | [], st => .ok [] st
  | x :: xs, st => (f x st).bind fun ys st1 => (comp2R f xs st1).bind fun zs st2 => .ok (ys ++ zs) st2
/-- the slots of a target -/
def Tg.slots : Tg → List Nat
  | .nm i => [i]
  | .nil => []
  | .cons t ts => t.slots ++ ts.slots
def oInt (v : PV) : Option (Option Int) := match v with
  | .int i => some (some i)
  | _ => none
def rngL (lo : Int) (n : Nat) : List PV := (List.range n).map fun (i : Nat) => .int (lo + (i : Int))
def zipL (xs ys : List PV) : List PV := (xs.zip ys).map fun p => .tup [p.1, p.2]
def enuL (xs : List PV) : List PV := zipL (rngL 0 xs.length) xs
def rngD (lo : Int) (n : Nat) : List PV := (List.range n).map fun (i : Nat) => .int (lo - (i : Int))
def smallI (i : Int) : Bool := decide (-(2 ^ 60) ≤ i) && decide (i < 2 ^ 60)
/-- a range, listed -/
def lrgV (dn : Bool) (x y : PV) : Option PV := match x, y with
  | .int i, .int j => if smallI i && (smallI j && decide ((if dn then i - j else j - i).toNat ≤ big)) then some (.lst (if dn then rngD i (i - j).toNat else rngL i (j - i).toNat)) else none
  | _, _ => none
/-- what may be walked, as it stood -/
def walkL : PV → Option (List PV)
  | .lst xs => some xs
  | .tup xs => some xs
  | .scr xs => some xs
  | _ => none

def Ex.isOmit : Ex → Bool
  | .omit => true
  | _ => false
/-- a slice's end -/
def optR (o : Bool) (f : Sto → R PV) (st : Sto) : R (Option Int) := if o then .ok none st else (f st).bind fun x st1 => R.lift (oInt x) st1
/-- a comprehension's test -/
def tstR (o : Bool) (f : Sto → R PV) (st : Sto) : R Bool := if o then .ok true st else (f st).bind fun x st1 => R.lift (truV st1 x) st1

mutual
def evE (G : GlobF) (cf : CallF) : Ex → Env' → Sto → R PV
  | .var i, ρ, st => R.lift ((ρ[i]?).bind id) st
  | .non, _, st => .ok .non st
  | .bl b, _, st => .ok (.bl b) st
  | .int i, _, st => .ok (.int i) st
  | .str s, _, st => .ok (.str s) st
  | .gl x, _, st => R.lift (G x) st
  | .bty n, _, st => .ok (.ty n) st
  | .bin o a b, ρ, st => (evE G cf a ρ st).bind fun x st1 => (evE G cf b ρ st1).bind fun y st2 => R.lift (binV st2 o x y) st2
  | .neg a, ρ, st => (evE G cf a ρ st).bind fun x st1 => R.lift (negV x) st1
  | .not a, ρ, st => (tstR false (evE G cf a ρ) st).bind fun b st1 => .ok (.bl (!b)) st1
  | .and a b, ρ, st => (evE G cf a ρ st).bind fun x st1 => match x with
    | .bl true => evE G cf b ρ st1
    | .bl false => .ok (.bl false) st1
    | _ => .bad
  | .or a b, ρ, st => (evE G cf a ρ st).bind fun x st1 => match x with
    | .bl true => .ok (.bl true) st1
    | .bl false => evE G cf b ρ st1
    | _ => .bad
  | .cmp o a b, ρ, st => (evE G cf a ρ st).bind fun x st1 => (evE G cf b ρ st1).bind fun y st2 => R.lift ((cmpV st2 o x y).map .bl) st2
  | .chn o o' a b c, ρ, st => (evE G cf a ρ st).bind fun x st1 => (evE G cf b ρ st1).bind fun y st2 => match cmpV st2 o x y with
    | some true => (evE G cf c ρ st2).bind fun z st3 => R.lift ((cmpV st3 o' y z).map .bl) st3
    | some false => .ok (.bl false) st2
    | none => .bad
  | .ite c a b, ρ, st => (tstR false (evE G cf c ρ) st).bind fun d st1 => if d then evE G cf a ρ st1 else evE G cf b ρ st1
  | .tup as, ρ, st => (evA G cf as ρ st).bind fun xs st1 => .ok (.tup xs) st1
  | .lst as, ρ, st => (evA G cf as ρ st).bind fun xs st1 => .ok (.lst xs) st1
  | .cell e, ρ, st => (evE G cf e ρ st).bind fun x st1 => match x with
    | .lst xs => if noCels xs then .ok (.cel st1.length) (st1 ++ [.lst xs]) else .bad
    | _ => .bad
  | .call m f as, ρ, st => (evA G cf as ρ st).bind fun xs st1 => callP cf m f xs st1
  | .bi b as, ρ, st => (evA G cf as ρ st).bind fun xs st1 => R.lift (biV st1 b xs) st1
  | .idx a b, ρ, st => (evE G cf a ρ st).bind fun x st1 => (evE G cf b ρ st1).bind fun y st2 => R.lift (ixV st2 x y) st2
  | .sli a lo hi, ρ, st => (evE G cf a ρ st).bind fun x st1 => (optR lo.isOmit (evE G cf lo ρ) st1).bind fun l st2 => (optR hi.isOmit (evE G cf hi ρ) st2).bind fun h st3 => match x with
    | .tup xs => .ok (.tup (cutG xs l h)) st3
    | .str z => if z.length ≤ big then .ok (.str (cutS z l h)) st3 else .bad
    | x => R.lift ((asL st3 x).map fun xs => .lst (cutG xs l h)) st3
  | .comp tg ow it c e, ρ, st => (evI G cf it ρ st).bind fun xs st1 => (compR (fun x st => R.noEx <| match setTg tg x (wipeP ρ ow) with
    | none => .bad
    | some ρ' => (tstR c.isOmit (evE G cf c ρ') st).bind fun b st => if b then (evE G cf e ρ' st).bind fun y st => .ok (some y) st else .ok none st) xs st1).bind fun ys st2 => if ys.length ≤ big then .ok (.lst ys) st2 else .bad
  | .lrg a b, ρ, st => (evE G cf a ρ st).bind fun x st1 => (evE G cf b ρ st1).bind fun y st2 => R.lift (lrgV false x y) st2
  | .lrd a b, ρ, st => (evE G cf a ρ st).bind fun x st1 => (evE G cf b ρ st1).bind fun y st2 => R.lift (lrgV true x y) st2
  | .comp2 tg ow it tg2 it2 e, ρ, st => (evI G cf it ρ st).bind fun xs st1 => (comp2R (fun x st => R.noEx <| match setTg tg x (wipeP ρ ow) with
    | none => .bad
    | some ρ' => (evI G cf it2 ρ' st).bind fun xs2 st => compR (fun x st => R.noEx <| match setTg tg2 x (wipeP ρ' tg2.slots) with
      | none => .bad
      | some ρ2 => (evE G cf e ρ2 st).bind fun y st => .ok (some y) st) xs2 st) xs st1).bind fun ys st2 => if ys.length ≤ big then .ok (.lst ys) st2 else .bad
  | .callL f as np caps body, ρ, st => (evA G cf as ρ st).bind fun xs st1 => cf.lam f xs (fun ys st' => if ys.length = np ∧ noClos ys = true then evE G cf body (ys.map some ++ caps.map fun i => (ρ[i]?).bind id) st' else .bad) st1
  | .calv i as, ρ, st => (match (ρ[i]?).bind id with
    | some .clo => (evA G cf as ρ st).bind fun xs st1 => if noClos xs then cf.clo xs st1 else .bad
    | _ => .bad)
  | .calg m i as, ρ, st => (match (ρ[i]?).bind id with
    | some (.glo x) => if cf.isF x then (evA G cf as ρ st).bind fun xs st1 => callP cf m x xs st1 else .bad
    | _ => .bad)
  | .dict a, ρ, st => (evE G cf a ρ st).bind fun x st1 => R.lift (dctV st1 x) st1
  | .cnt o x, ρ, st => (evE G cf o ρ st).bind fun y st1 => if (asL st1 y).isSome then (evE G cf x ρ st1).bind fun z st2 => R.lift (cntV st2 y z) st2 else .bad
  | .pop o, ρ, st => (evE G cf o ρ st).bind fun y st1 => popV st1 y
  | .get d k x, ρ, st => (evE G cf d ρ st).bind fun a st1 => (match a with
    | .dct kvs => (evE G cf k ρ st1).bind fun b st2 => (evE G cf x ρ st2).bind fun c st3 => R.lift (getV (.dct kvs) b c) st3
    | _ => .bad)
  | .fld c x e, ρ, st => (evE G cf e ρ st).bind fun o st1 => R.lift (fldV st1 c x o) st1
  | .prop c f e, ρ, st => (evE G cf e ρ st).bind fun o st1 => if isIns st1 c o then (cf f [o] st1).noEx else .bad
  | .meth c f e as, ρ, st => (evE G cf e ρ st).bind fun o st1 => if isIns st1 c o && noFld st1 (G.mn f) o then (evA G cf as ρ st1).bind fun xs st2 => cf f (o :: xs) st2 else .bad
  | .item c f a b, ρ, st => (evE G cf a ρ st).bind fun o st1 => (evE G cf b ρ st1).bind fun x st2 => if isIns st2 c o then cf f [o, x] st2 else .bad
  | .ocall c f e as, ρ, st => (evE G cf e ρ st).bind fun o st1 => (evA G cf as ρ st1).bind fun xs st2 => if isIns st2 c o then cf f (o :: xs) st2 else .bad
  | .ostr c f e, ρ, st => (evE G cf e ρ st).bind fun o st1 => if isIns st1 c o then (cf f [o] st1).bind fun v st2 => (match v with
    | .str x => .ok (.str x) st2
    | _ => .bad) else .bad
  | .olen c f e, ρ, st => (evE G cf e ρ st).bind fun o st1 => if isIns st1 c o then (cf f [o] st1).bind fun v st2 => (match v with
    | .int n => if decide (0 ≤ n) && smallI n then .ok (.int n) st2 else .bad
    | _ => .bad) else .bad
  | .obool c f e, ρ, st => (evE G cf e ρ st).bind fun o st1 => if isIns st1 c o then (cf f [o] st1).bind fun v st2 => (match v with
    | .bl b => .ok (.bl b) st2
    | _ => .bad) else .bad
  | .obin _ c f a b, ρ, st => (evE G cf a ρ st).bind fun o st1 => (evE G cf b ρ st1).bind fun x st2 => if isIns st2 c o && opArg st2 c x then cf f [o, x] st2 else .bad
  | .oinv c f e, ρ, st => (evE G cf e ρ st).bind fun o st1 => if isIns st1 c o then cf f [o] st1 else .bad
  | .ceq c f a b, ρ, st => (evE G cf a ρ st).bind fun o st1 => (evE G cf b ρ st1).bind fun x st2 => if isIns st2 c o && opArg st2 c x then (cf f [o, x] st2).bind fun v st3 => (match v with
    | .bl b => .ok (.bl b) st3
    | _ => .bad) else .bad
  | .isin neg c f a e, ρ, st => (evE G cf a ρ st).bind fun x st1 => (evE G cf e ρ st1).bind fun o st2 => if isIns st2 c o then (cf f [o, x] st2).bind fun v st3 => (match v with
    | .bl b => .ok (.bl (if neg then !b else b)) st3
    | _ => .bad) else .bad
  | .mk c f as, ρ, st => (evA G cf as ρ st).bind fun xs st1 => (cf f (.cel st1.length :: xs) (st1 ++ [.ins c []])).bind fun v st2 => if isN v then .ok (.cel st1.length) st2 else .bad
  | .mks v c f as e, ρ, st => (match v with
    | none => true
    | some i => (match (ρ[i]?).bind id with
      | some (.glo x) => decide (x = c)
      | _ => false)) |> fun ok => if ok then (evA G cf as ρ st).bind fun xs st1 => (evE G cf e ρ st1).bind fun y st2 => (match y with
    | .tup ys => (cf f (.cel st2.length :: (xs ++ ys)) (st2 ++ [.ins c []])).bind fun v st3 => if isN v then .ok (.cel st2.length) st3 else .bad
    | _ => .bad) else .bad
  | .cm c f as, ρ, st => (evA G cf as ρ st).bind fun xs st1 => cf f (.glo c :: xs) st1
  | .isc c e, ρ, st => (evE G cf e ρ st).bind fun x st1 => R.lift ((iscV st1 c x).map .bl) st1
  | .join a b, ρ, st => (evE G cf a ρ st).bind fun x st1 => if isStr x then (evE G cf b ρ st1).bind fun y st2 => R.lift (joinV st2 x y) st2 else .bad
  | .spl a b, ρ, st => (evE G cf a ρ st).bind fun x st1 => if isStr x then (evE G cf b ρ st1).bind fun y st2 => R.lift (splV x y) st2 else .bad
  | .fmt e, ρ, st => (evE G cf e ρ st).bind fun x st1 => R.lift (fmtV x) st1
  | .fs as, ρ, st => evJ G cf as Str.empty ρ st
  | _, _, _ => .bad
/-- arguments -/
def evA (G : GlobF) (cf : CallF) : Ex → Env' → Sto → R (List PV)
  | .nil, _, st => .ok [] st
  | .cons a as, ρ, st => (evE G cf a ρ st).bind fun x st1 => (evA G cf as ρ st1).bind fun xs st2 => .ok (x :: xs) st2
  | _, _, _ => .bad
/-- an f-string's parts -/
def evJ (G : GlobF) (cf : CallF) : Ex → Str → Env' → Sto → R PV
  | .nil, acc, _, st => .ok (.str acc) st
  | .cons a as, acc, ρ, st => (evE G cf a ρ st).bind fun x st1 => match x with
    | .str y => if (acc ++ y).length ≤ big then evJ G cf as (acc ++ y) ρ st1 else .bad
    | _ => .bad
  | _, _, _, _ => .bad
/-- what is walked -/
def evI (G : GlobF) (cf : CallF) : Ex → Env' → Sto → R (List PV)
  | .rng1 a, ρ, st => (evE G cf a ρ st).bind fun x st1 => match x with
    | .int j => if smallI j then .ok (rngL 0 j.toNat) st1 else .bad
    | _ => .bad
  | .rng2 a b, ρ, st => (evE G cf a ρ st).bind fun x st1 => (evE G cf b ρ st1).bind fun y st2 => match x, y with
    | .int i, .int j => if smallI i && smallI j then .ok (rngL i (j - i).toNat) st2 else .bad
    | _, _ => .bad
  | .zip a b, ρ, st => (evE G cf a ρ st).bind fun x st1 => (evE G cf b ρ st1).bind fun y st2 => match walkL x, walkL y with
    | some xs, some ys => .ok (zipL xs ys) st2
    | _, _ => .bad
  | .enu a, ρ, st => (evE G cf a ρ st).bind fun x st1 => R.lift ((walkL x).map enuL) st1
  | .sq a, ρ, st => (evE G cf a ρ st).bind fun x st1 => R.lift (walkL x) st1
  | _, _, _ => .bad
end

inductive Fl where
  | nx (ρ : Env') | rt (v : PV)
def forR (f : PV → Env' → Sto → R Fl) : List PV → Env' → Sto → R Fl
  | [], ρ, st => .ok (.nx ρ) st
  | x :: xs, ρ, st => (f x ρ st).bind fun fl st1 => match fl with
    | .nx ρ' => forR f xs ρ' st1
    | .rt v => .ok (.rt v) st1
def whR (c : Env' → Sto → R Bool) (f : Env' → Sto → R Fl) : Nat → Env' → Sto → R Fl
  | 0, _, _ => .bad
  | n + 1, ρ, st => (c ρ st).bind fun b st1 => if b then (f ρ st1).bind fun fl st2 => (match fl with
    | .nx ρ' => whR c f n ρ' st2
    | .rt v => .ok (.rt v) st2) else .ok (.nx ρ) st1
/-- a cell walked: k items are left of m; the cell keeps its length -/
def forC (g : PV → Env' → Sto → R Fl) (n m : Nat) (enu : Bool) : Nat → Env' → Sto → R Fl
  | 0, ρ, st => (match st[n]? with
    | some (.lst ys) => if ys.length = m then .ok (.nx ρ) st else .bad
    | _ => .bad)
  | k + 1, ρ, st => (match st[n]? with
    | some (.lst ys) => if ys.length = m then (match ys[m - (k + 1)]? with
      | some x => (g (if enu then .tup [.int ((m - (k + 1) : Nat) : Int), x] else x) ρ st).bind fun fl st1 => (match fl with
        | .nx ρ' => forC g n m enu k ρ' st1
        | .rt v => .ok (.rt v) st1)
      | none => .bad) else .bad
    | _ => .bad)
/-- a cell's item stored -/
def putV (st : Sto) (o i v : PV) : Option Sto := match o, i with
  | .cel n, .int k => (match st[n]? with
    | some (.lst xs) => if v.noCel then (ixN xs.length k).map fun j => st.set n (.lst (xs.set j v)) else none
    | _ => none)
  | _, _ => none
def appV (st : Sto) (o v : PV) : Option Sto := match o with
  | .cel n => (match st[n]? with
    | some (.lst xs) => if v.noCel && decide (xs.length < big) then some (st.set n (.lst (xs ++ [v]))) else none
    | _ => none)
  | _ => none
def R.sto (ρ : Env') (o : Option Sto) : R Fl := match o with
  | some st => .ok (.nx ρ) st
  | none => .bad
/-- N: the turns that a while may take -/
def evSe (S : SubF) (c : Nat) : Se → Option PV
  | .str s => some (.str s)
  | .non => some .non
  | .isx _ d a b => (match S c d with
    | some true => evSe S c a
    | some false => evSe S c b
    | none => none)
def evSu (S : SubF) (c : Nat) (ρ : Env') (st : Sto) : Su → R Fl
  | .ret e => R.lift ((evSe S c e).map .rt) st
  | .set i e => R.lift ((evSe S c e).map fun v => .nx (ρ.set i (some v))) st
def evH (S : SubF) (c : Nat) (ρ : Env') (st : Sto) : Hn → R Fl
  | .nil => .ex c st
  | .cons d i s r => (match S c d with
    | some true => evSu S c (match i with | some i => ρ.set i none | none => ρ) st s
    | some false => evH S c ρ st r
    | none => .bad)
/-- the slots that are stored -/
def Su.asg : Su → List Nat
  | .ret _ => []
  | .set i _ => [i]
def Hn.asg : Hn → List Nat
  | .nil => []
  | .cons _ i s r => (match i with | some i => [i] | none => []) ++ (s.asg ++ r.asg)
def Sm.asg : Sm → List Nat
  | .seq a b => a.asg ++ b.asg
  | .set i _ => [i]
  | .setT t _ => t.slots
  | .ite _ a b => a.asg ++ b.asg
  | .for t _ b => t.slots ++ b.asg
  | .forC t _ _ b => t.slots ++ b.asg
  | .while _ b => b.asg
  | .tryH b h => b.asg ++ h.asg
  | .aug _ _ _ i _ => [i]
  | _ => []
def evS (G : GlobF) (cf : CallF) (N : Nat) : Sm → Env' → Sto → R Fl
  | .skip, ρ, st => .ok (.nx ρ) st
  | .seq a b, ρ, st => (evS G cf N a ρ st).bind fun fl st1 => match fl with
    | .nx ρ' => evS G cf N b ρ' st1
    | .rt v => .ok (.rt v) st1
  | .set i e, ρ, st => (evE G cf e ρ st).bind fun x st1 => .ok (.nx (ρ.set i (some x))) st1
  | .setT t e, ρ, st => (evE G cf e ρ st).bind fun x st1 => R.lift ((setTg t x ρ).map .nx) st1
  | .put o i e, ρ, st => (evE G cf e ρ st).bind fun x st1 => (evE G cf o ρ st1).bind fun y st2 => (evE G cf i ρ st2).bind fun z st3 => R.sto ρ (putV st3 y z x)
  | .app o e, ρ, st => (evE G cf o ρ st).bind fun y st1 => match y with
    | .cel n => if (asL st1 (.cel n)).isSome then (evE G cf e ρ st1).bind fun x st2 => R.sto ρ (appV st2 (.cel n) x) else .bad
    | _ => .bad
  | .fput c x o e, ρ, st => (evE G cf e ρ st).bind fun v st1 => (evE G cf o ρ st1).bind fun y st2 => R.sto ρ (fputV st2 c x y v)
  | .aug _ c f i e, ρ, st => R.lift ((ρ[i]?).bind id) st |>.bind fun o st1 => (evE G cf e ρ st1).bind fun x st2 => if isIns st2 c o then (cf f [o, x] st2).bind fun v st3 => .ok (.nx (ρ.set i (some v))) st3 else .bad
  | .bot, _, _ => .bad
  | .drop e, ρ, st => (evE G cf e ρ st).bind fun _ st1 => .ok (.nx ρ) st1
  | .ret e, ρ, st => (evE G cf e ρ st).bind fun x st1 => .ok (.rt x) st1
  | .ite c a b, ρ, st => (tstR false (evE G cf c ρ) st).bind fun d st1 => if d then evS G cf N a ρ st1 else evS G cf N b ρ st1
  | .for t it b, ρ, st => (evI G cf it ρ st).bind fun xs st1 => forR (fun x ρ st => match setTg t x ρ with
    | none => .bad
    | some ρ' => evS G cf N b ρ' st) xs ρ st1
  | .while c b, ρ, st => whR (fun ρ st => tstR false (evE G cf c ρ) st) (fun ρ st => evS G cf N b ρ st) N ρ st
  | .raise c _, _, st => .ex c st
  | .tryH b h, ρ, st => (match evS G cf N b ρ st with
    | .ex c st' => evH G.S c (wipeP ρ b.asg) st' h
    | r => r)
  | .forC t enu o b, ρ, st => (evE G cf o ρ st).bind fun x st1 => match x with
    | .cel n => (match st1[n]? with
      | some (.lst ys) => forC (fun x ρ st => match setTg t x ρ with
        | none => .bad
        | some ρ' => evS G cf N b ρ' st) n ys.length enu ys.length ρ st1
      | _ => .bad)
    | _ => .bad

/-- a def: its parameters, its names (parameters first), its body -/
structure Fn where
  /-- the last parameter takes what is left over -/
  va : Bool := false
  /-- a class's own -/
  own : Bool := false
  ps : List Str
  ns : List Str
  body : Sm
def startL (fn : Fn) (as : List PV) : Env' := (as ++ [PV.clo]).map some ++ List.replicate (fn.ns.length - (as.length + 1)) none
def startE (fn : Fn) (as : List PV) : Env' := as.map some ++ List.replicate (fn.ns.length - as.length) none
def Fl.val (fl : Fl) (st : Sto) : R PV := match fl with
  | .nx _ => .ok .non st
  | .rt v => .ok v st
/-- a result that a caller may have -/
def R.clean (r : R PV) : R PV := match r with
  | .ok v st => if v.noCel then .ok v st else .bad
  | r => r
/-- what is left over, in a tuple -/
def packV (fn : Fn) (as : List PV) : List PV := if fn.va then as.take (fn.ps.length - 1) ++ [.tup (as.drop (fn.ps.length - 1))] else as
def fitV (fn : Fn) (as : List PV) : Prop := if fn.va then fn.ps.length ≤ as.length + 1 ∧ as.length ≤ big else as.length = fn.ps.length
instance (fn : Fn) (as : List PV) : Decidable (fitV fn as) := by unfold fitV; exact inferInstance
def runC (G : GlobF) (T : Nat → Option Fn) (N : Nat) (c : CallF) (f : Nat) (as : List PV) (st : Sto) : R PV := match T f with
  | none => .bad
  | some fn => if fitV fn as then (evS G c N fn.body (startE fn (packV fn as)) st).bind Fl.val else .bad
def runL (G : GlobF) (T : Nat → Option Fn) (N : Nat) (c : CallF) (f : Nat) (as : List PV) (clo : List PV → Sto → R PV) (st : Sto) : R PV := match T f with
  | none => .bad
  | some fn => if as.length + 1 = fn.ps.length then R.clean ((evS G { c with clo := clo } N fn.body (startL fn as) st).bind Fl.val) else .bad
def plainAt : Option Fn → Bool
  | some fn => !fn.own
  | none => false
/-- T: the defs that are called plainly; TL: those that are handed a function -/
def runF (G : GlobF) (T TL : Nat → Option Fn) (N : Nat) : Nat → CallF
  | 0 => ⟨fun _ _ _ => .bad, fun _ _ _ _ => .bad, fun _ _ => .bad, fun f => plainAt (T f)⟩
  | d + 1 => ⟨runC G T N (runF G T TL N d), runL G TL N (runF G T TL N d), fun _ _ => .bad, fun f => plainAt (T f)⟩
end Mi

end

section
set_option linter.all false
set_option maxRecDepth 100000
/-! Mi, part B: pure values over the abstract heap. -/
namespace Mi
open PySem PySem.Spec PyProof.Rows L2

/-- what the relation leans on: the written part, the module's names, their table -/
structure Nm where
  f : Nat → Str
  /-- tables of code objects, with the name that each tells -/
  tabs : List (Addr × Str)
  /-- what a def was handed to call stands there -/
  clo : Option Addr
instance : CoeFun Nm (fun _ => Nat → Str) := ⟨Nm.f⟩
structure Wd where
  K : PySem.W.Frag
  mg : Str → Option Value
  nm : Nm
/-- no table -/
def notT : HO → Prop
  | .tbl _ => False
  | _ => True
/-- a list under B's own hand changes -/
def isL : HO → Prop
  | .lst _ => True
  | .ins _ _ _ => True
  | _ => False
def TupK (K : PySem.W.Frag) (a : Addr) (vs : List V) : Prop :=
  ∃ (o : Obj) (its : Array Value) (n : Nat), K.lookup a = some o ∧ o.cls = .type "tuple" ∧ o.data = .seq its n ∧ its.size ≤ sizeLine ∧ Vals vs its.toList
def KLst (K : PySem.W.Frag) (a : Addr) (vs : List V) : Prop :=
  ∃ (o : Obj) (its : Array Value) (n : Nat), K.lookup a = some o ∧ o.cls = .type "list" ∧ o.dict = none ∧ o.data = .seq its n ∧ its.size ≤ sizeLine ∧ Vals vs its.toList
mutual
inductive Rel (w : Wd) (H : Hp) (M : List Addr) (B : Addr → Prop) : PV → V → Prop
  | non : Rel w H M B .non .non
  | bl (b : Bool) : Rel w H M B (.bl b) (.bl b)
  | int (i : Int) : Rel w H M B (.int i) (.int i)
  | str (x : Str) : Rel w H M B (.str x) (.str x)
  | ty (n : String) : Rel w H M B (.ty n) (.ty n)
  | glo {x : Nat} {a : Addr} : w.mg (w.nm x) = some (.ref a) → Rel w H M B (.glo x) (.ref a)
  | cel {n : Nat} {a : Addr} : M[n]? = some a → Rel w H M B (.cel n) (.ref a)
  | tup {a : Addr} {xs : List PV} {vs : List V} : H a = some (.tup vs) → a ∉ M → Rels w H M B xs vs → Rel w H M B (.tup xs) (.ref a)
  | ktup {a : Addr} {xs : List PV} {vs : List V} : TupK w.K a vs → Rels w H M B xs vs → Rel w H M B (.tup xs) (.ref a)
  | lst {a : Addr} {xs : List PV} {vs : List V} : H a = some (.lst vs) → a ∉ M → ¬ B a → Rels w H M B xs vs → Rel w H M B (.lst xs) (.ref a)
  | scr {a : Addr} {xs : List PV} {vs : List V} {o : Obj} : H a = some (.frz o (.lst vs)) → a ∉ M → Rels w H M B xs vs → Rel w H M B (.scr xs) (.ref a)
  | scl {a : Addr} {xs : List PV} {vs : List V} : H a = some (.lst vs) → a ∉ M → ¬ B a → Rels w H M B xs vs → Rel w H M B (.scr xs) (.ref a)
  | kscr {a : Addr} {xs : List PV} {vs : List V} : KLst w.K a vs → Rels w H M B xs vs → Rel w H M B (.scr xs) (.ref a)
  | clo {a : Addr} : w.nm.clo = some a → Rel w H M B .clo (.ref a)
  | dct {a : Addr} {kvs : List (Key × V)} : H a = some (.dK kvs) → a ∉ M → Rel w H M B (.dct kvs) (.ref a)
inductive Rels (w : Wd) (H : Hp) (M : List Addr) (B : Addr → Prop) : List PV → List V → Prop
  | nil : Rels w H M B [] []
  | cons {x : PV} {v : V} {xs : List PV} {vs : List V} : Rel w H M B x v → Rels w H M B xs vs → Rels w H M B (x :: xs) (v :: vs)
end

/-- later: what was tracked and no cell stands, the cells are the same ones (and more) -/
structure Kp (H : Hp) (M : List Addr) (H' : Hp) (M' : List Addr) : Prop where
  h : ∀ a o, H a = some o → a ∉ M → notT o → H' a = some o ∧ a ∉ M'
  m : ∀ (n : Nat) (a : Addr), M[n]? = some a → M'[n]? = some a
  d : ∀ a, H' a = none → H a = none
theorem Kp.refl (H : Hp) (M : List Addr) : Kp H M H M := ⟨fun _ _ e n _ => ⟨e, n⟩, fun _ _ e => e, fun _ e => e⟩
theorem Kp.trans {H H1 H2 : Hp} {M M1 M2 : List Addr} (a : Kp H M H1 M1) (b : Kp H1 M1 H2 M2) : Kp H M H2 M2 :=
  ⟨fun x o e n t => let ⟨e1, n1⟩ := a.h x o e n t; b.h x o e1 n1 t, fun n x e => b.m n x (a.m n x e), fun x e => a.d x (b.d x e)⟩
/-- a list changes: the tables are the same -/
theorem TabS_chg {H : Hp} {P D : Addr} {q : Str} {o o' : HO} (t : LamX.TabS H P q) (hD : H D = some o) (ho : isL o) : LamX.TabS (upd H D o') P q := by
  obtain ⟨ps, h1, h2, h3⟩ := t
  have n1 : ∀ {b : Addr} {u : HO}, H b = some u → ¬ isL u → b ≠ D := fun e nu z => by rw [z, hD] at e; cases e; exact nu ho
  refine ⟨ps, by rw [upd_ne (n1 h1 fun z => z)]; exact h1, h2, fun pos cv hc => ?_⟩
  obtain ⟨c, e1, e2⟩ := h3 pos cv hc
  exact ⟨c, e1, by rw [upd_ne (n1 e2 fun z => z)]; exact e2⟩
theorem TabS_new {H : Hp} {P p : Addr} {q : Str} {o : HO} (t : LamX.TabS H P q) (hp : H p = none) : LamX.TabS (upd H p o) P q := t.ext fun b u e => by rw [upd_ne (ne_of_none e hp)]; exact e
section
variable {w : Wd} {H H' : Hp} {M M' : List Addr} {B : Addr → Prop}
mutual
theorem Rel.mono (k : Kp H M H' M') : ∀ {x : PV} {v : V}, Rel w H M B x v → Rel w H' M' B x v
  | _, _, .non => .non
  | _, _, .bl b => .bl b
  | _, _, .int i => .int i
  | _, _, .str i => .str i
  | _, _, .ty n => .ty n
  | _, _, .glo e => .glo e
  | _, _, .clo e => .clo e
  | _, _, .cel e => .cel (k.m _ _ e)
  | _, _, .tup e n r => .tup (k.h _ _ e n trivial).1 (k.h _ _ e n trivial).2 (Rels.mono k r)
  | _, _, .ktup e r => .ktup e (Rels.mono k r)
  | _, _, .lst e n b r => .lst (k.h _ _ e n trivial).1 (k.h _ _ e n trivial).2 b (Rels.mono k r)
  | _, _, .scl e n b r => .scl (k.h _ _ e n trivial).1 (k.h _ _ e n trivial).2 b (Rels.mono k r)
  | _, _, .scr e n r => .scr (k.h _ _ e n trivial).1 (k.h _ _ e n trivial).2 (Rels.mono k r)
  | _, _, .kscr e r => .kscr e (Rels.mono k r)
  | _, _, .dct e n => .dct (k.h _ _ e n trivial).1 (k.h _ _ e n trivial).2
theorem Rels.mono (k : Kp H M H' M') : ∀ {xs : List PV} {vs : List V}, Rels w H M B xs vs → Rels w H' M' B xs vs
  | _, _, .nil => .nil
  | _, _, .cons r t => .cons (Rel.mono k r) (Rels.mono k t)
end
theorem Rels.length : ∀ {xs : List PV} {vs : List V}, Rels w H M B xs vs → xs.length = vs.length
  | _, _, .nil => rfl
  | _, _, .cons _ t => by rw [List.length_cons, List.length_cons, Rels.length t]
theorem Rels.get : ∀ {xs : List PV} {vs : List V} {i : Nat} {x : PV}, Rels w H M B xs vs → xs[i]? = some x → ∃ v, vs[i]? = some v ∧ Rel w H M B x v
  | _, _, _, _, .nil, e => by simp at e
  | _, _, 0, _, .cons r _, e => by simp at e; subst e; exact ⟨_, rfl, r⟩
  | _, _, i + 1, _, .cons _ t, e => by
    obtain ⟨v, h1, h2⟩ := Rels.get (i := i) t (by simpa using e)
    exact ⟨v, by simpa using h1, h2⟩
theorem Rels.getV : ∀ {xs : List PV} {vs : List V} {i : Nat} {v : V}, Rels w H M B xs vs → vs[i]? = some v → ∃ x, xs[i]? = some x ∧ Rel w H M B x v
  | _, _, _, _, .nil, e => by simp at e
  | _, _, 0, _, .cons r _, e => by simp at e; subst e; exact ⟨_, rfl, r⟩
  | _, _, i + 1, _, .cons _ t, e => by
    obtain ⟨x, h1, h2⟩ := Rels.getV (i := i) t (by simpa using e)
    exact ⟨x, by simpa using h1, h2⟩
theorem Rels.append : ∀ {xs ys : List PV} {vs us : List V}, Rels w H M B xs vs → Rels w H M B ys us → Rels w H M B (xs ++ ys) (vs ++ us)
  | _, _, _, _, .nil, s => s
  | _, _, _, _, .cons r t, s => .cons r (Rels.append t s)
theorem Rels.take : ∀ {xs : List PV} {vs : List V} (n : Nat), Rels w H M B xs vs → Rels w H M B (xs.take n) (vs.take n)
  | _, _, 0, _ => .nil
  | _, _, _ + 1, .nil => .nil
  | _, _, n + 1, .cons r t => .cons r (Rels.take n t)
theorem Rels.drop : ∀ {xs : List PV} {vs : List V} (n : Nat), Rels w H M B xs vs → Rels w H M B (xs.drop n) (vs.drop n)
  | _, _, 0, r => r
  | _, _, _ + 1, .nil => .nil
  | _, _, n + 1, .cons _ t => Rels.drop n t
theorem Rels.set : ∀ {xs : List PV} {vs : List V} (n : Nat) {x : PV} {v : V}, Rels w H M B xs vs → Rel w H M B x v → Rels w H M B (xs.set n x) (vs.set n v)
  | _, _, _, _, _, .nil, _ => .nil
  | _, _, 0, _, _, .cons _ t, q => .cons q t
  | _, _, n + 1, _, _, .cons r t, q => .cons r (Rels.set n t q)
theorem Rels.cut {xs : List PV} {vs : List V} (lo hi : Option Int) (r : Rels w H M B xs vs) : Rels w H M B (cutG xs lo hi) (cutV vs lo hi) := by
  unfold cutG cutV
  rw [r.length]
  exact (r.drop _).take _
theorem Rels.rep {xs : List PV} {vs : List V} (r : Rels w H M B xs vs) : ∀ n : Nat, Rels w H M B (List.replicate n xs).flatten (List.replicate n vs).flatten
  | 0 => .nil
  | n + 1 => by
    rw [List.replicate_succ, List.replicate_succ, List.flatten_cons, List.flatten_cons]
    exact r.append (Rels.rep r n)
theorem atI_rel {xs : List PV} {vs : List V} {i : Int} {x : PV} (r : Rels w H M B xs vs) (e : atI xs i = some x) : ∃ v, atI vs i = some v ∧ Rel w H M B x v := by
  unfold atI at e ⊢
  rw [← r.length]
  cases q : ixN xs.length i with
  | none => rw [q] at e; cases e
  | some j =>
    rw [q] at e
    exact r.get e
theorem Rel.tupT {xs : List PV} {v : V} (r : Rel w H M B (.tup xs) v) : ∃ a vs, v = .ref a ∧ SqT w.K H a vs ∧ Rels w H M B xs vs := by
  cases r with
  | tup e n r => exact ⟨_, _, rfl, .inl (.inl e), r⟩
  | ktup e r => exact ⟨_, _, rfl, .inr e, r⟩
theorem Rel.lstL {xs : List PV} {v : V} (r : Rel w H M B (.lst xs) v) : ∃ a vs, v = .ref a ∧ H a = some (.lst vs) ∧ Rels w H M B xs vs := by
  cases r with
  | lst e n b r => exact ⟨_, _, rfl, e, r⟩

/-! ### cells -/
/-- the values that a cell holds; its object by them -/
def CC.vals : CC → List PV
  | .lst xs => xs
  | .ins _ fs => fs.map (·.2)
def CC.ok : CC → Bool
  | .lst xs => noCels xs
  | .ins _ fs => noClos (fs.map (·.2))
def CellO (w : Wd) : CC → HO → List V → Prop
  | .lst _, o, vs => o = .lst vs
  | .ins c fs, o, vs => ∃ C dx gs, w.mg (w.nm c) = some (.ref C) ∧ o = .ins C dx gs ∧ gs.map (·.1) = fs.map (·.1) ∧ vs = gs.map (·.2)
theorem CellO.isL {w : Wd} {c : CC} {o : HO} {vs : List V} (h : CellO w c o vs) : Mi.isL o := by
  cases c with
  | lst xs => rw [show o = .lst vs from h]; trivial
  | ins c fs => obtain ⟨C, dx, gs, _, e, _⟩ := h; rw [e]; trivial
def CellIs (w : Wd) (H : Hp) (M : List Addr) (B : Addr → Prop) (a : Addr) (c : CC) : Prop := ∃ o vs, H a = some o ∧ CellO w c o vs ∧ Rels w H M B c.vals vs
mutual
theorem noClo_of : ∀ (x : PV), x.noCel = true → x.noClo = true
  | .tup xs, h => noClos_of xs h
  | .lst xs, h => noClos_of xs h
  | .scr xs, h => noClos_of xs h
  | .non, _ => rfl
  | .bl _, _ => rfl
  | .int _, _ => rfl
  | .str _, _ => rfl
  | .cel _, h => by cases h
  | .glo _, _ => rfl
  | .ty _, _ => rfl
  | .dct _, _ => rfl
  | .clo, h => by cases h
theorem noClos_of : ∀ (xs : List PV), noCels xs = true → noClos xs = true
  | [], _ => rfl
  | x :: xs, h => by
    obtain ⟨h1, h2⟩ := Bool.and_eq_true_iff.mp (show (x.noCel && noCels xs) = true from h)
    show (x.noClo && noClos xs) = true
    rw [noClo_of x h1, noClos_of xs h2]; rfl
end
theorem CC.clo {c : CC} (h : c.ok = true) : noClos c.vals = true := by
  cases c with
  | lst xs => exact noClos_of xs h
  | ins c fs => exact h
structure Cels (w : Wd) (H : Hp) (M : List Addr) (B : Addr → Prop) (st : Sto) : Prop where
  len : M.length = st.length
  nd : M.Nodup
  nb : ∀ a, a ∈ M → ¬ B a
  bk : ∀ a, B a → H a ≠ none
  at_ : ∀ (n : Nat) a c, M[n]? = some a → st[n]? = some c → CellIs w H M B a c
  nc : ∀ (n : Nat) (c : CC), st[n]? = some c → c.ok = true
  tb : LamX.Tabs w.nm.tabs H
theorem CellIs.mem {a : Addr} {c : CC} (h : CellIs w H M B a c) : H a ≠ none := by
  obtain ⟨o, vs, e, _⟩ := h
  rw [e]; exact fun z => nomatch z
theorem Cels.mem {st : Sto} (s : Cels w H M B st) {a : Addr} (h : a ∈ M) : H a ≠ none := by
  obtain ⟨n, hn, e⟩ := List.getElem_of_mem h
  have h1 : M[n]? = some a := by rw [List.getElem?_eq_getElem hn, e]
  have h2 : n < st.length := by rw [← s.len]; exact hn
  exact (s.at_ n a st[n] h1 (List.getElem?_eq_getElem h2)).mem
theorem Cels.get {st : Sto} (s : Cels w H M B st) {n : Nat} {a : Addr} {xs : List PV} (h : M[n]? = some a) (e : st[n]? = some (.lst xs)) : ∃ vs, H a = some (.lst vs) ∧ Rels w H M B xs vs := by
  obtain ⟨o, vs, e1, co, r⟩ := s.at_ n a _ h e
  rw [show o = .lst vs from co] at e1
  exact ⟨vs, e1, r⟩
theorem Cels.getI {st : Sto} (s : Cels w H M B st) {n : Nat} {a : Addr} {c : Nat} {fs : List (Str × PV)} (h : M[n]? = some a) (e : st[n]? = some (.ins c fs)) :
    ∃ C dx gs, w.mg (w.nm c) = some (.ref C) ∧ H a = some (.ins C dx gs) ∧ gs.map (·.1) = fs.map (·.1) ∧ Rels w H M B (fs.map (·.2)) (gs.map (·.2)) := by
  obtain ⟨o, vs, e1, ⟨C, dx, gs, g1, g2, g3, g4⟩, r⟩ := s.at_ n a _ h e
  subst g2 g4
  exact ⟨C, dx, gs, g1, e1, g3, r⟩
/-- a fresh thing is laid -/
theorem Kp.new {p : Addr} {o : HO} (hp : H p = none) : Kp H M (upd H p o) M :=
  ⟨fun a o e n _ => ⟨by rw [upd_ne (ne_of_none e hp)]; exact e, n⟩, fun _ _ e => e, fun a e => by
    unfold upd at e
    by_cases q : a = p
    · rw [q]; exact hp
    · rw [if_neg q] at e; exact e⟩
theorem Cels.keep {st : Sto} (s : Cels w H M B st) (k : Kp H M H' M) (hc : ∀ a, a ∈ M → H' a = H a) (ht : LamX.Tabs w.nm.tabs H') : Cels w H' M B st where
  len := s.len
  nd := s.nd
  nb := s.nb
  bk := fun a b e => s.bk a b (k.d a e)
  at_ := fun n a c h e => by
    obtain ⟨o, vs, e1, co, r⟩ := s.at_ n a c h e
    have hm : a ∈ M := List.mem_of_getElem? h
    exact ⟨o, vs, by rw [hc a hm]; exact e1, co, r.mono k⟩
  nc := s.nc
  tb := ht
theorem Cels.new {st : Sto} (s : Cels w H M B st) {p : Addr} {o : HO} (hp : H p = none) : Cels w (upd H p o) M B st :=
  s.keep (.new hp) (fun a hm => upd_ne (fun e => s.mem hm (by rw [e]; exact hp))) fun q hq => TabS_new (s.tb q hq) hp
/-- a fresh list: frozen -/
theorem Rel.newLst {st : Sto} (s : Cels w H M B st) {p : Addr} {xs : List PV} {vs : List V} (hp : H p = none) (r : Rels w H M B xs vs) : Rel w (upd H p (.lst vs)) M B (.lst xs) (.ref p) :=
  .lst upd_same (fun h => s.mem h hp) (fun b => s.bk p b hp) (r.mono (.new hp))
theorem Rel.newTup {st : Sto} (s : Cels w H M B st) {p : Addr} {xs : List PV} {vs : List V} (hp : H p = none) (r : Rels w H M B xs vs) : Rel w (upd H p (.tup vs)) M B (.tup xs) (.ref p) :=
  .tup upd_same (fun h => s.mem h hp) (r.mono (.new hp))
/-- a list at p that nothing before H₀ knew becomes a cell -/
theorem Kp.cell {H₀ : Hp} {M₀ : List Addr} {p : Addr} (k : Kp H₀ M₀ H M) (hp : H₀ p = none) : Kp H₀ M₀ H (M ++ [p]) :=
  { h := fun a o e n t => by
      obtain ⟨h1, h2⟩ := k.h a o e n t
      refine ⟨h1, fun hm => ?_⟩
      rcases List.mem_append.mp hm with z | z
      · exact h2 z
      · rw [List.mem_singleton.mp z, hp] at e
        cases e
    m := fun n a e => by
      have := k.m n a e
      rw [List.getElem?_append_left (List.getElem?_eq_some_iff.mp this).1]
      exact this
    d := k.d }
/-- B and one more -/
abbrev With (B : Addr → Prop) (p : Addr) : Addr → Prop := fun a => B a ∨ a = p
section
variable {B' : Addr → Prop}
mutual
theorem Rel.weak (hb : ∀ a, B a → B' a) : ∀ {x : PV} {v : V}, Rel w H M B' x v → Rel w H M B x v
  | _, _, .non => .non
  | _, _, .bl b => .bl b
  | _, _, .int i => .int i
  | _, _, .str i => .str i
  | _, _, .ty n => .ty n
  | _, _, .glo e => .glo e
  | _, _, .clo e => .clo e
  | _, _, .cel e => .cel e
  | _, _, .tup e n r => .tup e n (Rels.weak hb r)
  | _, _, .ktup e r => .ktup e (Rels.weak hb r)
  | _, _, .lst e n b r => .lst e n (fun z => b (hb _ z)) (Rels.weak hb r)
  | _, _, .scl e n b r => .scl e n (fun z => b (hb _ z)) (Rels.weak hb r)
  | _, _, .scr e n r => .scr e n (Rels.weak hb r)
  | _, _, .kscr e r => .kscr e (Rels.weak hb r)
  | _, _, .dct e n => .dct e n
theorem Rels.weak (hb : ∀ a, B a → B' a) : ∀ {xs : List PV} {vs : List V}, Rels w H M B' xs vs → Rels w H M B xs vs
  | _, _, .nil => .nil
  | _, _, .cons r t => .cons (Rel.weak hb r) (Rels.weak hb t)
end
theorem Cels.weak {st : Sto} (hb : ∀ a, B a → B' a) (s : Cels w H M B' st) : Cels w H M B st where
  len := s.len
  nd := s.nd
  nb := fun a h b => s.nb a h (hb a b)
  bk := fun a b => s.bk a (hb a b)
  at_ := fun n a c h e => by
    obtain ⟨o, vs, e1, co, r⟩ := s.at_ n a c h e
    exact ⟨o, vs, e1, co, r.weak hb⟩
  nc := s.nc
  tb := s.tb
end
theorem tup_notL {vs : List V} : ¬ isL (.tup vs) := fun h => h
section
variable {D : Addr} {o o' : HO}
mutual
theorem Rel.chg (hD : H D = some o) (ho : isL o) (hb : B D) : ∀ {x : PV} {v : V}, Rel w H M B x v → Rel w (upd H D o') M B x v
  | _, _, .non => .non
  | _, _, .bl b => .bl b
  | _, _, .int i => .int i
  | _, _, .str i => .str i
  | _, _, .ty n => .ty n
  | _, _, .glo e => .glo e
  | _, _, .clo e => .clo e
  | _, _, .cel e => .cel e
  | _, _, .tup (a := a) e n r => .tup (by rw [upd_ne (fun z => by rw [z, hD] at e; cases e; exact ho)]; exact e) n (Rels.chg hD ho hb r)
  | _, _, .ktup e r => .ktup e (Rels.chg hD ho hb r)
  | _, _, .lst e n b r => .lst (by rw [upd_ne (fun z => b (by rw [z]; exact hb))]; exact e) n b (Rels.chg hD ho hb r)
  | _, _, .scl e n b r => .scl (by rw [upd_ne (fun z => b (by rw [z]; exact hb))]; exact e) n b (Rels.chg hD ho hb r)
  | _, _, .scr e n r => .scr (by rw [upd_ne (fun z => by rw [z, hD] at e; cases e; exact ho)]; exact e) n (Rels.chg hD ho hb r)
  | _, _, .kscr e r => .kscr e (Rels.chg hD ho hb r)
  | _, _, .dct e n => .dct (by rw [upd_ne (fun z => by rw [z, hD] at e; cases e; exact ho)]; exact e) n
theorem Rels.chg (hD : H D = some o) (ho : isL o) (hb : B D) : ∀ {xs : List PV} {vs : List V}, Rels w H M B xs vs → Rels w (upd H D o') M B xs vs
  | _, _, .nil => .nil
  | _, _, .cons r t => .cons (Rel.chg hD ho hb r) (Rels.chg hD ho hb t)
end
theorem Cels.chg {st : Sto} (hD : H D = some o) (ho : isL o) (hb : B D) (s : Cels w H M B st) : Cels w (upd H D o') M B st where
  len := s.len
  nd := s.nd
  nb := s.nb
  bk := fun a b e => by
    unfold upd at e
    by_cases q : a = D
    · rw [if_pos q] at e; cases e
    · rw [if_neg q] at e; exact s.bk a b e
  at_ := fun n a c h e => by
    obtain ⟨o1, vs, e1, co, r⟩ := s.at_ n a c h e
    have hm : a ∈ M := List.mem_of_getElem? h
    exact ⟨o1, vs, by rw [upd_ne (fun z => s.nb a hm (by rw [z]; exact hb))]; exact e1, co, r.chg hD ho hb⟩
  nc := s.nc
  tb := fun p hp => TabS_chg (s.tb p hp) hD ho
/-- a list under B's hand becomes a cell -/
theorem not_mem_snoc {a : Addr} (h1 : a ∉ M) (h2 : a ≠ D) : a ∉ M ++ [D] := fun hm => by
  rcases List.mem_append.mp hm with z | z
  · exact h1 z
  · exact h2 (List.mem_singleton.mp z)
mutual
theorem Rel.own (hD : H D = some o) (ho : isL o) : ∀ {x : PV} {v : V}, Rel w H M (With B D) x v → Rel w H (M ++ [D]) B x v
  | _, _, .non => .non
  | _, _, .bl b => .bl b
  | _, _, .int i => .int i
  | _, _, .str i => .str i
  | _, _, .ty n => .ty n
  | _, _, .glo e => .glo e
  | _, _, .clo e => .clo e
  | _, _, .cel e => .cel (by rw [List.getElem?_append_left (List.getElem?_eq_some_iff.mp e).1]; exact e)
  | _, _, .tup e n r => .tup e (not_mem_snoc n fun z => by rw [z, hD] at e; cases e; exact ho) (Rels.own hD ho r)
  | _, _, .ktup e r => .ktup e (Rels.own hD ho r)
  | _, _, .lst e n b r => .lst e (not_mem_snoc n fun z => b (.inr z)) (fun z => b (.inl z)) (Rels.own hD ho r)
  | _, _, .scl e n b r => .scl e (not_mem_snoc n fun z => b (.inr z)) (fun z => b (.inl z)) (Rels.own hD ho r)
  | _, _, .scr e n r => .scr e (not_mem_snoc n fun z => by rw [z, hD] at e; cases e; exact ho) (Rels.own hD ho r)
  | _, _, .kscr e r => .kscr e (Rels.own hD ho r)
  | _, _, .dct e n => .dct e (not_mem_snoc n fun z => by rw [z, hD] at e; cases e; exact ho)
theorem Rels.own (hD : H D = some o) (ho : isL o) : ∀ {xs : List PV} {vs : List V}, Rels w H M (With B D) xs vs → Rels w H (M ++ [D]) B xs vs
  | _, _, .nil => .nil
  | _, _, .cons r t => .cons (Rel.own hD ho r) (Rels.own hD ho t)
end
theorem Cels.ownC {st : Sto} {cc : CC} {o : HO} {vs : List V} (hD : H D = some o) (co : CellO w cc o vs) (hn : D ∉ M) (hb : ¬ B D) (r : Rels w H M (With B D) cc.vals vs) (hx : cc.ok = true) (s : Cels w H M (With B D) st) : Cels w H (M ++ [D]) B (st ++ [cc]) where
  len := by rw [List.length_append, List.length_append, s.len]; rfl
  nd := List.nodup_append.mpr ⟨s.nd, by simp, fun a ha b hb' z => hn (by rw [← List.mem_singleton.mp hb', ← z]; exact ha)⟩
  nb := fun a h b => by
    rcases List.mem_append.mp h with z | z
    · exact s.nb a z (.inl b)
    · rw [List.mem_singleton.mp z] at b; exact hb b
  bk := fun a b => s.bk a (.inl b)
  at_ := fun n a c h e => by
    by_cases hlt : n < M.length
    · rw [List.getElem?_append_left hlt] at h
      rw [List.getElem?_append_left (by rw [← s.len]; exact hlt)] at e
      obtain ⟨o1, us, e1, co1, r1⟩ := s.at_ n a c h e
      exact ⟨o1, us, e1, co1, r1.own hD co.isL⟩
    · have h0 : n = M.length := by
        have := (List.getElem?_eq_some_iff.mp h).1
        rw [List.length_append, List.length_singleton] at this
        omega
      subst h0
      have ea : D = a := by simpa using h
      rw [s.len] at e
      have ec : cc = c := by simpa using e
      rw [← ea, ← ec]
      exact ⟨o, vs, hD, co, r.own hD co.isL⟩
  nc := fun n ys e => by
    by_cases hlt : n < st.length
    · rw [List.getElem?_append_left hlt] at e
      exact s.nc n ys e
    · have h0 : n = st.length := by
        have := (List.getElem?_eq_some_iff.mp e).1
        rw [List.length_append, List.length_singleton] at this
        omega
      subst h0
      have ec : cc = ys := by simpa using e
      rw [← ec]; exact hx
  tb := s.tb
theorem Cels.own {st : Sto} {xs : List PV} {vs : List V} (hD : H D = some (.lst vs)) (hn : D ∉ M) (hb : ¬ B D) (r : Rels w H M (With B D) xs vs) (hx : noCels xs = true) (s : Cels w H M (With B D) st) : Cels w H (M ++ [D]) B (st ++ [.lst xs]) :=
  s.ownC (cc := .lst xs) hD rfl hn hb r hx
end
/-- a cell is written -/
theorem Kp.cset {a : Addr} {o u : HO} (hm : a ∈ M) (ht : H a = some u) (hu : isL u) : Kp H M (upd H a o) M :=
  ⟨fun b u e n _ => ⟨by rw [upd_ne (fun z => n (by rw [z]; exact hm))]; exact e, n⟩, fun _ _ e => e, fun b e => by
    unfold upd at e
    by_cases q : b = a
    · rw [if_pos q] at e; cases e
    · rw [if_neg q] at e; exact e⟩
theorem Cels.isL {st : Sto} (s : Cels w H M B st) {a : Addr} (h : a ∈ M) : ∃ o, H a = some o ∧ isL o := by
  obtain ⟨n, hn, e⟩ := List.getElem_of_mem h
  have h1 : M[n]? = some a := by rw [List.getElem?_eq_getElem hn, e]
  have h2 : n < st.length := by rw [← s.len]; exact hn
  obtain ⟨o, vs, e, co, _⟩ := s.at_ n a st[n] h1 (List.getElem?_eq_getElem h2)
  exact ⟨o, e, co.isL⟩
theorem Cels.csetC {st : Sto} (s : Cels w H M B st) {n : Nat} {a : Addr} {cc : CC} {o : HO} {vs : List V} (h : M[n]? = some a) (co : CellO w cc o vs) (r : Rels w H M B cc.vals vs) (hx : cc.ok = true) : Cels w (upd H a o) M B (st.set n cc) := by
  have hm : a ∈ M := List.mem_of_getElem? h
  obtain ⟨u, hu1, hu2⟩ := s.isL hm
  have k : Kp H M (upd H a o) M := .cset hm hu1 hu2
  refine ⟨by rw [List.length_set]; exact s.len, s.nd, s.nb, fun b hb e => s.bk b hb (k.d b e), fun m b c h1 e1 => ?_, fun m ys e1 => ?_, fun p hp => TabS_chg (s.tb p hp) hu1 hu2⟩
  rotate_left
  · by_cases q : m = n
    · subst q
      have hl : m < st.length := by rw [← s.len]; exact (List.getElem?_eq_some_iff.mp h).1
      rw [List.getElem?_set_self hl] at e1
      cases e1
      exact hx
    · rw [List.getElem?_set_ne (Ne.symm q)] at e1
      exact s.nc m ys e1
  by_cases q : m = n
  · subst q
    rw [h] at h1
    cases h1
    have hl : m < st.length := by rw [← s.len]; exact (List.getElem?_eq_some_iff.mp h).1
    rw [List.getElem?_set_self hl] at e1
    cases e1
    exact ⟨o, vs, upd_same, co, r.mono k⟩
  · rw [List.getElem?_set_ne (Ne.symm q)] at e1
    have hne : b ≠ a := fun z => by
      subst z
      obtain ⟨l1, g1⟩ := List.getElem?_eq_some_iff.mp h1
      obtain ⟨l2, g2⟩ := List.getElem?_eq_some_iff.mp h
      exact q ((List.getElem_inj s.nd).mp (g1.trans g2.symm))
    obtain ⟨o1, us, e2, co1, r2⟩ := s.at_ m b c h1 e1
    exact ⟨o1, us, by rw [upd_ne hne]; exact e2, co1, r2.mono k⟩
theorem Cels.cset {st : Sto} (s : Cels w H M B st) {n : Nat} {a : Addr} {xs : List PV} {vs : List V} (h : M[n]? = some a) (r : Rels w H M B xs vs) (hx : noCels xs = true) : Cels w (upd H a (.lst vs)) M B (st.set n (.lst xs)) :=
  s.csetC (cc := .lst xs) h rfl r hx

/-! ### a pure def's end -/
section
variable {Mc : List Addr} {B' : Addr → Prop}
mutual
theorem Rel.leave (hMc : ∀ a, a ∈ Mc → ∃ o, H a = some o ∧ isL o) (hb : ∀ a, (a ∈ Mc ∨ B a) → B' a) : ∀ {x : PV} {v : V}, x.noCel = true → Rel w H M B' x v → Rel w H Mc B x v
  | _, _, _, .non => .non
  | _, _, _, .bl b => .bl b
  | _, _, _, .int i => .int i
  | _, _, _, .str i => .str i
  | _, _, _, .ty n => .ty n
  | _, _, _, .glo e => .glo e
  | _, _, h, .clo e => by cases h
  | _, _, h, .cel e => by cases h
  | _, _, h, .tup e n r => .tup e (fun hm => by obtain ⟨o, e1, ho⟩ := hMc _ hm; rw [e] at e1; cases e1; exact ho) (Rels.leave hMc hb (by simpa [PV.noCel] using h) r)
  | _, _, h, .ktup e r => .ktup e (Rels.leave hMc hb (by simpa [PV.noCel] using h) r)
  | _, _, h, .lst e n b r => .lst e (fun z => b (hb _ (.inl z))) (fun z => b (hb _ (.inr z))) (Rels.leave hMc hb (by simpa [PV.noCel] using h) r)
  | .scr xs, _, h, .scl e n b r => .scl e (fun z => b (hb _ (.inl z))) (fun z => b (hb _ (.inr z))) (Rels.leave hMc hb (by simpa [PV.noCel] using h) r)
  | .scr xs, _, h, .scr e n r => .scr e (fun hm => by obtain ⟨o, e1, ho⟩ := hMc _ hm; rw [e] at e1; cases e1; exact ho) (Rels.leave hMc hb (by simpa [PV.noCel] using h) r)
  | .scr xs, _, h, .kscr e r => .kscr e (Rels.leave hMc hb (by simpa [PV.noCel] using h) r)
  | _, _, _, .dct e n => .dct e (fun hm => by obtain ⟨o, e1, ho⟩ := hMc _ hm; rw [e] at e1; cases e1; exact ho)
theorem Rels.leave (hMc : ∀ a, a ∈ Mc → ∃ o, H a = some o ∧ isL o) (hb : ∀ a, (a ∈ Mc ∨ B a) → B' a) : ∀ {xs : List PV} {vs : List V}, noCels xs = true → Rels w H M B' xs vs → Rels w H Mc B xs vs
  | _, _, _, .nil => .nil
  | _, _, h, .cons r t => by
    obtain ⟨h1, h2⟩ := Bool.and_eq_true_iff.mp (show (_ && _) = true from h)
    exact .cons (Rel.leave hMc hb h1 r) (Rels.leave hMc hb h2 t)
end
end
end
end Mi

end

section
set_option linter.all false
set_option maxRecDepth 100000
/-! Mi, part C: operators, comparisons, builtins by values. -/
namespace Mi
open PySem PySem.Spec PyProof.Rows L2

/-! ### plain data -/
mutual
def toD : PV → PyData
  | .bl b => .bool b
  | .int i => .int i
  | .str x => .str x
  | .tup xs => .tuple (toDs xs)
  | .lst xs => .list (toDs xs)
  | _ => .none
def toDs : List PV → List PyData
  | [] => []
  | x :: xs => toD x :: toDs xs
end
mutual
theorem eqv_toD : ∀ x y : PV, x.dat = true → y.dat = true → PyData.eqv (toD x) (toD y) = x.eqv y
  | .non, y, _, h => by cases y <;> first | rfl | cases h
  | .bl a, y, _, h => by cases y <;> first | rfl | cases h
  | .int a, y, _, h => by cases y <;> first | rfl | cases h
  | .str a, y, _, h => by cases y <;> first | rfl | cases h
  | .tup xs, y, hx, h => by
    cases y with
    | tup ys => exact eqvs_toDs xs ys hx h
    | _ => first | rfl | cases h
  | .lst xs, y, hx, h => by
    cases y with
    | lst ys => exact eqvs_toDs xs ys hx h
    | _ => first | rfl | cases h
  | .cel _, _, h, _ => by cases h
  | .scr _, _, h, _ => by cases h
  | .dct _, _, h, _ => by cases h
  | .clo, _, h, _ => by cases h
  | .glo _, _, h, _ => by cases h
  | .ty _, _, h, _ => by cases h
theorem eqvs_toDs : ∀ xs ys : List PV, dats xs = true → dats ys = true → PyData.eqvAll (toDs xs) (toDs ys) = eqvs xs ys
  | [], [], _, _ => rfl
  | [], _ :: _, _, _ => rfl
  | _ :: _, [], _, _ => rfl
  | x :: xs, y :: ys, hx, hy => by
    obtain ⟨h1, h2⟩ := Bool.and_eq_true_iff.mp (show (_ && _) = true from hx)
    obtain ⟨h3, h4⟩ := Bool.and_eq_true_iff.mp (show (_ && _) = true from hy)
    show (PyData.eqv (toD x) (toD y) && PyData.eqvAll (toDs xs) (toDs ys)) = (x.eqv y && eqvs xs ys)
    rw [eqv_toD x y h1 h3, eqvs_toDs xs ys h2 h4]
end
mutual
theorem plain_toD : ∀ x : PV, (toD x).plain = true
  | .non => rfl
  | .bl _ => rfl
  | .int _ => rfl
  | .str _ => rfl
  | .tup xs => plain_toDs xs
  | .lst xs => plain_toDs xs
  | .cel _ => rfl
  | .scr _ => rfl
  | .dct _ => rfl
  | .clo => rfl
  | .glo _ => rfl
  | .ty _ => rfl
theorem plain_toDs : ∀ xs : List PV, PyData.plainAll (toDs xs) = true
  | [] => rfl
  | x :: xs => by
    show ((toD x).plain && PyData.plainAll (toDs xs)) = true
    rw [plain_toD x, plain_toDs xs]; rfl
end
mutual
theorem depth_toD : ∀ x : PV, (toD x).depth = x.dep
  | .non => rfl
  | .bl _ => rfl
  | .int _ => rfl
  | .str _ => rfl
  | .tup xs => congrArg (· + 1) (depth_toDs xs)
  | .lst xs => congrArg (· + 1) (depth_toDs xs)
  | .cel _ => rfl
  | .scr _ => rfl
  | .dct _ => rfl
  | .clo => rfl
  | .glo _ => rfl
  | .ty _ => rfl
theorem depth_toDs : ∀ xs : List PV, PyData.depthAll (toDs xs) = deps xs
  | [] => rfl
  | x :: xs => by
    show max (toD x).depth (PyData.depthAll (toDs xs)) = max x.dep (deps xs)
    rw [depth_toD x, depth_toDs xs]
end
theorem any_toDs (d : PV) (hd : d.dat = true) : ∀ xs : List PV, dats xs = true → ((toDs xs).any fun z => PyData.eqv z (toD d)) = xs.any fun z => z.eqv d
  | [], _ => rfl
  | x :: xs, h => by
    obtain ⟨h1, h2⟩ := Bool.and_eq_true_iff.mp (show (_ && _) = true from h)
    show (PyData.eqv (toD x) (toD d) || (toDs xs).any fun z => PyData.eqv z (toD d)) = (x.eqv d || xs.any fun z => z.eqv d)
    rw [eqv_toD x d h1 hd, any_toDs d hd xs h2]
section
variable {w : Wd} {H H' : Hp} {M M' : List Addr} {B : Addr → Prop} {st : Sto}
mutual
theorem Rel.dp : ∀ (x : PV) (v : V), x.dat = true → Rel w H M B x v → Dp w.K H v (toD x)
  | .non, _, _, r => by cases r; exact .non
  | .bl b, _, _, r => by cases r; exact .bl b
  | .int b, _, _, r => by cases r; exact .int b
  | .str b, _, _, r => by cases r; exact .str b
  | .ty _, _, h, _ => by cases h
  | .glo _, _, h, _ => by cases h
  | .cel _, _, h, _ => by cases h
  | .scr _, _, h, _ => by cases h
  | .dct _, _, h, _ => by cases h
  | .clo, _, h, _ => by cases h
  | .tup xs, _, h, r => by
    cases r with
    | tup e n r => exact .tup (.inl (.inl e)) (Rels.dp xs _ h r)
    | ktup e r => exact .tup (.inr e) (Rels.dp xs _ h r)
  | .lst xs, _, h, r => by
    cases r with
    | lst e n b r => exact .lst (.inl (.inl e)) (Rels.dp xs _ h r)
theorem Rels.dp : ∀ (xs : List PV) (vs : List V), dats xs = true → Rels w H M B xs vs → DpAll w.K H vs (toDs xs)
  | [], _, _, r => by cases r; exact .nil
  | x :: xs, _, h, r => by
    obtain ⟨h1, h2⟩ := Bool.and_eq_true_iff.mp (show (_ && _) = true from h)
    cases r with
    | cons r t => exact .cons (Rel.dp x _ h1 r) (Rels.dp xs _ h2 t)
end
theorem snap_dp (s : Cels w H M B st) {x : PV} {v : V} (r : Rel w H M B x v) (h : (snap st x).dat = true) : Dp w.K H v (toD (snap st x)) := by
  cases x with
  | cel n =>
    unfold snap at h ⊢
    cases r with
    | cel e =>
      cases q : st[n]? with
      | none => simp only [q] at h; cases h
      | some c =>
        cases c with
        | ins _ _ => simp only [q] at h; cases h
        | lst xs =>
          obtain ⟨vs, e1, r1⟩ := s.get e q
          simp only [q] at h ⊢
          exact .lst (.inl (.inl e1)) (Rels.dp _ _ h r1)
  | _ => exact Rel.dp _ _ h r
theorem asL_rel (s : Cels w H M B st) {x : PV} {v : V} {xs : List PV} (r : Rel w H M B x v) (h : asL st x = some xs) : ∃ a vs, v = .ref a ∧ H a = some (.lst vs) ∧ Rels w H M B xs vs := by
  cases x with
  | lst ys =>
    cases h
    exact r.lstL
  | cel n =>
    cases r with
    | cel e =>
      unfold asL at h
      cases q : st[n]? with
      | none => simp only [q] at h; cases h
      | some c =>
        cases c with
        | ins _ _ => simp only [q] at h; cases h
        | lst ys =>
          simp only [q] at h
          cases h
          obtain ⟨vs, e1, r1⟩ := s.get e q
          exact ⟨_, vs, rfl, e1, r1⟩
  | _ => cases h
theorem asS_rel (s : Cels w H M B st) {x : PV} {v : V} {xs : List PV} (r : Rel w H M B x v) (h : asS st x = some xs) : ∃ a vs, v = .ref a ∧ (SqL w.K H a vs ∨ SqT w.K H a vs) ∧ Rels w H M B xs vs := by
  cases x with
  | tup ys =>
    cases h
    obtain ⟨a, vs, e1, e2, e3⟩ := r.tupT
    exact ⟨a, vs, e1, .inr e2, e3⟩
  | scr ys =>
    cases h
    cases r with
    | scr e n r => exact ⟨_, _, rfl, .inl (.inl (.inr ⟨_, e⟩)), r⟩
    | scl e n b r => exact ⟨_, _, rfl, .inl (.inl (.inl e)), r⟩
    | kscr e r => exact ⟨_, _, rfl, .inl (.inr e), r⟩
  | lst ys =>
    obtain ⟨a, vs, e1, e2, e3⟩ := asL_rel s r h
    exact ⟨a, vs, e1, .inl (.inl (.inl e2)), e3⟩
  | cel n =>
    obtain ⟨a, vs, e1, e2, e3⟩ := asL_rel s r h
    exact ⟨a, vs, e1, .inl (.inl (.inl e2)), e3⟩
  | _ => cases h

/-! ### what a value's coming is told by -/
/-- the heap may have grown, the cells are the same, c stands for z -/
def Aft (w : Wd) (H : Hp) (M : List Addr) (B : Addr → Prop) (st : Sto) (c : PV) (Q : VK) : Prop :=
  ∀ z H', Kp H M H' M → Cels w H' M B st → Rel w H' M B c z → Q z H'
variable {Q : VK}
theorem Aft.now {c : PV} {z : V} (q : Aft w H M B st c Q) (s : Cels w H M B st) (r : Rel w H M B c z) : Q z H := q z H (.refl _ _) s r
theorem Aft.newL {xs : List PV} {vs : List V} (q : Aft w H M B st (.lst xs) Q) (s : Cels w H M B st) (r : Rels w H M B xs vs) {p : Addr} (hp : H p = none) : Q (.ref p) (upd H p (.lst vs)) :=
  q _ _ (.new hp) (s.new hp) (.newLst s hp r)
theorem Aft.newT {xs : List PV} {vs : List V} (q : Aft w H M B st (.tup xs) Q) (s : Cels w H M B st) (r : Rels w H M B xs vs) {p : Addr} (hp : H p = none) : Q (.ref p) (upd H p (.tup vs)) :=
  q _ _ (.new hp) (s.new hp) (.newTup s hp r)
end

/-! ### operators -/
abbrev wd (X : Cx) (nm : Nm) : Wd := ⟨X.K, X.mg, nm⟩
def OpE (X : Cx) (f : Value → Value → Sem Value) (x y : V) (H : Hp) (Q : VK) : Prop :=
  ∀ (pins : List (Addr × Obj)) (s : Shared) (σ : L2.St) (v u : Value), Inv X pins σ H s → RelV x v → RelV y u → wpAny (model X.prog X.w) X.A (f v u) (EP X pins σ Q) X.xe s
theorem OpE.of {X : Cx} {f : Value → Value → Sem Value} {r : R2} {x y : V} {H : Hp} {Q : VK} (h : OpR X f r) (q : r x y H Q) : OpE X f x y H Q :=
  fun pins s σ v u I rx ry => h pins s σ H x y v u Q I rx ry q
theorem line_big : big ≤ sizeLine := by rw [sizeLine_eq]; decide
theorem mulOk_of {i j : Int} (h : mulOk i j = true) : CMul i j ∨ CMulW i j := by
  unfold mulOk at h
  rcases Bool.or_eq_true_iff.mp h with h | h
  · obtain ⟨h1, h2⟩ := Bool.and_eq_true_iff.mp h
    exact .inl (.inl ⟨of_decide_eq_true h1, of_decide_eq_true h2⟩)
  · rcases Bool.or_eq_true_iff.mp h with h | h
    · obtain ⟨h1, h2⟩ := Bool.and_eq_true_iff.mp h
      exact .inl (.inr ⟨of_decide_eq_true h1, of_decide_eq_true h2⟩)
    · obtain ⟨h1, h2⟩ := Bool.and_eq_true_iff.mp h
      exact .inr (wide_mul (of_decide_eq_true h1) (of_decide_eq_true h2) (by decide) (by decide) (by decide))
section
variable {X : Cx} {nm : Nm} {H : Hp} {M : List Addr} {B : Addr → Prop} {st : Sto} {Q : VK}
theorem op_add_bi : OpR X (binaryOp .Add) (fun x y H Q => ∃ k j, x = .bl k ∧ y = .int j ∧ Q (.int (b2i k + j)) H) := by
  intro pins s σ H x y v u Q I rx ry h
  obtain ⟨k, j, rfl, rfl, q⟩ := h
  cases rx
  obtain ⟨t, rfl⟩ := ry
  exact PySem.IntBool.add_bool_int ⟨.int (b2i k + j), H, I.tok _, ⟨_, rfl⟩, q⟩
theorem pow_small {i j : Int} (h : (decide (0 ≤ j) && (decide (j ≤ 64) && decide (i.natAbs < 2 ^ 32))) = true) : CPow i j := by
  obtain ⟨h1, h2⟩ := Bool.and_eq_true_iff.mp h
  obtain ⟨h2, h3⟩ := Bool.and_eq_true_iff.mp h2
  have h1 := of_decide_eq_true h1
  have h2 := of_decide_eq_true h2
  have h3 := of_decide_eq_true h3
  exact ⟨h1, by omega, by omega⟩
theorem div_wide {j : Int} (i : Int) (h : (decide (0 < j) && decide (j < divCap)) = true) : CDivW i j := by
  obtain ⟨h1, h2⟩ := Bool.and_eq_true_iff.mp h
  have h1 := of_decide_eq_true h1
  have h2 := of_decide_eq_true h2
  refine wide_div (b := 9000) h1 ?_ (by decide) (by decide)
  have h2 : j < ((2 ^ 9000 : Nat) : Int) := h2
  generalize (2 ^ 9000 : Nat) = c at h2
  omega
theorem bin_ok {o : Operator} {a b c : PV} {x y : V} (e : binV st o a b = some c) (s : Cels (wd X nm) H M B st) (ra : Rel (wd X nm) H M B a x) (rb : Rel (wd X nm) H M B b y)
    (q : Aft (wd X nm) H M B st c Q) : OpE X (binaryOp o) x y H Q := by
  have lb := line_big
  unfold binV at e
  split at e
  · cases e; cases ra; cases rb
    exact .of op_add ⟨_, _, rfl, rfl, q.now s (.int _)⟩
  · cases e; cases ra; cases rb
    exact .of op_add_ib ⟨_, _, rfl, rfl, q.now s (.int _)⟩
  · cases e; cases ra; cases rb
    exact .of op_add_bi ⟨_, _, rfl, rfl, q.now s (.int _)⟩
  · cases e; cases ra; cases rb
    exact .of op_sub ⟨_, _, rfl, rfl, q.now s (.int _)⟩
  · split at e
    · rename_i h
      cases e; cases ra; cases rb
      rcases mulOk_of h with h | h
      · exact .of op_mul ⟨_, _, rfl, rfl, h, q.now s (.int _)⟩
      · exact .of op_mulW ⟨_, _, rfl, rfl, h, q.now s (.int _)⟩
    · cases e
  · split at e
    · rename_i h
      cases e; cases ra; cases rb
      exact .of op_fdivW ⟨_, _, rfl, rfl, div_wide _ h, q.now s (.int _)⟩
    · cases e
  · split at e
    · rename_i h
      cases e; cases ra; cases rb
      exact .of op_mod ⟨_, _, rfl, rfl, of_decide_eq_true h, q.now s (.int _)⟩
    · cases e
  · split at e
    · rename_i h
      cases e; cases ra; cases rb
      exact .of op_pow ⟨_, _, rfl, rfl, pow_small h, q.now s (.int _)⟩
    · cases e
  · split at e
    · rename_i h
      cases e; cases ra; cases rb
      exact .of op_add_str ⟨_, _, rfl, rfl, Nat.le_trans h lb, q.now s (.str _)⟩
    · cases e
  · split at e
    · rename_i xs ys h
      cases e
      obtain ⟨p1, vs, e1, s1, r1⟩ := ra.tupT
      obtain ⟨p2, us, e2, s2, r2⟩ := rb.tupT
      subst e1 e2
      refine .of op_catA ⟨_, _, vs, us, rfl, rfl, s1, s2, ?_, fun z => ?_, fun _ z => ?_, fun _ _ p hp => q.newT s (r1.append r2) hp⟩
      · rw [← r1.length, ← r2.length]; exact Nat.le_trans h lb
      · subst z
        have : xs = [] := List.eq_nil_of_length_eq_zero (by rw [r1.length]; rfl)
        subst this
        exact q.now s rb
      · subst z
        have : ys = [] := List.eq_nil_of_length_eq_zero (by rw [r2.length]; rfl)
        subst this
        rw [List.append_nil] at q
        exact q.now s ra
    · cases e
  · split at e
    · rename_i xs k h
      cases e
      cases rb
      obtain ⟨p1, vs, e1, s1, r1⟩ := ra.tupT
      subst e1
      obtain ⟨h1, h⟩ := Bool.and_eq_true_iff.mp h
      obtain ⟨h2, h⟩ := Bool.and_eq_true_iff.mp h
      obtain ⟨h3, h4⟩ := Bool.and_eq_true_iff.mp h
      refine .of op_repT ⟨_, _, vs, rfl, rfl, s1, fun z => ?_, of_decide_eq_true h1, of_decide_eq_true h2, by rw [← r1.length]; exact of_decide_eq_true h3, fun p hp => q.newT s (r1.rep _) hp⟩
      subst z
      have : xs = [] := List.eq_nil_of_length_eq_zero (by rw [r1.length]; rfl)
      subst this
      cases h4
    · cases e
  · split at e
    · rename_i xs k h
      cases e
      cases rb
      obtain ⟨p1, vs, e1, s1, r1⟩ := ra.lstL
      subst e1
      obtain ⟨h1, h⟩ := Bool.and_eq_true_iff.mp h
      obtain ⟨h2, h3⟩ := Bool.and_eq_true_iff.mp h
      have h1 := of_decide_eq_true h1
      have h2 := of_decide_eq_true h2
      have h3 := of_decide_eq_true h3
      refine .of op_rep ⟨_, _, vs, rfl, rfl, s1, by omega, by omega, ?_, fun p hp => q.newL s (r1.rep _) hp⟩
      rw [← r1.length]
      exact Nat.le_trans (Nat.mul_le_mul h3 (show k.toNat ≤ 1000 by omega)) (Nat.le_trans (by decide) lb)
    · cases e
  · split at e
    · rename_i xs ys e1 e2
      split at e
      · rename_i h
        cases e
        obtain ⟨p1, vs, q1, s1, r1⟩ := asL_rel s ra e1
        obtain ⟨p2, us, q2, s2, r2⟩ := asL_rel s rb e2
        subst q1 q2
        refine .of op_cat ⟨_, _, vs, us, rfl, rfl, s1, s2, ?_, fun p hp => q.newL s (r1.append r2) hp⟩
        rw [← r1.length, ← r2.length]; exact Nat.le_trans h lb
      · cases e
    · cases e
  · cases e

/-! ### comparisons -/
theorem reads2 {x y : V} {d e : PyData} {pins : List (Addr × Obj)} {σ : L2.St} {sh : Shared} {v u : Value} (I : Inv X pins σ H sh) (hx : Dp X.K H x d) (hy : Dp X.K H y e) (rx : RelV x v) (ry : RelV y u) :
    (∃ as, Reads sh.heap v d as) ∧ ∃ as, Reads sh.heap u e as := ⟨Dp.reads I d x v hx rx, Dp.reads I e y u hy ry⟩
theorem eq_ok {a b : PV} {c : Bool} {x y : V} (hu : X.A.units + 64 < cLine) (e : eqV st a b = some c) (s : Cels (wd X nm) H M B st) (ra : Rel (wd X nm) H M B a x) (rb : Rel (wd X nm) H M B b y)
    (q : Q (.bl c) H) : OpE X (compareOp .Eq) x y H Q := by
  intro pins sh σ v u I rx ry
  unfold eqV at e
  split at e
  · rename_i h
    cases e
    obtain ⟨h1, h⟩ := Bool.and_eq_true_iff.mp h
    obtain ⟨h2, h3⟩ := Bool.and_eq_true_iff.mp h
    obtain ⟨⟨as, r1⟩, bs, r2⟩ := reads2 I (snap_dp s ra h1) (snap_dp s rb h2) rx ry
    refine SeqAt.eq_plain r1 r2 (plain_toD _) (plain_toD _) ?_ ?_
    · rw [depth_toD, depth_toD]
      rcases Bool.or_eq_true_iff.mp h3 with z | z
      · have := of_decide_eq_true z; omega
      · have := of_decide_eq_true z; omega
    · rw [eqv_toD _ _ h1 h2]
      exact ⟨.bl _, H, I, rfl, q⟩
  · cases e
theorem ne_ok {a b : PV} {c : Bool} {x y : V} (hu : X.A.units + 64 < cLine) (e : eqV st a b = some c) (s : Cels (wd X nm) H M B st) (ra : Rel (wd X nm) H M B a x) (rb : Rel (wd X nm) H M B b y)
    (q : Q (.bl (!c)) H) : OpE X (compareOp .NotEq) x y H Q := by
  intro pins sh σ v u I rx ry
  unfold eqV at e
  split at e
  · rename_i h
    cases e
    obtain ⟨h1, h⟩ := Bool.and_eq_true_iff.mp h
    obtain ⟨h2, h3⟩ := Bool.and_eq_true_iff.mp h
    obtain ⟨⟨as, r1⟩, bs, r2⟩ := reads2 I (snap_dp s ra h1) (snap_dp s rb h2) rx ry
    refine SeqAt.ne_plain r1 r2 (plain_toD _) (plain_toD _) ?_ ?_
    · rw [depth_toD, depth_toD]
      rcases Bool.or_eq_true_iff.mp h3 with z | z
      · have := of_decide_eq_true z; omega
      · have := of_decide_eq_true z; omega
    · rw [eqv_toD _ _ h1 h2]
      exact ⟨.bl _, H, I, rfl, q⟩
  · cases e
theorem in_reads {b : PV} {ys : List PV} {y : V} {pins : List (Addr × Obj)} {σ : L2.St} {sh : Shared} {u : Value} (I : Inv X pins σ H sh) (s : Cels (wd X nm) H M B st) (rb : Rel (wd X nm) H M B b y) (e : asS st b = some ys)
    (hd : dats ys = true) (ry : RelV y u) : (∃ as, Reads sh.heap u (.list (toDs ys)) as) ∨ ∃ as, Reads sh.heap u (.tuple (toDs ys)) as := by
  obtain ⟨a, vs, rfl, h, r⟩ := asS_rel s rb e
  have hp := Rels.dp _ _ hd r
  rcases h with h | h
  · exact .inl (Dp.reads I _ _ u (.lst h hp) ry)
  · exact .inr (Dp.reads I _ _ u (.tup h hp) ry)
theorem in_ok {a b : PV} {ys : List PV} {x y : V} (hu : X.A.units + 65 < cLine) (e : asS st b = some ys) (hc : ((snap st a).dat && (dats ys && decide (deps ys ≤ 60))) = true) (s : Cels (wd X nm) H M B st) (ra : Rel (wd X nm) H M B a x) (rb : Rel (wd X nm) H M B b y)
    (q : Q (.bl (ys.any fun z => z.eqv (snap st a))) H) : OpE X (compareOp .In) x y H Q := by
  intro pins sh σ v u I rx ry
  obtain ⟨h1, h⟩ := Bool.and_eq_true_iff.mp hc
  obtain ⟨h2, h3⟩ := Bool.and_eq_true_iff.mp h
  have h3 := of_decide_eq_true h3
  obtain ⟨as, r1⟩ := Dp.reads I _ x v (snap_dp s ra h1) rx
  have hq : EP X pins σ Q (.bool ((toDs ys).any fun z => PyData.eqv z (toD (snap st a)))) sh := by
    rw [any_toDs _ h1 _ h2]
    exact ⟨.bl _, H, I, rfl, q⟩
  have hb : X.A.units + 1 + min (PyData.depthAll (toDs ys)) (toD (snap st a)).depth < cLine := by
    rw [depth_toDs]
    omega
  rcases in_reads I s rb e h2 ry with ⟨bs, r2⟩ | ⟨bs, r2⟩
  · exact SeqAt.in_list_data r2 r1 (plain_toDs _) (plain_toD _) hb hq
  · exact SeqAt.in_tuple_data r2 r1 (plain_toDs _) (plain_toD _) hb hq
theorem notIn_ok {a b : PV} {ys : List PV} {x y : V} (hu : X.A.units + 65 < cLine) (e : asS st b = some ys) (hc : ((snap st a).dat && (dats ys && decide (deps ys ≤ 60))) = true) (s : Cels (wd X nm) H M B st) (ra : Rel (wd X nm) H M B a x) (rb : Rel (wd X nm) H M B b y)
    (q : Q (.bl (!ys.any fun z => z.eqv (snap st a))) H) : OpE X (compareOp .NotIn) x y H Q := by
  intro pins sh σ v u I rx ry
  obtain ⟨h1, h⟩ := Bool.and_eq_true_iff.mp hc
  obtain ⟨h2, h3⟩ := Bool.and_eq_true_iff.mp h
  have h3 := of_decide_eq_true h3
  obtain ⟨as, r1⟩ := Dp.reads I _ x v (snap_dp s ra h1) rx
  have hq : EP X pins σ Q (.bool (!(toDs ys).any fun z => PyData.eqv z (toD (snap st a)))) sh := by
    rw [any_toDs _ h1 _ h2]
    exact ⟨.bl _, H, I, rfl, q⟩
  have hb : X.A.units + 1 + min (PyData.depthAll (toDs ys)) (toD (snap st a)).depth < cLine := by
    rw [depth_toDs]
    omega
  rcases in_reads I s rb e h2 ry with ⟨bs, r2⟩ | ⟨bs, r2⟩
  · exact SeqAt.notIn_list_data r2 r1 (plain_toDs _) (plain_toD _) hb hq
  · exact SeqAt.notIn_tuple_data r2 r1 (plain_toDs _) (plain_toD _) hb hq
theorem rel_isN {w : Wd} {a : PV} {x : V} (r : Rel w H M B a x) : isN a = decide (x = .non) := by
  cases r <;> rfl
theorem is_bb {a b : Bool} (q : Q (.bl (a == b)) H) : OpE X (compareOp .Is) (.bl a) (.bl b) H Q := by
  intro pins sh σ v u I rx ry
  cases rx; cases ry
  show wpAny _ _ ((isSame (.bool a) (.bool b)) >>= fun z => pure (Value.bool z)) _ _ sh
  refine wpAny_bind (wpAny_of_eq (a := a == b) ?_ (wpAny_pure ⟨.bl (a == b), H, I, rfl, q⟩))
  cases a <;> cases b <;> rfl
theorem is_nb {b : Bool} (q : Q (.bl false) H) : OpE X (compareOp .Is) .non (.bl b) H Q := by
  intro pins sh σ v u I rx ry
  cases rx; cases ry
  show wpAny _ _ ((isSame .none (.bool b)) >>= fun z => pure (Value.bool z)) _ _ sh
  exact wpAny_bind (wpAny_of_eq (a := false) rfl (wpAny_pure ⟨.bl false, H, I, rfl, q⟩))
theorem isnt_bb {a b : Bool} (q : Q (.bl (!(a == b))) H) : OpE X (compareOp .IsNot) (.bl a) (.bl b) H Q := by
  intro pins sh σ v u I rx ry
  cases rx; cases ry
  show wpAny _ _ ((isSame (.bool a) (.bool b)) >>= fun z => pure (Value.bool (!z))) _ _ sh
  refine wpAny_bind (wpAny_of_eq (a := a == b) ?_ (wpAny_pure ⟨.bl (!(a == b)), H, I, rfl, q⟩))
  cases a <;> cases b <;> rfl
theorem isnt_nb {b : Bool} (q : Q (.bl true) H) : OpE X (compareOp .IsNot) .non (.bl b) H Q := by
  intro pins sh σ v u I rx ry
  cases rx; cases ry
  show wpAny _ _ ((isSame .none (.bool b)) >>= fun z => pure (Value.bool (!z))) _ _ sh
  exact wpAny_bind (wpAny_of_eq (a := false) rfl (wpAny_pure ⟨.bl true, H, I, rfl, q⟩))
theorem cmp_ok {o : CmpOp} {a b : PV} {c : Bool} {x y : V} (hu : X.A.units + 65 < cLine) (e : cmpV st o a b = some c) (s : Cels (wd X nm) H M B st) (ra : Rel (wd X nm) H M B a x) (rb : Rel (wd X nm) H M B b y)
    (q : Q (.bl c) H) : OpE X (compareOp o) x y H Q := by
  unfold cmpV at e
  split at e
  · exact eq_ok (by omega) e s ra rb q
  · obtain ⟨d, e1, e2⟩ := Option.map_eq_some_iff.mp e
    exact ne_ok (by omega) e1 s ra rb (by rw [e2]; exact q)
  · cases e; cases ra; cases rb; exact .of op_lt ⟨_, _, rfl, rfl, q⟩
  · cases e; cases ra; cases rb; exact .of op_le ⟨_, _, rfl, rfl, q⟩
  · cases e; cases ra; cases rb; exact .of op_gt ⟨_, _, rfl, rfl, q⟩
  · cases e; cases ra; cases rb; exact .of op_ge ⟨_, _, rfl, rfl, q⟩
  · cases e; cases rb; exact .of op_isN ⟨rfl, by rw [← rel_isN ra]; exact q⟩
  · cases e; cases rb; exact .of op_notN ⟨rfl, by rw [← rel_isN ra]; exact q⟩
  · cases e; cases ra; cases rb; exact is_bb q
  · cases e; cases ra; cases rb; exact is_nb q
  · cases e; cases ra; cases rb; exact isnt_bb q
  · cases e; cases ra; cases rb; exact isnt_nb q
  · split at e
    · rename_i ys h
      split at e
      · rename_i hc
        cases e
        exact in_ok hu h hc s ra rb q
      · cases e
    · cases e
  · split at e
    · rename_i ys h
      split at e
      · rename_i hc
        cases e
        exact notIn_ok hu h hc s ra rb q
      · cases e
    · cases e
  · cases e

/-! ### truth, subscripts -/
theorem isEmpty_rels {w : Wd} {xs : List PV} {vs : List V} (r : Rels w H M B xs vs) : xs.isEmpty = vs.isEmpty := by cases r <;> rfl
theorem tru_of {a : PV} {c : Bool} {x : V} (e : truV st a = some c) (s : Cels (wd X nm) H M B st) (ra : Rel (wd X nm) H M B a x) : TruV X.K x H c := by
  unfold truV at e
  split at e
  · cases e; cases ra; rfl
  · cases e; cases ra; rfl
  · cases e; cases ra; rfl
  · obtain ⟨xs, e1, e2⟩ := Option.map_eq_some_iff.mp e
    obtain ⟨p, vs, rfl, h, r⟩ := asS_rel s ra e1
    rw [isEmpty_rels r] at e2
    rcases h with h | h
    · exact .inl ⟨vs, h, e2.symm⟩
    · exact .inr (.inl ⟨vs, h, e2.symm⟩)
theorem ix_of {a b c : PV} {x y : V} (e : ixV st a b = some c) (s : Cels (wd X nm) H M B st) (ra : Rel (wd X nm) H M B a x) (rb : Rel (wd X nm) H M B b y)
    (q : Aft (wd X nm) H M B st c Q) : rIx X.K x y H Q := by
  have lb := line_big
  unfold ixV at e
  split at e
  · cases rb
    split at e
    · split at e
      · rename_i z h
        obtain ⟨d, e1, e2⟩ := Option.map_eq_some_iff.mp e
        subst e2
        cases ra
        exact .inr (.inr ⟨_, _, d, rfl, rfl, Nat.le_trans h lb, e1, q.now s (.str _)⟩)
      · cases e
    · obtain ⟨xs, e1, e2⟩ := Option.bind_eq_some_iff.mp e
      obtain ⟨p, vs, rfl, h, r⟩ := asS_rel s ra e1
      obtain ⟨v, e3, rv⟩ := atI_rel r e2
      rcases h with h | h
      · exact .inl ⟨_, _, _, v, rfl, rfl, h, e3, q.now s rv⟩
      · exact .inr (.inl ⟨_, _, _, v, rfl, rfl, h, e3, q.now s rv⟩)
  · cases e

/-! ### builtins -/
def CallE (X : Cx) (f : Value) (xs : List V) (H : Hp) (Q : VK) : Prop :=
  ∀ (pins : List (Addr × Obj)) (s : Shared) (σ : L2.St) (us : List Value), Inv X pins σ H s → Vals xs us → wpAny (model X.prog X.w) X.A (PySem.call f us) (EP X pins σ Q) X.xe s
theorem CallE.of {f : Value} {r : List V → Hp → VK → Prop} {xs : List V} (h : CallR X f r) (q : r xs H Q) : CallE X f xs H Q := fun pins s σ us I rv => h pins s σ H xs us Q I rv q
theorem ints_rel {w : Wd} : ∀ {xs : List PV} {vs : List V} {ns : List Int}, Rels w H M B xs vs → ints? xs = some ns → vs = ns.map V.int
  | [], _, _, r, e => by cases e; cases r; rfl
  | x :: xs, _, ns, r, e => by
    cases r with
    | cons r t =>
      cases x with
      | int i =>
        obtain ⟨ms, e1, e2⟩ := Option.map_eq_some_iff.mp (show (ints? xs).map (i :: ·) = some ns from e)
        subst e2
        cases r
        rw [ints_rel t e1]; rfl
      | _ => cases e
theorem bools_rel {w : Wd} : ∀ {xs : List PV} {vs : List V} {ns : List Bool}, Rels w H M B xs vs → bools? xs = some ns → vs = ns.map V.bl
  | [], _, _, r, e => by cases e; cases r; rfl
  | x :: xs, _, ns, r, e => by
    cases r with
    | cons r t =>
      cases x with
      | bl i =>
        obtain ⟨ms, e1, e2⟩ := Option.map_eq_some_iff.mp (show (bools? xs).map (i :: ·) = some ns from e)
        subst e2
        cases r
        rw [bools_rel t e1]; rfl
      | _ => cases e
end
end Mi

end

section
set_option linter.all false
set_option maxRecDepth 100000
/-! Mi, part D: builtins; expressions, judged at their values. -/
namespace Mi
open PySem PySem.Spec PyProof.Rows L2

def Bi.val : Bi → Value
  | .len => .builtin "len" | .abs => .builtin "abs" | .min2 => .builtin "min" | .max2 => .builtin "max"
  | .sum => .builtin "sum" | .all => .builtin "all" | .any => .builtin "any" | .isi => .builtin "isinstance"
  | .tuple => .type "tuple" | .list => .type "list" | .int => .type "int" | .bool => .type "bool" | .str => .type "str"
section
variable {X : Cx} {nm : Nm} {H : Hp} {M : List Addr} {B : Addr → Prop} {st : Sto} {Q : VK}
theorem isi_of {a : PV} {n : String} {b : Bool} {x : V} (e : isiV a n = some b) (r : Rel (wd X nm) H M B a x) : ∃ t, TyX X.K H x (.type t) ∧ kitB t n = some b := by
  cases r with
  | non => exact ⟨_, .base .non, by unfold isiV at e; split at e <;> first | contradiction | (cases e; decide +kernel)⟩
  | bl k => exact ⟨_, .base (.bl k), by unfold isiV at e; split at e <;> first | contradiction | (cases e; decide +kernel)⟩
  | int k => exact ⟨_, .base (.int k), by unfold isiV at e; split at e <;> first | contradiction | (cases e; decide +kernel)⟩
  | str k => exact ⟨_, .base (.str k), by unfold isiV at e; split at e <;> first | contradiction | (cases e; decide +kernel)⟩
  | tup h _ _ => exact ⟨_, .base (.tup h), by unfold isiV at e; split at e <;> first | contradiction | (cases e; decide +kernel)⟩
  | ktup h _ =>
    obtain ⟨o, its, k, h1, h2, _⟩ := h
    exact ⟨_, .kTuple h1 h2, by unfold isiV at e; split at e <;> first | contradiction | (cases e; decide +kernel)⟩
  | lst h _ _ _ => exact ⟨_, .base (.lst h), by unfold isiV at e; split at e <;> first | contradiction | (cases e; decide +kernel)⟩
  | ty k => unfold isiV at e; split at e <;> first | contradiction | cases e
  | glo k => unfold isiV at e; split at e <;> first | contradiction | cases e
  | cel k => unfold isiV at e; split at e <;> first | contradiction | cases e
  | scl k _ _ _ => unfold isiV at e; split at e <;> first | contradiction | cases e
  | scr k _ _ => unfold isiV at e; split at e <;> first | contradiction | cases e
  | kscr k _ => unfold isiV at e; split at e <;> first | contradiction | cases e
  | dct k _ => unfold isiV at e; split at e <;> first | contradiction | cases e
  | clo k => unfold isiV at e; split at e <;> first | contradiction | cases e
theorem bi_ok {b : Bi} {as : List PV} {c : PV} {vs : List V} (hc : X.calm = true) (e : biV st b as = some c) (s : Cels (wd X nm) H M B st) (r : Rels (wd X nm) H M B as vs)
    (q : Aft (wd X nm) H M B st c Q) : CallE X b.val vs H Q := by
  have lb := line_big
  unfold biV at e
  split at e
  · split at e
    · rename_i h
      cases e
      cases r with | cons r t => cases t; cases r; exact .of call_len ⟨_, _, rfl, ⟨Nat.le_trans h lb, rfl⟩, q.now s (.int _)⟩
    · cases e
  · obtain ⟨xs, e1, e2⟩ := Option.map_eq_some_iff.mp e
    subst e2
    cases r with
    | cons r t =>
      cases t
      obtain ⟨p, us, rfl, h, rr⟩ := asS_rel s r e1
      rw [rr.length] at q
      exact .of call_len_seq ⟨_, _, rfl, h, q.now s (.int _)⟩
  · cases e
    cases r with | cons r t => cases t; cases r; exact .of call_abs ⟨_, rfl, q.now s (.int _)⟩
  · cases e
    cases r with | cons r t => cases t with | cons r2 t => cases t; cases r; cases r2; exact .of (call_min2 hc) ⟨_, _, rfl, q.now s (.int _)⟩
  · cases e
    cases r with | cons r t => cases t with | cons r2 t => cases t; cases r; cases r2; exact .of (call_max2 hc) ⟨_, _, rfl, q.now s (.int _)⟩
  · obtain ⟨xs, e1, e2⟩ := Option.bind_eq_some_iff.mp e
    obtain ⟨ns, e4, e3⟩ := Option.map_eq_some_iff.mp e2
    subst e3
    cases r with
    | cons r t =>
      cases t
      obtain ⟨p, us, rfl, h, rr⟩ := asL_rel s r e1
      rw [ints_rel rr e4] at h
      exact .of (cr_sum hc) ⟨_, ns, rfl, .inl (.inl h), q.now s (.int _)⟩
  · obtain ⟨xs, e1, e2⟩ := Option.bind_eq_some_iff.mp e
    obtain ⟨ns, e4, e3⟩ := Option.map_eq_some_iff.mp e2
    subst e3
    cases r with
    | cons r t =>
      cases t
      obtain ⟨p, us, rfl, h, rr⟩ := asL_rel s r e1
      rw [bools_rel rr e4] at h
      exact .of (cr_all hc) ⟨_, ns, rfl, .inl (.inl h), q.now s (.bl _)⟩
  · obtain ⟨xs, e1, e2⟩ := Option.bind_eq_some_iff.mp e
    obtain ⟨ns, e4, e3⟩ := Option.map_eq_some_iff.mp e2
    subst e3
    cases r with
    | cons r t =>
      cases t
      obtain ⟨p, us, rfl, h, rr⟩ := asL_rel s r e1
      rw [bools_rel rr e4] at h
      exact .of (cr_any hc) ⟨_, ns, rfl, .inl (.inl h), q.now s (.bl _)⟩
  · cases e
    cases r with
    | cons r t =>
      cases t
      have r' := r
      obtain ⟨p, us, rfl, h, rr⟩ := r.tupT
      exact .of call_tuple_of ⟨p, us, rfl, .inr ⟨h, q.now s r'⟩⟩
  · obtain ⟨xs, e1, e2⟩ := Option.map_eq_some_iff.mp e
    subst e2
    cases r with
    | cons r t =>
      cases t
      obtain ⟨p, us, rfl, h, rr⟩ := asL_rel s r e1
      exact .of call_tuple_of ⟨p, us, rfl, .inl ⟨.inl (.inl h), fun l hl => q.newT s rr hl⟩⟩
  · cases e
    cases r with
    | cons r t =>
      cases t
      obtain ⟨p, us, rfl, h, rr⟩ := r.tupT
      exact .of call_list_of ⟨p, us, rfl, .inr h, fun l hl => q.newL s rr hl⟩
  · obtain ⟨xs, e1, e2⟩ := Option.map_eq_some_iff.mp e
    subst e2
    cases r with
    | cons r t =>
      cases t
      obtain ⟨p, us, rfl, h, rr⟩ := asL_rel s r e1
      exact .of call_list_of ⟨p, us, rfl, .inl (.inl (.inl h)), fun l hl => q.newL s rr hl⟩
  · cases e
    cases r with | cons r t => cases t; cases r; exact .of call_int1 (.inl ⟨_, rfl, q.now s (.int _)⟩)
  · cases e
    cases r with | cons r t => cases t; cases r; exact .of call_int1 (.inr ⟨_, rfl, q.now s (.int _)⟩)
  · split at e
    · rename_i h
      obtain ⟨n, e1, e2⟩ := Option.map_eq_some_iff.mp e
      subst e2
      cases r with | cons r t => cases t; cases r; exact .of call_int_str ⟨_, _, rfl, e1, h, q.now s (.int _)⟩
    · cases e
  · split at e
    · rename_i h
      cases e
      cases r with | cons r t => cases t; cases r; exact .of call_str_int ⟨_, rfl, h, q.now s (.str _)⟩
    · cases e
  · cases e
    cases r with | cons r t => cases t; cases r; exact .of call_bool1 (.inr ⟨_, rfl, q.now s (.bl _)⟩)
  · obtain ⟨d, e1, e2⟩ := Option.map_eq_some_iff.mp e
    subst e2
    cases r with
    | cons r t =>
      cases t with
      | cons r2 t =>
        cases t
        cases r2
        obtain ⟨t, h1, h2⟩ := isi_of e1 r
        exact .of call_isi ⟨_, _, _, _, _, rfl, .ty _, h1, kit_ty h2, q.now s (.bl _)⟩
  · cases e
end

end Mi

end

section
set_option linter.all false
set_option maxRecDepth 100000
set_option maxHeartbeats 1000000
/-! Mi, part Z: zip and enumerate over lists and tuples, in any mix. -/
namespace Mi
open PySem PySem.Spec PyProof.Rows L2

/-- t: a tuple; otherwise a list -/
def ItAt (t : Bool) (h : Heap) (it l : Addr) (k : Nat) : Prop := match t with
  | false => h.IsListIter it l k
  | true => h.IsTupleIter it l k
def ObAt (t : Bool) (h : Heap) (l : Addr) (xs : Array Value) : Prop := match t with
  | false => h.IsList l xs
  | true => h.IsTuple l xs
def itO (t : Bool) (l : Addr) : Obj := match t with
  | false => { cls := .type "list_iterator", data := .fields #[.ref l, .int 0 0] }
  | true => { cls := .type "tuple_iterator", data := .fields #[.ref l, .int 0 0] }
theorem ItAt.at_ {t : Bool} {h h' : Heap} {it l : Addr} {k : Nat} (x : ItAt t h it l k) (e : ∀ o, h.get? it = some o → h'.get? it = some o) : ItAt t h' it l k := by
  cases t with
  | false => exact Heap.IsListIter.at x e
  | true => exact Heap.IsTupleIter.at x e
theorem ItAt.obj {t : Bool} {h : Heap} {it l : Addr} {k : Nat} (x : ItAt t h it l k) : ∃ o, h.get? it = some o ∧ ∀ v, o.data ≠ .cell v := by
  cases t with
  | false => obtain ⟨o, e, _, d⟩ := x; exact ⟨o, e, fun v z => by rw [d] at z; cases z⟩
  | true => obtain ⟨o, e, _, d⟩ := x; exact ⟨o, e, fun v z => by rw [d] at z; cases z⟩
theorem begins_K (t : Bool) (l : Addr) (xs : Array Value) : Begins (.ref l) (itO t l) (fun h => ObAt t h l xs) := by
  cases t with
  | false => exact begins_list l xs
  | true => exact begins_tuple l xs
theorem itAt_new (t : Bool) {h : Heap} {it l : Addr} (e : h.get? it = some (itO t l)) : ItAt t h it l 0 := by
  cases t with
  | false => exact ⟨_, e, rfl, rfl⟩
  | true => exact ⟨_, e, rfl, rfl⟩
theorem draws_K {prog : Program} {w : World} {A : Around} (t : Bool) (hh : A.handled = none) (it l : Addr) (hne : l ≠ it) (xs : Array Value) :
    Draws prog w A it [it, l] xs.size (fun i v => xs[i]? = some v) (fun i h => ItAt t h it l i ∧ ObAt t h l xs) := by
  cases t with
  | false => exact Draws.list hh it l hne xs
  | true => exact Draws.tuple hh it l hne xs
/-- what is read at a -/
def SqB (t : Bool) (K : PySem.W.Frag) (H : Hp) (a : Addr) (xs : List V) : Prop := match t with
  | false => SqL K H a xs
  | true => SqT K H a xs
theorem sqB_get {X : Cx} {pins : List (Addr × Obj)} {σ : L2.St} {H : Hp} {s : Shared} {a : Addr} {xs : List V} {t : Bool} (I : Inv X pins σ H s) (h : SqB t X.K H a xs) : ∃ its : List Value, Vals xs its ∧ ObAt t s.heap a its.toArray := by
  cases t with
  | false => obtain ⟨its, r, p, _⟩ := I.list h; exact ⟨its, r, p.isList⟩
  | true => obtain ⟨its, r, p, _⟩ := I.tuple h; exact ⟨its, r, p⟩
theorem sqB_inj {X : Cx} {pins : List (Addr × Obj)} {σ : L2.St} {H : Hp} {s : Shared} {a : Addr} {xs ys : List V} {t : Bool} (I : Inv X pins σ H s) (h : SqB t X.K H a xs) (h' : SqB t X.K H a ys) : xs = ys := by
  cases t with
  | false => exact I.list_inj h h'
  | true => exact I.tuple_inj h h'
theorem obAt_lt {t : Bool} {h : Heap} {l : Addr} {xs : Array Value} (x : ObAt t h l xs) : l < h.objs.size := by
  cases t with
  | false => obtain ⟨o, e, _⟩ := x; exact Heap.lt_size e
  | true => obtain ⟨o, e, _⟩ := x; exact Heap.lt_size e

/-! ### zip -/
/-- two things walked side by side, the items in new pairs -/
def ItzG (t u : Bool) (K : PySem.W.Frag) (a b : Addr) : It :=
  ⟨fun i H => ∃ xs ys x y, SqB t K H a xs ∧ SqB u K H b ys ∧ xs[i]? = some x ∧ ys[i]? = some y,
   fun i H v H' => ∃ T x y, v = .ref T ∧ H T = none ∧ H' = upd H T (.tup [x, y]) ∧ (∀ xs, SqB t K H a xs → xs[i]? = some x) ∧ ∀ ys, SqB u K H b ys → ys[i]? = some y,
   fun i H => ∃ xs ys, SqB t K H a xs ∧ SqB u K H b ys ∧ i = min xs.length ys.length⟩
section
variable {P : Program} {w : World} {K : PySem.W.Frag} {elts : List Expr} {kk : Nat} {tpos : Pos}
theorem pair_new {X : Cx} {H : Hp} {h : Heap} {T : Addr} {x y : V} {v u : Value} (rv : RelV x v) (ru : RelV y u) (hT : h.IsTuple T #[v, u]) : ObjOk X.prog X.w (upd H T (.tup [x, y])) h T (.tup [x, y]) :=
  ⟨by show 2 ≤ sizeLine; decide, [v, u], .cons rv (.cons ru .nil), hT⟩
/-- the places: the two walked things' iterators, zip's own cells -/
structure ZipPl (z TI TO i1 i2 a b : Addr) : Prop where
  S : ZipSep2 z TI TO i1 i2 [i1, a] [i2, b]
  n1 : a ≠ i1
  n2 : b ≠ i2
theorem turn_zipG {t u : Bool} {a b z TI TO i1 i2 : Addr} (D : ZipPl z TI TO i1 i2 a b) :
    Turn P w K (.Tuple elts kk tpos) (ItzG t u K a b) [z, TI, TO, i1, i2] z
      (fun i h => IsZip h z TI TO .none ∧ IsTupOf2 h TI (.ref i1) (.ref i2) ∧ (∃ a1 a2, IsTupOf2 h TO a1 a2) ∧ ItAt t h i1 a i ∧ ItAt u h i2 b i) where
  mem := by simp
  obj := fun i h st c hc => by
    obtain ⟨hz, h1, ⟨_, _, h2⟩, h3, h4⟩ := st
    have e' : c = z ∨ c = TI ∨ c = TO ∨ c = i1 ∨ c = i2 := by simpa using hc
    rcases e' with rfl | rfl | rfl | rfl | rfl
    · exact ⟨_, hz, fun v q => nomatch q⟩
    · exact ⟨_, h1, fun v q => nomatch q⟩
    · exact ⟨_, h2, fun v q => nomatch q⟩
    · exact h3.obj
    · exact h4.obj
  keep := fun i h h' st k => by
    obtain ⟨hz, h1, ⟨x, y, h2⟩, h3, h4⟩ := st
    exact ⟨k z (by simp) _ hz, k TI (by simp) _ h1, ⟨x, y, k TO (by simp) _ h2⟩, h3.at_ fun o q => k i1 (by simp) o q, h4.at_ fun o q => k i2 (by simp) o q⟩
  item := by
    intro X hP hw hK hc i pins s σ H E I hf st hg
    subst hP hw hK
    obtain ⟨hz, h1, h2, h3, h4⟩ := st
    obtain ⟨xs, ys, x, y, hqx, hqy, hx, hy⟩ := hg
    obtain ⟨its, rv, p⟩ := sqB_get I hqx
    obtain ⟨jts, ru, q⟩ := sqB_get I hqy
    have W := WalksT.zipD2 (prog := X.prog) (w := X.w) (A := X.A) D.S (draws_K (A := X.A.in1) t (I.ok.hd hc) i1 a D.n1 its.toArray) (draws_K (A := X.A.in1) u (I.ok.hd hc) i2 b D.n2 jts.toArray)
    have lx : i < xs.length := (List.getElem?_eq_some_iff.mp hx).1
    have ly : i < ys.length := (List.getElem?_eq_some_iff.mp hy).1
    have l1 := rv.length
    have l2 := ru.length
    refine W.item i s _ _ (by simp only [List.size_toArray]; omega) ⟨hz, h1, h2, ⟨h3, p⟩, ⟨h4, q⟩⟩ fun T vals h' tk hPt hT hTt hMid hk => ?_
    obtain ⟨v1, v2, e1, e2, rfl⟩ := hPt
    refine ⟨_, rfl, W.go elts kk tpos i T { s with heap := h', toks := tk } _ _ hMid fun h'' st'' hk2 => ?_⟩
    have nT := W.apart _ _ _ hMid
    obtain ⟨v, hv, rx⟩ := rv.get hx
    obtain ⟨v', hv', ry⟩ := ru.get hy
    have ex : v = v1 := Option.some.inj (hv.symm.trans (by simpa using e1))
    have ey : v' = v2 := Option.some.inj (hv'.symm.trans (by simpa using e2))
    subst ex ey
    have hT2 : h''.IsTuple T #[v, v'] := Heap.IsTuple.at hTt fun o e => hk2 T o nT e
    have wr : ∀ c, c ∈ [z, TO, i1, i2] → c ∈ [z, TI, TO, i1, i2] := fun c hc' => by
      have e' : c = z ∨ c = TO ∨ c = i1 ∨ c = i2 := by simpa using hc'
      rcases e' with rfl | rfl | rfl | rfl <;> simp
    have I1 : Inv X pins σ (upd H T (.tup [x, y])) { s with heap := h'', toks := tk } :=
      I.turnedNew (ch := [z, TI, TO, i1, i2]) (fun c o hb e => hk2 c o (fun z' => hb (wr c z')) (hk c o (fun z' => hb (wr c z')) e)) hf hT (pair_new rx ry hT2)
    obtain ⟨g1, g2, g3, g4, g5⟩ := st''
    refine ⟨.ref T, _, I1, rfl, ⟨T, x, y, rfl, I.hok.fresh hT, rfl, fun l hl => by rw [sqB_inj I hl hqx]; exact hx, fun l hl => by rw [sqB_inj I hl hqy]; exact hy⟩, ⟨g1, g2, g3, g4.1, g5.1⟩, fun c hc' => ?_⟩
    have hlt : c < s.heap.objs.size := by
      have e' : c = z ∨ c = TI ∨ c = TO ∨ c = i1 ∨ c = i2 := by simpa using hc'
      obtain ⟨_, _, h2⟩ := h2
      rcases e' with rfl | rfl | rfl | rfl | rfl
      · exact Heap.lt_size hz
      · exact Heap.lt_size h1
      · exact Heap.lt_size h2
      · obtain ⟨_, e, _⟩ := h3.obj; exact Heap.lt_size e
      · obtain ⟨_, e, _⟩ := h4.obj; exact Heap.lt_size e
    rw [upd_ne (Nat.ne_of_lt (Nat.lt_of_lt_of_le hlt hT))]
    exact (hf c hc').1
  done := by
    intro X hP hw hK hc i pins s σ H E I hf st hg
    subst hP hw hK
    obtain ⟨hz, h1, h2, h3, h4⟩ := st
    obtain ⟨xs, ys, hqx, hqy, hend⟩ := hg
    obtain ⟨its, rv, p⟩ := sqB_get I hqx
    obtain ⟨jts, ru, q⟩ := sqB_get I hqy
    have W := WalksT.zipD2 (prog := X.prog) (w := X.w) (A := X.A) D.S (draws_K (A := X.A.in1) t (I.ok.hd hc) i1 a D.n1 its.toArray) (draws_K (A := X.A.in1) u (I.ok.hd hc) i2 b D.n2 jts.toArray)
    have l1 := rv.length
    have l2 := ru.length
    have e : i = min its.toArray.size jts.toArray.size := by simp only [List.size_toArray]; omega
    subst e
    refine W.done s _ _ ⟨hz, h1, h2, ⟨h3, p⟩, ⟨h4, q⟩⟩ fun h' tk hk => ⟨rfl, I.turnedL (ch := [z, TI, TO, i1, i2]) (fun c o hb e => hk c o (fun z' => hb ?_) e) hf⟩
    have e' : c = z ∨ c = TO ∨ c = i1 ∨ c = i2 := by simpa using z'
    rcases e' with rfl | rfl | rfl | rfl <;> simp
  self := fun A i s Q E st h => wpAny_pyIter_zip st.1 h
theorem zip_pl {N : Nat} {a b : Addr} (ha : a < N) (hb : b < N) : ZipPl (N + 4) (N + 2) (N + 3) N (N + 1) a b :=
  ⟨zip_sep2 (fp1 := [a]) (fp2 := [b]) (fun c hc => by rw [List.mem_singleton.mp hc]; exact ha) (fun c hc => by rw [List.mem_singleton.mp hc]; exact hb), Nat.ne_of_lt ha, Nat.ne_of_lt (Nat.lt_succ_of_lt hb)⟩
def iZipG (K : PySem.W.Frag) (ta : TA) : TI := fun σ H R => ta σ H fun vs H1 => ∃ a b t u xs ys, vs = [.ref a, .ref b] ∧ SqB t K H1 a xs ∧ SqB u K H1 b ys ∧ R (ItzG t u K a b) H1
theorem pi_zipG {X : Cx} {e e2 : Expr} {ta : TA} {p pos tpos : Pos} {elts : List Expr} {kk : Nat} (hg : Gl X "zip") (hm : X.mg "zip" = none) (ha : PA X [e, e2] ta)
    (hs : starEach [e, e2] X.env = (false, eval e X.env) :: starEach [e2] X.env) (hpl : (backTo pos (starEach [e2] X.env)).any (·.1) = false) :
    PI X (.Tuple elts kk tpos) (.Call (.Name "zip" p) [e, e2] [] pos) (iZipG X.K ta) := by
  refine ⟨fun pins s σ H R I h => ?_⟩
  refine Call_ (ld_blt I hg hm PyProof.Rows.boot_zip (PyProof.Rows.callWith_type1 (thn (ha.run pos pins s σ H _ I h) fun us s1 hh => ?_) hs hpl))
  obtain ⟨vs, H1, I1, r1, a, b, t, u, xs, ys, ex, hqx, hqy, q⟩ := hh
  subst ex
  obtain ⟨u1, u2, rfl, ra, rb⟩ := vals2 r1
  cases ra
  cases rb
  obtain ⟨its, rv, p1⟩ := sqB_get I1 hqx
  obtain ⟨jts, ru, p2⟩ := sqB_get I1 hqy
  refine zip_begins2 (begins_K t a its.toArray) (begins_K u b jts.toArray) p1 p2 fun h' hz hTI hTO h1 h2 hsz hk => wpAny_pyIter_zip hz ?_
  have I2 : Inv X pins σ H1 { s1 with heap := h' } := I1.kept (t' := s1.toks) hk
  refine ⟨s1.heap.objs.size + 4, [s1.heap.objs.size + 4, s1.heap.objs.size + 2, s1.heap.objs.size + 3, s1.heap.objs.size, s1.heap.objs.size + 1], _, _, H1, rfl, I2, turn_zipG (zip_pl (obAt_lt p1) (obAt_lt p2)),
    ⟨hz, hTI, ⟨_, _, hTO⟩, itAt_new t h1, itAt_new u h2⟩, fun c hc => ?_, q⟩
  have e' : c = s1.heap.objs.size + 4 ∨ c = s1.heap.objs.size + 2 ∨ c = s1.heap.objs.size + 3 ∨ c = s1.heap.objs.size ∨ c = s1.heap.objs.size + 1 := by simpa using hc
  have hle : s1.heap.objs.size ≤ c := by
    rcases e' with z | z | z | z | z <;> rw [z] <;> first | exact Nat.le_add_right _ _ | exact Nat.le_refl _
  exact I1.fpOk hle (I1.hok.fresh hle)

/-! ### enumerate -/
def IteG (t : Bool) (K : PySem.W.Frag) (a : Addr) : It :=
  ⟨fun i H => ∃ xs x, SqB t K H a xs ∧ xs[i]? = some x,
   fun i H v H' => ∃ T x, v = .ref T ∧ H T = none ∧ H' = upd H T (.tup [.int (i : Nat), x]) ∧ ∀ xs, SqB t K H a xs → xs[i]? = some x,
   fun i H => ∃ xs, SqB t K H a xs ∧ i = xs.length⟩
theorem turn_enumG {t : Bool} {a e it : Addr} (hne : e ≠ it) (hea : e ≠ a) (hai : a ≠ it) :
    Turn P w K (.Tuple elts kk tpos) (IteG t K a) [e, it] e (fun i h => (∃ old, IsEnum h e it ((0 : Int) + ((i : Nat) : Int)) old) ∧ ItAt t h it a i) where
  mem := by simp
  obj := fun i h st c hc => by
    obtain ⟨⟨_, h1⟩, h2⟩ := st
    have e' : c = e ∨ c = it := by simpa using hc
    rcases e' with rfl | rfl
    · exact ⟨_, h1, fun v q => nomatch q⟩
    · exact h2.obj
  keep := fun i h h' st k => by
    obtain ⟨⟨old, h1⟩, h2⟩ := st
    exact ⟨⟨old, k e (by simp) _ h1⟩, h2.at_ fun o q => k it (by simp) o q⟩
  item := by
    intro X hP hw hK hc i pins s σ H E I hf st hg
    subst hP hw hK
    obtain ⟨h1, h2⟩ := st
    obtain ⟨xs, x, hqx, hx⟩ := hg
    obtain ⟨its, rv, p⟩ := sqB_get I hqx
    have W := WalksT.enumFrom (prog := X.prog) (w := X.w) (A := X.A) 0 (draws_K (A := X.A.in1) t (I.ok.hd hc) it a hai its.toArray) e hne (fun z => by rcases List.mem_cons.mp z with z | z; exact hne z; exact hea (List.mem_singleton.mp z)) List.mem_cons_self
    have lx : i < xs.length := (List.getElem?_eq_some_iff.mp hx).1
    have l1 := rv.length
    refine W.item i s _ _ (by simp only [List.size_toArray]; omega) ⟨h1, ⟨h2, p⟩⟩ fun T vals h' tk hPt hT hTt hMid hk => ?_
    obtain ⟨tt, v1, e1, rfl⟩ := hPt
    refine ⟨_, rfl, W.go elts kk tpos i T { s with heap := h', toks := tk } _ _ hMid fun h'' st'' hk2 => ?_⟩
    have nT := W.apart _ _ _ hMid
    obtain ⟨v, hv, rx⟩ := rv.get hx
    have ex : v = v1 := Option.some.inj (hv.symm.trans (by simpa using e1))
    subst ex
    have hT2 : h''.IsTuple T #[.int ((0 : Int) + (i : Int)) tt, v] := Heap.IsTuple.at hTt fun o e => hk2 T o nT e
    have I1 : Inv X pins σ (upd H T (.tup [.int (i : Nat), x])) { s with heap := h'', toks := tk } :=
      I.turnedNew (ch := [e, it]) (fun c o hb q => hk2 c o hb (hk c o hb q)) hf hT (pair_new (x := .int (i : Nat)) ⟨tt, by rw [Int.zero_add]⟩ rx hT2)
    obtain ⟨g1, g2⟩ := st''
    refine ⟨.ref T, _, I1, rfl, ⟨T, x, rfl, I.hok.fresh hT, rfl, fun l hl => by rw [sqB_inj I hl hqx]; exact hx⟩, ⟨g1, g2.1⟩, fun c hc' => ?_⟩
    have hlt : c < s.heap.objs.size := by
      have e' : c = e ∨ c = it := by simpa using hc'
      obtain ⟨_, h1⟩ := h1
      rcases e' with rfl | rfl
      · exact Heap.lt_size h1
      · obtain ⟨_, e, _⟩ := h2.obj; exact Heap.lt_size e
    rw [upd_ne (Nat.ne_of_lt (Nat.lt_of_lt_of_le hlt hT))]
    exact (hf c hc').1
  done := by
    intro X hP hw hK hc i pins s σ H E I hf st hg
    subst hP hw hK
    obtain ⟨h1, h2⟩ := st
    obtain ⟨xs, hqx, hend⟩ := hg
    obtain ⟨its, rv, p⟩ := sqB_get I hqx
    have W := WalksT.enumFrom (prog := X.prog) (w := X.w) (A := X.A) 0 (draws_K (A := X.A.in1) t (I.ok.hd hc) it a hai its.toArray) e hne (fun z => by rcases List.mem_cons.mp z with z | z; exact hne z; exact hea (List.mem_singleton.mp z)) List.mem_cons_self
    have l1 := rv.length
    have e0 : i = its.toArray.size := by simp only [List.size_toArray]; omega
    subst e0
    exact W.done s _ _ ⟨h1, ⟨h2, p⟩⟩ fun h' tk hk => ⟨rfl, I.turnedL (ch := [e, it]) (fun c o hb q => hk c o hb q) hf⟩
  self := fun A i s Q E st h => let ⟨⟨_, h1⟩, _⟩ := st; wpAny_pyIter_enum h1 h
/-- enumerate(v) of one argument begins -/
theorem meets_enum1 {v : Value} {o : Obj} {Hh : Heap → Prop} (B : Begins v o Hh) (hv : ∃ l, v = .ref l) :
    Meets (Builtin.«enumerate.__new__» ⟨[.type "enumerate", v], []⟩) (fun _ R s => Hh s.heap ∧
      R (.ok (.ret (.ref (s.heap.push o).objs.size))) { s with heap := (s.heap.push o).push { cls := .type "enumerate", data := .fields #[.none, .bool false, .ref s.heap.objs.size, rawInt 0, .none, .none] } }) :=
  .of_wp fun prog w A R s h => by
    obtain ⟨l, rfl⟩ := hv
    obtain ⟨hp, g, d, tk, os⟩ := s
    obtain ⟨h1, h⟩ := h
    have hsub := sub_enumerate
    have q1 : ∀ {A' : Around} {E : Value → Shared → Prop} {Q : Value → Shared → Prop}, Q (.ref hp.objs.size) ⟨hp.push o, g, d, tk, os⟩ → wpAny (model prog w) A' (pyIter (.ref l)) Q E ⟨hp, g, d, tk, os⟩ :=
      fun q => B.iter prog w _ _ ⟨hp, g, d, tk, os⟩ _ h1 q
    wp_walk using q1
    refine wpAny_stack_any fun st => wpAny_pure ?_
    split
    · rename_i c _ _ _ _ _
      cases (c == Value.type "enumerate")
      · wp_walk using q1
        exact ⟨_, rfl, h⟩
      · wp_walk using q1
        exact ⟨_, rfl, h⟩
    · wp_walk using q1
      exact ⟨_, rfl, h⟩
theorem call_enum1 {prog : Program} {w : World} {A : Around} {E : Value → Shared → Prop} {s : Shared} {l : Addr} {o : Obj} {Hh : Heap → Prop} {Q : Value → Shared → Prop} (B : Begins (.ref l) o Hh) (h1 : Hh s.heap)
    (h : ∀ h', IsEnum h' (s.heap.objs.size + 1) s.heap.objs.size 0 .none → h'.get? s.heap.objs.size = some o → (∀ b ob, s.heap.get? b = some ob → h'.get? b = some ob) → Q (.ref (s.heap.objs.size + 1)) { s with heap := h' }) :
    wpAny (model prog w) A (PySem.call (.type "enumerate") [.ref l]) Q E s := by
  refine callType_new F.called_enumerate (by decide) (F.typeCall_enumerate_1 _) (F.newCall_enumerate_1 _) (fun obj => F.args_object_init_2 obj _) F.entry_enumerate_new (meets_enum1 B ⟨l, rfl⟩) ⟨h1, ?_⟩
  have hz : (s.heap.push o).objs.size = s.heap.objs.size + 1 := Heap.size_push ..
  show _ ∧ _
  rw [hz]
  have g := Heap.get?_push_size (s.heap.push o) (o := { cls := .type "enumerate", data := .fields #[.none, .bool false, .ref s.heap.objs.size, rawInt 0, .none, .none] }) rfl
  rw [hz] at g
  exact ⟨⟨_, g, rfl⟩, h _ g (Heap.get?_push_of_some _ (Heap.get?_push_size _ B.free)) fun b ob x => Heap.get?_push_of_some _ (Heap.get?_push_of_some _ x)⟩
def iEnumG (K : PySem.W.Frag) (ta : TA) : TI := fun σ H R => ta σ H fun vs H1 => ∃ a t xs, vs = [.ref a] ∧ SqB t K H1 a xs ∧ R (IteG t K a) H1
theorem pi_enumG {X : Cx} {e : Expr} {ta : TA} {p pos tpos : Pos} {elts : List Expr} {kk : Nat} (hg : Gl X "enumerate") (hm : X.mg "enumerate" = none) (ha : PA X [e] ta)
    (hs : starEach [e] X.env = [(false, eval e X.env)]) : PI X (.Tuple elts kk tpos) (.Call (.Name "enumerate" p) [e] [] pos) (iEnumG X.K ta) := by
  refine ⟨fun pins s σ H R I h => ?_⟩
  refine Call_ (ld_blt I hg hm boot_enumerate (PyProof.Rows.callWith_type1 (thn (ha.run pos pins s σ H _ I h) fun us s1 hh => ?_) hs rfl))
  obtain ⟨vs, H1, I1, r1, a, t, xs, ex, hqx, q⟩ := hh
  subst ex
  obtain ⟨u1, rfl, ra⟩ := vals1 r1
  cases ra
  obtain ⟨its, rv, p1⟩ := sqB_get I1 hqx
  refine call_enum1 (begins_K t a its.toArray) p1 fun h' hz h1 hk => wpAny_pyIter_enum hz ?_
  have I2 : Inv X pins σ H1 { s1 with heap := h' } := I1.kept (t' := s1.toks) hk
  have hlt := obAt_lt p1
  refine ⟨s1.heap.objs.size + 1, [s1.heap.objs.size + 1, s1.heap.objs.size], _, _, H1, rfl, I2, turn_enumG (t := t) (a := a) (e := s1.heap.objs.size + 1) (it := s1.heap.objs.size) (Nat.succ_ne_self _) (Nat.ne_of_gt (Nat.lt_succ_of_lt hlt)) (Nat.ne_of_lt hlt),
    ⟨⟨_, hz⟩, itAt_new t h1⟩, fun c hc => ?_, q⟩
  have e' : c = s1.heap.objs.size + 1 ∨ c = s1.heap.objs.size := by simpa using hc
  have hle : s1.heap.objs.size ≤ c := by
    rcases e' with z | z <;> rw [z] <;> first | exact Nat.le_add_right _ _ | exact Nat.le_refl _
  exact I1.fpOk hle (I1.hok.fresh hle)
end
end Mi

end

section
set_option linter.all false
set_option maxRecDepth 100000
/-! Mi, part E: the check of a text against the language; contexts; results. -/
namespace Mi
open PySem PySem.Spec PyProof.Rows L2

/-! ### the check -/
/-- what a class has under a name -/
inductive OwK where
  | meth | prop | init | cm | gen
  deriving DecidableEq
structure Info where
  N : List Str
  nm : Nm
  F : Nat → Bool
  C : Nat → Bool
  /-- defs that may be handed a lambda -/
  L : Nat → Bool
  /-- may make lambdas; the slot of what was handed -/
  lam : Bool
  clo : Option Nat
  /-- within no block of its own -/
  tp : Bool
  /-- the class c has the name, kept by the def f; the name is a plain field's; it is asked by isinstance -/
  O : OwK → Nat → Str → Nat → Bool
  A : Nat → Str → Bool
  S : Nat → Bool
  mn : Nat → Str
/-- within a block -/
def Info.b (I : Info) : Info := { I with tp := false }
/-- as the check reads it -/
def Info.st (I : Info) : Info := { I with nm := ⟨I.nm.f, [], none⟩ }
def visB (sc : Scope) (x : Str) : Bool := match sc.names.lookup x with
  | some .local => true
  | some .cell => true
  | some .free => true
  | _ => false
/-- within a def: every cell is its own -/
def allS : Str → Bool := fun _ => true
/-- a block's own cells -/
def ownC (scope : Scope) : Str → Bool := fun x => scope.names.lookup x == some .cell
def locB (top : Str → Bool) (sc : Scope) (x : Str) : Bool := match sc.names.lookup x with
  | some .local => true
  | some .cell => top x
  | _ => false
def glB (sc : Scope) (x : Str) : Bool := match sc.names.lookup x with
  | some .globalImplicit => true
  | _ => false
def nodbg (x : Str) : Bool := !(x == ("__debug__" : Str))
def nameOk (I : Info) (sc : Scope) (i : Nat) (x : Str) : Bool := decide (I.N[i]? = some x) && (visB sc x && (nodbg x && !(x == ("__classdict__" : Str))))
def gOk (I : Info) (sc : Scope) (g : Nat) (x : Str) : Bool := decide (I.nm g = x) && (glB sc x && nodbg x)
def Bi.name : Bi → Str
  | .len => "len" | .abs => "abs" | .min2 => "min" | .max2 => "max" | .sum => "sum" | .all => "all" | .any => "any"
  | .tuple => "tuple" | .list => "list" | .int => "int" | .bool => "bool" | .str => "str" | .isi => "isinstance"
def tyNames : List (String × Str) := [("int", "int"), ("bool", "bool"), ("str", "str"), ("tuple", "tuple"), ("list", "list")]
/-- the builtin names that are used -/
def bnames : List Str := ["len", "abs", "min", "max", "sum", "all", "any", "tuple", "list", "int", "bool", "str", "isinstance", "range", "zip", "enumerate", "dict"]
def btyB (n : String) (x : Str) : Bool := tyNames.any fun p => decide (p.1 = n) && decide (p.2 = x)
mutual
def chkTg (I : Info) (top : Str → Bool) (sc : Scope) : Tg → Expr → Bool
  | .nm i, .Name x _ => decide (I.N[i]? = some x) && locB top sc x
  | .nil, .Tuple es _ _ => es.isEmpty
  | .cons t ts, .Tuple es _ _ => chkTgs I top sc (.cons t ts) es
  | _, _ => false
def chkTgs (I : Info) (top : Str → Bool) (sc : Scope) : Tg → List Expr → Bool
  | .nil, [] => true
  | .cons t ts, e :: es => chkTg I top sc t e && chkTgs I top sc ts es
  | _, _ => false
end
def freshE : Ex → Bool
  | .lst _ => true
  | .comp .. => true
  | .lrg .. => true
  | .lrd .. => true
  | .bi .list _ => true
  | .bin .Mult _ _ => true
  | _ => false
/-- a lambda's text: its parameters, its names -/
def plainArgs : Arguments → Option (List Str)
  | ⟨[], [], none, [], [], none, []⟩ => some []
  | ⟨[], [a], none, [], [], none, []⟩ => some [a.arg]
  | _ => none
def lamOk (I : Info) (caps : List Nat) (ps : List Str) (sc scope : Scope) : Bool :=
  decide (scope.kind = .function) && (!scope.isCoroutine && (!scope.isGenerator && (scope.names.all (fun y => !decide (y.2 = .cell) && ((!decide (y.2 = .local) || ps.contains y.1) && (!decide (y.2 = .free) || ((caps.map fun i => I.N.getD i "").contains y.1 && (decide (sc.names.lookup y.1 = some .cell) || decide (sc.names.lookup y.1 = some .free)))))) &&
    ((ps.all fun x => decide (scope.names.lookup x = some .local)) && ((caps.all fun i => decide (i < I.N.length) && decide (scope.names.lookup (I.N.getD i "") = some .free)) && decide (ps ++ caps.map fun i => I.N.getD i "").Nodup)))))
/-- the last argument is a lambda -/
def lamIs : List Expr → Option (List Expr × Arguments × Expr × Scope)
  | [] => none
  | [.Lambda params body scope _] => some ([], params, body, scope)
  | x :: xs => (lamIs xs).map fun r => (x :: r.1, r.2)
/-- a star at the end -/
def starB (f : List Expr → Expr → Bool) : List Expr → Bool
  | [] => false
  | [.Starred e _] => f [] e
  | x :: xs => starB (fun es e => f (x :: es) e) xs
def ownOf (I : Info) (ow : List Nat) : List (Str × Nat) := ow.map fun i => (I.N.getD i "", i)
/-- a call of two or three arguments as the only one -/
def rgB : List Expr → List Keyword → Option (Str × Expr × Expr × Option Expr)
  | [.Call (.Name r _) [y, z] [] _], [] => some (r, y, z, none)
  | [.Call (.Name r _) [y, z, m] [] _], [] => some (r, y, z, some m)
  | _, _ => none
def m1B : Expr → Bool
  | .UnaryOp .USub (.Constant (.int k) _ _) _ => decide (k = 1)
  | _ => false
/-- what may stand before a dot -/
def abase : Expr → Bool
  | .Name .. => true
  | .Attribute .. => true
  | .Constant .. => true
  | .UnaryOp .. => true
  | .BinOp .. => true
  | .Subscript .. => true
  | _ => false
theorem abase_ok {o : Expr} {n : Str} {env : Env} (h : abase o = true) : attributeBase o n env (eval o env) = eval o env := by
  cases o <;> first | rfl | cases h
/-- an expression that no word of the language is for -/
def oddE : Expr → Bool
  | .Starred .. => true
  | .Slice .. => true
  | .Set .. => true
  | .SetComp .. => true
  | .DictComp .. => true
  | _ => false
mutual
def chkE (I : Info) : Ex → Scope → Expr → Bool
  | .var i, sc, .Name x _ => nameOk I sc i x
  | .non, _, .Constant .none _ _ => true
  | .bl b, _, .Constant (.bool c) _ _ => b == c
  | .int i, _, .Constant (.int j) _ _ => i == j
  | .str s, _, .Constant (.str t) _ _ => decide (s = t)
  | .gl g, sc, .Name x _ => gOk I sc g x
  | .bty n, sc, .Name x _ => btyB n x && (glB sc x && nodbg x)
  | .bin o a b, sc, .BinOp l o' r _ => decide (o = o') && (chkE I a sc l && chkE I b sc r)
  | .neg a, sc, .UnaryOp .USub x _ => chkE I a sc x
  | .not a, sc, .UnaryOp .Not x _ => chkE I a sc x
  | .and a b, sc, .BoolOp .And (x :: y :: []) _ => chkE I a sc x && chkE I b sc y
  | .and a b, sc, .BoolOp .And (x :: y :: z :: r) p => chkE I a sc x && chkE I b sc (.BoolOp .And (y :: z :: r) p)
  | .or a b, sc, .BoolOp .Or (x :: y :: []) _ => chkE I a sc x && chkE I b sc y
  | .or a b, sc, .BoolOp .Or (x :: y :: z :: r) p => chkE I a sc x && chkE I b sc (.BoolOp .Or (y :: z :: r) p)
  | .cmp o a b, sc, .Compare l (o' :: []) (r :: []) _ => decide (o = o') && (chkE I a sc l && chkE I b sc r)
  | .chn o1 o2 a b c, sc, .Compare l (p1 :: p2 :: []) (m :: r :: []) _ => decide (o1 = p1) && (decide (o2 = p2) && (chkE I a sc l && (chkE I b sc m && chkE I c sc r)))
  | .ite c a b, sc, .IfExp t x y _ => chkE I c sc t && (chkE I a sc x && chkE I b sc y)
  | .tup as, sc, .Tuple es _ _ => decide (es.length ≤ 1000) && chkA I as sc es
  | .lst as, sc, .List es _ => decide (es.length ≤ 1000) && chkA I as sc es
  | .cell e, sc, x => freshE e && chkE I e sc x
  | .call m f as, sc, .Call (.Name x _) (y :: ys) [] _ => (I.clo.isNone || m.isPure) && (I.F f && (gOk I sc f x && chkA I as sc (y :: ys)))
  | .call m f as, sc, .Call (.Name x _) [] [] _ => (I.clo.isNone || m.isPure) && (I.F f && (gOk I sc f x && chkA I as sc []))
  | .callL f as np caps body, sc, .Call (.Name x _) es [] _ => I.clo.isNone && ((I.tp && I.lam) && (I.L f && (gOk I sc f x && (match lamIs es with
    | some (xs, params, lb, scope) => (match plainArgs params with
      | some ps => decide (ps.length = np) && (lamOk I caps ps sc scope && (chkA I as sc xs && chkE { I with N := ps ++ caps.map (fun i => I.N.getD i ""), tp := false, lam := false } body scope lb))
      | none => false)
    | none => false))))
  | .calv i as, sc, .Call (.Name x _) es [] _ => (I.tp && decide (I.clo = some i)) && (nameOk I sc i x && chkA I as sc es)
  | .calg m i as, sc, .Call (.Name x _) (y :: ys) [] _ => (I.clo.isNone || m.isPure) && (nameOk I sc i x && chkA I as sc (y :: ys))
  | .dict a, sc, .Call (.Name x _) (y :: []) [] _ => decide (x = ("dict" : Str)) && (glB sc x && chkE I a sc y)
  | .get d k z, sc, .Call (.Attribute (.Name x p) n apos) (y :: w :: []) [] cpos => decide (n = ("get" : Str)) && ((apos.endLine == cpos.line) && (chkE I d sc (.Name x p) && (chkE I k sc y && chkE I z sc w)))
  | .cnt o z, sc, .Call (.Attribute (.Name x p) n apos) (y :: []) [] cpos => decide (n = ("count" : Str)) && ((apos.endLine == cpos.line) && (chkE I o sc (.Name x p) && chkE I z sc y))
  | .pop o, sc, .Call (.Attribute (.Name x p) n apos) [] [] cpos => decide (n = ("pop" : Str)) && ((apos.endLine == cpos.line) && chkE I o sc (.Name x p))
  | .bi b as, sc, .Call (.Name x _) (y :: ys) [] _ => decide (b.name = x) && (glB sc x && chkA I as sc (y :: ys))
  | .idx a b, sc, .Subscript x y _ => chkE I a sc x && chkE I b sc y
  | .sli a lo hi, sc, .Subscript x (.Slice l h none _) _ => chkE I a sc x && ((match l with
    | none => lo.isOmit
    | some l => chkE I lo sc l) && (match h with
    | none => hi.isOmit
    | some h => chkE I hi sc h))
  | .comp tg ow it c e, sc, .ListComp elt (⟨t, iter, ifs, 0⟩ :: []) scope _ => blkC I.N sc scope (ownOf I ow) && (tg.slots.all (ow.contains ·) && (chkI I it sc t iter && (chkTg I (ownC scope) (relS scope sc) tg t && ((match ifs with
    | [] => c.isOmit
    | x :: [] => chkE I.b c (relS scope sc) x
    | _ => false) && chkE I.b e (relS scope sc) elt))))
  | .comp2 tg ow it tg2 it2 e, sc, .ListComp elt (⟨t, iter, [], 0⟩ :: ⟨t2, iter2, [], 0⟩ :: []) scope _ => blkC I.N sc scope (ownOf I ow) && (tg.slots.all (ow.contains ·) && (tg2.slots.all (ow.contains ·) && (chkI I it sc t iter && (chkTg I (ownC scope) (relS scope sc) tg t && (chkI I.b it2 (relS scope sc) t2 iter2 && (chkTg I (ownC scope) (relS scope sc) tg2 t2 && chkE I.b e (relS scope sc) elt))))))
  | .lrg a b, sc, .Call (.Name n _) es kw _ => decide (n = ("list" : Str)) && (glB sc n && (match rgB es kw with
    | some (r, y, z, none) => decide (r = ("range" : Str)) && (glB sc r && (chkE I a sc y && chkE I b sc z))
    | _ => false))
  | .lrd a b, sc, .Call (.Name n _) es kw _ => decide (n = ("list" : Str)) && (glB sc n && (match rgB es kw with
    | some (r, y, z, some m) => decide (r = ("range" : Str)) && (glB sc r && (m1B m && (chkE I a sc y && chkE I b sc z)))
    | _ => false))
  | .fld c n e, sc, .Attribute x m _ => decide (n = m) && (abase x && (I.A c n && chkE I e sc x))
  | .prop c f e, sc, .Attribute x m _ => abase x && (I.clo.isNone && (I.O .prop c m f && chkE I e sc x))
  | .meth c f e as, sc, .Call (.Attribute (.Name y p) m apos) es [] cpos => ((apos.endLine == cpos.line) && decide (es.length < 30)) && (I.clo.isNone && (I.O .meth c m f && (decide (I.mn f = m) && (chkE I e sc (.Name y p) && chkA I as sc es))))
  | .item c f a b, sc, .Subscript x y _ => I.clo.isNone && (I.O .meth c "__getitem__" f && (chkE I a sc x && chkE I b sc y))
  | .ostr c f e, sc, .Call (.Name x _) (y :: []) [] _ => I.clo.isNone && (decide (x = ("str" : Str)) && (glB sc x && (I.O .meth c "__str__" f && chkE I e sc y)))
  | .olen c f e, sc, .Call (.Name x _) (y :: []) [] _ => I.clo.isNone && (decide (x = ("len" : Str)) && (glB sc x && (I.O .meth c "__len__" f && chkE I e sc y)))
  | .obool c f e, sc, .Call (.Name x _) (y :: []) [] _ => I.clo.isNone && (decide (x = ("bool" : Str)) && (glB sc x && (I.O .meth c "__bool__" f && chkE I e sc y)))
  | .oinv c f e, sc, .UnaryOp .Invert x _ => I.clo.isNone && (I.O .meth c "__invert__" f && chkE I e sc x)
  | .ceq c f a b, sc, .Compare l (.Eq :: []) (r :: []) _ => I.clo.isNone && (I.O .meth c "__eq__" f && (chkE I a sc l && chkE I b sc r))
  | .isin neg c f a e, sc, .Compare l (o :: []) (r :: []) _ => decide (o = if neg then CmpOp.NotIn else .In) && (I.clo.isNone && (I.O .meth c "__contains__" f && (chkE I a sc l && chkE I e sc r)))
  | .mk c f as, sc, .Call (.Name x _) es [] _ => I.clo.isNone && (I.O .init c "__init__" f && (gOk I sc c x && chkA I as sc es))
  | .mks v c f as e, sc, .Call (.Name x _) (y :: ys) [] _ => I.clo.isNone && (I.O .init c "__init__" f && ((match v with
    | none => gOk I sc c x
    | some i => nameOk I sc i x) && starB (fun es z => !es.isEmpty && (chkA I as sc es && chkE I e sc z)) (y :: ys)))
  | .cm c f as, sc, .Call (.Attribute (.Name y _) m apos) (z :: zs) [] cpos => ((apos.endLine == cpos.line) && decide ((z :: zs).length < 30)) && (I.clo.isNone && (I.O .cm c m f && (gOk I sc c y && chkA I as sc (z :: zs))))
  | .isc c e, sc, .Call (.Name x _) (y :: .Name z _ :: []) [] _ => decide (x = ("isinstance" : Str)) && (glB sc x && (I.S c && (gOk I sc c z && chkE I e sc y)))
  | .join a b, sc, .Call (.Attribute x m apos) (y :: []) [] cpos => decide (m = ("join" : Str)) && ((apos.endLine == cpos.line) && (abase x && (chkE I a sc x && chkE I b sc y)))
  | .spl a b, sc, .Call (.Attribute x m apos) (y :: []) [] cpos => decide (m = ("split" : Str)) && ((apos.endLine == cpos.line) && (abase x && (chkE I a sc x && chkE I b sc y)))
  | .fmt e, sc, .FormattedValue x k none _ => decide (k = -1) && chkE I e sc x
  | .fs as, sc, .JoinedStr (x :: y :: es) _ => chkA I as sc (x :: y :: es)
  | .bot, _, .Tuple .. => false
  | .bot, _, x => !(oddE x)
  | _, _, _ => false
def chkA (I : Info) : Ex → Scope → List Expr → Bool
  | .nil, _, [] => true
  | .cons a as, sc, x :: xs => chkE I a sc x && chkA I as sc xs
  | _, _, _ => false
def chkI (I : Info) : Ex → Scope → Expr → Expr → Bool
  | .rng1 a, sc, _, .Call (.Name x _) (y :: []) [] _ => decide (x = ("range" : Str)) && (glB sc x && chkE I a sc y)
  | .rng2 a b, sc, _, .Call (.Name x _) (y :: z :: []) [] _ => decide (x = ("range" : Str)) && (glB sc x && (chkE I a sc y && chkE I b sc z))
  | .zip a b, sc, .Tuple _ _ _, .Call (.Name x _) (y :: z :: []) [] _ => decide (x = ("zip" : Str)) && (glB sc x && (chkE I a sc y && chkE I b sc z))
  | .enu a, sc, .Tuple _ _ _, .Call (.Name x _) (y :: []) [] _ => decide (x = ("enumerate" : Str)) && (glB sc x && chkE I a sc y)
  | .sq a, sc, _, y => chkE I a sc y
  | _, _, _, _ => false
end
theorem chk_odd {I : Info} : ∀ {e : Ex} {sc : Scope} {x : Expr}, chkE I e sc x = true → oddE x = false := by
  intro e
  induction e with
  | cell e ih =>
    intro sc x h
    obtain ⟨_, h2⟩ := Bool.and_eq_true_iff.mp (show (freshE e && chkE I e sc x) = true from h)
    exact ih h2
  | _ => intro sc x h; cases x <;> first | rfl | exact absurd h Bool.false_ne_true
end Mi

end

section
set_option linter.all false
set_option maxRecDepth 100000
/-! Mi, part F: results; judgements at a point; calls. -/
namespace Mi
open PySem PySem.Spec PyProof.Rows L2

section
variable {w : Wd} {H : Hp} {M : List Addr} {B B' : Addr → Prop}
mutual
theorem Rel.bchg (hb : ∀ a, B' a → B a ∨ H a = none) : ∀ {x : PV} {v : V}, Rel w H M B x v → Rel w H M B' x v
  | _, _, .non => .non
  | _, _, .bl b => .bl b
  | _, _, .int i => .int i
  | _, _, .str i => .str i
  | _, _, .ty n => .ty n
  | _, _, .glo e => .glo e
  | _, _, .cel e => .cel e
  | _, _, .tup e n r => .tup e n (Rels.bchg hb r)
  | _, _, .ktup e r => .ktup e (Rels.bchg hb r)
  | _, _, .lst e n b r => .lst e n (fun z => (hb _ z).elim b fun q => by rw [e] at q; cases q) (Rels.bchg hb r)
  | _, _, .scl e n b r => .scl e n (fun z => (hb _ z).elim b fun q => by rw [e] at q; cases q) (Rels.bchg hb r)
  | _, _, .scr e n r => .scr e n (Rels.bchg hb r)
  | _, _, .kscr e r => .kscr e (Rels.bchg hb r)
  | _, _, .clo e => .clo e
  | _, _, .dct e n => .dct e n
theorem Rels.bchg (hb : ∀ a, B' a → B a ∨ H a = none) : ∀ {xs : List PV} {vs : List V}, Rels w H M B xs vs → Rels w H M B' xs vs
  | _, _, .nil => .nil
  | _, _, .cons r t => .cons (Rel.bchg hb r) (Rels.bchg hb t)
end
mutual
theorem Rel.enter : ∀ {x : PV} {v : V}, x.noCel = true → Rel w H M B x v → Rel w H [] (fun a => a ∈ M ∨ B a) x v
  | _, _, _, .non => .non
  | _, _, _, .bl b => .bl b
  | _, _, _, .int i => .int i
  | _, _, _, .str i => .str i
  | _, _, _, .ty n => .ty n
  | _, _, _, .glo e => .glo e
  | _, _, h, .cel e => by cases h
  | _, _, h, .tup e n r => .tup e (by simp) (Rels.enter (by simpa [PV.noCel] using h) r)
  | _, _, h, .ktup e r => .ktup e (Rels.enter (by simpa [PV.noCel] using h) r)
  | _, _, h, .lst e n b r => .lst e (by simp) (fun z => z.elim n b) (Rels.enter (by simpa [PV.noCel] using h) r)
  | _, _, h, .scl e n b r => .scl e (by simp) (fun z => z.elim n b) (Rels.enter (by simpa [PV.noCel] using h) r)
  | _, _, h, .scr e n r => .scr e (by simp) (Rels.enter (by simpa [PV.noCel] using h) r)
  | _, _, h, .kscr e r => .kscr e (Rels.enter (by simpa [PV.noCel] using h) r)
  | _, _, h, .clo e => by cases h
  | _, _, h, .dct e n => .dct e (by simp)
theorem Rels.enter : ∀ {xs : List PV} {vs : List V}, noCels xs = true → Rels w H M B xs vs → Rels w H [] (fun a => a ∈ M ∨ B a) xs vs
  | _, _, _, .nil => .nil
  | _, _, h, .cons r t => by
    obtain ⟨h1, h2⟩ := Bool.and_eq_true_iff.mp (show (_ && _) = true from h)
    exact .cons (Rel.enter h1 r) (Rels.enter h2 t)
end
mutual
theorem Rel.exitS {M' : List Addr} (hM : ∀ a, a ∈ M' → ∃ o, H a = some o ∧ isL o) : ∀ {x : PV} {v : V}, x.noLst = true → Rel w H M B x v → Rel w H M' B' x v
  | _, _, _, .non => .non
  | _, _, _, .bl b => .bl b
  | _, _, _, .int i => .int i
  | _, _, _, .str i => .str i
  | _, _, _, .ty n => .ty n
  | _, _, _, .glo e => .glo e
  | _, _, h, .cel e => by cases h
  | _, _, h, .tup e n r => .tup e (fun hm => by obtain ⟨o, e1, ho⟩ := hM _ hm; rw [e] at e1; cases e1; exact ho) (Rels.exitS hM (by simpa [PV.noLst] using h) r)
  | _, _, h, .ktup e r => .ktup e (Rels.exitS hM (by simpa [PV.noLst] using h) r)
  | _, _, h, .lst e n b r => by cases h
  | _, _, h, .scl e n b r => by cases h
  | _, _, h, .scr e n r => by cases h
  | _, _, h, .kscr e r => by cases h
  | _, _, h, .clo e => by cases h
  | _, _, h, .dct e n => by cases h
theorem Rels.exitS {M' : List Addr} (hM : ∀ a, a ∈ M' → ∃ o, H a = some o ∧ isL o) : ∀ {xs : List PV} {vs : List V}, noLsts xs = true → Rels w H M B xs vs → Rels w H M' B' xs vs
  | _, _, _, .nil => .nil
  | _, _, h, .cons r t => by
    obtain ⟨h1, h2⟩ := Bool.and_eq_true_iff.mp (show (_ && _) = true from h)
    exact .cons (Rel.exitS hM h1 r) (Rels.exitS hM h2 t)
end
mutual
/-- a pure def's result, frozen -/
theorem frz_rel {st : Sto} {M1 : List Addr} (s : Cels w H M (fun a => a ∈ M1 ∨ B a) st) (hM : ∀ a, a ∈ M1 → ∃ o, H a = some o ∧ Mi.isL o) : ∀ (x y : PV) (v : V), frz st x = some y → Rel w H M (fun a => a ∈ M1 ∨ B a) x v → Rel w H M1 B y v
  | .non, y, v, e, r => by cases e; exact r.leave hM (fun _ z => z) rfl
  | .bl b, y, v, e, r => by cases e; exact r.leave hM (fun _ z => z) rfl
  | .int b, y, v, e, r => by cases e; exact r.leave hM (fun _ z => z) rfl
  | .str b, y, v, e, r => by cases e; exact r.leave hM (fun _ z => z) rfl
  | .glo b, y, v, e, r => by cases e; exact r.leave hM (fun _ z => z) rfl
  | .ty b, y, v, e, r => by cases e; exact r.leave hM (fun _ z => z) rfl
  | .dct b, y, v, e, r => by cases e; exact r.leave hM (fun _ z => z) rfl
  | .clo, y, v, e, r => by cases e
  | .lst xs, y, v, e, r => by
    unfold frz at e
    split at e
    · rename_i h
      cases e
      exact r.leave hM (fun _ z => z) (by simpa [PV.noCel] using h)
    · cases e
  | .scr xs, y, v, e, r => by
    unfold frz at e
    split at e
    · rename_i h
      cases e
      exact r.leave hM (fun _ z => z) (by simpa [PV.noCel] using h)
    · cases e
  | .cel n, y, v, e, r => by
    unfold frz at e
    split at e
    · rename_i xs hx
      split at e
      · rename_i h
        cases e
        cases r with
        | cel e1 =>
          obtain ⟨vs, h1, h2⟩ := s.get e1 hx
          have hm := List.mem_of_getElem? e1
          exact .lst h1 (fun z => s.nb _ hm (.inl z)) (fun z => s.nb _ hm (.inr z)) (h2.leave hM (fun _ z => z) h)
      · cases e
    · cases e
  | .tup xs, y, v, e, r => by
    unfold frz at e
    obtain ⟨ys, e1, e2⟩ := Option.map_eq_some_iff.mp e
    subst e2
    cases r with
    | tup h n r => exact .tup h (fun hm => by obtain ⟨o, e1, ho⟩ := hM _ hm; rw [h] at e1; cases e1; exact ho) (frz_rels s hM xs ys _ e1 r)
    | ktup h r => exact .ktup h (frz_rels s hM xs ys _ e1 r)
theorem frz_rels {st : Sto} {M1 : List Addr} (s : Cels w H M (fun a => a ∈ M1 ∨ B a) st) (hM : ∀ a, a ∈ M1 → ∃ o, H a = some o ∧ Mi.isL o) : ∀ (xs ys : List PV) (vs : List V), frzs st xs = some ys → Rels w H M (fun a => a ∈ M1 ∨ B a) xs vs → Rels w H M1 B ys vs
  | [], ys, vs, e, r => by cases e; cases r; exact .nil
  | x :: xs, ys, vs, e, r => by
    unfold frzs at e
    obtain ⟨y, e1, e2⟩ := Option.bind_eq_some_iff.mp e
    obtain ⟨zs, e3, e4⟩ := Option.map_eq_some_iff.mp e2
    subst e4
    cases r with
    | cons r t => exact .cons (frz_rel s hM x y _ e1 r) (frz_rels s hM xs zs _ e3 t)
end
end

/-! ### results -/
section
variable {α β γ δ : Type}
abbrev Rl (α β : Type) := Hp → List Addr → α → β → Prop
abbrev WeT := Nat → Sto → Hp → List Addr → Prop
/-- what follows a result -/
def Res (w : Wd) (B : Addr → Prop) (rel : Rl α β) (We : WeT) (H : Hp) (M : List Addr) (r : R α) (Q : β → Hp → Prop) : Prop :=
  match r with
  | .ok a st => ∀ v H' M', Kp H M H' M' → Cels w H' M' B st → rel H' M' a v → Q v H'
  | .ex c st => ∀ H' M', Kp H M H' M' → Cels w H' M' B st → We c st H' M'
  | .bad => False
variable {w : Wd} {B : Addr → Prop} {rel : Rl α β} {rel2 : Rl γ δ} {We : WeT} {H H' : Hp} {M M' : List Addr} {Q Q' : β → Hp → Prop}
theorem Res.mono {r : R α} (h : Res w B rel We H M r Q) (k : Kp H M H' M') : Res w B rel We H' M' r Q := by
  cases r with
  | ok a st => exact fun v H2 M2 k2 s q => h v H2 M2 (k.trans k2) s q
  | ex c st => exact fun H2 M2 k2 s => h H2 M2 (k.trans k2) s
  | bad => exact h.elim
/-- the first of two -/
theorem Res.bind {r : R α} {f : α → Sto → R γ} {Q2 : δ → Hp → Prop} (h : Res w B rel2 We H M (r.bind f) Q2)
    (g : ∀ a st v H' M', Kp H M H' M' → Cels w H' M' B st → rel H' M' a v → Res w B rel2 We H' M' (f a st) Q2 → Q v H') : Res w B rel We H M r Q := by
  cases r with
  | ok a st => exact fun v H2 M2 k2 s q => g a st v H2 M2 k2 s q (Res.mono (show Res w B rel2 We H M (f a st) Q2 from h) k2)
  | ex c st => exact h
  | bad => exact h
theorem Res.bindE {r : R α} {f : α → Sto → R γ} {Q2 : δ → Hp → Prop} (h : Res w B rel2 We H M (r.bind f) Q2)
    (g : ∀ a st v H' M', r = .ok a st → Kp H M H' M' → Cels w H' M' B st → rel H' M' a v → Res w B rel2 We H' M' (f a st) Q2 → Q v H') : Res w B rel We H M r Q := by
  cases r with
  | ok a st => exact fun v H2 M2 k2 s q => g a st v H2 M2 rfl k2 s q (Res.mono (show Res w B rel2 We H M (f a st) Q2 from h) k2)
  | ex c st => exact h
  | bad => exact h
theorem Res.imp {r : R α} (h : Res w B rel We H M r Q) (g : ∀ a st v H' M', Kp H M H' M' → Cels w H' M' B st → rel H' M' a v → Q v H' → Q' v H') : Res w B rel We H M r Q' := by
  cases r with
  | ok a st => exact fun v H2 M2 k2 s q => g a st v H2 M2 k2 s q (h v H2 M2 k2 s q)
  | ex c st => exact h
  | bad => exact h
end
abbrev RelR (w : Wd) (B : Addr → Prop) : Rl PV V := fun H M a v => Rel w H M B a v
abbrev RelRs (w : Wd) (B : Addr → Prop) : Rl (List PV) (List V) := fun H M a v => Rels w H M B a v
abbrev RelB : Rl Bool Bool := fun _ _ a b => b = a
abbrev RelO : Rl (Option Int) (Option Int) := fun _ _ a b => b = a
section
variable {w : Wd} {B : Addr → Prop} {We : WeT} {H : Hp} {M : List Addr} {Q : VK} {st : Sto}
theorem Res.aft {c : PV} (h : Res w B (RelR w B) We H M (.ok c st) Q) : Aft w H M B st c Q := fun z H' k s r => h z H' M k s r
theorem Res.liftE {o : Option PV} (h : Res w B (RelR w B) We H M (R.lift o st) Q) : ∃ c, o = some c ∧ Aft w H M B st c Q := by
  cases o with
  | none => exact h.elim
  | some c => exact ⟨c, rfl, h.aft⟩
end

/-! ### at a point -/
section
variable (X : Cx)
def EvE (e : Expr) : TE := fun σ H Q => ∀ (pins : List (Addr × Obj)) (s : Shared), Inv X pins σ H s → wpAny (model X.prog X.w) X.A (eval e X.env) (EP X pins σ Q) X.xe s
def EvT (e : Expr) : TT := fun σ H Q => ∀ (pins : List (Addr × Obj)) (s : Shared), Inv X pins σ H s → wpAny (model X.prog X.w) X.A (isTrue e X.env (eval e X.env)) (TP X pins σ Q) X.xe s
def EvA (es : List Expr) : TA := fun σ H Q => ∀ (pos : Pos) (pins : List (Addr × Obj)) (s : Shared), Inv X pins σ H s → wpAny (model X.prog X.w) X.A (spliced (backTo pos (starEach es X.env))) (AP X pins σ Q) X.xe s
def EvI (tg e : Expr) : TI := fun σ H R => ∀ (pins : List (Addr × Obj)) (s : Shared), Inv X pins σ H s → wpAny (model X.prog X.w) X.A (eval e X.env) (fun v s1 => wpAny (model X.prog X.w) X.A (pyIter v) (PIE X pins σ tg R) X.xe s1) X.xe s
def EvP (ifs : List Expr) : TT := fun σ H Q => ∀ (pins : List (Addr × Obj)) (s : Shared), Inv X pins σ H s →
  wpAny (model X.prog X.w) X.A (forIn ifs true fun c r => if r = true then do let ok ← isTrue c X.env (eval c X.env); pure (ForInStep.yield ok) else pure (ForInStep.yield r)) (TP X pins σ Q) X.xe s
end
section
variable {X : Cx} {σ : L2.St} {H : Hp}
theorem pe_ev {e : Expr} : PE X e (EvE X e) := ⟨fun pins s _ _ _ I h => h pins s I⟩
theorem pt_ev {e : Expr} : PT X e (EvT X e) := ⟨fun pins s _ _ _ I h => h pins s I⟩
theorem pa_ev {e : List Expr} : PA X e (EvA X e) := ⟨fun pos pins s _ _ _ I h => h pos pins s I⟩
theorem pi_ev {tg e : Expr} : PI X tg e (EvI X tg e) := ⟨fun pins s _ _ _ I h => h pins s I⟩
theorem pp_ev {e : List Expr} : PTs X e (EvP X e) := ⟨fun pins s _ _ _ I h => h pins s I⟩
theorem evE_of {e : Expr} {t : TE} {Q : VK} (h : PE X e t) (q : t σ H Q) : EvE X e σ H Q := fun pins s I => h.run pins s σ H Q I q
theorem evT_of {e : Expr} {t : TT} {Q : Bool → Hp → Prop} (h : PT X e t) (q : t σ H Q) : EvT X e σ H Q := fun pins s I => h.run pins s σ H Q I q
theorem evA_of {e : List Expr} {t : TA} {Q : List V → Hp → Prop} (h : PA X e t) (q : t σ H Q) : EvA X e σ H Q := fun pos pins s I => h.run pos pins s σ H Q I q
theorem evI_of {tg e : Expr} {t : TI} {Q : It → Hp → Prop} (h : PI X tg e t) (q : t σ H Q) : EvI X tg e σ H Q := fun pins s I => h.run pins s σ H Q I q
theorem evP_of {e : List Expr} {t : TT} {Q : Bool → Hp → Prop} (h : PTs X e t) (q : t σ H Q) : EvP X e σ H Q := fun pins s I => h.run pins s σ H Q I q
theorem op_ev {f : Value → Value → Sem Value} : OpR X f (OpE X f) := fun pins s σ _ _ _ v u _ I rx ry q => q pins s σ v u I rx ry
theorem call_ev {f : Value} : CallR X f (CallE X f) := fun pins s σ _ _ us _ I r q => q pins s σ us I r
end

/-! ### slots -/
def EnvR (w : Wd) (H : Hp) (M : List Addr) (B : Addr → Prop) (ρ : Env') (σ : L2.St) : Prop :=
  ρ.length = σ.length ∧ ∀ (i : Nat) (v : PV), ρ[i]? = some (some v) → ∃ u, σ[i]? = some (some u) ∧ Rel w H M B v u
section
variable {w : Wd} {H H' : Hp} {M M' : List Addr} {B B' : Addr → Prop} {ρ : Env'} {σ : L2.St}
theorem EnvR.mono (e : EnvR w H M B ρ σ) (k : Kp H M H' M') : EnvR w H' M' B ρ σ := ⟨e.1, fun i v h => let ⟨u, h1, r⟩ := e.2 i v h; ⟨u, h1, r.mono k⟩⟩
theorem EnvR.bchg (e : EnvR w H M B ρ σ) (hb : ∀ a, B' a → B a ∨ H a = none) : EnvR w H M B' ρ σ := ⟨e.1, fun i v h => let ⟨u, h1, r⟩ := e.2 i v h; ⟨u, h1, r.bchg hb⟩⟩
theorem EnvR.set (e : EnvR w H M B ρ σ) {i : Nat} {v : PV} {u : V} (r : Rel w H M B v u) : EnvR w H M B (ρ.set i (some v)) (σ.set i (some u)) := by
  refine ⟨by rw [List.length_set, List.length_set]; exact e.1, fun j x h => ?_⟩
  by_cases q : i = j
  · subst q
    have hl : i < ρ.length := by
      have := (List.getElem?_eq_some_iff.mp h).1
      rwa [List.length_set] at this
    rw [List.getElem?_set_self hl] at h
    cases h
    exact ⟨u, List.getElem?_set_self (by rw [← e.1]; exact hl), r⟩
  · rw [List.getElem?_set_ne q] at h ⊢
    exact e.2 j x h
theorem EnvR.wipe (e : EnvR w H M B ρ σ) : ∀ vs : List Nat, EnvR w H M B (wipeP ρ vs) (L2.wipe σ vs)
  | [] => e
  | i :: vs => by
    have ih := EnvR.wipe e vs
    unfold wipeP L2.wipe
    refine ⟨by rw [List.length_set, List.length_set]; exact ih.1, fun j x h => ?_⟩
    by_cases q : i = j
    · subst q
      have hl : i < (wipeP ρ vs).length := by
        have := (List.getElem?_eq_some_iff.mp h).1
        rwa [List.length_set] at this
      rw [List.getElem?_set_self hl] at h
      cases h
    · rw [List.getElem?_set_ne q] at h ⊢
      exact ih.2 j x h
end

/-! ### exceptions, promises, contexts -/
abbrev WeS := L2.St → WeT
def Wof (X : Cx) (nm : Nm) (We : WeS) : WX := fun cls d σ H => ∃ c st M a, cls = .ref a ∧ d = none ∧ X.mg (nm c) = some (.ref a) ∧ We σ c st H M
/-- what a def promises: what the evaluator says -/
def spOf (w : Wd) (f : CallF) (x : Nat) : Sp := fun vs H Q E => ∃ (as : List PV) (M : List Addr) (B : Addr → Prop) (st : Sto), Rels w H M B as vs ∧ Cels w H M B st ∧
  Res w B (RelR w B) (fun c _ H' _ => ∀ a, w.mg (w.nm c) = some (.ref a) → E (.ref a) none H') H M (f x as st) Q
/-- nothing was handed -/
def Nm.o (n : Nm) : Nm := ⟨n.f, n.tabs, none⟩
def Wd.o (w : Wd) : Wd := ⟨w.K, w.mg, w.nm.o⟩
section
variable {w : Wd} {H : Hp} {M : List Addr} {B : Addr → Prop}
mutual
theorem Rel.on : ∀ {x : PV} {v : V}, Rel w.o H M B x v → Rel w H M B x v
  | _, _, .non => .non
  | _, _, .bl b => .bl b
  | _, _, .int i => .int i
  | _, _, .str i => .str i
  | _, _, .ty n => .ty n
  | _, _, .glo e => .glo e
  | _, _, .cel e => .cel e
  | _, _, .tup e n r => .tup e n (Rels.on r)
  | _, _, .ktup e r => .ktup e (Rels.on r)
  | _, _, .lst e n b r => .lst e n b (Rels.on r)
  | _, _, .scl e n b r => .scl e n b (Rels.on r)
  | _, _, .scr e n r => .scr e n (Rels.on r)
  | _, _, .kscr e r => .kscr e (Rels.on r)
  | _, _, .clo e => by cases e
  | _, _, .dct e n => .dct e n
theorem Rels.on : ∀ {xs : List PV} {vs : List V}, Rels w.o H M B xs vs → Rels w H M B xs vs
  | _, _, .nil => .nil
  | _, _, .cons r t => .cons (Rel.on r) (Rels.on t)
end
mutual
theorem Rel.off : ∀ {x : PV} {v : V}, x.noCel = true → Rel w H M B x v → Rel w.o H M B x v
  | _, _, _, .non => .non
  | _, _, _, .bl b => .bl b
  | _, _, _, .int i => .int i
  | _, _, _, .str i => .str i
  | _, _, _, .ty n => .ty n
  | _, _, _, .glo e => .glo e
  | _, _, h, .cel e => by cases h
  | _, _, h, .tup e n r => .tup e n (Rels.off (by simpa [PV.noCel] using h) r)
  | _, _, h, .ktup e r => .ktup e (Rels.off (by simpa [PV.noCel] using h) r)
  | _, _, h, .lst e n b r => .lst e n b (Rels.off (by simpa [PV.noCel] using h) r)
  | _, _, h, .scl e n b r => .scl e n b (Rels.off (by simpa [PV.noCel] using h) r)
  | _, _, h, .scr e n r => .scr e n (Rels.off (by simpa [PV.noCel] using h) r)
  | _, _, h, .kscr e r => .kscr e (Rels.off (by simpa [PV.noCel] using h) r)
  | _, _, h, .clo e => by cases h
  | _, _, _, .dct e n => .dct e n
theorem Rels.off : ∀ {xs : List PV} {vs : List V}, noCels xs = true → Rels w H M B xs vs → Rels w.o H M B xs vs
  | _, _, _, .nil => .nil
  | _, _, h, .cons r t => by
    obtain ⟨h1, h2⟩ := Bool.and_eq_true_iff.mp (show (_ && _) = true from h)
    exact .cons (Rel.off h1 r) (Rels.off h2 t)
end
mutual
theorem Rel.offc : ∀ {x : PV} {v : V}, x.noClo = true → Rel w H M B x v → Rel w.o H M B x v
  | _, _, _, .non => .non
  | _, _, _, .bl b => .bl b
  | _, _, _, .int i => .int i
  | _, _, _, .str i => .str i
  | _, _, _, .ty n => .ty n
  | _, _, _, .glo e => .glo e
  | _, _, _, .cel e => .cel e
  | _, _, h, .tup e n r => .tup e n (Rels.offc (by simpa [PV.noClo] using h) r)
  | _, _, h, .ktup e r => .ktup e (Rels.offc (by simpa [PV.noClo] using h) r)
  | _, _, h, .lst e n b r => .lst e n b (Rels.offc (by simpa [PV.noClo] using h) r)
  | _, _, h, .scl e n b r => .scl e n b (Rels.offc (by simpa [PV.noClo] using h) r)
  | _, _, h, .scr e n r => .scr e n (Rels.offc (by simpa [PV.noClo] using h) r)
  | _, _, h, .kscr e r => .kscr e (Rels.offc (by simpa [PV.noClo] using h) r)
  | _, _, h, .clo e => by cases h
  | _, _, _, .dct e n => .dct e n
theorem Rels.offc : ∀ {xs : List PV} {vs : List V}, noClos xs = true → Rels w H M B xs vs → Rels w.o H M B xs vs
  | _, _, _, .nil => .nil
  | _, _, h, .cons r t => by
    obtain ⟨h1, h2⟩ := Bool.and_eq_true_iff.mp (show (_ && _) = true from h)
    exact .cons (Rel.offc h1 r) (Rels.offc h2 t)
end
theorem Cels.on {st : Sto} (s : Cels w.o H M B st) : Cels w H M B st where
  len := s.len
  nd := s.nd
  nb := s.nb
  bk := s.bk
  at_ := fun n a c h e => by
    obtain ⟨o, vs, e1, co, r⟩ := s.at_ n a c h e
    exact ⟨o, vs, e1, by cases c <;> exact co, r.on⟩
  nc := s.nc
  tb := s.tb
theorem Cels.off {st : Sto} (s : Cels w H M B st) : Cels w.o H M B st where
  len := s.len
  nd := s.nd
  nb := s.nb
  bk := s.bk
  at_ := fun n a c h e => by
    obtain ⟨o, vs, e1, co, r⟩ := s.at_ n a c h e
    exact ⟨o, vs, e1, by cases c <;> exact co, r.offc (CC.clo (s.nc n c e))⟩
  nc := s.nc
  tb := s.tb
theorem Wd.o_of (h : w.nm.clo = none) : w.o = w := by
  obtain ⟨K, mg, ⟨f, tabs, clo⟩⟩ := w
  cases h
  rfl
end
/-- a function at f, called later from where s, H were: it does what clo says -/
structure CloAct (P : Program) (pw : World) (w : Wd) (base : Heap) (outer : List Env) (s : Shared) (H : Hp) (M : List Addr) (B : Addr → Prop) (j : Nat) (f : Addr) (clo : List PV → Sto → R PV) : Prop where
  at_ : PySem.W.FnAt f s.heap
  nh : H f = none
  nf : f ∉ frs outer
  run : ∀ (A : Around) (outer' : List Env) (s1 : Shared) (H1 : Hp) (M1 : List Addr) (us : List Value) (vs : List V) (as : List PV) (st1 : Sto) (Q : VK) (E : XK), Room j A → Env0 P pw w.K w.mg base A outer' s1 H1 → Un (frs outer) [] H H1 s.heap s1.heap → Vals vs us →
    Kp H M H1 M1 → Cels w H1 M1 B st1 → Rels w H1 M1 B as vs → Res w B (RelR w B) (fun c _ H' _ => ∀ a, w.mg (w.nm c) = some (.ref a) → E (.ref a) none H') H1 M1 (clo as st1) Q →
    codeAny (model P pw) A (.call (.ref f) ⟨us, []⟩) (CR (L2.CX P pw) outer' P pw H1 s1 Q E) s1
/-- a def that is handed a function behind its arguments -/
def LamOk (P : Program) (pw : World) (w : Wd) (base : Heap) (k : Nat) (g : Addr) (lam : List PV → (List PV → Sto → R PV) → Sto → R PV) : Prop :=
  ∀ (A : Around) (outer : List Env) (s : Shared) (H : Hp) (us : List Value) (vs : List V) (f : Addr) (as : List PV) (M : List Addr) (B : Addr → Prop) (st : Sto) (clo : List PV → Sto → R PV) (Q : VK) (E : XK), Room (k + 5) A → Env0 P pw w.K w.mg base A outer s H → Vals vs us →
    Rels w H M B as vs → Cels w H M B st → CloAct P pw w base outer s H M B (k + 3) f clo → Res w B (RelR w B) (fun c _ H' _ => ∀ a, w.mg (w.nm c) = some (.ref a) → E (.ref a) none H') H M (lam as clo st) Q →
    codeAny (model P pw) A (.call (.ref g) ⟨us ++ [.ref f], []⟩) (CR (L2.CX P pw) outer P pw H s Q E) s
/-- what operators ask of a class -/
structure ClsO (K : PySem.W.Frag) (C : Addr) : Prop where
  cls : Cls K C
  first : PySem.W.selfFirst K C = true
  tup : PySem.W.notFirst K C (.type "tuple") = true
  own : PySem.W.notFirst K C (.ref C) = true
/-- what a class has under a name, kept by the def at a -/
def OwnAt (K : PySem.W.Frag) : OwK → Addr → Str → Addr → Prop
  | .meth, C, m, a => ClsO K C ∧ Meth K C m a ∧ PySem.W.fnIn K a = true
  | .prop, C, m, a => Cls K C ∧ ∃ p, PropOf K C m p a
  | .init, C, _, a => Mk K C a
  | .cm, C, m, a => ∃ mc p, ClX.CRead K C mc ∧ ClX.CMet K C mc m p a
  | .gen, _, _, _ => False
/-- what isinstance asks of a class -/
structure IscC (K : PySem.W.Frag) (C : Addr) : Prop where
  cls : Cls K C
  ca : PySem.W.findIn K (.ref C) "__class__" = some (some (.builtin "object.__class__"))
  cn : PySem.W.specialIn K (.builtin "object.__class__") "__get__" = some (some (.builtin "getset_descriptor.__get__"))
  ct : PySem.W.takesIn K (.builtin "object.__class__") = some true
  cm : PySem.W.mroIn K C (.type "object") = some true
  own : PySem.W.kitOne K (.ref C) (.ref C) = some true
  non : PySem.W.kitOne K (.type "NoneType") (.ref C) = some false
  bl : PySem.W.kitOne K (.type "bool") (.ref C) = some false
  int : PySem.W.kitOne K (.type "int") (.ref C) = some false
  str : PySem.W.kitOne K (.type "str") (.ref C) = some false
  tup : PySem.W.kitOne K (.type "tuple") (.ref C) = some false
  lst : PySem.W.kitOne K (.type "list") (.ref C) = some false
structure Ctx (I : Info) (G : GlobF) (cf : CallF) (X : Cx) (top : Bool) (We : WeS) : Prop where
  calm : X.calm = true
  nd : X.N.Nodup
  N : X.N = I.N
  takes : Takes X (Wof X I.nm We)
  un : X.A.units + 65 < cLine
  fns : ∃ k, Room k X.A ∧ (I.lam = true → Room (k + 5) X.A) ∧ (∀ f, I.F f = true → ∃ a fd ps, X.mg (I.nm f) = some (.ref a) ∧ PySem.W.keepIn X.K (.ref a) = true ∧ Binds X.K fd ps [] ∧
      FnOk X.prog X.w X.K X.mg X.base (L2.CX X.prog X.w) k a fd ps (spOf (wd X I.nm.o) cf f)) ∧
    (∀ g, I.L g = true → ∃ a, X.mg (I.nm g) = some (.ref a) ∧ PySem.W.keepIn X.K (.ref a) = true ∧ (I.lam = true → LamOk X.prog X.w (wd X I.nm.o) X.base k a (cf.lam g))) ∧ Room (k + 2) X.A ∧
    ∀ o c m f, I.O o c m f = true → ∃ C a, X.mg (I.nm c) = some (.ref C) ∧ OwnAt X.K o C m a ∧ FnR X.prog X.w X.K X.mg X.base (L2.CX X.prog X.w) k a (spOf (wd X I.nm.o) cf f)
  glob : ∀ g v, G g = some v → ∃ u x, X.mg (I.nm g) = some u ∧ RelV x u ∧ ∀ H M B, Rel (wd X I.nm) H M B v x
  free : ∀ x, x ∈ bnames → X.mg x = none
  fn : top = true → ∀ x, X.fn x = true
  cl : I.clo = none → I.nm.clo = none
  isf : ∀ f, cf.isF f = true → I.F f = true
  flds : ∀ c x, I.A c x = true → ∃ C, X.mg (I.nm c) = some (.ref C) ∧ Cls X.K C ∧ NoAttr X.K C x
  isc : ∀ c, I.S c = true → ∃ C, X.mg (I.nm c) = some (.ref C) ∧ IscC X.K C
  mn : ∀ f, G.mn f = I.mn f
  lam : I.tp = true → I.lam = true → ∃ c P, X.env.code = .ref c ∧ X.stack = X.env :: X.outer ∧ LamX.TabB X.base X.mg c P ∧ (P, X.env.qual ++ "<lambda>") ∈ I.nm.tabs ∧ ∀ p ∈ I.nm.tabs, p.1 = P → p.2 = X.env.qual ++ "<lambda>"

/-! ### calls -/
section
variable {w : Wd} {H : Hp} {M : List Addr} {B : Addr → Prop} {st : Sto} {as : List PV} {vs : List V} {f : CallF} {x : Nat} {Q : VK} {We : WeT} {E : XK}
theorem kp_callee {H' : Hp} {M' : List Addr} (k : Kp H [] H' M') : Kp H M H' M := ⟨fun a o e n t => ⟨(k.h a o e (by simp) t).1, n⟩, fun _ _ e => e, k.d⟩
theorem Cels.callee (s : Cels w H M B st) {H' : Hp} {M' : List Addr} (k : Kp H [] H' M') (ht : LamX.Tabs w.nm.tabs H') : Cels w H' M B st := s.keep (kp_callee k) (fun a hm => by
  obtain ⟨o, e, ho⟩ := s.isL hm
  rw [e, (k.h a o e (by simp) (by cases o <;> first | trivial | exact ho)).1]) ht
theorem snaps_rel (s : Cels w H M B st) : ∀ {as : List PV} {vs : List V}, noCels (as.map (Mi.snap st)) = true → Rels w H M B as vs → Rels w H [] (fun _ => False) (as.map (Mi.snap st)) vs
  | _, _, _, .nil => .nil
  | a :: as, _, h, .cons r t => by
    obtain ⟨h1, h2⟩ := Bool.and_eq_true_iff.mp (show ((Mi.snap st a).noCel && noCels (as.map (Mi.snap st))) = true from h)
    refine .cons ?_ (snaps_rel s h2 t)
    have plain : ∀ {y : PV} {v : V}, y.noCel = true → Rel w H M B y v → Rel w H [] (fun _ => False) y v := fun h r => (r.enter h).bchg fun _ z => z.elim
    cases r with
    | cel e =>
      rename_i n a
      unfold Mi.snap at h1 ⊢
      dsimp only at h1 ⊢
      split at h1
      · rename_i xs hx
        obtain ⟨us, e1, rr⟩ := s.get e hx
        exact .lst e1 (by simp) (fun z => z) ((Rels.enter (by simpa [PV.noCel] using h1) rr).bchg fun _ z => z.elim)
      · cases h1
    | non => exact .non
    | bl b => exact .bl b
    | int b => exact .int b
    | str b => exact .str b
    | ty b => exact .ty b
    | glo b => exact .glo b
    | tup h' n r => exact plain h1 (.tup h' n r)
    | ktup h' r => exact plain h1 (.ktup h' r)
    | lst h' n b r => exact plain h1 (.lst h' n b r)
    | scr h' n r => exact plain h1 (.scr h' n r)
    | scl h' n b r => exact plain h1 (.scl h' n b r)
    | kscr h' r => exact plain h1 (.kscr h' r)
    | clo h' => cases h1
    | dct h' n => exact plain h1 (.dct h' n)
theorem call_sp {m : CM} (hm : w.nm.clo = none ∨ m.isPure = true) (s : Cels w H M B st) (r : Rels w H M B as vs) (h : Res w B (RelR w B) We H M (callP f m x as st) Q) (hE : ∀ c st' H' M', We c st' H' M' → ∀ a, w.mg (w.nm c) = some (.ref a) → E (.ref a) none H') : spOf w.o f x vs H Q E := by
  cases m with
  | sto =>
    have hm : w.nm.clo = none := by rcases hm with z | z; exact z; cases z
    rw [Wd.o_of hm]
    refine ⟨as, M, B, st, r, s, ?_⟩
    unfold callP at h
    dsimp only at h
    cases e : f x as st with
    | ok v st' => rw [e] at h; exact h
    | ex c st' => rw [e] at h; exact fun H' M' k s' a ha => hE c st' H' M' (h H' M' k s') a ha
    | bad => rw [e] at h; exact h
  | pure =>
    unfold callP at h
    dsimp only at h
    split at h
    · rename_i hn
      refine ⟨as, [], fun a => a ∈ M ∨ B a, [], (r.enter hn).off hn, ⟨rfl, List.nodup_nil, by simp, fun a z => z.elim (fun z => s.mem z) (s.bk a), fun n a c e => by simp at e, fun n ys e => by simp at e, s.tb⟩, ?_⟩
      cases e : f x as [] with
      | ok v st' =>
        rw [e] at h
        dsimp only at h
        intro u H' M' k s' ru
        cases e2 : frz st' v with
        | none => rw [e2] at h; exact h.elim
        | some v' =>
          rw [e2] at h
          refine h u H' M (kp_callee k) (s.callee k s'.tb) (frz_rel s'.on (fun a hm => ?_) v v' u e2 ru.on)
          exact (s.callee k s'.tb).isL hm
      | ex c st' =>
        rw [e] at h
        exact fun H' M' k s' a ha => hE c st H' M (h H' M (kp_callee k) (s.callee k s'.tb)) a ha
      | bad => rw [e] at h; exact h
    · exact h.elim
  | snap =>
    unfold callP at h
    dsimp only at h
    split at h
    · rename_i hn
      refine ⟨as.map (Mi.snap st), [], fun _ => False, [], (snaps_rel s hn r).off hn, ⟨rfl, List.nodup_nil, by simp, fun a z => z.elim, fun n a c e => by simp at e, fun n ys e => by simp at e, s.tb⟩, ?_⟩
      cases e : f x (as.map (Mi.snap st)) [] with
      | ok v st' =>
        rw [e] at h
        dsimp only at h
        intro u H' M' k s' ru
        split at h
        · rename_i hv
          refine h u H' M (kp_callee k) (s.callee k s'.tb) (ru.on.exitS (fun a hm => ?_) hv)
          exact (s.callee k s'.tb).isL hm
        · exact h.elim
      | ex c st' =>
        rw [e] at h
        exact fun H' M' k s' a ha => hE c st H' M (h H' M (kp_callee k) (s.callee k s'.tb)) a ha
      | bad => rw [e] at h; exact h
    · exact h.elim
end
section
variable {X : Cx} {CX : CXT} {k : Nat} {f : Addr} {fd : FuncData} {ps : List Str} {sp : Sp} {E : L2.St → XK} {x : Str} {p pos : Pos}
theorem pe_callS0 (F : FnOk X.prog X.w X.K X.mg X.base CX k f fd ps sp) (hr : Room k X.A) (hg : Gl X x) (hm : X.mg x = some (.ref f)) (hk : PySem.W.keepIn X.K (.ref f) = true) (hb : Binds X.K fd ps []) (hx : ∀ σ, PassesAt CX X σ (E σ))
    (hdb : (x == ("__debug__" : Str)) = false := by decide) : PE X (.Call (.Name x p) [] [] pos) (fun σ H Q => sp [] H Q (E σ)) := by
  refine ⟨fun pins s σ H Q I h => ?_⟩
  refine wpAny_Call_Name_kw (ld_glob I hg hm ?_ hdb)
  exact PySem.W.callWith_K0 I.kIn hk (run_fnS (us := []) F hr hb (hx σ) I .nil h)
end
end Mi

end

section
set_option linter.all false
set_option maxRecDepth 100000
/-! Mi, part G: targets; what is walked. -/
namespace Mi
open PySem PySem.Spec PyProof.Rows L2

/-! ### targets -/
def Tg.len : Tg → Nat
  | .cons _ ts => ts.len + 1
  | _ => 0
mutual
def Tg.g (K : PySem.W.Frag) : Tg → TG
  | .nm i => gName i
  | .nil => gTup K 0 gNil
  | .cons t ts => gTup K (ts.len + 1) (gCons (t.g K) (ts.gs K))
def Tg.gs (K : PySem.W.Frag) : Tg → TGs
  | .nm _ => fun _ _ _ _ => False
  | .nil => gNil
  | .cons t ts => gCons (t.g K) (ts.gs K)
end
theorem mem_bool {p q : Bool} (h : (p && q) = true) : p = true ∧ q = true := Bool.and_eq_true_iff.mp h
section
variable {X : Cx} {I : Info} {top : Str → Bool} (hc : X.calm = true) (hN : X.N.Nodup) (hI : X.N = I.N) (hf : ∀ x, top x = true → X.fn x = true)
include hc hN hI hf
theorem locB_of {x : Str} (h : locB top X.env.scope x = true) : Loc X.env.scope x ∧ (X.fn x = true ∨ X.env.scope.names.lookup x = some .local) := by
  unfold locB at h
  split at h
  · rename_i e; exact ⟨.inl e, .inr e⟩
  · rename_i e; exact ⟨.inr e, .inl (hf x h)⟩
  · cases h
mutual
theorem pg_of : ∀ (t : Tg) (e : Expr), chkTg I top X.env.scope t e = true → PG X e (t.g X.K)
  | .nm i, e, h => by
    cases e <;> first | (simp [chkTg] at h; done) | skip
    rename_i x p
    obtain ⟨h1, h2⟩ := mem_bool (show (decide (I.N[i]? = some x) && locB top X.env.scope x) = true from h)
    obtain ⟨l1, l2⟩ := locB_of hc hN hI hf h2
    exact pg_name hN (by rw [hI]; exact of_decide_eq_true h1) l1 l2
  | .nil, e, h => by
    cases e <;> first | (simp [chkTg] at h; done) | skip
    rename_i es k p
    have h' : es.isEmpty = true := h
    cases es with
    | nil => exact pg_tup hc pgs_nil rfl rfl
    | cons _ _ => cases h'
  | .cons t ts, e, h => by
    cases e <;> first | (simp [chkTg] at h; done) | skip
    rename_i es k p
    have h' : chkTgs I top X.env.scope (.cons t ts) es = true := h
    cases es with
    | nil => cases h'
    | cons a as =>
      obtain ⟨h1, h2⟩ := mem_bool (show (chkTg I top X.env.scope t a && chkTgs I top X.env.scope ts as) = true from h')
      obtain ⟨q1, q2, q3⟩ := pgs_of ts as h2
      have pa := pg_of t a h1
      have na : (assignEach (a :: as) X.env).map (·.2) = assign a X.env :: (assignEach as X.env).map (·.2) ∧ (assignEach (a :: as) X.env).length = (assignEach as X.env).length + 1 ∧ (assignEach (a :: as) X.env).findIdx? (·.1) = ((assignEach as X.env).findIdx? (·.1)).map (· + 1) := by
        cases t <;> cases a <;> first | (simp [chkTg] at h1; done) | (refine ⟨rfl, rfl, ?_⟩; simp [assignEach, List.findIdx?_cons])
      exact pg_tup hc (pgs_cons pa q1 na.1) (by rw [na.2.1, q2]) (by rw [na.2.2, q3]; rfl)
theorem pgs_of : ∀ (t : Tg) (es : List Expr), chkTgs I top X.env.scope t es = true → PGs X es (t.gs X.K) ∧ (assignEach es X.env).length = t.len ∧ (assignEach es X.env).findIdx? (·.1) = none
  | .nm i, es, h => by cases es <;> simp [chkTgs] at h
  | .nil, es, h => by
    cases es with
    | nil => exact ⟨pgs_nil, rfl, rfl⟩
    | cons _ _ => simp [chkTgs] at h
  | .cons t ts, es, h => by
    cases es with
    | nil => simp [chkTgs] at h
    | cons a as =>
      obtain ⟨h1, h2⟩ := mem_bool (show (chkTg I top X.env.scope t a && chkTgs I top X.env.scope ts as) = true from h)
      obtain ⟨q1, q2, q3⟩ := pgs_of ts as h2
      have pa := pg_of t a h1
      have na : (assignEach (a :: as) X.env).map (·.2) = assign a X.env :: (assignEach as X.env).map (·.2) ∧ (assignEach (a :: as) X.env).length = (assignEach as X.env).length + 1 ∧ (assignEach (a :: as) X.env).findIdx? (·.1) = ((assignEach as X.env).findIdx? (·.1)).map (· + 1) := by
        cases t <;> cases a <;> first | (simp [chkTg] at h1; done) | (refine ⟨rfl, rfl, ?_⟩; simp [assignEach, List.findIdx?_cons])
      exact ⟨pgs_cons pa q1 na.1, by rw [na.2.1, q2]; rfl, by rw [na.2.2, q3]; rfl⟩
end
end
/-- slots outside ss are the same -/
def SetS (ss : List Nat) (σ σ' : L2.St) : Prop := σ'.length = σ.length ∧ ∀ i, i ∉ ss → σ'[i]? = σ[i]?
theorem SetS.refl (ss : List Nat) (σ : L2.St) : SetS ss σ σ := ⟨rfl, fun _ _ => rfl⟩
theorem wipe_get (vs : List Nat) : ∀ (τ : L2.St) (i : Nat), (L2.wipe τ vs)[i]? = if i ∈ vs ∧ i < τ.length then some none else τ[i]? := by
  induction vs with
  | nil => intro τ i; simp [L2.wipe]
  | cons v vs ih =>
    intro τ i
    unfold L2.wipe
    by_cases q : v = i
    · subst q
      by_cases hl : v < τ.length
      · rw [List.getElem?_set_self (by rw [wipe_length]; exact hl)]; simp [hl]
      · rw [List.getElem?_eq_none (by rw [List.length_set, wipe_length]; omega)]
        simp [hl]
    · rw [List.getElem?_set_ne q, ih]
      simp [Ne.symm q]
theorem wipe_wipe (σ : L2.St) (vs : List Nat) : L2.wipe (L2.wipe σ vs) vs = L2.wipe σ vs := by
  refine List.ext_getElem? fun i => ?_
  rw [wipe_get, wipe_get, wipe_length]
  by_cases q : i ∈ vs ∧ i < σ.length
  · rw [if_pos q, if_pos q]
  · rw [if_neg q, if_neg q]
theorem SetS.wipe {ss vs : List Nat} {σ σ' : L2.St} (h : SetS ss σ σ') (hs : ∀ i ∈ ss, i ∈ vs) : L2.wipe σ' vs = L2.wipe σ vs := by
  have key := wipe_get
  refine List.ext_getElem? fun i => ?_
  rw [key, key, h.1]
  by_cases q : i ∈ vs
  · by_cases hl : i < σ.length
    · simp [q, hl]
    · rw [if_neg fun z => hl z.2, if_neg fun z => hl z.2, List.getElem?_eq_none (by rw [h.1]; omega), List.getElem?_eq_none (by omega)]
  · simp [q]
    exact h.2 i fun z => q (hs i z)
mutual
def Tg.wf : Tg → Bool
  | .cons t ts => t.wf && ts.wfs
  | _ => true
def Tg.wfs : Tg → Bool
  | .nm _ => false
  | .nil => true
  | .cons t ts => t.wf && ts.wfs
end
mutual
theorem chkTg_wf {I : Info} {top : Str → Bool} {sc : Scope} : ∀ (t : Tg) (e : Expr), chkTg I top sc t e = true → t.wf = true
  | .nm i, e, h => rfl
  | .nil, e, h => rfl
  | .cons t ts, e, h => by
    cases e <;> first | (simp [chkTg] at h; done) | skip
    rename_i es k p
    have h' : chkTgs I top sc (.cons t ts) es = true := h
    cases es with
    | nil => cases h'
    | cons a as =>
      obtain ⟨h1, h2⟩ := mem_bool (show (chkTg I top sc t a && chkTgs I top sc ts as) = true from h')
      show (t.wf && ts.wfs) = true
      rw [chkTg_wf t a h1, chkTgs_wf ts as h2]; rfl
theorem chkTgs_wf {I : Info} {top : Str → Bool} {sc : Scope} : ∀ (t : Tg) (es : List Expr), chkTgs I top sc t es = true → t.wfs = true
  | .nm i, es, h => by cases es <;> simp [chkTgs] at h
  | .nil, es, h => rfl
  | .cons t ts, es, h => by
    cases es with
    | nil => simp [chkTgs] at h
    | cons a as =>
      obtain ⟨h1, h2⟩ := mem_bool (show (chkTg I top sc t a && chkTgs I top sc ts as) = true from h)
      show (t.wf && ts.wfs) = true
      rw [chkTg_wf t a h1, chkTgs_wf ts as h2]; rfl
end
theorem setTg_len : ∀ (t : Tg) (xs : List PV) (ρ ρ' : Env'), t.wfs = true → setTg t (.tup xs) ρ = some ρ' → xs.length = t.len
  | .nm _, _, _, _, h, _ => by cases h
  | .nil, xs, _, _, _, e => by
    cases xs with
    | nil => rfl
    | cons _ _ => simp [setTg] at e
  | .cons t ts, xs, ρ, ρ', h, e => by
    cases xs with
    | nil => simp [setTg] at e
    | cons x xs =>
      obtain ⟨ρ1, g1, g2⟩ := Option.bind_eq_some_iff.mp (show ((setTg t x ρ).bind fun ρ' => setTg ts (.tup xs) ρ') = some ρ' from e)
      obtain ⟨h1, h2⟩ := mem_bool (show (t.wf && ts.wfs) = true from h)
      show xs.length + 1 = ts.len + 1
      rw [setTg_len ts xs ρ1 ρ' h2 g2]
section
variable {w : Wd} {H : Hp} {M : List Addr} {B : Addr → Prop}
mutual
theorem setTg_g : ∀ (t : Tg) (p : PV) (v : V) (ρ ρ' : Env') (σ : L2.St) (Q : L2.St → Hp → Prop), t.wf = true → setTg t p ρ = some ρ' → EnvR w H M B ρ σ → Rel w H M B p v → (∀ σ', EnvR w H M B ρ' σ' → SetS t.slots σ σ' → Q σ' H) → (t.g w.K) v σ H Q
  | .nm i, p, v, ρ, ρ', σ, Q, hw, h, e, r, q => by
    cases h
    exact q _ (e.set r) ⟨List.length_set, fun j hj => List.getElem?_set_ne (fun z => hj (by simp [Tg.slots, z]))⟩
  | .nil, p, v, ρ, ρ', σ, Q, hw, h, e, r, q => by
    cases p <;> first | (simp [setTg] at h; done) | skip
    rename_i xs
    cases xs with
    | cons _ _ => simp [setTg] at h
    | nil =>
      cases h
      obtain ⟨a, vs, e1, h1, rr⟩ := r.tupT
      cases rr
      exact ⟨a, [], e1, h1, rfl, rfl, q _ e (.refl _ _)⟩
  | .cons t ts, p, v, ρ, ρ', σ, Q, hw, h, e, r, q => by
    cases p <;> first | (simp [setTg] at h; done) | skip
    rename_i xs
    obtain ⟨a, vs, e1, h1, rr⟩ := r.tupT
    have hw' : (Tg.cons t ts).wfs = true := hw
    refine ⟨a, _, e1, h1, ?_, ?_⟩
    · rw [← rr.length]; exact setTg_len (.cons t ts) xs ρ ρ' hw' h
    · obtain ⟨w1, w2⟩ := mem_bool (show (t.wf && ts.wfs) = true from hw)
      cases xs with
      | nil => simp [setTg] at h
      | cons x xs =>
        obtain ⟨ρ1, g1, g2⟩ := Option.bind_eq_some_iff.mp (show ((setTg t x ρ).bind fun ρ' => setTg ts (.tup xs) ρ') = some ρ' from h)
        cases rr with
        | cons rx rs =>
          rename_i vx vs
          refine ⟨vx, vs, rfl, setTg_g t x vx ρ ρ1 σ _ w1 g1 e rx fun σ1 e2 s2 => ?_⟩
          refine setTg_gs ts xs vs ρ1 ρ' σ1 _ w2 g2 e2 rs fun σ2 e3 s3 => q σ2 e3 ⟨s3.1.trans s2.1, fun i hi => ?_⟩
          simp [Tg.slots] at hi
          rw [s3.2 i hi.2, s2.2 i hi.1]
theorem setTg_gs : ∀ (t : Tg) (ps : List PV) (vs : List V) (ρ ρ' : Env') (σ : L2.St) (Q : L2.St → Hp → Prop), t.wfs = true → setTg t (.tup ps) ρ = some ρ' → EnvR w H M B ρ σ → Rels w H M B ps vs → (∀ σ', EnvR w H M B ρ' σ' → SetS t.slots σ σ' → Q σ' H) →
    (t.gs w.K) vs σ H Q
  | .nm i, ps, vs, ρ, ρ', σ, Q, hw, h, e, r, q => by cases hw
  | .nil, ps, vs, ρ, ρ', σ, Q, hw, h, e, r, q => by
    cases ps with
    | cons _ _ => simp [setTg] at h
    | nil => cases h; cases r; exact ⟨rfl, q _ e (.refl _ _)⟩
  | .cons t ts, ps, vs, ρ, ρ', σ, Q, hw, h, e, r, q => by
    obtain ⟨w1, w2⟩ := mem_bool (show (t.wf && ts.wfs) = true from hw)
    cases ps with
    | nil => simp [setTg] at h
    | cons x xs =>
      obtain ⟨ρ1, g1, g2⟩ := Option.bind_eq_some_iff.mp (show ((setTg t x ρ).bind fun ρ' => setTg ts (.tup xs) ρ') = some ρ' from h)
      cases r with
      | cons rx rs =>
        rename_i vx vs
        refine ⟨vx, vs, rfl, setTg_g t x vx ρ ρ1 σ _ w1 g1 e rx fun σ1 e2 s2 => ?_⟩
        refine setTg_gs ts xs vs ρ1 ρ' σ1 _ w2 g2 e2 rs fun σ2 e3 s3 => q σ2 e3 ⟨s3.1.trans s2.1, fun i hi => ?_⟩
        simp [Tg.slots] at hi
        rw [s3.2 i hi.2, s2.2 i hi.1]
end
end

/-! ### what is walked -/
/-- later, but lists under B's hand may have changed -/
structure KpB (B : Addr → Prop) (H : Hp) (M : List Addr) (H' : Hp) (M' : List Addr) : Prop where
  h : ∀ a o, H a = some o → a ∉ M → notT o → (isL o → ¬ B a) → H' a = some o ∧ a ∉ M'
  m : ∀ (n : Nat) (a : Addr), M[n]? = some a → M'[n]? = some a
theorem Kp.toB {B : Addr → Prop} {H H' : Hp} {M M' : List Addr} (k : Kp H M H' M') : KpB B H M H' M' := ⟨fun a o e n t _ => k.h a o e n t, k.m⟩
theorem KpB.refl {B : Addr → Prop} (H : Hp) (M : List Addr) : KpB B H M H M := (Kp.refl H M).toB
theorem KpB.trans {B : Addr → Prop} {H H1 H2 : Hp} {M M1 M2 : List Addr} (a : KpB B H M H1 M1) (b : KpB B H1 M1 H2 M2) : KpB B H M H2 M2 :=
  ⟨fun x o e n t l => let ⟨e1, n1⟩ := a.h x o e n t l; b.h x o e1 n1 t l, fun n x e => b.m n x (a.m n x e)⟩
theorem KpB.chg {B : Addr → Prop} {H : Hp} {M : List Addr} {D : Addr} {o u : HO} (hD : H D = some o) (ho : isL o) (hb : B D) : KpB B H M (upd H D u) M :=
  ⟨fun a v e n t l => ⟨by rw [upd_ne (fun z => by rw [z] at e l; rw [hD] at e; cases e; exact l ho hb)]; exact e, n⟩, fun _ _ e => e⟩
section
variable {w : Wd} {H H' : Hp} {M M' : List Addr} {B B' : Addr → Prop}
mutual
theorem Rel.monoB (k : KpB B H M H' M') (hb : ∀ a, B' a → B a ∨ H a = none) : ∀ {x : PV} {v : V}, Rel w H M B x v → Rel w H' M' B' x v
  | _, _, .non => .non
  | _, _, .bl b => .bl b
  | _, _, .int i => .int i
  | _, _, .str i => .str i
  | _, _, .ty n => .ty n
  | _, _, .glo e => .glo e
  | _, _, .clo e => .clo e
  | _, _, .cel e => .cel (k.m _ _ e)
  | _, _, .tup e n r => .tup (k.h _ _ e n trivial (fun z => z.elim)).1 (k.h _ _ e n trivial (fun z => z.elim)).2 (Rels.monoB k hb r)
  | _, _, .ktup e r => .ktup e (Rels.monoB k hb r)
  | _, _, .lst e n b r => .lst (k.h _ _ e n trivial (fun _ => b)).1 (k.h _ _ e n trivial (fun _ => b)).2 (fun z => (hb _ z).elim b fun q => by rw [e] at q; cases q) (Rels.monoB k hb r)
  | _, _, .scl e n b r => .scl (k.h _ _ e n trivial (fun _ => b)).1 (k.h _ _ e n trivial (fun _ => b)).2 (fun z => (hb _ z).elim b fun q => by rw [e] at q; cases q) (Rels.monoB k hb r)
  | _, _, .scr e n r => .scr (k.h _ _ e n trivial (fun z => z.elim)).1 (k.h _ _ e n trivial (fun z => z.elim)).2 (Rels.monoB k hb r)
  | _, _, .kscr e r => .kscr e (Rels.monoB k hb r)
  | _, _, .dct e n => .dct (k.h _ _ e n trivial (fun z => z.elim)).1 (k.h _ _ e n trivial (fun z => z.elim)).2
theorem Rels.monoB (k : KpB B H M H' M') (hb : ∀ a, B' a → B a ∨ H a = none) : ∀ {xs : List PV} {vs : List V}, Rels w H M B xs vs → Rels w H' M' B' xs vs
  | _, _, .nil => .nil
  | _, _, .cons r t => .cons (Rel.monoB k hb r) (Rels.monoB k hb t)
end
end
def ItR (w : Wd) (B : Addr → Prop) (H0 : Hp) (M0 : List Addr) (xs : List PV) (J : It) : Prop :=
  ∀ H M B', KpB B H0 M0 H M → (∀ a, a ∈ M → H a ≠ none) → (∀ a, B' a → B a ∨ H0 a = none) →
    (∀ i, i < xs.length → J.go i H) ∧ J.stop xs.length H ∧ ∀ i x H', i < xs.length → J.yld i H x H' → ∃ p, xs[i]? = some p ∧ (H' = H ∨ ∃ T o, H T = none ∧ H' = upd H T o) ∧ Rel w H' M B' p x
theorem ItR.rng {w : Wd} {B : Addr → Prop} {H0 : Hp} {M0 : List Addr} (lo : Int) (n : Nat) : ItR w B H0 M0 (rngL lo n) (Itr lo n) := by
  intro H M B' k hm hb
  have hl : (rngL lo n).length = n := by simp [rngL]
  rw [hl]
  refine ⟨fun i h => h, Nat.le_refl _, fun i x H' hi y => ?_⟩
  obtain ⟨e1, e2⟩ := y
  subst e1; subst e2
  exact ⟨.int (lo + i), by simp [rngL, hi], .inl rfl, .int _⟩
/-- a list or a tuple that stays -/
def Stay (w : Wd) (B : Addr → Prop) (H0 : Hp) (M0 : List Addr) (t : Bool) (a : Addr) (vs : List V) : Prop := ∀ H M, KpB B H0 M0 H M → SqB t w.K H a vs
theorem walkL_rel {w : Wd} {B : Addr → Prop} {H : Hp} {M : List Addr} {x : PV} {v : V} {xs : List PV} (e : walkL x = some xs) (r : Rel w H M B x v) : ∃ t a vs, v = .ref a ∧ Stay w B H M t a vs ∧ Rels w H M B xs vs := by
  cases r with
  | lst h n b r =>
    cases e
    exact ⟨false, _, _, rfl, fun H' M' k => .inl (.inl (k.h _ _ h n trivial (fun _ => b)).1), r⟩
  | scl h n b r =>
    cases e
    exact ⟨false, _, _, rfl, fun H' M' k => .inl (.inl (k.h _ _ h n trivial (fun _ => b)).1), r⟩
  | scr h n r =>
    cases e
    exact ⟨false, _, _, rfl, fun H' M' k => .inl (.inr ⟨_, (k.h _ _ h n trivial (fun z => z.elim)).1⟩), r⟩
  | kscr h r =>
    cases e
    exact ⟨false, _, _, rfl, fun H' M' k => .inr h, r⟩
  | tup h n r =>
    cases e
    exact ⟨true, _, _, rfl, fun H' M' k => .inl (.inl (k.h _ _ h n trivial (fun z => z.elim)).1), r⟩
  | ktup h r =>
    cases e
    exact ⟨true, _, _, rfl, fun H' M' k => .inr h, r⟩
  | _ => cases e
section
variable {w : Wd} {B : Addr → Prop} {H0 : Hp} {M0 : List Addr} {xs ys : List PV} {vs us : List V} {a b : Addr} {t u : Bool}
theorem rels_at {H : Hp} {M : List Addr} {B' : Addr → Prop} (k : KpB B H0 M0 H M) (hb : ∀ a, B' a → B a ∨ H0 a = none) (r : Rels w H0 M0 B xs vs) {i : Nat} {x : V} (e : vs[i]? = some x) : ∃ p, xs[i]? = some p ∧ Rel w H M B' p x := by
  obtain ⟨p, h1, h2⟩ := r.getV e
  exact ⟨p, h1, h2.monoB k hb⟩
theorem ItR.lst (s : Stay w B H0 M0 false a vs) (r : Rels w H0 M0 B xs vs) : ItR w B H0 M0 xs (Itl w.K a) := by
  intro H M B' k hm hb
  have q : SqL w.K H a vs := s H M k
  rw [r.length]
  refine ⟨fun i h => ⟨vs, vs[i], q, by simp [h]⟩, ⟨vs, q, Nat.le_refl _⟩, fun i x H' hi y => ?_⟩
  obtain ⟨e1, e2⟩ := y
  subst e1
  obtain ⟨p, h1, h2⟩ := rels_at k hb r (e2 vs q)
  exact ⟨p, h1, .inl rfl, h2⟩
theorem ItR.tup (s : Stay w B H0 M0 true a vs) (r : Rels w H0 M0 B xs vs) : ItR w B H0 M0 xs (Itt w.K a) := by
  intro H M B' k hm hb
  have q : SqT w.K H a vs := s H M k
  rw [r.length]
  refine ⟨fun i h => ⟨vs, vs[i], q, by simp [h]⟩, ⟨vs, q, Nat.le_refl _⟩, fun i x H' hi y => ?_⟩
  obtain ⟨e1, e2⟩ := y
  subst e1
  obtain ⟨p, h1, h2⟩ := rels_at k hb r (e2 vs q)
  exact ⟨p, h1, .inl rfl, h2⟩
theorem zipL_at {i : Nat} {p q : PV} (h1 : xs[i]? = some p) (h2 : ys[i]? = some q) : (zipL xs ys)[i]? = some (.tup [p, q]) := by
  have e : (xs.zip ys)[i]? = some (p, q) := by rw [List.getElem?_zip_eq_some]; exact ⟨h1, h2⟩
  unfold zipL
  rw [List.getElem?_map, e]; rfl
theorem zipL_len : (zipL xs ys).length = min xs.length ys.length := by simp [zipL]
theorem ItR.zip (s : Stay w B H0 M0 t a vs) (s2 : Stay w B H0 M0 u b us) (r : Rels w H0 M0 B xs vs) (r2 : Rels w H0 M0 B ys us) : ItR w B H0 M0 (zipL xs ys) (ItzG t u w.K a b) := by
  intro H M B' k hm hb
  have q := s H M k
  have q2 := s2 H M k
  rw [zipL_len, r.length, r2.length]
  refine ⟨fun i h => ⟨vs, us, vs[i]'(by omega), us[i]'(by omega), q, q2, List.getElem?_eq_getElem _, List.getElem?_eq_getElem _⟩, ⟨vs, us, q, q2, rfl⟩, fun i x H' hi y => ?_⟩
  obtain ⟨T, x1, y1, e1, hT, e2, h1, h2⟩ := y
  subst e1; subst e2
  obtain ⟨p, g1, g2⟩ := rels_at k hb r (h1 vs q)
  obtain ⟨p2, g3, g4⟩ := rels_at k hb r2 (h2 us q2)
  refine ⟨.tup [p, p2], zipL_at g1 g3, .inr ⟨T, _, hT, rfl⟩, ?_⟩
  exact .tup upd_same (fun z => hm T z hT) (.cons (g2.mono (.new hT)) (.cons (g4.mono (.new hT)) .nil))
theorem ItR.enu (s : Stay w B H0 M0 t a vs) (r : Rels w H0 M0 B xs vs) : ItR w B H0 M0 (enuL xs) (IteG t w.K a) := by
  intro H M B' k hm hb
  have q := s H M k
  have hl : (enuL xs).length = vs.length := by rw [enuL, zipL_len, ← r.length]; simp [rngL]
  rw [hl]
  refine ⟨fun i h => ⟨vs, vs[i], q, by simp [h]⟩, ⟨vs, q, rfl⟩, fun i x H' hi y => ?_⟩
  obtain ⟨T, x1, e1, hT, e2, h1⟩ := y
  subst e1; subst e2
  obtain ⟨p, g1, g2⟩ := rels_at k hb r (h1 vs q)
  refine ⟨.tup [.int i, p], ?_, .inr ⟨T, _, hT, rfl⟩, ?_⟩
  · have hi' : i < xs.length := by rw [r.length]; exact hi
    have e0 : (rngL 0 xs.length)[i]? = some (.int i) := by simp [rngL, hi']
    exact zipL_at e0 g1
  · exact .tup upd_same (fun z => hm T z hT) (.cons (.int _) (.cons (g2.mono (.new hT)) .nil))
end
end Mi

end

section
set_option linter.all false
set_option maxRecDepth 100000
/-! Mi, part H: expressions keep the promise. -/
namespace Mi
open PySem PySem.Spec PyProof.Rows L2

/-! ### fresh lists -/
def ResF (w : Wd) (B : Addr → Prop) (We : WeT) (H : Hp) (M : List Addr) (r : R PV) (Q : VK) : Prop :=
  match r with
  | .ok v st => ∃ xs, v = .lst xs ∧ ∀ p vs H' M', H p = none → H' p = some (.lst vs) → p ∉ M' → ¬ B p → Kp H M H' M' → Cels w H' M' (With B p) st → Rels w H' M' (With B p) xs vs → Q (.ref p) H'
  | .ex c st => ∀ H' M', Kp H M H' M' → Cels w H' M' B st → We c st H' M'
  | .bad => False
section
variable {α β : Type} {w : Wd} {B : Addr → Prop} {rel : Rl α β} {We : WeT} {H H' : Hp} {M M' : List Addr} {Q : VK} {st : Sto}
theorem ResF.mono {r : R PV} (h : ResF w B We H M r Q) (k : Kp H M H' M') : ResF w B We H' M' r Q := by
  cases r with
  | ok a st => obtain ⟨xs, e, h⟩ := h; exact ⟨xs, e, fun p vs H2 M2 hp h2 n b k2 s q => h p vs H2 M2 (k.d p hp) h2 n b (k.trans k2) s q⟩
  | ex c st => exact fun H2 M2 k2 s => h H2 M2 (k.trans k2) s
  | bad => exact h.elim
theorem ResF.bind {r : R α} {f : α → Sto → R PV} {Q2 : β → Hp → Prop} (h : ResF w B We H M (r.bind f) Q)
    (g : ∀ a st v H' M', Kp H M H' M' → Cels w H' M' B st → rel H' M' a v → ResF w B We H' M' (f a st) Q → Q2 v H') : Res w B rel We H M r Q2 := by
  cases r with
  | ok a st => exact fun v H2 M2 k2 s q => g a st v H2 M2 k2 s q (ResF.mono (show ResF w B We H M (f a st) Q from h) k2)
  | ex c st => exact h
  | bad => exact h
/-- a fresh list, left frozen -/
theorem ResF.of {r : R PV} (h : Res w B (RelR w B) We H M r Q) (hl : ∀ v st, r = .ok v st → ∃ xs, v = .lst xs) : ResF w B We H M r Q := by
  cases r with
  | ok a st =>
    obtain ⟨xs, e⟩ := hl a st rfl
    refine ⟨xs, e, ?_⟩
    intro p vs H2 M2 hp h2 n b k s q
    subst e
    exact h _ H2 M2 k (s.weak fun _ z => .inl z) (.lst h2 n b (q.weak fun _ z => .inl z))
  | ex c st => exact h
  | bad => exact h
theorem Cels.with (s : Cels w H M B st) {p : Addr} {o : HO} (hp : H p = none) : Cels w (upd H p o) M (With B p) st where
  len := s.len
  nd := s.nd
  nb := fun a h b => b.elim (s.nb a h) fun z => s.mem h (by rw [z]; exact hp)
  bk := fun a b => b.elim (fun z q => (s.new (o := o) hp).bk a z q) fun z => by rw [z, upd_same]; exact fun q => nomatch q
  at_ := fun n a c h e => by
    obtain ⟨o1, vs, e1, co, r⟩ := s.at_ n a c h e
    have hm : a ∈ M := List.mem_of_getElem? h
    exact ⟨o1, vs, by rw [upd_ne (fun z => s.mem hm (by rw [z]; exact hp))]; exact e1, co, (r.bchg fun a b => b.elim .inl fun z => .inr (by rw [z]; exact hp)).mono (.new hp)⟩
  nc := s.nc
  tb := (s.new hp).tb
/-- a list laid now -/
theorem ResF.now {xs : List PV} {vs : List V} (h : ResF w B We H M (.ok (.lst xs) st) Q) (s : Cels w H M B st) (r : Rels w H M B xs vs) {p : Addr} (hp : H p = none) : Q (.ref p) (upd H p (.lst vs)) :=
by
  obtain ⟨ys, e, h⟩ := h
  cases e
  exact h p vs _ M hp upd_same (fun z => s.mem z hp) (fun z => s.bk p z hp) (.new hp) (s.with hp) ((r.bchg fun a b => b.elim .inl fun z => .inr (by rw [z]; exact hp)).mono (.new hp))
end

/-! ### a point -/
structure Pt (I : Info) (G : GlobF) (cf : CallF) (X : Cx) (top : Bool) (We : WeS) (σ : L2.St) (ρ : Env') (H : Hp) (M : List Addr) (B : Addr → Prop) (st : Sto) : Prop where
  cx : Ctx I G cf X top We
  er : EnvR (wd X I.nm) H M B ρ σ
  cl : Cels (wd X I.nm) H M B st
  kc : I.tp = true → ∀ i, I.clo = some i → ∃ f M0 j, I.nm.clo = some f ∧ Room j X.A ∧ X.ex = [] ∧ Kp X.H_0 M0 H M ∧ CloAct X.prog X.w (wd X I.nm.o) X.base X.outer X.s_0 X.H_0 M0 B j f cf.clo
section
variable {I : Info} {G : GlobF} {cf : CallF}
theorem Pt.go {X : Cx} {top : Bool} {We : WeS} {σ : L2.St} {ρ : Env'} {H H' : Hp} {M M' : List Addr} {B : Addr → Prop} {st st' : Sto} (p : Pt I G cf X top We σ ρ H M B st) (k : Kp H M H' M') (s : Cels (wd X I.nm) H' M' B st') :
    Pt I G cf X top We σ ρ H' M' B st' := ⟨p.cx, p.er.mono k, s, fun ht i hi => let ⟨f, M0, j, e1, e2, e3, e4, e5⟩ := p.kc ht i hi; ⟨f, M0, j, e1, e2, e3, e4.trans k, e5⟩⟩
structure Snd (I : Info) (G : GlobF) (cf : CallF) (e : Ex) : Prop where
  E : ∀ {X : Cx} {top : Bool} {We : WeS} {σ : L2.St} {ρ : Env'} {H : Hp} {M : List Addr} {B : Addr → Prop} {st : Sto} {x : Expr} {Q : VK}, Pt I G cf X top We σ ρ H M B st → chkE I.st e X.env.scope x = true →
    Res (wd X I.nm) B (RelR (wd X I.nm) B) (We σ) H M (evE G cf e ρ st) Q → EvE X x σ H Q
  T : ∀ {X : Cx} {top : Bool} {We : WeS} {σ : L2.St} {ρ : Env'} {H : Hp} {M : List Addr} {B : Addr → Prop} {st : Sto} {x : Expr} {Q : Bool → Hp → Prop}, Pt I G cf X top We σ ρ H M B st → chkE I.st e X.env.scope x = true →
    Res (wd X I.nm) B RelB (We σ) H M (tstR false (evE G cf e ρ) st) Q → EvT X x σ H Q
  A : ∀ {X : Cx} {top : Bool} {We : WeS} {σ : L2.St} {ρ : Env'} {H : Hp} {M : List Addr} {B : Addr → Prop} {st : Sto} {xs : List Expr} {Q : List V → Hp → Prop}, Pt I G cf X top We σ ρ H M B st → chkA I.st e X.env.scope xs = true →
    Res (wd X I.nm) B (RelRs (wd X I.nm) B) (We σ) H M (evA G cf e ρ st) Q → EvA X xs σ H Q
  W : ∀ {X : Cx} {top : Bool} {We : WeS} {σ : L2.St} {ρ : Env'} {H : Hp} {M : List Addr} {B : Addr → Prop} {st : Sto} {t x : Expr} {Q : It → Hp → Prop}, Pt I G cf X top We σ ρ H M B st → chkI I.st e X.env.scope t x = true →
    Res (wd X I.nm) B (ItR (wd X I.nm) B) (We σ) H M (evI G cf e ρ st) Q → EvI X t x σ H Q
  F : ∀ {X : Cx} {top : Bool} {We : WeS} {σ : L2.St} {ρ : Env'} {H : Hp} {M : List Addr} {B : Addr → Prop} {st : Sto} {x : Expr} {Q : VK}, Pt I G cf X top We σ ρ H M B st → freshE e = true → chkE I.st e X.env.scope x = true →
    ResF (wd X I.nm) B (We σ) H M (evE G cf e ρ st) Q → EvE X x σ H Q

/-! ### what is plain -/
def plainT : Expr → Bool
  | .UnaryOp .Not _ _ => false
  | .BoolOp .. => false
  | .IfExp .. => false
  | .Compare .. => false
  | _ => true
theorem isTrue_pl {x : Expr} (h : plainT x = true) (env : Env) (whole : Sem Value) : isTrue x env whole = (do let v ← whole; standAt x.pos; holding [v] (truthy v)) := by
  cases x <;> first | rfl | (exact absurd h Bool.false_ne_true) | skip
  rename_i op _ _
  cases op <;> first | rfl | (exact absurd h Bool.false_ne_true)
theorem plainIx_of {b : Expr} (h : oddE b = false) : PlainIx b := by
  cases b <;> first | (exact fun _ _ => rfl) | (exact absurd h (by simp [oddE]))
theorem folded_of {x : Expr} (h : oddE x = false) (env : Env) (u : Value) : foldedSetIterable x env u = pure u := by
  cases x <;> first | rfl | (exact absurd h (by simp [oddE]))
theorem star_of {x : Expr} {xs : List Expr} (h : oddE x = false) (env : Env) : starEach (x :: xs) env = (false, eval x env) :: starEach xs env := by
  cases x <;> first | rfl | (exact absurd h (by simp [oddE]))
theorem marks_of {x : Expr} (op : CmpOp) (h : oddE x = false) : behindInMarks op x = false := by
  cases x <;> first | rfl | (exact absurd h (by simp [oddE]))
theorem chkA_star {sc : Scope} (env : Env) (pos : Pos) : ∀ (as : Ex) (xs : List Expr), chkA I.st as sc xs = true → (backTo pos (starEach xs env)).any (·.1) = false
  | .nil, xs, h => by
    cases xs with
    | nil => rfl
    | cons _ _ => simp [chkA] at h
  | .cons a as, xs, h => by
    cases xs with
    | nil => simp [chkA] at h
    | cons x xs =>
      obtain ⟨h1, h2⟩ := mem_bool (show (chkE I.st a sc x && chkA I.st as sc xs) = true from h)
      rw [star_of (chk_odd h1)]
      show (false || (backTo pos (starEach xs env)).any (·.1)) = false
      rw [chkA_star env pos as xs h2]; rfl
  | .var _, xs, h => by cases xs <;> simp [chkA] at h
  | .non, xs, h => by cases xs <;> simp [chkA] at h
  | .bl _, xs, h => by cases xs <;> simp [chkA] at h
  | .int _, xs, h => by cases xs <;> simp [chkA] at h
  | .str _, xs, h => by cases xs <;> simp [chkA] at h
  | .gl _, xs, h => by cases xs <;> simp [chkA] at h
  | .bty _, xs, h => by cases xs <;> simp [chkA] at h
  | .bin .., xs, h => by cases xs <;> simp [chkA] at h
  | .neg _, xs, h => by cases xs <;> simp [chkA] at h
  | .not _, xs, h => by cases xs <;> simp [chkA] at h
  | .and .., xs, h => by cases xs <;> simp [chkA] at h
  | .or .., xs, h => by cases xs <;> simp [chkA] at h
  | .cmp .., xs, h => by cases xs <;> simp [chkA] at h
  | .chn .., xs, h => by cases xs <;> simp [chkA] at h
  | .ite .., xs, h => by cases xs <;> simp [chkA] at h
  | .tup _, xs, h => by cases xs <;> simp [chkA] at h
  | .lst _, xs, h => by cases xs <;> simp [chkA] at h
  | .cell _, xs, h => by cases xs <;> simp [chkA] at h
  | .call .., xs, h => by cases xs <;> simp [chkA] at h
  | .bi .., xs, h => by cases xs <;> simp [chkA] at h
  | .idx .., xs, h => by cases xs <;> simp [chkA] at h
  | .sli .., xs, h => by cases xs <;> simp [chkA] at h
  | .omit, xs, h => by cases xs <;> simp [chkA] at h
  | .comp .., xs, h => by cases xs <;> simp [chkA] at h
  | .lrg .., xs, h => by cases xs <;> simp [chkA] at h
  | .lrd .., xs, h => by cases xs <;> simp [chkA] at h
  | .rng1 _, xs, h => by cases xs <;> simp [chkA] at h
  | .rng2 .., xs, h => by cases xs <;> simp [chkA] at h
  | .zip .., xs, h => by cases xs <;> simp [chkA] at h
  | .enu _, xs, h => by cases xs <;> simp [chkA] at h
  | .sq _, xs, h => by cases xs <;> simp [chkA] at h
  | .fld .., xs, h => by cases xs <;> simp [chkA] at h
  | .prop .., xs, h => by cases xs <;> simp [chkA] at h
  | .meth .., xs, h => by cases xs <;> simp [chkA] at h
  | .item .., xs, h => by cases xs <;> simp [chkA] at h
  | .ocall .., xs, h => by cases xs <;> simp [chkA] at h
  | .ostr .., xs, h => by cases xs <;> simp [chkA] at h
  | .olen .., xs, h => by cases xs <;> simp [chkA] at h
  | .obool .., xs, h => by cases xs <;> simp [chkA] at h
  | .obin .., xs, h => by cases xs <;> simp [chkA] at h
  | .oinv .., xs, h => by cases xs <;> simp [chkA] at h
  | .ceq .., xs, h => by cases xs <;> simp [chkA] at h
  | .isin .., xs, h => by cases xs <;> simp [chkA] at h
  | .mk .., xs, h => by cases xs <;> simp [chkA] at h
  | .mks .., xs, h => by cases xs <;> simp [chkA] at h
  | .cm .., xs, h => by cases xs <;> simp [chkA] at h
  | .isc .., xs, h => by cases xs <;> simp [chkA] at h
  | .join .., xs, h => by cases xs <;> simp [chkA] at h
  | .spl .., xs, h => by cases xs <;> simp [chkA] at h
  | .fmt _, xs, h => by cases xs <;> simp [chkA] at h
  | .fs _, xs, h => by cases xs <;> simp [chkA] at h
  | .bot, xs, h => by cases xs <;> simp [chkA] at h

def Ex.isA : Ex → Bool
  | .nil => true
  | .cons .. => true
  | _ => false
def Ex.isI : Ex → Bool
  | .rng1 .. => true
  | .rng2 .. => true
  | .zip .. => true
  | .enu .. => true
  | .sq .. => true
  | _ => false
def Ex.pl : Ex → Bool
  | .not _ => false
  | .and .. => false
  | .or .. => false
  | .cmp .. => false
  | .chn .. => false
  | .ite .. => false
  | .ceq .. => false
  | .isin .. => false
  | .bot => false
  | _ => true
theorem noA {e : Ex} {sc : Scope} {xs : List Expr} (he : e.isA = false) (h : chkA I.st e sc xs = true) : False := by
  cases e <;> first | (cases he; done) | (cases xs <;> exact absurd h Bool.false_ne_true)
theorem noI {e : Ex} {sc : Scope} {t x : Expr} (he : e.isI = false) (h : chkI I.st e sc t x = true) : False := by
  cases e <;> first | (cases he; done) | (simp [chkI] at h)
theorem chk_plain {e : Ex} {sc : Scope} {x : Expr} (he : e.pl = true) (h : chkE I.st e sc x = true) : plainT x = true := by
  induction e generalizing x with
  | cell e ih =>
    obtain ⟨h1, h2⟩ := mem_bool (show (freshE e && chkE I.st e sc x) = true from h)
    exact ih (by cases e <;> first | rfl | (cases h1; done)) h2
  | neg e ih => cases x <;> first | rfl | (exact absurd h Bool.false_ne_true) | (rename_i op _ _; cases op <;> first | rfl | (exact absurd h Bool.false_ne_true))
  | _ => cases x <;> first | rfl | (cases he; done) | (exact absurd h Bool.false_ne_true) | (rename_i op _ _; cases op <;> first | rfl | (exact absurd h Bool.false_ne_true))
abbrev ESnd (I : Info) (G : GlobF) (cf : CallF) (e : Ex) : Prop := ∀ {X : Cx} {top : Bool} {We : WeS} {σ : L2.St} {ρ : Env'} {H : Hp} {M : List Addr} {B : Addr → Prop} {st : Sto} {x : Expr} {Q : VK}, Pt I G cf X top We σ ρ H M B st → chkE I.st e X.env.scope x = true →
    Res (wd X I.nm) B (RelR (wd X I.nm) B) (We σ) H M (evE G cf e ρ st) Q → EvE X x σ H Q
abbrev FSnd (I : Info) (G : GlobF) (cf : CallF) (e : Ex) : Prop := ∀ {X : Cx} {top : Bool} {We : WeS} {σ : L2.St} {ρ : Env'} {H : Hp} {M : List Addr} {B : Addr → Prop} {st : Sto} {x : Expr} {Q : VK}, Pt I G cf X top We σ ρ H M B st → freshE e = true → chkE I.st e X.env.scope x = true →
    ResF (wd X I.nm) B (We σ) H M (evE G cf e ρ st) Q → EvE X x σ H Q
theorem snd_F {e : Ex} (hE : ESnd I G cf e) (hp : e.pl = true) (hA : e.isA = false) (hI : e.isI = false) (hF : FSnd I G cf e) : Snd I G cf e where
  E := hE
  T := fun p h r => by
    refine evT_of (pt_truth pe_ev (isTrue_pl (chk_plain hp h) _)) ?_
    refine hE p h (Res.bind (rel2 := RelB) (f := fun x st1 => R.lift (truV st1 x) st1) r fun a st v H' M' k s ra r2 => ?_)
    cases e : truV st a with
    | none => rw [e] at r2; exact r2.elim
    | some c => rw [e] at r2; exact ⟨c, tru_of e s ra, r2 c H' M' (.refl _ _) s rfl⟩
  A := fun p h => (noA hA h).elim
  W := fun p h => (noI hI h).elim
  F := hF
theorem snd_of {e : Ex} (hE : ESnd I G cf e) (hp : e.pl = true) (hA : e.isA = false) (hI : e.isI = false) (hF : freshE e = false) : Snd I G cf e :=
  snd_F hE hp hA hI fun p hf => by rw [hF] at hf; cases hf
theorem gl_of {X : Cx} {x : Str} (h : glB X.env.scope x = true) : Gl X x := by
  unfold glB at h
  split at h
  · rename_i e; exact e
  · cases h
theorem nodbg_of {x : Str} (h : nodbg x = true) : (x == ("__debug__" : Str)) = false := by
  unfold nodbg at h
  cases q : (x == ("__debug__" : Str)) with
  | false => rfl
  | true => rw [q] at h; cases h
theorem vis_of {sc : Scope} {x : Str} (h : visB sc x = true) : Vis sc x := by
  unfold visB at h
  split at h
  · rename_i e; exact .inl e
  · rename_i e; exact .inr (.inl e)
  · rename_i e; exact .inr (.inr e)
  · cases h
theorem bty_boot {n : String} {x : Str} (h : btyB n x = true) : bootBuiltins x = some (.type n) ∧ x ≠ "__name__" ∧ x ∈ bnames := by
  unfold btyB tyNames at h
  simp only [List.any_cons, List.any_nil, Bool.or_false, Bool.or_eq_true, Bool.and_eq_true, decide_eq_true_eq] at h
  rcases h with ⟨rfl, rfl⟩ | ⟨rfl, rfl⟩ | ⟨rfl, rfl⟩ | ⟨rfl, rfl⟩ | ⟨rfl, rfl⟩ <;> exact ⟨rfl, by decide, by decide⟩
theorem snd_var (i : Nat) : Snd I G cf (.var i) := snd_of (fun {X top We σ ρ H M B st x Q} p h r => by
  cases x <;> first | (exact absurd h Bool.false_ne_true) | skip
  rename_i n pos
  obtain ⟨h1, h2⟩ := mem_bool (show (decide (I.N[i]? = some n) && (visB X.env.scope n && (nodbg n && !(n == ("__classdict__" : Str))))) = true from h)
  obtain ⟨h2, h3⟩ := mem_bool h2
  obtain ⟨h3, h4⟩ := mem_bool h3
  obtain ⟨c, e, q⟩ := Res.liftE r
  refine evE_of (pe_var (i := i) (by rw [p.cx.N]; exact of_decide_eq_true h1) (vis_of h2) (nodbg_of h3) (by simpa using h4)) ?_
  cases e1 : ρ[i]? with
  | none => rw [e1] at e; cases e
  | some o =>
    rw [e1] at e
    have e : o = some c := e
    subst e
    obtain ⟨u, h5, ru⟩ := p.er.2 i c e1
    exact ⟨u, h5, q.now p.cl ru⟩) rfl rfl rfl rfl
theorem snd_non : Snd I G cf .non := snd_of (fun {X top We σ ρ H M B st x Q} p h r => by
  cases x <;> first | (exact absurd h Bool.false_ne_true) | skip
  rename_i c _ _
  cases c <;> first | (exact absurd h Bool.false_ne_true) | skip
  exact evE_of pe_non (Res.aft r |>.now p.cl .non)) rfl rfl rfl rfl
theorem snd_bl (b : Bool) : Snd I G cf (.bl b) := snd_of (fun {X top We σ ρ H M B st x Q} p h r => by
  cases x <;> first | (exact absurd h Bool.false_ne_true) | skip
  rename_i c _ _
  cases c <;> first | (exact absurd h Bool.false_ne_true) | skip
  rename_i b'
  have e : b = b' := eq_of_beq (show (b == b') = true from h)
  subst e
  exact evE_of pe_bl (Res.aft r |>.now p.cl (.bl _))) rfl rfl rfl rfl
theorem snd_int (b : Int) : Snd I G cf (.int b) := snd_of (fun {X top We σ ρ H M B st x Q} p h r => by
  cases x <;> first | (exact absurd h Bool.false_ne_true) | skip
  rename_i c _ _
  cases c <;> first | (exact absurd h Bool.false_ne_true) | skip
  rename_i b'
  have e : b = b' := eq_of_beq (show (b == b') = true from h)
  subst e
  exact evE_of pe_int (Res.aft r |>.now p.cl (.int _))) rfl rfl rfl rfl
theorem snd_str (b : Str) : Snd I G cf (.str b) := snd_of (fun {X top We σ ρ H M B st x Q} p h r => by
  cases x <;> first | (exact absurd h Bool.false_ne_true) | skip
  rename_i c _ _
  cases c <;> first | (exact absurd h Bool.false_ne_true) | skip
  rename_i b'
  have e : b = b' := of_decide_eq_true (show (decide (b = b')) = true from h)
  subst e
  exact evE_of pe_str (Res.aft r |>.now p.cl (.str _))) rfl rfl rfl rfl
theorem snd_gl (g : Nat) : Snd I G cf (.gl g) := snd_of (fun {X top We σ ρ H M B st x Q} p h r => by
  cases x <;> first | (exact absurd h Bool.false_ne_true) | skip
  rename_i n pos
  obtain ⟨h1, h2⟩ := mem_bool (show (decide (I.nm g = n) && (glB X.env.scope n && nodbg n)) = true from h)
  obtain ⟨h2, h3⟩ := mem_bool h2
  obtain ⟨c, e, q⟩ := Res.liftE r
  obtain ⟨u, y, m, rv, rr⟩ := p.cx.glob g c e
  rw [of_decide_eq_true h1] at m
  exact evE_of (pe_glob (gl_of h2) m rv (nodbg_of h3)) (q.now p.cl (rr _ _ _))) rfl rfl rfl rfl
theorem snd_bty (n : String) : Snd I G cf (.bty n) := snd_of (fun {X top We σ ρ H M B st x Q} p h r => by
  cases x <;> first | (exact absurd h Bool.false_ne_true) | skip
  rename_i n' pos
  obtain ⟨h1, h2⟩ := mem_bool (show (btyB n n' && (glB X.env.scope n' && nodbg n')) = true from h)
  obtain ⟨h2, h3⟩ := mem_bool h2
  obtain ⟨b1, b2, b3⟩ := bty_boot h1
  exact evE_of (pe_bltn (v := .ty n) (gl_of h2) (p.cx.free _ b3) b1 rfl b2 (nodbg_of h3)) (Res.aft r |>.now p.cl (.ty _))) rfl rfl rfl rfl
/-- two in a row -/
theorem two {a b : Ex} (ha : Snd I G cf a) (hb : Snd I G cf b) {α β : Type} {X : Cx} {top : Bool} {We : WeS} {σ : L2.St} {ρ : Env'} {H : Hp} {M : List Addr} {B : Addr → Prop} {st : Sto} {l r : Expr} {rel : Rl α β} {Q : β → Hp → Prop} {f : PV → PV → Sto → R α} {k : V → V → Hp → Prop}
    (p : Pt I G cf X top We σ ρ H M B st) (h1 : chkE I.st a X.env.scope l = true) (h2 : chkE I.st b X.env.scope r = true)
    (hr : Res (wd X I.nm) B rel (We σ) H M ((evE G cf a ρ st).bind fun x st1 => (evE G cf b ρ st1).bind fun y st2 => f x y st2) Q)
    (g : ∀ x y st2 u v H2 M2, Kp H M H2 M2 → Pt I G cf X top We σ ρ H2 M2 B st2 → Rel (wd X I.nm) H2 M2 B x u → Rel (wd X I.nm) H2 M2 B y v → Res (wd X I.nm) B rel (We σ) H2 M2 (f x y st2) Q → k u v H2) :
    EvE X l σ H fun u H1 => EvE X r σ H1 fun v H2 => k u v H2 :=
  ha.E p h1 (Res.bind hr fun x st1 u H1 M1 k1 s1 r1 hr1 => hb.E (p.go k1 s1) h2 (Res.bind hr1 fun y st2 v H2 M2 k2 s2 r2 hr2 =>
    g x y st2 u v H2 M2 (k1.trans k2) (p.go (k1.trans k2) s2) (r1.mono k2) r2 hr2))
theorem ResF.liftE {w : Wd} {B : Addr → Prop} {We : WeT} {H : Hp} {M : List Addr} {Q : VK} {st : Sto} {o : Option PV} (h : ResF w B We H M (R.lift o st) Q) : ∃ xs, o = some (.lst xs) ∧ ResF w B We H M (.ok (.lst xs) st) Q := by
  cases o with
  | none => exact h.elim
  | some c =>
    have h' := h
    obtain ⟨xs, e, _⟩ := h'
    subst e
    exact ⟨xs, rfl, h⟩
theorem mul_lst {st : Sto} {a b : PV} {ys : List PV} (e : binV st .Mult a b = some (.lst ys)) : ∃ xs k, a = .lst xs ∧ b = .int k ∧ ys = (List.replicate k.toNat xs).flatten ∧ 0 ≤ k ∧ k ≤ 1000 ∧ xs.length ≤ 1000 := by
  unfold binV at e
  split at e <;> first | contradiction | skip
  · split at e <;> cases e
  · split at e <;> cases e
  · split at e
    · rename_i h
      cases e
      obtain ⟨h1, h0⟩ := Bool.and_eq_true_iff.mp h
      obtain ⟨h2, h3⟩ := Bool.and_eq_true_iff.mp h0
      exact ⟨_, _, rfl, rfl, rfl, of_decide_eq_true h1, of_decide_eq_true h2, of_decide_eq_true h3⟩
    · cases e
theorem mul_ok {X : Cx} {nm : Nm} {H : Hp} {M : List Addr} {B : Addr → Prop} {st : Sto} {Q : VK} {We : WeT} {a b : PV} {x y : V} (s : Cels (wd X nm) H M B st) (ra : Rel (wd X nm) H M B a x) (rb : Rel (wd X nm) H M B b y)
    (h : ResF (wd X nm) B We H M (R.lift (binV st .Mult a b) st) Q) : OpE X (binaryOp .Mult) x y H Q := by
  have lb := line_big
  obtain ⟨ys, e, h⟩ := h.liftE
  obtain ⟨xs, k, rfl, rfl, rfl, h1, h2, h3⟩ := mul_lst e
  cases rb
  obtain ⟨p1, vs, e1, s1, r1⟩ := ra.lstL
  subst e1
  refine .of op_rep ⟨_, _, vs, rfl, rfl, s1, by omega, by omega, ?_, fun p hp => ResF.now h s (r1.rep _) hp⟩
  rw [← r1.length]
  exact Nat.le_trans (Nat.mul_le_mul h3 (show k.toNat ≤ 1000 by omega)) (Nat.le_trans (by decide) lb)
theorem snd_bin (o : Operator) (a b : Ex) (ha : Snd I G cf a) (hb : Snd I G cf b) : Snd I G cf (.bin o a b) := by
  have inv : ∀ {X : Cx} {x : Expr}, chkE I.st (.bin o a b) X.env.scope x = true → ∃ l r pos, x = .BinOp l o r pos ∧ chkE I.st a X.env.scope l = true ∧ chkE I.st b X.env.scope r = true := fun {X x} h => by
    cases x <;> first | (exact absurd h Bool.false_ne_true) | skip
    rename_i l o' r pos
    obtain ⟨h1, h2⟩ := mem_bool (show (decide (o = o') && (chkE I.st a X.env.scope l && chkE I.st b X.env.scope r)) = true from h)
    obtain ⟨h2, h3⟩ := mem_bool h2
    exact ⟨l, r, pos, by rw [of_decide_eq_true h1], h2, h3⟩
  refine snd_F (fun {X top We σ ρ H M B st x Q} p h r => ?_) rfl rfl rfl (fun {X top We σ ρ H M B st x Q} p hf h r => ?_)
  · obtain ⟨l, rr, pos, rfl, h2, h3⟩ := inv h
    refine evE_of (pe_op op_ev pe_ev pe_ev) (two ha hb p h2 h3 r fun x y st2 u v H2 M2 k p2 r1 r2 hr => ?_)
    obtain ⟨c, e, q⟩ := Res.liftE hr
    exact bin_ok e p2.cl r1 r2 q
  · obtain ⟨l, rr, pos, rfl, h2, h3⟩ := inv h
    cases o <;> first | (cases hf; done) | skip
    refine evE_of (pe_op op_ev pe_ev pe_ev) (ha.E p h2 (ResF.bind r fun x st1 u H1 M1 k1 s1 r1 hr1 => hb.E (p.go k1 s1) h3 (ResF.bind hr1 fun y st2 v H2 M2 k2 s2 r2 hr2 => ?_)))
    exact mul_ok s2 (r1.mono k2) r2 hr2

theorem snd_neg (a : Ex) (ha : Snd I G cf a) : Snd I G cf (.neg a) := snd_of (fun {X top We σ ρ H M B st x Q} p h r => by
  cases x <;> first | (exact absurd h Bool.false_ne_true) | skip
  rename_i op e pos
  cases op <;> first | (exact absurd h Bool.false_ne_true) | skip
  refine evE_of (pe_un un_neg pe_ev) (ha.E p h (Res.bind r fun x st1 u H1 M1 k1 s1 r1 hr1 => ?_))
  obtain ⟨c, e, q⟩ := Res.liftE hr1
  cases x <;> first | (cases e; done) | skip
  cases e
  cases r1
  exact ⟨_, rfl, q.now s1 (.int _)⟩) rfl rfl rfl rfl
/-- a test as a value -/
theorem Res.tst {w : Wd} {B : Addr → Prop} {We : WeT} {H : Hp} {M : List Addr} {st : Sto} {b : Bool} {Q : Bool → Hp → Prop} {H' : Hp} {M' : List Addr} (h : Res w B RelB We H M (.ok b st) Q) (k : Kp H M H' M') (s : Cels w H' M' B st) : Q b H' := h b H' M' k s rfl
theorem tru_res {X : Cx} {nm : Nm} {H : Hp} {M : List Addr} {B : Addr → Prop} {st : Sto} {Q : Bool → Hp → Prop} {We : WeT} {a : PV} {v : V} (h : Res (wd X nm) B RelB We H M (R.lift (truV st a) st) Q) (s : Cels (wd X nm) H M B st) (r : Rel (wd X nm) H M B a v) :
    ∃ k, TruV X.K v H k ∧ Q k H := by
  cases e : truV st a with
  | none => rw [e] at h; exact h.elim
  | some c => rw [e] at h; exact ⟨c, tru_of e s r, h c H M (.refl _ _) s rfl⟩
/-- not, of any truth -/
theorem pe_notT {X : Cx} {a : Expr} {pos : Pos} {ta : TE} (ha : PE X a ta) : PE X (.UnaryOp .Not a pos) (fun σ H Q => ta σ H fun x H1 => ∃ k, TruV X.K x H1 k ∧ Q (.bl (!k)) H1) := by
  refine ⟨fun pins s σ H Q I h => ?_⟩
  refine UnaryOp_ (thn (ha.run pins s σ H _ I h) fun v s1 ⟨x, H1, I1, r1, k, hk, q1⟩ => ?_)
  exact not_of (thn (tru_ok pins s1 σ H1 x v (fun b H' => b = k ∧ H' = H1) I1 r1 ⟨k, hk, rfl, rfl⟩) fun b s2 ⟨H2, I2, e1, e2⟩ => by subst e1; subst e2; exact ⟨.bl (!b), _, I2, rfl, q1⟩)
theorem snd_not (a : Ex) (ha : Snd I G cf a) : Snd I G cf (.not a) where
  E := fun {X top We σ ρ H M B st x Q} p h r => by
    cases x <;> first | (exact absurd h Bool.false_ne_true) | skip
    rename_i op e pos
    cases op <;> first | (exact absurd h Bool.false_ne_true) | skip
    have r' : Res (wd X I.nm) B (RelR (wd X I.nm) B) (We σ) H M (((evE G cf a ρ st).bind fun x st1 => R.lift (truV st1 x) st1).bind fun b st1 => .ok (.bl (!b)) st1) Q := r
    refine evE_of (pe_notT pe_ev) (ha.E p h (Res.bind (rel2 := RelB) (Q2 := fun b H1 => Q (.bl (!b)) H1) (Res.bind r' fun b st1 b' H1 M1 k1 s1 e1 hr1 => ?_) fun x st1 u H1 M1 k1 s1 r1 hr1 => tru_res hr1 s1 r1))
    subst e1
    exact hr1.aft.now s1 (.bl _)
  T := fun {X top We σ ρ H M B st x Q} p h r => by
    cases x <;> first | (exact absurd h Bool.false_ne_true) | skip
    rename_i op e pos
    cases op <;> first | (exact absurd h Bool.false_ne_true) | skip
    refine evT_of (pt_not pt_ev) (ha.T p h (Res.bind (rel2 := RelB) (f := fun b st1 => (R.ok (.bl (!b)) st1).bind fun x st1 => R.lift (truV st1 x) st1) (Q2 := Q) ?_ fun b st1 b' H1 M1 k1 s1 e1 hr1 => ?_))
    · have r' : Res (wd X I.nm) B RelB (We σ) H M (((tstR false (evE G cf a ρ) st).bind fun b st1 => .ok (.bl (!b)) st1).bind fun x st1 => R.lift (truV st1 x) st1) Q := r
      cases q : tstR false (evE G cf a ρ) st with
      | ok b st1 => rw [q] at r'; exact r'
      | ex c st1 => rw [q] at r'; exact r'
      | bad => rw [q] at r'; exact r'
    · subst e1
      exact hr1 _ H1 M1 (.refl _ _) s1 rfl
  A := fun p h => (noA rfl h).elim
  W := fun p h => (noI rfl h).elim
  F := fun p hf => by cases hf
theorem Res.assoc {α β γ δ : Type} {w : Wd} {B : Addr → Prop} {rel : Rl γ δ} {We : WeT} {H : Hp} {M : List Addr} {r : R α} {f : α → Sto → R β} {g : β → Sto → R γ} {Q : δ → Hp → Prop} (h : Res w B rel We H M ((r.bind f).bind g) Q) :
    Res w B rel We H M (r.bind fun a st => (f a st).bind g) Q := by
  cases r with
  | ok a st => exact h
  | ex c st => exact h
  | bad => exact h
/-- a bool, tested -/
theorem Res.tstBl {w : Wd} {B : Addr → Prop} {We : WeT} {H : Hp} {M : List Addr} {st : Sto} {b : Bool} {Q : Bool → Hp → Prop} (h : Res w B RelB We H M ((R.ok (PV.bl b) st).bind fun x st1 => R.lift (truV st1 x) st1) Q) : Res w B RelB We H M (.ok b st) Q := h
theorem isTrue_bool {op : BoolOp} {es : List Expr} {pos : Pos} {env : Env} (w1 w2 : Sem Value) : isTrue (.BoolOp op es pos) env w1 = isTrue (.BoolOp op es pos) env w2 := rfl
theorem pw_ev {X : Cx} {op : BoolOp} {es : List Expr} {pos : Pos} : PW X (.BoolOp op es pos) (EvT X (.BoolOp op es pos)) := ⟨fun _ pins s _ _ _ I h => h pins s I⟩
/-- what and, or are in the text -/
theorem chk_bool {op : BoolOp} {a b : Ex} {e : Ex} (he : e = (match op with | .And => Ex.and a b | .Or => Ex.or a b)) {sc : Scope} {x : Expr} (h : chkE I.st e sc x = true) : ∃ l r rest pos, x = .BoolOp op (l :: r :: rest) pos ∧ chkE I.st a sc l = true ∧
    ((rest = [] ∧ chkE I.st b sc r = true) ∨ (rest ≠ [] ∧ chkE I.st b sc (.BoolOp op (r :: rest) pos) = true)) := by
  subst he
  cases op <;> (
    cases x <;> first | (exact absurd h Bool.false_ne_true) | skip
    rename_i o es pos
    cases o <;> first | (exact absurd h Bool.false_ne_true) | skip
    cases es with
    | nil => exact absurd h Bool.false_ne_true
    | cons l es =>
      cases es with
      | nil => exact absurd h Bool.false_ne_true
      | cons r rest =>
        cases rest with
        | nil =>
          obtain ⟨h1, h2⟩ := mem_bool (show (chkE I.st a sc l && chkE I.st b sc r) = true from h)
          exact ⟨l, r, [], pos, rfl, h1, .inl ⟨rfl, h2⟩⟩
        | cons z rest =>
          obtain ⟨h1, h2⟩ := mem_bool (show (chkE I.st a sc l && chkE I.st b sc (.BoolOp _ (r :: z :: rest) pos)) = true from h)
          exact ⟨l, r, z :: rest, pos, rfl, h1, .inr ⟨by simp, h2⟩⟩)
theorem snd_and (a b : Ex) (ha : Snd I G cf a) (hb : Snd I G cf b) : Snd I G cf (.and a b) where
  E := fun {X top We σ ρ H M B st x Q} p h r => by
    obtain ⟨l, rr, rest, pos, rfl, h1, h2⟩ := chk_bool (op := .And) rfl h
    have fin : ∀ {tb : TE}, PE X (.BoolOp .And (rr :: rest) pos) tb → (∀ st' H' M', Pt I G cf X top We σ ρ H' M' B st' → Res (wd X I.nm) B (RelR (wd X I.nm) B) (We σ) H' M' (evE G cf b ρ st') Q → tb σ H' Q) → EvE X (.BoolOp .And (l :: rr :: rest) pos) σ H Q := fun hp hq => by
      refine evE_of (pe_and pe_ev hp) (ha.E p h1 (Res.bind r fun x st1 u H1 M1 k1 s1 r1 hr1 => ?_))
      cases x <;> first | (exact hr1.elim) | skip
      rename_i c
      cases r1
      refine ⟨c, rfl, ?_⟩
      cases c with
      | true => rw [if_pos rfl]; exact hq st1 H1 M1 (p.go k1 s1) hr1
      | false => rw [if_neg Bool.false_ne_true]; exact hr1.aft.now s1 (.bl _)
    rcases h2 with ⟨rfl, h2⟩ | ⟨hn, h2⟩
    · exact fin (pe_one pe_ev) fun st' H' M' p' hr => hb.E p' h2 hr
    · exact fin pe_ev fun st' H' M' p' hr => hb.E p' h2 hr
  T := fun {X top We σ ρ H M B st x Q} p h r => by
    obtain ⟨l, rr, rest, pos, rfl, h1, h2⟩ := chk_bool (op := .And) rfl h
    have r' : Res (wd X I.nm) B RelB (We σ) H M (((evE G cf a ρ st).bind fun x st1 => match x with
      | .bl true => evE G cf b ρ st1
      | .bl false => .ok (.bl false) st1
      | _ => .bad).bind fun x st1 => R.lift (truV st1 x) st1) Q := r
    have fin : ∀ {tb : TT}, PW X (.BoolOp .And (rr :: rest) pos) tb → (∀ st' H' M', Pt I G cf X top We σ ρ H' M' B st' → Res (wd X I.nm) B RelB (We σ) H' M' (tstR false (evE G cf b ρ) st') Q → tb σ H' Q) → EvT X (.BoolOp .And (l :: rr :: rest) pos) σ H Q := fun hp hq => by
      refine evT_of (pw_and pt_ev hp).pt (ha.T p h1 ?_)
      cases q : evE G cf a ρ st with
      | ok x st1 =>
        rw [q] at r'
        show Res _ _ _ _ _ _ ((evE G cf a ρ st).bind fun x st1 => R.lift (truV st1 x) st1) _
        rw [q]
        cases x <;> first | (exact r'.elim) | skip
        intro c' H1 M1 k1 s1 e1
        subst e1
        cases c' with
        | true => rw [if_pos rfl]; exact hq st1 H1 M1 (p.go k1 s1) (Res.mono r' k1)
        | false => rw [if_neg Bool.false_ne_true]; exact r' _ H1 M1 k1 s1 rfl
      | ex c st1 =>
        rw [q] at r'
        show Res _ _ _ _ _ _ ((evE G cf a ρ st).bind fun x st1 => R.lift (truV st1 x) st1) _
        rw [q]; exact r'
      | bad => rw [q] at r'; exact r'.elim
    rcases h2 with ⟨rfl, h2⟩ | ⟨hn, h2⟩
    · exact fin (pw_and1 pt_ev) fun st' H' M' p' hr => hb.T p' h2 hr
    · exact fin pw_ev fun st' H' M' p' hr => hb.T p' h2 hr
  A := fun p h => (noA rfl h).elim
  W := fun p h => (noI rfl h).elim
  F := fun p hf => by cases hf
theorem snd_or (a b : Ex) (ha : Snd I G cf a) (hb : Snd I G cf b) : Snd I G cf (.or a b) where
  E := fun {X top We σ ρ H M B st x Q} p h r => by
    obtain ⟨l, rr, rest, pos, rfl, h1, h2⟩ := chk_bool (op := .Or) rfl h
    have fin : ∀ {tb : TE}, PE X (.BoolOp .Or (rr :: rest) pos) tb → (∀ st' H' M', Pt I G cf X top We σ ρ H' M' B st' → Res (wd X I.nm) B (RelR (wd X I.nm) B) (We σ) H' M' (evE G cf b ρ st') Q → tb σ H' Q) → EvE X (.BoolOp .Or (l :: rr :: rest) pos) σ H Q := fun hp hq => by
      refine evE_of (pe_or pe_ev hp) (ha.E p h1 (Res.bind r fun x st1 u H1 M1 k1 s1 r1 hr1 => ?_))
      cases x <;> first | (exact hr1.elim) | skip
      rename_i c
      cases r1
      refine ⟨c, rfl, ?_⟩
      cases c with
      | false => rw [if_neg Bool.false_ne_true]; exact hq st1 H1 M1 (p.go k1 s1) hr1
      | true => rw [if_pos rfl]; exact hr1.aft.now s1 (.bl _)
    rcases h2 with ⟨rfl, h2⟩ | ⟨hn, h2⟩
    · exact fin (pe_one pe_ev) fun st' H' M' p' hr => hb.E p' h2 hr
    · exact fin pe_ev fun st' H' M' p' hr => hb.E p' h2 hr
  T := fun {X top We σ ρ H M B st x Q} p h r => by
    obtain ⟨l, rr, rest, pos, rfl, h1, h2⟩ := chk_bool (op := .Or) rfl h
    have r' : Res (wd X I.nm) B RelB (We σ) H M (((evE G cf a ρ st).bind fun x st1 => match x with
      | .bl true => .ok (.bl true) st1
      | .bl false => evE G cf b ρ st1
      | _ => .bad).bind fun x st1 => R.lift (truV st1 x) st1) Q := r
    have fin : ∀ {tb : TT}, PW X (.BoolOp .Or (rr :: rest) pos) tb → (∀ st' H' M', Pt I G cf X top We σ ρ H' M' B st' → Res (wd X I.nm) B RelB (We σ) H' M' (tstR false (evE G cf b ρ) st') Q → tb σ H' Q) → EvT X (.BoolOp .Or (l :: rr :: rest) pos) σ H Q := fun hp hq => by
      refine evT_of (pw_or pt_ev hp).pt (ha.T p h1 ?_)
      cases q : evE G cf a ρ st with
      | ok x st1 =>
        rw [q] at r'
        show Res _ _ _ _ _ _ ((evE G cf a ρ st).bind fun x st1 => R.lift (truV st1 x) st1) _
        rw [q]
        cases x <;> first | (exact r'.elim) | skip
        intro c' H1 M1 k1 s1 e1
        subst e1
        cases c' with
        | false => rw [if_neg Bool.false_ne_true]; exact hq st1 H1 M1 (p.go k1 s1) (Res.mono r' k1)
        | true => rw [if_pos rfl]; exact r' _ H1 M1 k1 s1 rfl
      | ex c st1 =>
        rw [q] at r'
        show Res _ _ _ _ _ _ ((evE G cf a ρ st).bind fun x st1 => R.lift (truV st1 x) st1) _
        rw [q]; exact r'
      | bad => rw [q] at r'; exact r'.elim
    rcases h2 with ⟨rfl, h2⟩ | ⟨hn, h2⟩
    · exact fin (pw_or1 pt_ev) fun st' H' M' p' hr => hb.T p' h2 hr
    · exact fin pw_ev fun st' H' M' p' hr => hb.T p' h2 hr
  A := fun p h => (noA rfl h).elim
  W := fun p h => (noI rfl h).elim
  F := fun p hf => by cases hf

theorem Res.ofBl {w : Wd} {B : Addr → Prop} {We : WeT} {H : Hp} {M : List Addr} {st : Sto} {f : Sto → R PV} {Q : Bool → Hp → Prop} (h : Res w B RelB We H M (tstR false f st) Q) (hb : ∀ v st', f st = .ok v st' → ∃ b, v = .bl b) :
    Res w B (RelR w B) We H M (f st) (fun x H' => ∃ k, x = .bl k ∧ Q k H') := by
  have h' : Res w B RelB We H M ((f st).bind fun x st1 => R.lift (truV st1 x) st1) Q := h
  cases e : f st with
  | ok v st' =>
    obtain ⟨b, rfl⟩ := hb v st' e
    rw [e] at h'
    intro u H' M' k s r
    cases r
    exact ⟨b, rfl, h' b H' M' k s rfl⟩
  | ex c st' => rw [e] at h'; exact h'
  | bad => rw [e] at h'; exact h'
theorem bind_ok' {α β : Type} {r : R α} {f : α → Sto → R β} {b : β} {st : Sto} (h : r.bind f = .ok b st) : ∃ a st1, r = .ok a st1 ∧ f a st1 = .ok b st := by
  cases r with
  | ok a st1 => exact ⟨a, st1, rfl, h⟩
  | ex c st1 => cases h
  | bad => cases h
theorem lift_ok {α : Type} {o : Option α} {st st' : Sto} {a : α} (h : R.lift o st = .ok a st') : o = some a ∧ st = st' := by
  cases o with
  | none => cases h
  | some b => cases h; exact ⟨rfl, rfl⟩
theorem snd_cmp (o : CmpOp) (a b : Ex) (ha : Snd I G cf a) (hb : Snd I G cf b) : Snd I G cf (.cmp o a b) := by
  have inv : ∀ {X : Cx} {x : Expr}, chkE I.st (.cmp o a b) X.env.scope x = true → ∃ l r pos, x = .Compare l [o] [r] pos ∧ chkE I.st a X.env.scope l = true ∧ chkE I.st b X.env.scope r = true := fun {X x} h => by
    cases x <;> first | (exact absurd h Bool.false_ne_true) | skip
    rename_i l os rs pos
    rcases os with _ | ⟨o', _ | ⟨o2, os⟩⟩
    · exact absurd h Bool.false_ne_true
    · rcases rs with _ | ⟨r', _ | ⟨r2, rs⟩⟩
      · exact absurd h Bool.false_ne_true
      · obtain ⟨h1, h2⟩ := mem_bool (show (decide (o = o') && (chkE I.st a X.env.scope l && chkE I.st b X.env.scope r')) = true from h)
        obtain ⟨h2, h3⟩ := mem_bool h2
        exact ⟨l, r', pos, by rw [of_decide_eq_true h1], h2, h3⟩
      · exact absurd h Bool.false_ne_true
    · rcases rs with _ | ⟨r', _ | ⟨r2, rs⟩⟩ <;> exact absurd h Bool.false_ne_true
  have key : ∀ {X : Cx} {top : Bool} {We : WeS} {σ : L2.St} {ρ : Env'} {H : Hp} {M : List Addr} {B : Addr → Prop} {st : Sto} {l r : Expr} {Q : VK}, Pt I G cf X top We σ ρ H M B st → chkE I.st a X.env.scope l = true → chkE I.st b X.env.scope r = true →
      Res (wd X I.nm) B (RelR (wd X I.nm) B) (We σ) H M (evE G cf (.cmp o a b) ρ st) Q → tOp (OpE X (compareOp o)) (EvE X l) (EvE X r) σ H Q := fun {X top We σ ρ H M B st l r Q} p h2 h3 hr =>
    two ha hb p h2 h3 hr fun x y st2 u v H2 M2 k p2 r1 r2 hr2 => by
      obtain ⟨c, e, q⟩ := Res.liftE hr2
      obtain ⟨d, e1, e2⟩ := Option.map_eq_some_iff.mp e
      subst e2
      exact cmp_ok p.cx.un e1 p2.cl r1 r2 (q.now p2.cl (.bl _))
  refine ⟨fun {X top We σ ρ H M B st x Q} p h r => ?_, fun {X top We σ ρ H M B st x Q} p h r => ?_, fun p h => (noA rfl h).elim, fun p h => (noI rfl h).elim, fun p hf => by cases hf⟩
  · obtain ⟨l, rr, pos, rfl, h2, h3⟩ := inv h
    exact evE_of (pe_cmpR op_ev pe_ev pe_ev (marks_of _ (chk_odd h3))) (key p h2 h3 r)
  · obtain ⟨l, rr, pos, rfl, h2, h3⟩ := inv h
    refine evT_of (pt_cmpR op_ev pe_ev pe_ev (marks_of _ (chk_odd h3))) (key p h2 h3 (Res.ofBl r fun v st' e => ?_))
    obtain ⟨x1, st1, _, e⟩ := bind_ok' e
    obtain ⟨x2, st2, _, e⟩ := bind_ok' e
    obtain ⟨e, _⟩ := lift_ok e
    obtain ⟨d, e1, e2⟩ := Option.map_eq_some_iff.mp e
    exact ⟨d, e2.symm⟩
theorem snd_chn (o o' : CmpOp) (a b c : Ex) (ha : Snd I G cf a) (hb : Snd I G cf b) (hc : Snd I G cf c) : Snd I G cf (.chn o o' a b c) := by
  have inv : ∀ {X : Cx} {x : Expr}, chkE I.st (.chn o o' a b c) X.env.scope x = true → ∃ l m r pos, x = .Compare l [o, o'] [m, r] pos ∧ chkE I.st a X.env.scope l = true ∧ chkE I.st b X.env.scope m = true ∧ chkE I.st c X.env.scope r = true := fun {X x} h => by
    cases x <;> first | (exact absurd h Bool.false_ne_true) | skip
    rename_i l os rs pos
    rcases os with _ | ⟨o1, _ | ⟨o2, _ | ⟨o3, os⟩⟩⟩ <;> rcases rs with _ | ⟨r1, _ | ⟨r2, _ | ⟨r3, rs⟩⟩⟩ <;> first | (exact absurd h Bool.false_ne_true) | skip
    obtain ⟨h1, h2⟩ := mem_bool (show (decide (o = o1) && (decide (o' = o2) && (chkE I.st a X.env.scope l && (chkE I.st b X.env.scope r1 && chkE I.st c X.env.scope r2)))) = true from h)
    obtain ⟨h2, h3⟩ := mem_bool h2
    obtain ⟨h3, h4⟩ := mem_bool h3
    obtain ⟨h4, h5⟩ := mem_bool h4
    exact ⟨l, r1, r2, pos, by rw [of_decide_eq_true h1, of_decide_eq_true h2], h3, h4, h5⟩
  have key : ∀ {X : Cx} {top : Bool} {We : WeS} {σ : L2.St} {ρ : Env'} {H : Hp} {M : List Addr} {B : Addr → Prop} {st : Sto} {l m r : Expr} {Q : VK}, Pt I G cf X top We σ ρ H M B st → chkE I.st a X.env.scope l = true → chkE I.st b X.env.scope m = true → chkE I.st c X.env.scope r = true →
      Res (wd X I.nm) B (RelR (wd X I.nm) B) (We σ) H M (evE G cf (.chn o o' a b c) ρ st) Q → tChain (OpE X (compareOp o)) (OpE X (compareOp o')) (EvE X l) (EvE X m) (EvE X r) σ H Q := fun {X top We σ ρ H M B st l m r Q} p h2 h3 h4 hr =>
    two ha hb p h2 h3 hr fun x y st2 u v H2 M2 k p2 r1 r2 hr2 => by
      cases e : cmpV st2 o x y with
      | none => rw [e] at hr2; exact hr2.elim
      | some d =>
        rw [e] at hr2
        refine cmp_ok p.cx.un e p2.cl r1 r2 ⟨d, rfl, ?_⟩
        cases d with
        | false => rw [if_neg Bool.false_ne_true]; exact hr2.aft.now p2.cl (.bl _)
        | true =>
          rw [if_pos rfl]
          refine hc.E p2 h4 (Res.bind hr2 fun z st3 u3 H3 M3 k3 s3 r3 hr3 => ?_)
          obtain ⟨c, e, q⟩ := Res.liftE hr3
          obtain ⟨d, e1, e2⟩ := Option.map_eq_some_iff.mp e
          subst e2
          exact cmp_ok p.cx.un e1 s3 (r2.mono k3) r3 (q.now s3 (.bl _))
  refine ⟨fun {X top We σ ρ H M B st x Q} p h r => ?_, fun {X top We σ ρ H M B st x Q} p h r => ?_, fun p h => (noA rfl h).elim, fun p h => (noI rfl h).elim, fun p hf => by cases hf⟩
  · obtain ⟨l, m, rr, pos, rfl, h2, h3, h4⟩ := inv h
    exact evE_of (pe_chain op_ev op_ev pe_ev pe_ev pe_ev (marks_of _ (chk_odd h4))) (key p h2 h3 h4 r)
  · obtain ⟨l, m, rr, pos, rfl, h2, h3, h4⟩ := inv h
    refine evT_of (pt_chain op_ev op_ev pe_ev pe_ev pe_ev (marks_of _ (chk_odd h4))) (key p h2 h3 h4 (Res.ofBl r fun v st' e => ?_))
    obtain ⟨x1, st1, _, e⟩ := bind_ok' e
    obtain ⟨x2, st2, _, e⟩ := bind_ok' e
    split at e
    · obtain ⟨x3, st3, _, e⟩ := bind_ok' e
      obtain ⟨e, _⟩ := lift_ok e
      obtain ⟨d, e1, e2⟩ := Option.map_eq_some_iff.mp e
      exact ⟨d, e2.symm⟩
    · cases e; exact ⟨_, rfl⟩
    · cases e
theorem pt_ite {X : Cx} {c a b : Expr} {tc ta tb : TT} {pos : Pos} (hc : PT X c tc) (ha : PT X a ta) (hb : PT X b tb) : PT X (.IfExp c a b pos) (fun σ H Q => tc σ H fun k H1 => if k = true then ta σ H1 Q else tb σ H1 Q) := by
  refine ⟨fun pins s σ H Q I h => ?_⟩
  show wpAny _ _ (isTrue c X.env (eval c X.env) >>= fun k => if k = true then isTrue a X.env (eval a X.env) else isTrue b X.env (eval b X.env)) _ _ s
  refine wpAny_bind (thn (hc.run pins s σ H _ I h) fun d s1 ⟨H1, I1, q1⟩ => ?_)
  cases d with
  | true => exact ha.run pins s1 σ H1 Q I1 q1
  | false => exact hb.run pins s1 σ H1 Q I1 q1
theorem snd_ite (c a b : Ex) (hc : Snd I G cf c) (ha : Snd I G cf a) (hb : Snd I G cf b) : Snd I G cf (.ite c a b) := by
  have inv : ∀ {X : Cx} {x : Expr}, chkE I.st (.ite c a b) X.env.scope x = true → ∃ t l r pos, x = .IfExp t l r pos ∧ chkE I.st c X.env.scope t = true ∧ chkE I.st a X.env.scope l = true ∧ chkE I.st b X.env.scope r = true := fun {X x} h => by
    cases x <;> first | (exact absurd h Bool.false_ne_true) | skip
    rename_i t l r pos
    obtain ⟨h1, h2⟩ := mem_bool (show (chkE I.st c X.env.scope t && (chkE I.st a X.env.scope l && chkE I.st b X.env.scope r)) = true from h)
    obtain ⟨h2, h3⟩ := mem_bool h2
    exact ⟨t, l, r, pos, rfl, h1, h2, h3⟩
  refine ⟨fun {X top We σ ρ H M B st x Q} p h r => ?_, fun {X top We σ ρ H M B st x Q} p h r => ?_, fun p h => (noA rfl h).elim, fun p h => (noI rfl h).elim, fun p hf => by cases hf⟩
  · obtain ⟨t, l, rr, pos, rfl, h1, h2, h3⟩ := inv h
    refine evE_of (pe_ifExp pt_ev pe_ev pe_ev) (hc.T p h1 (Res.bind (show Res _ _ _ _ _ _ ((tstR false (evE G cf c ρ) st).bind fun d st1 => if d then evE G cf a ρ st1 else evE G cf b ρ st1) _ from r) fun d st1 d' H1 M1 k1 s1 e1 hr1 => ?_))
    subst e1
    cases d' with
    | true => exact ha.E (p.go k1 s1) h2 hr1
    | false => exact hb.E (p.go k1 s1) h3 hr1
  · obtain ⟨t, l, rr, pos, rfl, h1, h2, h3⟩ := inv h
    have r' : Res (wd X I.nm) B RelB (We σ) H M (((tstR false (evE G cf c ρ) st).bind fun d st1 => if d then evE G cf a ρ st1 else evE G cf b ρ st1).bind fun x st1 => R.lift (truV st1 x) st1) Q := r
    refine evT_of (pt_ite pt_ev pt_ev pt_ev) (hc.T p h1 (Res.bind (Res.assoc r') fun d st1 d' H1 M1 k1 s1 e1 hr1 => ?_))
    subst e1
    cases d' with
    | true => exact ha.T (p.go k1 s1) h2 hr1
    | false => exact hb.T (p.go k1 s1) h3 hr1
/-! ### lists of expressions -/
theorem noE {e : Ex} {sc : Scope} {x : Expr} (he : (e.isA || (e.isI || e.isOmit)) = true) (h : chkE I.st e sc x = true) : False := by
  cases e <;> first | (cases he; done) | (cases x <;> exact absurd h Bool.false_ne_true)
theorem snd_nil : Snd I G cf .nil where
  E := fun p h => (noE rfl h).elim
  T := fun p h => (noE rfl h).elim
  A := fun {X top We σ ρ H M B st xs Q} p h r => by
    cases xs with
    | cons _ _ => exact absurd h Bool.false_ne_true
    | nil => exact evA_of pa_nil (r [] H M (.refl _ _) p.cl .nil)
  W := fun p h => (noI rfl h).elim
  F := fun p hf => by cases hf
theorem snd_cons (a as : Ex) (ha : Snd I G cf a) (hs : Snd I G cf as) : Snd I G cf (.cons a as) where
  E := fun p h => (noE rfl h).elim
  T := fun p h => (noE rfl h).elim
  A := fun {X top We σ ρ H M B st xs Q} p h r => by
    cases xs with
    | nil => exact absurd h Bool.false_ne_true
    | cons x xs =>
      obtain ⟨h1, h2⟩ := mem_bool (show (chkE I.st a X.env.scope x && chkA I.st as X.env.scope xs) = true from h)
      refine evA_of (pa_cons pe_ev pa_ev (star_of (chk_odd h1) _)) (ha.E p h1 (Res.bind r fun y st1 u H1 M1 k1 s1 r1 hr1 => ?_))
      refine hs.A (p.go k1 s1) h2 (Res.bind hr1 fun ys st2 us H2 M2 k2 s2 r2 hr2 => ?_)
      exact hr2 (u :: us) H2 M2 (.refl _ _) s2 (.cons (r1.mono k2) r2)
  W := fun p h => (noI rfl h).elim
  F := fun p hf => by cases hf
theorem evA_len {ρ : Env'} : ∀ (as : Ex) (st : Sto) (xs : List PV) (st' : Sto) (sc : Scope) (es : List Expr), evA G cf as ρ st = .ok xs st' → chkA I.st as sc es = true → xs.length = es.length := by
  intro as
  induction as with
  | nil =>
    intro st xs st' sc es e h
    cases es with
    | nil => cases e; rfl
    | cons _ _ => exact absurd h Bool.false_ne_true
  | cons a as iha ih =>
    intro st xs st' sc es e h
    cases es with
    | nil => exact absurd h Bool.false_ne_true
    | cons x es =>
      obtain ⟨h1, h2⟩ := mem_bool (show (chkE I.st a sc x && chkA I.st as sc es) = true from h)
      obtain ⟨v, st1, _, e⟩ := bind_ok' e
      obtain ⟨vs, st2, e1, e⟩ := bind_ok' e
      cases e
      rw [List.length_cons, List.length_cons, ih _ _ _ _ _ e1 h2]
  | _ => intro st xs st' sc es e h; exact (noA rfl h).elim
theorem snd_tup (as : Ex) (hs : Snd I G cf as) : Snd I G cf (.tup as) := snd_of (fun {X top We σ ρ H M B st x Q} p h r => by
  cases x <;> first | (exact absurd h Bool.false_ne_true) | skip
  rename_i es k pos
  obtain ⟨h1, h2⟩ := mem_bool (show (decide (es.length ≤ 1000) && chkA I.st as X.env.scope es) = true from h)
  refine evE_of (pe_tup pa_ev) (hs.A p h2 (Res.bindE r fun xs st1 vs H1 M1 e1 k1 s1 r1 hr1 => ⟨?_, fun p hp => hr1.aft.newT s1 r1 hp⟩))
  rw [← r1.length, evA_len as st xs st1 _ es e1 h2]
  exact Nat.le_of_lt (small1000 (of_decide_eq_true h1))) rfl rfl rfl rfl
theorem snd_lst (as : Ex) (hs : Snd I G cf as) : Snd I G cf (.lst as) := by
  have hF : FSnd I G cf (.lst as) := fun {X top We σ ρ H M B st x Q} p hf h r => by
    cases x <;> first | (exact absurd h Bool.false_ne_true) | skip
    rename_i es pos
    obtain ⟨h1, h2⟩ := mem_bool (show (decide (es.length ≤ 1000) && chkA I.st as X.env.scope es) = true from h)
    have r' : ResF (wd X I.nm) B (We σ) H M ((evA G cf as ρ st).bind fun xs st1 => .ok (.lst xs) st1) Q := r
    have bnd : ∀ xs st1 H1 M1 vs, evA G cf as ρ st = .ok xs st1 → Rels (wd X I.nm) H1 M1 B xs vs → vs.length ≤ sizeLine := fun xs st1 H1 M1 vs e1 r1 => by
      rw [← r1.length, evA_len as st xs st1 _ es e1 h2]
      exact Nat.le_of_lt (small1000 (of_decide_eq_true h1))
    refine evE_of (pe_lst pa_ev) (hs.A p h2 ?_)
    cases e : evA G cf as ρ st with
    | ok xs st1 =>
      rw [e] at r'
      exact fun vs H1 M1 k1 s1 r1 => ⟨bnd xs st1 H1 M1 vs e r1, fun p hp => ResF.now (ResF.mono r' k1) s1 r1 hp⟩
    | ex c st1 => rw [e] at r'; exact r'
    | bad => rw [e] at r'; exact r'
  refine snd_F (fun {X top We σ ρ H M B st x Q} p h r => hF p rfl h (ResF.of r fun v st' e => ?_)) rfl rfl rfl hF
  obtain ⟨xs, st1, _, e⟩ := bind_ok' e
  cases e
  exact ⟨_, rfl⟩
theorem snd_cell (e : Ex) (he : Snd I G cf e) : Snd I G cf (.cell e) := snd_of (fun {X top We σ ρ H M B st x Q} p h r => by
  obtain ⟨h1, h2⟩ := mem_bool (show (freshE e && chkE I.st e X.env.scope x) = true from h)
  refine he.F p h1 h2 ?_
  have r' : Res (wd X I.nm) B (RelR (wd X I.nm) B) (We σ) H M ((evE G cf e ρ st).bind fun x st1 => match x with
    | .lst xs => if noCels xs then .ok (.cel st1.length) (st1 ++ [.lst xs]) else .bad
    | _ => .bad) Q := r
  cases e1 : evE G cf e ρ st with
  | ok v st1 =>
    rw [e1] at r'
    cases v <;> first | (exact r'.elim) | skip
    rename_i xs
    refine ⟨xs, rfl, fun p vs H' M' hp h2 n b k s rr => ?_⟩
    have r2 : Res (wd X I.nm) B (RelR (wd X I.nm) B) (We σ) H M (if noCels xs then .ok (.cel st1.length) (st1 ++ [.lst xs]) else .bad) Q := r'
    by_cases hn : noCels xs = true
    · rw [if_pos hn] at r2
      refine r2 (.ref p) H' (M' ++ [p]) (k.cell hp) (s.own h2 n b rr hn) (.cel ?_)
      rw [← s.len]
      simp
    · rw [if_neg hn] at r2; exact r2.elim
  | ex c st1 => rw [e1] at r'; exact r'
  | bad => rw [e1] at r'; exact r'.elim) rfl rfl rfl rfl
theorem pure_or {X : Cx} {top : Bool} {We : WeS} (cx : Ctx I G cf X top We) {m : CM} (h : (I.clo.isNone || m.isPure) = true) : (wd X I.nm).nm.clo = none ∨ m.isPure = true := by
  rcases Bool.or_eq_true_iff.mp h with z | z
  · exact .inl (cx.cl (Option.isNone_iff_eq_none.mp z))
  · exact .inr z
theorem snd_call (m : CM) (f : Nat) (as : Ex) (hs : Snd I G cf as) : Snd I G cf (.call m f as) := snd_of (fun {X top We σ ρ H M B st x Q} p h r => by
  cases x <;> first | (exact absurd h Bool.false_ne_true) | skip
  rename_i fn es kw pos
  cases fn <;> first | (exact absurd h Bool.false_ne_true) | skip
  rename_i n np
  have hE : ∀ c st' H' M', We σ c st' H' M' → ∀ a, X.mg (I.nm c) = some (.ref a) → WE (Wof X I.nm We) σ (.ref a) none H' := fun c st' H' M' w a ha => ⟨c, st', M', a, rfl, rfl, ha, w⟩
  cases kw with
  | cons _ _ => cases es <;> exact absurd h Bool.false_ne_true
  | nil =>
    cases es with
    | nil =>
      obtain ⟨hm0, hq⟩ := mem_bool (show ((I.clo.isNone || m.isPure) && (I.F f && (gOk I X.env.scope f n && chkA I.st as X.env.scope []))) = true from h)
      obtain ⟨h0, h1⟩ := mem_bool hq
      obtain ⟨h1, h2⟩ := mem_bool h1
      obtain ⟨g1, g2⟩ := mem_bool (show (decide (I.nm f = n) && (glB X.env.scope n && nodbg n)) = true from h1)
      obtain ⟨g2, g3⟩ := mem_bool g2
      obtain ⟨k, hr, _, fn, _⟩ := p.cx.fns
      obtain ⟨a, fd, ps, hm, hk, hb, F⟩ := fn f h0
      rw [of_decide_eq_true g1] at hm
      refine evE_of (pe_callS0 F hr (gl_of g2) hm hk hb (passAt p.cx.takes) (nodbg_of g3)) ?_
      have e1 : ∃ xs st1, evA G cf as ρ st = .ok xs st1 ∧ xs = [] ∧ st1 = st := by
        cases as <;> first | (exact (noA rfl h2).elim) | skip
        · exact ⟨[], st, rfl, rfl, rfl⟩
        · exact absurd h2 Bool.false_ne_true
      obtain ⟨xs, st1, e1, rfl, rfl⟩ := e1
      have r' : Res (wd X I.nm) B (RelR (wd X I.nm) B) (We σ) H M ((evA G cf as ρ st1).bind fun xs st1 => callP cf m f xs st1) Q := r
      rw [e1] at r'
      exact call_sp (pure_or p.cx hm0) p.cl .nil r' hE
    | cons y ys =>
      obtain ⟨hm0, hq⟩ := mem_bool (show ((I.clo.isNone || m.isPure) && (I.F f && (gOk I X.env.scope f n && chkA I.st as X.env.scope (y :: ys)))) = true from h)
      obtain ⟨h0, h1⟩ := mem_bool hq
      obtain ⟨h1, h2⟩ := mem_bool h1
      obtain ⟨g1, g2⟩ := mem_bool (show (decide (I.nm f = n) && (glB X.env.scope n && nodbg n)) = true from h1)
      obtain ⟨g2, g3⟩ := mem_bool g2
      obtain ⟨k, hr, _, fn, _⟩ := p.cx.fns
      obtain ⟨a, fd, ps, hm, hk, hb, F⟩ := fn f h0
      rw [of_decide_eq_true g1] at hm
      have hst : starEach (y :: ys) X.env = (false, eval y X.env) :: starEach ys X.env ∧ (backTo pos (starEach ys X.env)).any (·.1) = false := by
        cases as <;> first | (exact (noA rfl h2).elim) | skip
        · exact absurd h2 Bool.false_ne_true
        · rename_i a as
          obtain ⟨c1, c2⟩ := mem_bool (show (chkE I.st a X.env.scope y && chkA I.st as X.env.scope ys) = true from h2)
          exact ⟨star_of (chk_odd c1) _, chkA_star _ _ as ys c2⟩
      refine evE_of (pe_callS F hr (gl_of g2) hm hk hb (passAt p.cx.takes) pa_ev (nodbg_of g3) hst.1 hst.2) (hs.A p h2 (Res.bind r fun xs st1 vs H1 M1 k1 s1 r1 hr1 => ?_))
      exact call_sp (pure_or p.cx hm0) s1 r1 hr1 hE) rfl rfl rfl rfl

theorem list_ok {X : Cx} {nm : Nm} {H : Hp} {M : List Addr} {B : Addr → Prop} {st : Sto} {Q : VK} {We : WeT} {as : List PV} {vs : List V} (s : Cels (wd X nm) H M B st) (r : Rels (wd X nm) H M B as vs)
    (h : ResF (wd X nm) B We H M (R.lift (biV st .list as) st) Q) : CallE X (.type "list") vs H Q := by
  obtain ⟨ys, e, hf⟩ := h.liftE
  clear h
  unfold biV at e
  split at e <;> first | contradiction | skip
  · cases e
    cases r with
    | cons r t =>
      cases t
      obtain ⟨p, us, rfl, q, rr⟩ := r.tupT
      exact .of call_list_of ⟨p, us, rfl, .inr q, fun l hl => ResF.now hf s rr hl⟩
  · obtain ⟨xs, e1, e2⟩ := Option.map_eq_some_iff.mp e
    cases e2
    cases r with
    | cons r t =>
      cases t
      obtain ⟨p, us, rfl, q, rr⟩ := asL_rel s r e1
      exact .of call_list_of ⟨p, us, rfl, .inl (.inl (.inl q)), fun l hl => ResF.now hf s rr hl⟩
theorem bi_free (b : Bi) : b.name ∈ bnames := by cases b <;> decide
theorem pe_bi {X : Cx} {b : Bi} {n : Str} {e : Expr} {es : List Expr} {t : TA} {np pos : Pos} (hn : b.name = n) (hg : Gl X n) (hm : X.mg n = none) (ha : PA X (e :: es) t)
    (he : starEach (e :: es) X.env = (false, eval e X.env) :: starEach es X.env) (hpl : (backTo pos (starEach es X.env)).any (·.1) = false) : PE X (.Call (.Name n np) (e :: es) [] pos) (tCB (CallE X b.val) t) := by
  subst hn
  cases b <;> first | exact pe_callB call_ev hg hm rfl ha (by decide) (by decide) he hpl | exact pe_callTy call_ev hg hm rfl ha (by decide) (by decide) he hpl
theorem snd_bi (b : Bi) (as : Ex) (hs : Snd I G cf as) : Snd I G cf (.bi b as) := by
  have key : ∀ {X : Cx} {top : Bool} {We : WeS} {σ : L2.St} {ρ : Env'} {H : Hp} {M : List Addr} {B : Addr → Prop} {st : Sto} {x : Expr} {Q : VK}, Pt I G cf X top We σ ρ H M B st → chkE I.st (.bi b as) X.env.scope x = true →
      (∀ es, chkA I.st as X.env.scope es = true → EvA X es σ H fun vs H1 => CallE X b.val vs H1 Q) → EvE X x σ H Q := fun {X top We σ ρ H M B st x Q} p h hq => by
    cases x <;> first | (exact absurd h Bool.false_ne_true) | skip
    rename_i fn es kw pos
    cases fn <;> first | (exact absurd h Bool.false_ne_true) | skip
    rename_i n np
    cases kw with
    | cons _ _ => cases es <;> exact absurd h Bool.false_ne_true
    | nil =>
      cases es with
      | nil => exact absurd h Bool.false_ne_true
      | cons y ys =>
        obtain ⟨h1, h2⟩ := mem_bool (show (decide (b.name = n) && (glB X.env.scope n && chkA I.st as X.env.scope (y :: ys))) = true from h)
        obtain ⟨h2, h3⟩ := mem_bool h2
        have hst : starEach (y :: ys) X.env = (false, eval y X.env) :: starEach ys X.env ∧ (backTo pos (starEach ys X.env)).any (·.1) = false := by
          cases as <;> first | (exact (noA rfl h3).elim) | skip
          · exact absurd h3 Bool.false_ne_true
          · rename_i a as
            obtain ⟨c1, c2⟩ := mem_bool (show (chkE I.st a X.env.scope y && chkA I.st as X.env.scope ys) = true from h3)
            exact ⟨star_of (chk_odd c1) _, chkA_star _ _ as ys c2⟩
        have hn := of_decide_eq_true h1
        exact evE_of (pe_bi hn (gl_of h2) (p.cx.free _ (by rw [← hn]; exact bi_free b)) pa_ev hst.1 hst.2) (hq _ h3)
  refine snd_F (fun {X top We σ ρ H M B st x Q} p h r => key p h fun es h3 => ?_) rfl rfl rfl (fun {X top We σ ρ H M B st x Q} p hf h r => key p h fun es h3 => ?_)
  · refine hs.A p h3 (Res.bind r fun xs st1 vs H1 M1 k1 s1 r1 hr1 => ?_)
    obtain ⟨c, e, q⟩ := Res.liftE hr1
    exact bi_ok p.cx.calm e s1 r1 q
  · cases b <;> first | (cases hf; done) | skip
    exact hs.A p h3 (ResF.bind r fun xs st1 vs H1 M1 k1 s1 r1 hr1 => list_ok s1 r1 hr1)
theorem snd_idx (a b : Ex) (ha : Snd I G cf a) (hb : Snd I G cf b) : Snd I G cf (.idx a b) := snd_of (fun {X top We σ ρ H M B st x Q} p h r => by
  cases x <;> first | (exact absurd h Bool.false_ne_true) | skip
  rename_i l rr pos
  obtain ⟨h1, h2⟩ := mem_bool (show (chkE I.st a X.env.scope l && chkE I.st b X.env.scope rr) = true from h)
  refine evE_of (pe_ix ix_seq pe_ev pe_ev (plainIx_of (chk_odd h2))) (two ha hb p h1 h2 r fun x y st2 u v H2 M2 k p2 r1 r2 hr2 => ?_)
  obtain ⟨c, e, q⟩ := Res.liftE hr2
  exact ix_of e p2.cl r1 r2 q) rfl rfl rfl rfl
/-! ### slices -/
def EvO (X : Cx) (e : Option Expr) : TO := fun σ H Q => ∀ (pins : List (Addr × Obj)) (s : Shared), Inv X pins σ H s →
  wpAny (model X.prog X.w) X.A (evalPart e X.env) (fun u s' => ∃ o H', Inv X pins σ H' s' ∧ IsPart u o ∧ Q o H') X.xe s
theorem po_ev {X : Cx} {e : Option Expr} : PO X e (EvO X e) := ⟨fun pins s _ _ _ I h => h pins s I⟩
theorem evO_of {X : Cx} {σ : L2.St} {H : Hp} {e : Option Expr} {t : TO} {Q : Option Int → Hp → Prop} (h : PO X e t) (q : t σ H Q) : EvO X e σ H Q := fun pins s I => h.run pins s σ H Q I q
theorem snd_part {a : Ex} (ha : Snd I G cf a) {X : Cx} {top : Bool} {We : WeS} {σ : L2.St} {ρ : Env'} {H : Hp} {M : List Addr} {B : Addr → Prop} {st : Sto} {l : Option Expr} {Q : Option Int → Hp → Prop} (p : Pt I G cf X top We σ ρ H M B st)
    (h : (match l with
    | none => a.isOmit
    | some l => chkE I.st a X.env.scope l) = true) (r : Res (wd X I.nm) B RelO (We σ) H M (optR a.isOmit (evE G cf a ρ) st) Q) : EvO X l σ H Q := by
  cases l with
  | none =>
    have h : a.isOmit = true := h
    rw [h] at r
    exact evO_of po_none (r none H M (.refl _ _) p.cl rfl)
  | some l =>
    have h : chkE I.st a X.env.scope l = true := h
    have ho : a.isOmit = false := by
      cases q : a.isOmit with
      | false => rfl
      | true => exact (noE (by rw [q]; simp) h).elim
    rw [ho] at r
    have r' : Res (wd X I.nm) B RelO (We σ) H M ((evE G cf a ρ st).bind fun x st1 => R.lift (oInt x) st1) Q := r
    refine evO_of (po_some pe_ev) (ha.E p h (Res.bind r' fun x st1 u H1 M1 k1 s1 r1 hr1 => ?_))
    cases x <;> first | (exact hr1.elim) | skip
    rename_i i
    cases r1
    exact ⟨i, rfl, hr1 (some i) H1 M1 (.refl _ _) s1 rfl⟩
theorem cutG_all {xs : List PV} {lo hi : Option Int} (h : HT.sIx xs.length 0 lo = 0 ∧ HT.sIx xs.length xs.length hi = xs.length) : cutG xs lo hi = xs := by
  unfold cutG
  rw [h.1, h.2]
  simp
theorem snd_sli (a lo hi : Ex) (ha : Snd I G cf a) (hl : Snd I G cf lo) (hh : Snd I G cf hi) : Snd I G cf (.sli a lo hi) := snd_of (fun {X top We σ ρ H M B st x Q} p h r => by
  cases x <;> first | (exact absurd h Bool.false_ne_true) | skip
  rename_i v sl pos
  cases sl <;> first | (exact absurd h Bool.false_ne_true) | skip
  rename_i l u stp spos
  cases stp with
  | some _ => exact absurd h Bool.false_ne_true
  | none =>
    obtain ⟨h1, h2⟩ := mem_bool (show (chkE I.st a X.env.scope v && ((match (generalizing := false) l with
    | none => lo.isOmit
    | some l => chkE I.st lo X.env.scope l) && (match (generalizing := false) u with
    | none => hi.isOmit
    | some h => chkE I.st hi X.env.scope h))) = true from h)
    obtain ⟨h2, h3⟩ := mem_bool h2
    refine evE_of (pe_slice (sl_list.or (sl_tupA.or sl_str)) pe_ev po_ev po_ev) (ha.E p h1 (Res.bind r fun x st1 y H1 M1 k1 s1 r1 hr1 => ?_))
    refine snd_part hl (p.go k1 s1) h2 (Res.bind hr1 fun ol st2 ol' H2 M2 k2 s2 e2 hr2 => ?_)
    subst e2
    refine snd_part hh (p.go (k1.trans k2) s2) h3 (Res.bind hr2 fun oh st3 oh' H3 M3 k3 s3 e3 hr3 => ?_)
    subst e3
    have ry := (r1.mono k2).mono k3
    have lst : ∀ xs, asL st3 x = some xs → Res (wd X I.nm) B (RelR (wd X I.nm) B) (We σ) H3 M3 (.ok (.lst (cutG xs ol' oh')) st3) Q → rSlL X.K y ol' oh' H3 Q ∨ rSlA X.K y ol' oh' H3 Q ∨ rSlS y ol' oh' H3 Q := fun xs e hq => by
      obtain ⟨a, vs, e1, q1, rr⟩ := asL_rel s3 ry e
      exact .inl ⟨a, vs, e1, .inl (.inl q1), fun p hp => hq.aft.newL s3 (rr.cut _ _) hp⟩
    have oth : Res (wd X I.nm) B (RelR (wd X I.nm) B) (We σ) H3 M3 (R.lift ((asL st3 x).map fun xs => .lst (cutG xs ol' oh')) st3) Q → rSlL X.K y ol' oh' H3 Q ∨ rSlA X.K y ol' oh' H3 Q ∨ rSlS y ol' oh' H3 Q := fun hq => by
      cases e : asL st3 x with
      | none => rw [e] at hq; exact hq.elim
      | some xs => rw [e] at hq; exact lst xs e hq
    cases x <;> first | (exact oth hr3) | skip
    · rename_i z
      have hr4 : Res (wd X I.nm) B (RelR (wd X I.nm) B) (We σ) H3 M3 (if z.length ≤ big then .ok (.str (cutS z ol' oh')) st3 else .bad) Q := hr3
      by_cases hz : z.length ≤ big
      · rw [if_pos hz] at hr4
        cases ry
        exact .inr (.inr ⟨z, rfl, Nat.le_trans hz line_big, hr4.aft.now s3 (.str _)⟩)
      · rw [if_neg hz] at hr4; exact hr4.elim
    rename_i xs
    obtain ⟨a, vs, e1, q1, rr⟩ := ry.tupT
    have q := Res.aft (show Res (wd X I.nm) B (RelR (wd X I.nm) B) (We σ) H3 M3 (.ok (.tup (cutG xs ol' oh')) st3) Q from hr3)
    refine .inr (.inl ⟨a, vs, e1, q1, fun hw => ?_, fun _ p hp => q.newT s3 (rr.cut _ _) hp⟩)
    rw [← rr.length] at hw
    rw [cutG_all hw] at q
    rw [← e1]
    exact q.now s3 ry) rfl rfl rfl rfl
/-! ### what is walked -/
theorem evA1 {X : Cx} {y : Expr} {σ : L2.St} {H : Hp} {Q : List V → Hp → Prop} (ho : oddE y = false) (h : EvE X y σ H fun v H1 => Q [v] H1) : EvA X [y] σ H Q := evA_of (pa_cons pe_ev pa_nil (star_of ho _)) h
theorem evA2 {X : Cx} {y z : Expr} {σ : L2.St} {H : Hp} {Q : List V → Hp → Prop} (ho : oddE y = false) (ho2 : oddE z = false) (h : EvE X y σ H fun v H1 => EvE X z σ H1 fun u H2 => Q [v, u] H2) : EvA X [y, z] σ H Q :=
  evA_of (pa_cons pe_ev (pa_cons pe_ev pa_nil (star_of ho2 _)) (star_of ho _)) h
theorem noW {e : Ex} {sc : Scope} {xs : List Expr} (he : e.isI = true) (h : chkA I.st e sc xs = true) : False := by
  cases e <;> first | (cases he; done) | (cases xs <;> exact absurd h Bool.false_ne_true)
/-- forms that are walked -/
theorem snd_W {e : Ex} (hi : e.isI = true) (hW : ∀ {X : Cx} {top : Bool} {We : WeS} {σ : L2.St} {ρ : Env'} {H : Hp} {M : List Addr} {B : Addr → Prop} {st : Sto} {t x : Expr} {Q : It → Hp → Prop}, Pt I G cf X top We σ ρ H M B st → chkI I.st e X.env.scope t x = true →
    Res (wd X I.nm) B (ItR (wd X I.nm) B) (We σ) H M (evI G cf e ρ st) Q → EvI X t x σ H Q) : Snd I G cf e where
  E := fun p h => (noE (by rw [hi]; simp) h).elim
  T := fun p h => (noE (by rw [hi]; simp) h).elim
  A := fun p h => (noW hi h).elim
  W := hW
  F := fun p hf => by cases e <;> first | (cases hf; done) | (cases hi; done)
theorem rng_small {i : Int} (h : smallI i = true) : -(2 ^ 62) ≤ i ∧ i < 2 ^ 62 := by
  obtain ⟨h1, h2⟩ := mem_bool h
  have h1 := of_decide_eq_true h1
  have h2 := of_decide_eq_true h2
  have e : (2 : Int) ^ 60 < 2 ^ 62 := by decide
  constructor <;> omega
theorem snd_rng1 (a : Ex) (ha : Snd I G cf a) : Snd I G cf (.rng1 a) := snd_W rfl fun {X top We σ ρ H M B st t x Q} p h r => by
  cases x <;> first | (exact absurd h Bool.false_ne_true) | skip
  rename_i fn es kw pos
  cases fn <;> first | (exact absurd h Bool.false_ne_true) | skip
  rename_i n np
  rcases es with _ | ⟨y, _ | ⟨z, es⟩⟩ <;> rcases kw with _ | ⟨_, _⟩ <;> first | (exact absurd h Bool.false_ne_true) | skip
  obtain ⟨h1, h2⟩ := mem_bool (show (decide (n = ("range" : Str)) && (glB X.env.scope n && chkE I.st a X.env.scope y)) = true from h)
  obtain ⟨h2, h3⟩ := mem_bool h2
  have hn := of_decide_eq_true h1
  subst hn
  refine evI_of (pi_range1 (gl_of h2) (p.cx.free _ (by decide)) pa_ev (star_of (chk_odd h3) _)) (evA1 (chk_odd h3) (ha.E p h3 (Res.bind r fun x st1 u H1 M1 k1 s1 r1 hr1 => ?_)))
  cases x <;> first | (exact hr1.elim) | skip
  rename_i j
  cases r1
  have hr2 : Res (wd X I.nm) B (ItR (wd X I.nm) B) (We σ) H1 M1 (if smallI j then .ok (rngL 0 j.toNat) st1 else .bad) Q := hr1
  by_cases hs : smallI j = true
  · rw [if_pos hs] at hr2
    obtain ⟨b1, b2⟩ := rng_small hs
    exact ⟨j, rfl, b1, b2, hr2 _ H1 M1 (.refl _ _) s1 (.rng 0 _)⟩
  · rw [if_neg hs] at hr2; exact hr2.elim
theorem snd_rng2 (a b : Ex) (ha : Snd I G cf a) (hb : Snd I G cf b) : Snd I G cf (.rng2 a b) := snd_W rfl fun {X top We σ ρ H M B st t x Q} p h r => by
  cases x <;> first | (exact absurd h Bool.false_ne_true) | skip
  rename_i fn es kw pos
  cases fn <;> first | (exact absurd h Bool.false_ne_true) | skip
  rename_i n np
  rcases es with _ | ⟨y, _ | ⟨z, _ | ⟨z2, es⟩⟩⟩ <;> rcases kw with _ | ⟨_, _⟩ <;> first | (exact absurd h Bool.false_ne_true) | skip
  obtain ⟨h1, h2⟩ := mem_bool (show (decide (n = ("range" : Str)) && (glB X.env.scope n && (chkE I.st a X.env.scope y && chkE I.st b X.env.scope z))) = true from h)
  obtain ⟨h2, h3⟩ := mem_bool h2
  obtain ⟨h3, h4⟩ := mem_bool h3
  have hn := of_decide_eq_true h1
  subst hn
  refine evI_of (pi_range2 (gl_of h2) (p.cx.free _ (by decide)) pa_ev (by rw [star_of (chk_odd h3), star_of (chk_odd h4)]; rfl) (star_of (chk_odd h4) _)) (evA2 (chk_odd h3) (chk_odd h4) (two ha hb p h3 h4 r fun x y st2 u v H2 M2 k p2 r1 r2 hr2 => ?_))
  cases x <;> first | (exact hr2.elim) | skip
  rename_i i
  cases y <;> first | (exact hr2.elim) | skip
  rename_i j
  cases r1
  cases r2
  have hr3 : Res (wd X I.nm) B (ItR (wd X I.nm) B) (We σ) H2 M2 (if smallI i && smallI j then .ok (rngL i (j - i).toNat) st2 else .bad) Q := hr2
  by_cases hs : (smallI i && smallI j) = true
  · rw [if_pos hs] at hr3
    obtain ⟨s1, s2⟩ := mem_bool hs
    obtain ⟨b1, b2⟩ := rng_small s1
    obtain ⟨b3, b4⟩ := rng_small s2
    exact ⟨i, j, rfl, ⟨b1, b2, b3, b4⟩, hr3 _ H2 M2 (.refl _ _) p2.cl (.rng i _)⟩
  · rw [if_neg hs] at hr3; exact hr3.elim
theorem snd_zip (a b : Ex) (ha : Snd I G cf a) (hb : Snd I G cf b) : Snd I G cf (.zip a b) := snd_W rfl fun {X top We σ ρ H M B st t x Q} p h r => by
  cases t <;> first | (exact absurd h Bool.false_ne_true) | skip
  cases x <;> first | (exact absurd h Bool.false_ne_true) | skip
  rename_i fn es kw pos
  cases fn <;> first | (exact absurd h Bool.false_ne_true) | skip
  rename_i n np
  rcases es with _ | ⟨y, _ | ⟨z, _ | ⟨z2, es⟩⟩⟩ <;> rcases kw with _ | ⟨_, _⟩ <;> first | (exact absurd h Bool.false_ne_true) | skip
  obtain ⟨h1, h2⟩ := mem_bool (show (decide (n = ("zip" : Str)) && (glB X.env.scope n && (chkE I.st a X.env.scope y && chkE I.st b X.env.scope z))) = true from h)
  obtain ⟨h2, h3⟩ := mem_bool h2
  obtain ⟨h3, h4⟩ := mem_bool h3
  have hn := of_decide_eq_true h1
  subst hn
  refine evI_of (pi_zipG (gl_of h2) (p.cx.free _ (by decide)) pa_ev (star_of (chk_odd h3) _) (by rw [star_of (chk_odd h4)]; rfl)) (evA2 (chk_odd h3) (chk_odd h4) (two ha hb p h3 h4 r fun x y st2 u v H2 M2 k p2 r1 r2 hr2 => ?_))
  cases e1 : walkL x with
  | none => rw [e1] at hr2; exact hr2.elim
  | some xs =>
    cases e2 : walkL y with
    | none => rw [e1, e2] at hr2; exact hr2.elim
    | some ys =>
      rw [e1, e2] at hr2
      obtain ⟨t1, a1, vs, q1, w1, rr1⟩ := walkL_rel e1 r1
      obtain ⟨t2, a2, us, q2, w2, rr2⟩ := walkL_rel e2 r2
      subst q1 q2
      exact ⟨a1, a2, t1, t2, vs, us, rfl, w1 _ _ (.refl _ _), w2 _ _ (.refl _ _), hr2 _ H2 M2 (.refl _ _) p2.cl (ItR.zip w1 w2 rr1 rr2)⟩
theorem snd_enu (a : Ex) (ha : Snd I G cf a) : Snd I G cf (.enu a) := snd_W rfl fun {X top We σ ρ H M B st t x Q} p h r => by
  cases t <;> first | (exact absurd h Bool.false_ne_true) | skip
  cases x <;> first | (exact absurd h Bool.false_ne_true) | skip
  rename_i fn es kw pos
  cases fn <;> first | (exact absurd h Bool.false_ne_true) | skip
  rename_i n np
  rcases es with _ | ⟨y, _ | ⟨z, es⟩⟩ <;> rcases kw with _ | ⟨_, _⟩ <;> first | (exact absurd h Bool.false_ne_true) | skip
  obtain ⟨h1, h2⟩ := mem_bool (show (decide (n = ("enumerate" : Str)) && (glB X.env.scope n && chkE I.st a X.env.scope y)) = true from h)
  obtain ⟨h2, h3⟩ := mem_bool h2
  have hn := of_decide_eq_true h1
  subst hn
  refine evI_of (pi_enumG (gl_of h2) (p.cx.free _ (by decide)) pa_ev (star_of (chk_odd h3) _)) (evA1 (chk_odd h3) (ha.E p h3 (Res.bind r fun x st1 u H1 M1 k1 s1 r1 hr1 => ?_)))
  cases e1 : walkL x with
  | none => rw [e1] at hr1; exact hr1.elim
  | some xs =>
    rw [e1] at hr1
    obtain ⟨t1, a1, vs, q1, w1, rr1⟩ := walkL_rel e1 r1
    subst q1
    exact ⟨a1, t1, vs, rfl, w1 _ _ (.refl _ _), hr1 _ H1 M1 (.refl _ _) s1 (ItR.enu w1 rr1)⟩
/-- a list or a tuple, walked -/
theorem pi_sq {X : Cx} {tg l : Expr} {tl : TE} (hl : PE X l tl) : PI X tg l (fun σ H R => tl σ H fun x H1 => ∃ t a xs, x = .ref a ∧ SqB t X.K H1 a xs ∧ R (match t with | false => Itl X.K a | true => Itt X.K a) H1) := by
  refine ⟨fun pins s σ H R I h => ?_⟩
  refine thn (hl.run pins s σ H _ I h) fun v s1 ⟨x, H1, I1, r1, q1⟩ => ?_
  obtain ⟨t, a, xs, e, hq, q⟩ := q1
  subst e
  cases r1
  cases t with
  | false =>
    obtain ⟨its, rv, p, hz⟩ := I1.list hq
    refine wpAny_pyIter_list p.isList ?_
    refine ⟨s1.heap.objs.size, [s1.heap.objs.size], _, _, H1, rfl, I1.kept (t' := s1.toks) fun b o e => Heap.get?_push_of_some _ e, turn_list a _, ⟨_, Heap.get?_push_size _ rfl, rfl, rfl⟩, fun b hb => ?_, q⟩
    have e : b = s1.heap.objs.size := by simpa using hb
    subst e
    exact I1.fpOk (Nat.le_refl _) (I1.hok.fresh (Nat.le_refl _))
  | true =>
    obtain ⟨its, rv, p, hz⟩ := I1.tuple hq
    refine wpAny_pyIter_tuple (show s1.heap.IsTuple a its.toArray from p) ?_
    refine ⟨s1.heap.objs.size, [s1.heap.objs.size], _, _, H1, rfl, I1.kept (t' := s1.toks) fun b o e => Heap.get?_push_of_some _ e, turn_tuple a _, ⟨_, Heap.get?_push_size _ rfl, rfl, rfl⟩, fun b hb => ?_, q⟩
    have e : b = s1.heap.objs.size := by simpa using hb
    subst e
    exact I1.fpOk (Nat.le_refl _) (I1.hok.fresh (Nat.le_refl _))
theorem snd_sq (a : Ex) (ha : Snd I G cf a) : Snd I G cf (.sq a) := snd_W rfl fun {X top We σ ρ H M B st t x Q} p h r => by
  have h : chkE I.st a X.env.scope x = true := h
  refine evI_of (pi_sq pe_ev) (ha.E p h (Res.bind r fun x st1 u H1 M1 k1 s1 r1 hr1 => ?_))
  cases e1 : walkL x with
  | none => rw [e1] at hr1; exact hr1.elim
  | some xs =>
    rw [e1] at hr1
    obtain ⟨t1, a1, vs, q1, w1, rr1⟩ := walkL_rel e1 r1
    subst q1
    refine ⟨t1, a1, vs, rfl, w1 _ _ (.refl _ _), hr1 _ H1 M1 (.refl _ _) s1 ?_⟩
    cases t1 with
    | false => exact ItR.lst w1 rr1
    | true => exact ItR.tup w1 rr1
theorem snd_omit : Snd I G cf .omit where
  E := fun p h => (noE rfl h).elim
  T := fun p h => (noE rfl h).elim
  A := fun p h => (noA rfl h).elim
  W := fun p h => (noI rfl h).elim
  F := fun p hf => by cases hf

/-! ### ranges, listed -/
theorem rel_rng {w : Wd} {H : Hp} {M : List Addr} {B : Addr → Prop} (l : List Nat) (f : Nat → Int) : Rels w H M B (l.map fun i => PV.int (f i)) (l.map fun i => V.int (f i)) := by
  induction l with
  | nil => exact .nil
  | cons a l ih => exact .cons (.int _) ih
def rgD (a b : Int) : List V := (List.range (a - b).toNat).map fun i => V.int (a - (i : Nat))
theorem vals_rgD {a b : Int} {acc : Array Value} (h : ItemsOf (fun i v => ∃ t, v = .int (a + i * -1) t) acc (a - b).toNat) : Vals (rgD a b) acc.toList := by
  have e : acc.toList.length = (a - b).toNat := by rw [Array.length_toList]; exact h.1
  unfold rgD
  rw [← e]
  refine vals_of_get acc.toList _ fun j u hj => ?_
  obtain ⟨t, rfl⟩ := h.2 j u (by rw [← hj, Array.getElem?_toList])
  exact ⟨t, by congr 1; omega⟩
theorem lrg_small {i : Int} (h : smallI i = true) : -(2 ^ 62) ≤ i ∧ i < 2 ^ 62 := by
  obtain ⟨h1, h2⟩ := mem_bool h
  have h1 := of_decide_eq_true h1
  have h2 := of_decide_eq_true h2
  have e : (2 : Int) ^ 60 < 2 ^ 62 := by decide
  constructor <;> omega
def PRgD (X : Cx) (e : Expr) (t : L2.St → Hp → (Int → Int → Hp → Prop) → Prop) : Prop :=
  ∀ (pins : List (Addr × Obj)) (s : Shared) (σ : L2.St) (H : Hp) (Q : Int → Int → Hp → Prop), Inv X pins σ H s → t σ H Q →
    wpAny (model X.prog X.w) X.A (eval e X.env) (fun x s' => ∃ r a b t u v H', x = .ref r ∧ IsRange s'.heap r a b (-1) t u v ∧ Inv X pins σ H' s' ∧ Q a b H') X.xe s
def tRgD (ta tb : TE) : L2.St → Hp → (Int → Int → Hp → Prop) → Prop := fun σ H Q => ta σ H fun x H1 => tb σ H1 fun w H2 => ∃ k : Int, V.int 1 = .int k ∧ ∃ a b, [x, w, .int (-k)] = [V.int a, .int b, .int (-1)] ∧ Q a b H2
theorem prg_d {X : Cx} {ta tb : TE} {y z : Expr} {rp p1 p2 pos : Pos} {j : Nat} (hg : Gl X "range") (hm : X.mg "range" = none) (ha : PE X y ta) (hb : PE X z tb) (oa : oddE y = false) (ob : oddE z = false) :
    PRgD X (.Call (.Name "range" rp) [y, z, .UnaryOp .USub (.Constant (.int 1) j p1) p2] [] pos) (tRgD ta tb) := by
  intro pins s σ H Q I h
  have pm : PE X (.UnaryOp .USub (.Constant (.int 1) j p1) p2) (tUn (rU fun i => .int (-i)) (tC (.int 1))) := pe_un un_neg pe_int
  have pa : PA X [y, z, .UnaryOp .USub (.Constant (.int 1) j p1) p2] (tCons ta (tCons tb (tCons (tUn (rU fun i => .int (-i)) (tC (.int 1))) tNil))) := pa_cons ha (pa_cons hb (pa_cons pm pa_nil) (star_of ob _)) (star_of oa _)
  have hpl : (backTo pos (starEach [z, .UnaryOp .USub (.Constant (.int 1) j p1) p2] X.env)).any (·.1) = false := by rw [star_of ob]; rfl
  refine Call_ (ld_blt I hg hm boot_range (PyProof.Rows.callWith_type1 (thn (pa.run pos pins s σ H (fun vs H1 => ∃ a b, vs = [.int a, .int b, .int (-1)] ∧ Q a b H1) I h) fun us s1 ⟨vs, H1, I1, r1, a, b, e, q⟩ => ?_) (star_of oa _) hpl))
  subst e
  cases r1 with
  | cons r rr =>
    cases rr with
    | cons r' rr =>
      cases rr with
      | cons r'' rr =>
        cases rr
        obtain ⟨t, rfl⟩ := r
        obtain ⟨t', rfl⟩ := r'
        obtain ⟨t'', rfl⟩ := r''
        refine call_range_3 (by decide) ?_ (.inl (PyProof.noPylong_small (by decide)))
        exact ⟨_, a, b, _, _, _, H1, rfl, IsRange.new _ _ _ _ _ _ _, I1.kept (t' := s1.toks) fun b o e => Heap.get?_push_of_some _ e, q⟩
theorem pe_listRgD {X : Cx} {e : Expr} {te : L2.St → Hp → (Int → Int → Hp → Prop) → Prop} {p pos : Pos} (hc : X.calm = true) (hg : Gl X "list") (hm : X.mg "list" = none) (he : PRgD X e te) (na : starEach [e] X.env = (false, eval e X.env) :: starEach [] X.env) :
    PE X (.Call (.Name "list" p) [e] [] pos) (fun σ H Q => te σ H fun a b H1 => RgOk b a ∧ ∀ q, H1 q = none → Q (.ref q) (upd H1 q (.lst (rgD a b)))) := by
  refine ⟨fun pins s σ H Q I h => ?_⟩
  refine Call_ (ld_blt I hg hm boot_list (PyProof.Rows.callWith_type1 (args_cons (thn (he pins s σ H _ I h) fun x s1 ⟨r, a, b, t, u, v, H1, ex, hr, I1, ok, q⟩ => args_nil ?_) na) na))
  subst ex
  obtain ⟨b1, b2, b3, b4, b5⟩ := ok
  refine call_list_range (n := (a - b).toNat) (I1.ok.hd hc) hr (PySem.W.small_down b3 b4 b1 b2) (PySem.W.rangeSize_downNat a b) b5 fun h' tk acc c' hk e' hi => ?_
  refine ⟨.ref s1.heap.objs.size, upd H1 s1.heap.objs.size (.lst (rgD a b)), I1.laid hk (Nat.le_refl _) (show ObjOk X.prog X.w _ _ _ (.lst (rgD a b)) from ⟨?_, acc.toList, c', vals_rgD hi, ?_⟩), rfl, q _ (I1.hok.fresh (Nat.le_refl _))⟩
  · unfold rgD; rw [List.length_map, List.length_range, sizeLine_eq]; omega
  · rw [Array.toArray_toList]; exact e'
theorem lrgV_eq {dn : Bool} {x y ys : PV} (e : lrgV dn x y = some ys) : ∃ i j, x = .int i ∧ y = .int j ∧ smallI i = true ∧ smallI j = true ∧ (if dn then i - j else j - i).toNat ≤ big ∧ ys = .lst (if dn then rngD i (i - j).toNat else rngL i (j - i).toNat) := by
  unfold lrgV at e
  split at e
  · rename_i i j
    by_cases h : (smallI i && (smallI j && decide ((if dn then i - j else j - i).toNat ≤ big))) = true
    · rw [if_pos h] at e
      obtain ⟨h1, h2⟩ := mem_bool h
      obtain ⟨h2, h3⟩ := mem_bool h2
      exact ⟨_, _, rfl, rfl, h1, h2, of_decide_eq_true h3, (Option.some.inj e).symm⟩
    · rw [if_neg h] at e; cases e
  · cases e
theorem big24 : big ≤ 2 ^ 24 := by decide
theorem rgB2 {es : List Expr} {kw : List Keyword} {r : Str} {y z : Expr} (h : rgB es kw = some (r, y, z, none)) : ∃ rp cpos, es = [.Call (.Name r rp) [y, z] [] cpos] ∧ kw = [] := by
  unfold rgB at h
  split at h
  · cases h; exact ⟨_, _, rfl, rfl⟩
  · cases h
  · cases h
theorem rgB3 {es : List Expr} {kw : List Keyword} {r : Str} {y z m : Expr} (h : rgB es kw = some (r, y, z, some m)) : ∃ rp cpos, es = [.Call (.Name r rp) [y, z, m] [] cpos] ∧ kw = [] := by
  unfold rgB at h
  split at h
  · cases h
  · cases h; exact ⟨_, _, rfl, rfl⟩
  · cases h
theorem m1B_ok {m : Expr} (h : m1B m = true) : ∃ p1 p2 j, m = .UnaryOp .USub (.Constant (.int 1) j p1) p2 := by
  unfold m1B at h
  split at h
  · rw [of_decide_eq_true h]; exact ⟨_, _, _, rfl⟩
  · cases h
theorem chk_lrg {a b : Ex} {sc : Scope} {x : Expr} (h : chkE I.st (.lrg a b) sc x = true) : ∃ np rp pos cpos y z, x = .Call (.Name "list" np) [.Call (.Name "range" rp) [y, z] [] cpos] [] pos ∧ glB sc "list" = true ∧ glB sc "range" = true ∧ chkE I.st a sc y = true ∧ chkE I.st b sc z = true := by
  cases x <;> first | (exact absurd h Bool.false_ne_true) | skip
  rename_i fn es kw pos
  cases fn <;> first | (exact absurd h Bool.false_ne_true) | skip
  rename_i n np
  obtain ⟨h1, hA⟩ := mem_bool (show (decide (n = ("list" : Str)) && (glB sc n && (match rgB es kw with
    | some (r, y, z, none) => decide (r = ("range" : Str)) && (glB sc r && (chkE I.st a sc y && chkE I.st b sc z))
    | _ => false))) = true from h)
  obtain ⟨h2, hB⟩ := mem_bool hA
  split at hB
  · rename_i r y z hq
    obtain ⟨rp, cpos, rfl, rfl⟩ := rgB2 hq
    obtain ⟨h3, hC⟩ := mem_bool hB
    obtain ⟨h4, hD⟩ := mem_bool hC
    obtain ⟨h5, h6⟩ := mem_bool hD
    have e1 := of_decide_eq_true h1
    have e2 := of_decide_eq_true h3
    subst e1; subst e2
    exact ⟨_, _, _, _, _, _, rfl, h2, h4, h5, h6⟩
  · cases hB
theorem chk_lrd {a b : Ex} {sc : Scope} {x : Expr} (h : chkE I.st (.lrd a b) sc x = true) : ∃ np rp pos cpos p1 p2 j y z, x = .Call (.Name "list" np) [.Call (.Name "range" rp) [y, z, .UnaryOp .USub (.Constant (.int 1) j p1) p2] [] cpos] [] pos ∧ glB sc "list" = true ∧ glB sc "range" = true ∧ chkE I.st a sc y = true ∧ chkE I.st b sc z = true := by
  cases x <;> first | (exact absurd h Bool.false_ne_true) | skip
  rename_i fn es kw pos
  cases fn <;> first | (exact absurd h Bool.false_ne_true) | skip
  rename_i n np
  obtain ⟨h1, hA⟩ := mem_bool (show (decide (n = ("list" : Str)) && (glB sc n && (match rgB es kw with
    | some (r, y, z, some m) => decide (r = ("range" : Str)) && (glB sc r && (m1B m && (chkE I.st a sc y && chkE I.st b sc z)))
    | _ => false))) = true from h)
  obtain ⟨h2, hB⟩ := mem_bool hA
  split at hB
  · rename_i r y z m hq
    obtain ⟨rp, cpos, rfl, rfl⟩ := rgB3 hq
    obtain ⟨h3, hC⟩ := mem_bool hB
    obtain ⟨h4, hD⟩ := mem_bool hC
    obtain ⟨h0, hE⟩ := mem_bool hD
    obtain ⟨p1, p2, j, rfl⟩ := m1B_ok h0
    obtain ⟨h5, h6⟩ := mem_bool hE
    have e1 := of_decide_eq_true h1
    have e2 := of_decide_eq_true h3
    subst e1; subst e2
    exact ⟨_, _, _, _, _, _, _, _, _, rfl, h2, h4, h5, h6⟩
  · cases hB
theorem lrg_isl {dn : Bool} {a b : Ex} {ρ : Env'} {st st' : Sto} {v : PV} (e : ((evE G cf a ρ st).bind fun x st1 => (evE G cf b ρ st1).bind fun y st2 => R.lift (lrgV dn x y) st2) = .ok v st') : ∃ xs, v = .lst xs := by
  obtain ⟨x1, st1, _, e⟩ := bind_ok' e
  obtain ⟨x2, st2, _, e⟩ := bind_ok' e
  obtain ⟨e, _⟩ := lift_ok e
  obtain ⟨i, j, _, _, _, _, _, e⟩ := lrgV_eq e
  exact ⟨_, e⟩
theorem snd_lrg (a b : Ex) (ha : Snd I G cf a) (hb : Snd I G cf b) : Snd I G cf (.lrg a b) := by
  have hF : FSnd I G cf (.lrg a b) := fun {X top We σ ρ H M B st x Q} p hf h r => by
    obtain ⟨np, rp, pos, cpos, y, z, rfl, h3, h4, h5, h6⟩ := chk_lrg h
    refine evE_of (pe_listRg p.cx.calm (gl_of h3) (p.cx.free _ (by decide)) (prg_2 (gl_of h4) (p.cx.free _ (by decide)) pe_ev pe_ev (star_of (chk_odd h5) _) (star_of (chk_odd h6) _) (by rw [star_of (chk_odd h6)]; rfl))) ?_
    refine ha.E p h5 (ResF.bind r fun x st1 u H1 M1 k1 s1 r1 hr1 => hb.E (p.go k1 s1) h6 (ResF.bind hr1 fun y st2 v H2 M2 k2 s2 r2 hr2 => ?_))
    obtain ⟨ys, e, hr3⟩ := hr2.liftE
    obtain ⟨i, j, rfl, rfl, q1, q2, q3, e⟩ := lrgV_eq e
    cases e
    cases r1
    cases r2
    obtain ⟨a1, a2⟩ := lrg_small q1
    obtain ⟨a3, a4⟩ := lrg_small q2
    exact ⟨i, j, rfl, rfl, ⟨a1, a2, a3, a4, Nat.le_trans q3 big24⟩, fun q hq => hr3.now s2 (rel_rng _ _) hq⟩
  exact snd_F (fun {X top We σ ρ H M B st x Q} p h r => hF p rfl h (ResF.of r fun v st' e => lrg_isl e)) rfl rfl rfl hF
theorem snd_lrd (a b : Ex) (ha : Snd I G cf a) (hb : Snd I G cf b) : Snd I G cf (.lrd a b) := by
  have hF : FSnd I G cf (.lrd a b) := fun {X top We σ ρ H M B st x Q} p hf h r => by
    obtain ⟨np, rp, pos, cpos, p1, p2, j, y, z, rfl, h3, h4, h5, h6⟩ := chk_lrd h
    refine evE_of (pe_listRgD p.cx.calm (gl_of h3) (p.cx.free _ (by decide)) (prg_d (gl_of h4) (p.cx.free _ (by decide)) pe_ev pe_ev (chk_odd h5) (chk_odd h6)) rfl) ?_
    refine ha.E p h5 (ResF.bind r fun x st1 u H1 M1 k1 s1 r1 hr1 => hb.E (p.go k1 s1) h6 (ResF.bind hr1 fun y st2 v H2 M2 k2 s2 r2 hr2 => ?_))
    obtain ⟨ys, e, hr3⟩ := hr2.liftE
    obtain ⟨i, j, rfl, rfl, q1, q2, q3, e⟩ := lrgV_eq e
    cases e
    cases r1
    cases r2
    obtain ⟨a1, a2⟩ := lrg_small q1
    obtain ⟨a3, a4⟩ := lrg_small q2
    exact ⟨1, rfl, i, j, rfl, ⟨a3, a4, a1, a2, Nat.le_trans q3 big24⟩, fun q hq => hr3.now s2 (rel_rng _ _) hq⟩
  exact snd_F (fun {X top We σ ρ H M B st x Q} p h r => hF p rfl h (ResF.of r fun v st' e => lrg_isl e)) rfl rfl rfl hF
end
end Mi

end

section
set_option linter.all false
set_option maxRecDepth 100000
/-! Mi, part I: comprehensions; every expression keeps the promise. -/
namespace Mi
open PySem PySem.Spec PyProof.Rows L2

section
variable {I : Info} {G : GlobF} {cf : CallF}
/-- a comprehension's turn -/
def turnR (G : GlobF) (cf : CallF) (tg : Tg) (ow : List Nat) (c e : Ex) (ρ : Env') (x : PV) (st : Sto) : R (Option PV) :=
  R.noEx <| match setTg tg x (wipeP ρ ow) with
    | none => .bad
    | some ρ' => (tstR c.isOmit (evE G cf c ρ') st).bind fun b st => if b then (evE G cf e ρ' st).bind fun y st => .ok (some y) st else .ok none st
theorem evE_comp {tg : Tg} {ow : List Nat} {it c e : Ex} {ρ : Env'} {st : Sto} : evE G cf (.comp tg ow it c e) ρ st = (evI G cf it ρ st).bind fun xs st1 => (compR (turnR G cf tg ow c e ρ) xs st1).bind fun ys st2 => if ys.length ≤ big then .ok (.lst ys) st2 else .bad := rfl
theorem compR_noex {f : PV → Sto → R (Option PV)} (hf : ∀ x st c st', f x st ≠ .ex c st') : ∀ (xs : List PV) (st : Sto) (c : Nat) (st' : Sto), compR f xs st ≠ .ex c st'
  | [], st, c, st', h => by cases h
  | x :: xs, st, c, st', h => by
    unfold compR at h
    cases e : f x st with
    | ok o st1 =>
      rw [e] at h
      cases e2 : compR f xs st1 with
      | ok ys st2 => rw [R.bind_ok, e2] at h; cases h
      | ex c2 st2 => exact compR_noex hf xs st1 c2 st2 e2
      | bad => rw [R.bind_ok, e2] at h; cases h
    | ex c2 st2 => exact hf x st c2 st2 e
    | bad => rw [e] at h; cases h
theorem noEx_ok' {α : Type} {r : R α} {a : α} {st : Sto} (h : r.noEx = .ok a st) : r = .ok a st := by
  cases r with
  | ok b st' => exact h
  | ex c st' => cases h
  | bad => cases h
theorem turnR_noex {tg : Tg} {ow : List Nat} {c e : Ex} {ρ : Env'} (x : PV) (st : Sto) (k : Nat) (st' : Sto) : turnR G cf tg ow c e ρ x st ≠ .ex k st' := by
  unfold turnR R.noEx
  split
  · exact fun h => by cases h
  · exact fun h => by cases h
/-- in a block no error leaves -/
def WeN : WeS := fun _ _ _ _ _ => False
theorem Ctx.blk {X : Cx} {top : Bool} {We : WeS} (cx : Ctx I G cf X top We) (s : Shared) (H : Hp) (scope : Scope) (cenv : Env) (fp : List Addr) : Ctx I.b G cf (X.blk s H scope cenv fp) false WeN where
  calm := cx.calm
  nd := cx.nd
  N := cx.N
  takes := fun u s' ⟨a, B, sI, pins, σ, H, cls, d, _, _, _, _, _, _, _, _, ⟨_, _, _, _, _, _, _, w⟩⟩ => w.elim
  un := cx.un
  fns := cx.fns
  flds := cx.flds
  isc := cx.isc
  mn := cx.mn
  glob := cx.glob
  free := cx.free
  fn := fun h => by cases h
  cl := cx.cl
  isf := cx.isf
  lam := fun h => by cases h
theorem own_ix (I : Info) (ow : List Nat) : (ownOf I ow).map (·.2) = ow := by
  unfold ownOf
  rw [List.map_map]
  exact List.map_id' ow
theorem chkI_odd {e : Ex} {sc : Scope} {t x : Expr} (h : chkI I.st e sc t x = true) : oddE x = false := by
  cases e with
  | sq a => exact chk_odd (show chkE I.st a sc x = true from h)
  | rng1 a => cases x <;> first | rfl | (exact absurd h Bool.false_ne_true)
  | rng2 a b => cases x <;> first | rfl | (exact absurd h Bool.false_ne_true)
  | zip a b => cases t <;> first | (exact absurd h Bool.false_ne_true) | (cases x <;> first | rfl | (exact absurd h Bool.false_ne_true))
  | enu a => cases t <;> first | (exact absurd h Bool.false_ne_true) | (cases x <;> first | rfl | (exact absurd h Bool.false_ne_true))
  | _ => exact (noI rfl h).elim
theorem Kp.chgD {H1 H : Hp} {M1 M : List Addr} {D : Addr} {o u : HO} (k : Kp H1 M1 H M) (hD : H1 D = none) (hu : H D = some u) (hl : isL u) : Kp H1 M1 (upd H D o) M :=
  ⟨fun a u e n t => ⟨by rw [upd_ne (ne_of_none e hD)]; exact (k.h a u e n t).1, (k.h a u e n t).2⟩, k.m, fun a e => by
    unfold upd at e
    by_cases q : a = D
    · rw [q]; exact hD
    · rw [if_neg q] at e; exact k.d a e⟩
theorem Res.ok' {α β : Type} {w : Wd} {B : Addr → Prop} {rel : Rl α β} {We : WeT} {H : Hp} {M : List Addr} {r : R α} {a : α} {st : Sto} {Q : β → Hp → Prop} (e : r = .ok a st) (h : ∀ v H' M', Kp H M H' M' → Cels w H' M' B st → rel H' M' a v → Q v H') : Res w B rel We H M r Q := by
  subst e; exact h
def ComPv (w : Wd) (B : Addr → Prop) (H1 : Hp) (M1 : List Addr) (D : Addr) (f : PV → Sto → R (Option PV)) (xs ys : List PV) (st2 : Sto) (i : Nat) (H : Hp) : Prop :=
  ∃ M st acc vs rest, compR f (xs.drop i) st = .ok rest st2 ∧ acc ++ rest = ys ∧ Kp H1 M1 H M ∧ Cels w H M (With B D) st ∧ H D = some (.lst vs) ∧ D ∉ M ∧ Rels w H M (With B D) acc vs
def ttOf (X : Cx) (scope : Scope) (ifs : List Expr) : TT := fun σ H Q => ∀ (s : Shared) (H0 : Hp) (C : Addr) (cl : List (Str × Addr)) (fp : List Addr), EvP (X.blk s H0 scope (compEnvC scope cl C X.env) fp) ifs σ H Q
def teOf (X : Cx) (scope : Scope) (elt : Expr) : TE := fun σ H Q => ∀ (s : Shared) (H0 : Hp) (C : Addr) (cl : List (Str × Addr)) (fp : List Addr), EvE (X.blk s H0 scope (compEnvC scope cl C X.env) fp) elt σ H Q
/-- what a comprehension's text is -/
structure CompIs (I : Info) (tg : Tg) (ow : List Nat) (it c e : Ex) (sc : Scope) (elt t iter : Expr) (ifs : List Expr) (scope : Scope) : Prop where
  blk : blkC I.N sc scope (ownOf I ow) = true
  sl : ∀ i ∈ tg.slots, i ∈ ow
  it : chkI I.st it sc t iter = true
  tg : chkTg I.st (ownC scope) (relS scope sc) tg t = true
  ifs : (match (generalizing := false) ifs with
        | [] => c.isOmit
        | x :: [] => chkE I.b.st c (relS scope sc) x
        | _ => false) = true
  elt : chkE I.b.st e (relS scope sc) elt = true
theorem comp_is {tg : Tg} {ow : List Nat} {it c e : Ex} {sc : Scope} {x : Expr} (h : chkE I.st (.comp tg ow it c e) sc x = true) : ∃ elt t iter ifs scope pos, x = .ListComp elt [⟨t, iter, ifs, 0⟩] scope pos ∧ CompIs I tg ow it c e sc elt t iter ifs scope := by
  cases x <;> first | (exact absurd h Bool.false_ne_true) | skip
  rename_i elt gens scope pos
  rcases gens with _ | ⟨⟨t, iter, ifs, k⟩, _ | ⟨_, _⟩⟩
  · exact absurd h Bool.false_ne_true
  · rcases k with (_ | k) | k
    · have h : chkE I.st (.comp tg ow it c e) sc (.ListComp elt [⟨t, iter, ifs, 0⟩] scope pos) = true := h
      refine ⟨elt, t, iter, ifs, scope, pos, rfl, ?_⟩
      obtain ⟨h1, h⟩ := mem_bool (show (blkC I.N sc scope (ownOf I ow) && (tg.slots.all (ow.contains ·) && (chkI I.st it sc t iter && (chkTg I.st (ownC scope) (relS scope sc) tg t && ((match (generalizing := false) ifs with
        | [] => c.isOmit
        | x :: [] => chkE I.b.st c (relS scope sc) x
        | _ => false) && chkE I.b.st e (relS scope sc) elt))))) = true from h)
      obtain ⟨h2, h⟩ := mem_bool h
      obtain ⟨h3, h⟩ := mem_bool h
      obtain ⟨h4, h⟩ := mem_bool h
      obtain ⟨h5, h6⟩ := mem_bool h
      exact ⟨h1, fun i hi => by simpa using List.all_eq_true.mp h2 i hi, h3, h4, h5, h6⟩
    · exact absurd h Bool.false_ne_true
    · exact absurd h Bool.false_ne_true
  · rcases k with (_ | k) | k <;> exact absurd h Bool.false_ne_true
theorem comp_tlc {tg : Tg} {ow : List Nat} {it c e : Ex} (hi : Snd I G cf it) (hc : Snd I.b G cf c) (he : Snd I.b G cf e) {X : Cx} {top : Bool} {We : WeS} {σ : L2.St} {ρ : Env'} {H : Hp} {M : List Addr} {B : Addr → Prop} {st : Sto} {Q : VK} {elt t iter : Expr} {ifs : List Expr} {scope : Scope}
    (p : Pt I G cf X top We σ ρ H M B st) (k : CompIs I tg ow it c e X.env.scope elt t iter ifs scope) (r : ResF (wd X I.nm) B (We σ) H M (evE G cf (.comp tg ow it c e) ρ st) Q) : tLc (EvI X t iter) (tg.g X.K) (ttOf X scope ifs) (teOf X scope elt) ow σ H Q := by
  obtain ⟨h1, hsl, h3, h4, h5, h6⟩ := k
  rw [evE_comp] at r
  refine hi.W p h3 (ResF.bind r fun xs st1 J H1 M1 k1 s1 ir r1 => fun D hD => ?_)
  -- the result is a list
  obtain ⟨ys, st2, ec, hlen, r2⟩ : ∃ ys st2, compR (turnR G cf tg ow c e ρ) xs st1 = .ok ys st2 ∧ ys.length ≤ big ∧ ResF (wd X I.nm) B (We σ) H1 M1 (.ok (.lst ys) st2) Q := by
    cases q : compR (turnR G cf tg ow c e ρ) xs st1 with
    | ok ys st2 =>
      rw [q] at r1
      have r1' : ResF (wd X I.nm) B (We σ) H1 M1 (if ys.length ≤ big then .ok (.lst ys) st2 else .bad) Q := r1
      by_cases hl : ys.length ≤ big
      · rw [if_pos hl] at r1'; exact ⟨ys, st2, rfl, hl, r1'⟩
      · rw [if_neg hl] at r1'; exact r1'.elim
    | ex k st2 => exact (compR_noex (fun x st k st' => turnR_noex x st k st') xs st1 k st2 q).elim
    | bad => rw [q] at r1; exact r1.elim
  have nB : ∀ a, With B D a → B a ∨ H1 a = none := fun a z => z.elim .inl fun q => .inr (by rw [q]; exact hD)
  have walk : L2.Walk J xs.length (fun H => ∃ M, Kp H1 M1 H M ∧ ∀ a, a ∈ M → H a ≠ none) (fun i H x H' => J.yld i H x H') :=
    ⟨fun i H hi ⟨M, k, hm⟩ => (ir H M (With B D) k.toB hm nB).1 i hi, fun H ⟨M, k, hm⟩ => (ir H M (With B D) k.toB hm nB).2.1, fun i H x H' _ _ y => y⟩
  refine lc_it (g := tg.g X.K) (tt := ttOf X scope ifs) (te := teOf X scope elt) (vs := ow) (σ := σ) (H1 := H1) (D := D) walk (Qd := fun H => Q (.ref D) H) (ComPv (wd X I.nm) B H1 M1 D (turnR G cf tg ow c e ρ) xs ys st2) ?_ ?_ ?_ ?_
  · exact ⟨M1, st1, [], [], ys, ec, rfl, .new hD, s1.with hD, upd_same, fun z => s1.mem z hD, .nil⟩
  · rintro i H' hi ⟨M', st', acc, vs, rest, _, _, k', s', _, _, _⟩
    exact ⟨M', k', fun a ha => s'.mem ha⟩
  · rintro i u H2 H3 hi ⟨M', st', acc, vs, rest, er, ea, k', s', hv, hn, rr⟩ hy
    obtain ⟨pv, ep, hh, rp⟩ := (ir H2 M' (With B D) k'.toB (fun a ha => s'.mem ha) nB).2.2 i u H3 hi hy
    have hd : xs.drop i = pv :: xs.drop (i + 1) := by
      obtain ⟨hl, e1⟩ := List.getElem?_eq_some_iff.mp ep
      rw [List.drop_eq_getElem_cons hl, e1]
    rw [hd] at er
    -- the heap at the item
    have st3 : Kp H2 M' H3 M' ∧ Cels (wd X I.nm) H3 M' (With B D) st' ∧ H3 D = some (.lst vs) := by
      rcases hh with rfl | ⟨T, o, hT, rfl⟩
      · exact ⟨.refl _ _, s', hv⟩
      · exact ⟨.new hT, s'.new hT, by rw [upd_ne (ne_of_none hv hT)]; exact hv⟩
    obtain ⟨k3, s3, hv3⟩ := st3
    have rr3 := rr.mono k3
    obtain ⟨o, st4, e1, e2⟩ := bind_ok' (show (turnR G cf tg ow c e ρ pv st').bind (fun o st1 => (compR (turnR G cf tg ow c e ρ) (xs.drop (i + 1)) st1).bind fun ys st2 => .ok (match o with
      | some y => y :: ys
      | none => ys) st2) = .ok rest st2 from er)
    obtain ⟨rest', st5, e3, e4⟩ := bind_ok' e2
    cases e4
    have e1 := noEx_ok' e1
    cases es : setTg tg pv (wipeP ρ ow) with
    | none => rw [es] at e1; cases e1
    | some ρ' =>
      rw [es] at e1
      have env : EnvR (wd X I.nm) H3 M' (With B D) (wipeP ρ ow) (L2.wipe σ ow) := ((p.er.mono k1).bchg nB |>.mono (k'.trans k3)).wipe ow
      refine setTg_g tg pv u (wipeP ρ ow) ρ' (L2.wipe σ ow) _ (chkTg_wf tg t h4) es env rp fun σ2 env2 sl => ⟨?_, ?_⟩
      · rw [sl.wipe hsl, wipe_wipe]
      · obtain ⟨b, st6, e5, e6⟩ := bind_ok' e1
        have pt : ∀ (s : Shared) (H0 : Hp) (C : Addr) (cl : List (Str × Addr)) (fp : List Addr), Pt I.b G cf (X.blk s H0 scope (compEnvC scope cl C X.env) fp) false WeN σ2 ρ' H3 M' (With B D) st' := fun s H0 C cl fp => ⟨p.cx.blk s H0 scope _ fp, env2, s3, fun z => by cases z⟩
        -- behind the test
        have aft : ∀ H4 M4, Kp H3 M' H4 M4 → Cels (wd X I.nm) H4 M4 (With B D) st6 → if b = true then teOf X scope elt σ2 H4 fun y H4 => ∃ acc, H4 D = some (.lst acc) ∧ acc.length < sizeLine ∧
            ComPv (wd X I.nm) B H1 M1 D (turnR G cf tg ow c e ρ) xs ys st2 (i + 1) (upd H4 D (.lst (acc ++ [y]))) else ComPv (wd X I.nm) B H1 M1 D (turnR G cf tg ow c e ρ) xs ys st2 (i + 1) H4 := fun H4 M4 k4 s4 => by
          have hD4 := k4.h D _ hv3 hn trivial
          cases b with
          | false =>
            rw [if_neg Bool.false_ne_true] at e6 ⊢
            cases e6
            exact ⟨M4, _, acc, vs, rest', e3, ea, (k'.trans k3).trans k4, s4, hD4.1, hD4.2, rr3.mono k4⟩
          | true =>
            rw [if_pos rfl] at e6 ⊢
            obtain ⟨y, st7, e7, e8⟩ := bind_ok' e6
            cases e8
            intro s H0 C cl fp
            refine he.E ((pt s H0 C cl fp).go k4 s4) h6 (Res.ok' e7 fun yv H5 M5 k5 s5 ry => ?_)
            have hD5 := k5.h D _ hD4.1 hD4.2 trivial
            have hlt : acc.length + 1 ≤ ys.length := by rw [← ea, List.length_append, List.length_cons]; omega
            refine ⟨vs, hD5.1, ?_, M5, _, acc ++ [y], vs ++ [yv], rest', e3, by rw [← ea, List.append_assoc]; rfl, (((k'.trans k3).trans k4).trans k5).chgD hD hD5.1 trivial, s5.chg hD5.1 trivial (.inr rfl), upd_same, hD5.2, ?_⟩
            · rw [← rr.length]; exact Nat.lt_of_lt_of_le (Nat.lt_of_succ_le hlt) (Nat.le_trans hlen line_big)
            · exact ((rr3.mono (k4.trans k5)).append (.cons ry .nil)).chg hD5.1 trivial (.inr rfl)
        intro s H0 C cl fp
        rcases ifs with _ | ⟨cx, _ | ⟨_, _⟩⟩
        · have h5 : c.isOmit = true := h5
          rw [h5] at e5
          cases e5
          exact evP_of pts_nil (aft H3 M' (.refl _ _) s3)
        · have h5 : chkE I.b.st c (relS scope X.env.scope) cx = true := h5
          have ho : c.isOmit = false := by
            cases q : c.isOmit with
            | false => rfl
            | true => exact (noE (by rw [q]; simp) h5).elim
          rw [ho] at e5
          refine evP_of (pts_one pt_ev) (hc.T (pt s H0 C cl fp) h5 (Res.ok' e5 fun b' H4 M4 k4 s4 eb => ?_))
          subst eb
          exact aft H4 M4 k4 s4
        · cases h5
  · rintro H' ⟨M', st', acc, vs, rest, er, ea, k', s', hv, hn, rr⟩
    rw [List.drop_length] at er
    cases er
    rw [List.append_nil] at ea
    subst ea
    obtain ⟨zs, ez, r3⟩ := r2
    cases ez
    exact r3 D vs H' M' hD hv hn (fun z => s1.bk D z hD) k' s' rr

theorem comp_pg {X : Cx} {top : Bool} {We : WeS} (cx : Ctx I G cf X top We) {tg : Tg} {ow : List Nat} {it c e : Ex} {elt t iter : Expr} {ifs : List Expr} {scope : Scope} (k : CompIs I tg ow it c e X.env.scope elt t iter ifs scope) :
    ∀ (s : Shared) (H0 : Hp) (C : Addr) (cl : List (Str × Addr)) (fp : List Addr), PG (X.blk s H0 scope (compEnvC scope cl C X.env) fp) t (tg.g X.K) := fun s H0 C cl fp =>
  pg_of (X := X.blk s H0 scope (compEnvC scope cl C X.env) fp) (I := I.st) (top := ownC scope) cx.calm cx.nd cx.N (fun x z => z) tg t k.tg
theorem comp_pts {X : Cx} {scope : Scope} {ifs : List Expr} : ∀ (s : Shared) (H0 : Hp) (C : Addr) (cl : List (Str × Addr)) (fp : List Addr), PTs (X.blk s H0 scope (compEnvC scope cl C X.env) fp) ifs (ttOf X scope ifs) := fun s H0 C cl fp =>
  ⟨fun pins s1 σ H Q I h => (pp_ev (X := X.blk s H0 scope (compEnvC scope cl C X.env) fp)).run pins s1 σ H Q I (h s H0 C cl fp)⟩
theorem comp_pe {X : Cx} {scope : Scope} {elt : Expr} : ∀ (s : Shared) (H0 : Hp) (C : Addr) (cl : List (Str × Addr)) (fp : List Addr), PE (X.blk s H0 scope (compEnvC scope cl C X.env) fp) elt (teOf X scope elt) := fun s H0 C cl fp =>
  ⟨fun pins s1 σ H Q I h => (pe_ev (X := X.blk s H0 scope (compEnvC scope cl C X.env) fp)).run pins s1 σ H Q I (h s H0 C cl fp)⟩
theorem snd_compF (tg : Tg) (ow : List Nat) (it c e : Ex) (hi : Snd I G cf it) (hc : Snd I.b G cf c) (he : Snd I.b G cf e) : FSnd I G cf (.comp tg ow it c e) := fun {X top We σ ρ H M B st x Q} p hf h r => by
  obtain ⟨elt, t, iter, ifs, scope, pos, rfl, k⟩ := comp_is h
  refine evE_of (pe_lc p.cx.calm p.cx.nd pi_ev (blkOk_by (by rw [p.cx.N]; exact k.blk)) (comp_pg p.cx k) comp_pts comp_pe (folded_of (chkI_odd k.it) _)) ?_
  rw [own_ix]
  exact comp_tlc hi hc he p k r
theorem snd_comp (tg : Tg) (ow : List Nat) (it c e : Ex) (hi : Snd I G cf it) (hc : Snd I.b G cf c) (he : Snd I.b G cf e) : Snd I G cf (.comp tg ow it c e) := by
  refine snd_F (fun {X top We σ ρ H M B st x Q} p h r => snd_compF tg ow it c e hi hc he p rfl h (ResF.of r fun v st' q => ?_)) rfl rfl rfl (snd_compF tg ow it c e hi hc he)
  rw [evE_comp] at q
  obtain ⟨xs, st1, _, q⟩ := bind_ok' q
  obtain ⟨ys, st2, _, q⟩ := bind_ok' q
  split at q
  · cases q; exact ⟨_, rfl⟩
  · cases q
end
end Mi

end

section
set_option linter.all false
set_option maxRecDepth 100000
/-! Mi, part S: dicts, calls of names, comprehensions with two for. -/
namespace Mi
open PySem PySem.Spec PyProof.Rows L2

section
variable {I : Info} {G : GlobF} {cf : CallF}
/-! ### dicts -/
theorem flat_rel {w : Wd} {H : Hp} {M : List Addr} {B : Addr → Prop} {p : PV} {v u : V} (e : flatV? p = some v) (r : Rel w H M B p u) : u = v := by
  cases p <;> first | (cases e; done) | skip
  all_goals (cases e; cases r; rfl)
theorem unflat_rel {w : Wd} {H : Hp} {M : List Addr} {B : Addr → Prop} {p : PV} {v : V} (e : unflat v = some p) : Rel w H M B p v := by
  cases v <;> first | (cases e; done) | skip
  · cases e; exact .non
  · cases e; exact .bl _
  · cases e; exact .int _
  · cases e; exact .str _
theorem key_rel {w : Wd} {H : Hp} {M : List Addr} {B : Addr → Prop} {p : PV} {k : Key} {u : V} (e : key? p = some k) (r : Rel w H M B p u) : u = kV k := by
  cases p <;> first | (cases e; done) | skip
  all_goals (cases e; cases r; rfl)
theorem pair_rel {w : Wd} {H : Hp} {M : List Addr} {B : Addr → Prop} {x : PV} {kv : Key × V} {u : V} (e : pair? x = some kv) (r : Rel w H M B x u) : ∃ a, u = .ref a ∧ SqT w.K H a [kV kv.1, kv.2] := by
  unfold pair? at e
  split at e
  · rename_i k v
    obtain ⟨k', e1, e2⟩ := Option.bind_eq_some_iff.mp e
    obtain ⟨v', e3, e4⟩ := Option.map_eq_some_iff.mp e2
    subst e4
    obtain ⟨a, vs, rfl, hs, rr⟩ := r.tupT
    cases rr with
    | cons r1 rr =>
      cases rr with
      | cons r2 rr =>
        cases rr
        rw [key_rel e1 r1, flat_rel e3 r2] at hs
        exact ⟨a, rfl, hs⟩
  · cases e
theorem pairs_rel {w : Wd} {H : Hp} {M : List Addr} {B : Addr → Prop} : ∀ {xs : List PV} {kvs : List (Key × V)} {us : List V}, pairs? xs = some kvs → Rels w H M B xs us → ∃ ps : List Addr, us = ps.map V.ref ∧ Paired (fun p (kv : Key × V) => SqT w.K H p [kV kv.1, kv.2]) ps kvs
  | [], kvs, us, e, r => by cases e; cases r; exact ⟨[], rfl, .nil⟩
  | x :: xs, kvs, us, e, r => by
    obtain ⟨p, e1, e2⟩ := Option.bind_eq_some_iff.mp (show ((pair? x).bind fun p => (pairs? xs).map (p :: ·)) = some kvs from e)
    obtain ⟨ps, e3, e4⟩ := Option.map_eq_some_iff.mp e2
    subst e4
    cases r with
    | cons r1 rr =>
      obtain ⟨a, rfl, hs⟩ := pair_rel e1 r1
      obtain ⟨as, rfl, hp⟩ := pairs_rel e3 rr
      exact ⟨a :: as, rfl, .cons hs hp⟩
theorem snd_dict (a : Ex) (ha : Snd I G cf a) : Snd I G cf (.dict a) := snd_of (fun {X top We σ ρ H M B st x Q} p h r => by
  cases x <;> first | (exact absurd h Bool.false_ne_true) | skip
  rename_i fn es kw pos
  cases fn <;> first | (exact absurd h Bool.false_ne_true) | skip
  rename_i n np
  rcases es with _ | ⟨y, _ | ⟨z, es⟩⟩ <;> rcases kw with _ | ⟨_, _⟩ <;> first | (exact absurd h Bool.false_ne_true) | skip
  obtain ⟨h1, h2⟩ := mem_bool (show (decide (n = ("dict" : Str)) && (glB X.env.scope n && chkE I.st a X.env.scope y)) = true from h)
  obtain ⟨h2, h3⟩ := mem_bool h2
  have hn := of_decide_eq_true h1
  subst hn
  refine evE_of (pe_callTy (call_dictP p.cx.calm) (gl_of h2) (p.cx.free _ (by decide)) (by decide +kernel) pa_ev (by decide) (by decide) (star_of (chk_odd h3) _) rfl) (evA1 (chk_odd h3) (ha.E p h3 (Res.bind r fun v st1 u H1 M1 k1 s1 ru r1 => ?_)))
  obtain ⟨c, e, q⟩ := Res.liftE r1
  obtain ⟨xs, e1, e2⟩ := Option.bind_eq_some_iff.mp (show ((asL st1 v).bind fun xs => (pairs? xs).bind fun ps => if ps.length ≤ big then some (PV.dct (mergeK [] ps)) else none) = some c from e)
  obtain ⟨ps, e3, e4⟩ := Option.bind_eq_some_iff.mp e2
  split at e4
  · cases e4
    obtain ⟨a', vs, rfl, hv, rr⟩ := asL_rel s1 ru e1
    obtain ⟨as, rfl, hp⟩ := pairs_rel e3 rr
    exact ⟨a', as, ps, rfl, SqL.of hv, hp, fun d hd => q _ _ (.new hd) (s1.new hd) (.dct upd_same fun z => s1.mem z hd)⟩
  · cases e4) rfl rfl rfl rfl
theorem snd_get (d k z : Ex) (hd : Snd I G cf d) (hk : Snd I G cf k) (hz : Snd I G cf z) : Snd I G cf (.get d k z) := snd_of (fun {X top We σ ρ H M B st x Q} p h r => by
  cases x <;> first | (exact absurd h Bool.false_ne_true) | skip
  rename_i fn es kw cpos
  cases fn <;> first | (exact absurd h Bool.false_ne_true) | skip
  rename_i b n apos
  cases b <;> first | (exact absurd h Bool.false_ne_true) | skip
  rename_i bn bp
  rcases es with _ | ⟨y, _ | ⟨w, _ | ⟨w2, es⟩⟩⟩ <;> rcases kw with _ | ⟨_, _⟩ <;> first | (exact absurd h Bool.false_ne_true) | skip
  obtain ⟨h0, h⟩ := mem_bool (show (decide (n = ("get" : Str)) && ((apos.endLine == cpos.line) && (chkE I.st d X.env.scope (.Name bn bp) && (chkE I.st k X.env.scope y && chkE I.st z X.env.scope w)))) = true from h)
  obtain ⟨h1, h⟩ := mem_bool h
  obtain ⟨h2, h⟩ := mem_bool h
  obtain ⟨h3, h4⟩ := mem_bool h
  have hnm := of_decide_eq_true h0
  subst hnm
  have e2 : starEach [y, w] X.env = [(false, eval y X.env), (false, eval w X.env)] := by rw [star_of (chk_odd h3), star_of (chk_odd h4)]; rfl
  have un := p.cx.un
  refine evE_of (pe_dget2 (by omega) pe_ev pe_ev pe_ev ⟨rfl, by rw [e2]; rfl, h1, by rw [e2]; rfl⟩) (hd.E p h2 (Res.bind r fun v st1 u H1 M1 k1 s1 ru r1 => ?_))
  have p1 := p.go k1 s1
  cases v with
  | dct kvs =>
    cases ru with
    | dct e n =>
      rename_i a
      refine ⟨a, rfl, .inl ⟨kvs, .inl e⟩, hk.E p1 h3 (Res.bind r1 fun kv st2 u2 H2 M2 k2 s2 ru2 r2 => ?_)⟩
      refine hz.E (p1.go k2 s2) h4 (Res.bind r2 fun zv st3 u3 H3 M3 k3 s3 ru3 r3 => ?_)
      obtain ⟨c, e3, q⟩ := Res.liftE r3
      obtain ⟨kk, e4, e5⟩ := Option.bind_eq_some_iff.mp (show ((key? kv).bind fun k => (match valV kvs k with
        | some v => unflat v
        | none => some zv)) = some c from e3)
      have hk2 := ((k2.trans k3).h _ _ e n trivial).1
      refine ⟨valV kvs kk, ?_, ?_⟩
      · rw [key_rel e4 ru2]; exact DGet.k hk2
      · cases ev : valV kvs kk with
        | none =>
          rw [ev] at e5
          cases e5
          exact q.now s3 ru3
        | some v =>
          rw [ev] at e5
          exact q.now s3 (unflat_rel e5)
  | _ => exact r1.elim) rfl rfl rfl rfl
/-! ### a def that a name holds -/
section
variable {X : Cx} {CX : CXT} {k i : Nat} {f : Addr} {fd : FuncData} {ps : List Str} {sp : Sp} {x : Str} {p pos : Pos} {e : Expr} {es : List Expr} {t : TA}
theorem pe_callLS {E : L2.St → XK} (F : FnOk X.prog X.w X.K X.mg X.base CX k f fd ps sp) (hr : Room k X.A) (hN : X.N[i]? = some x) (hv : Vis X.env.scope x) (hk : PySem.W.keepIn X.K (.ref f) = true) (hb : Binds X.K fd ps []) (hx : ∀ σ, PassesAt CX X σ (E σ)) (ha : PA X (e :: es) t)
    (hdb : (x == ("__debug__" : Str)) = false) (hcd : (x == ("__classdict__" : Str)) = false)
    (he : starEach (e :: es) X.env = (false, eval e X.env) :: starEach es X.env) (hpl : (backTo pos (starEach es X.env)).any (·.1) = false) : PE X (.Call (.Name x p) (e :: es) [] pos) (fun σ H Q => σ[i]? = some (some (.ref f)) ∧ t σ H fun vs H1 => sp vs H1 Q (E σ)) := by
  refine ⟨fun pins s σ H Q I h => ?_⟩
  obtain ⟨hs, ht⟩ := h
  refine wpAny_Call_Name_kw (thn ((pe_var (pos := p) hN hv hdb hcd).run pins s σ H (fun v H1 => v = .ref f ∧ H1 = H) I ⟨.ref f, hs, rfl, rfl⟩) fun u s1 ⟨v, H1, I1, r1, q1⟩ => ?_)
  obtain ⟨rfl, rfl⟩ := q1
  cases r1
  refine PySem.W.callWith_K (h₀ := X.base) I.ok.mod.kin hk (thn (ha.run pos pins s1 σ _ _ I1 ht) fun us s2 ⟨vs, H2, I2, r, q⟩ => ⟨I2.kIn, ?_⟩) he hpl
  exact run_fnS (us := us) F hr hb (hx σ) I2 r q
end
theorem name_ok {X : Cx} {top : Bool} {We : WeS} (cx : Ctx I G cf X top We) {i : Nat} {x : Str} (h : nameOk I X.env.scope i x = true) : X.N[i]? = some x ∧ Vis X.env.scope x ∧ (x == ("__debug__" : Str)) = false ∧ (x == ("__classdict__" : Str)) = false := by
  obtain ⟨h1, h⟩ := mem_bool (show (decide (I.N[i]? = some x) && (visB X.env.scope x && (nodbg x && !(x == ("__classdict__" : Str))))) = true from h)
  obtain ⟨h2, h⟩ := mem_bool h
  obtain ⟨h3, h4⟩ := mem_bool h
  exact ⟨by rw [cx.N]; exact of_decide_eq_true h1, vis_of h2, by simpa [nodbg] using h3, by simpa using h4⟩
theorem args_star {as : Ex} {X : Cx} {y : Expr} {ys : List Expr} {pos : Pos} (h2 : chkA I.st as X.env.scope (y :: ys) = true) : starEach (y :: ys) X.env = (false, eval y X.env) :: starEach ys X.env ∧ (backTo pos (starEach ys X.env)).any (·.1) = false := by
  cases as <;> first | (exact (noA rfl h2).elim) | skip
  · exact absurd h2 Bool.false_ne_true
  · rename_i a as
    obtain ⟨c1, c2⟩ := mem_bool (show (chkE I.st a X.env.scope y && chkA I.st as X.env.scope ys) = true from h2)
    exact ⟨star_of (chk_odd c1) _, chkA_star _ _ as ys c2⟩
theorem slot_of {w : Wd} {H : Hp} {M : List Addr} {B : Addr → Prop} {ρ : Env'} {σ : L2.St} (er : EnvR w H M B ρ σ) {i : Nat} {v : PV} (e : (ρ[i]?).bind id = some v) : ∃ u, σ[i]? = some (some u) ∧ Rel w H M B v u := by
  cases q : ρ[i]? with
  | none => rw [q] at e; cases e
  | some o =>
    rw [q] at e
    have e : o = some v := e
    subst e
    exact er.2 i v q
theorem snd_calg (m : CM) (i : Nat) (as : Ex) (hs : Snd I G cf as) : Snd I G cf (.calg m i as) := snd_of (fun {X top We σ ρ H M B st x Q} p h r => by
  cases x <;> first | (exact absurd h Bool.false_ne_true) | skip
  rename_i fn es kw pos
  cases fn <;> first | (exact absurd h Bool.false_ne_true) | skip
  rename_i n np
  have hE : ∀ c st' H' M', We σ c st' H' M' → ∀ a, X.mg (I.nm c) = some (.ref a) → WE (Wof X I.nm We) σ (.ref a) none H' := fun c st' H' M' w a ha => ⟨c, st', M', a, rfl, rfl, ha, w⟩
  rcases es with _ | ⟨y, ys⟩ <;> rcases kw with _ | ⟨_, _⟩ <;> first | (exact absurd h Bool.false_ne_true) | skip
  obtain ⟨hm0, hq⟩ := mem_bool (show ((I.clo.isNone || m.isPure) && (nameOk I X.env.scope i n && chkA I.st as X.env.scope (y :: ys))) = true from h)
  obtain ⟨h1, h2⟩ := mem_bool hq
  obtain ⟨n1, n2, n3, n4⟩ := name_ok p.cx h1
  cases ei : (ρ[i]?).bind id with
  | none =>
    have r' : Res (wd X I.nm) B (RelR (wd X I.nm) B) (We σ) H M (match (ρ[i]?).bind id with
      | some (.glo x) => if cf.isF x then (evA G cf as ρ st).bind fun xs st1 => callP cf m x xs st1 else .bad
      | _ => .bad) Q := r
    rw [ei] at r'; exact r'.elim
  | some v =>
    have r' : Res (wd X I.nm) B (RelR (wd X I.nm) B) (We σ) H M (match (ρ[i]?).bind id with
      | some (.glo x) => if cf.isF x then (evA G cf as ρ st).bind fun xs st1 => callP cf m x xs st1 else .bad
      | _ => .bad) Q := r
    rw [ei] at r'
    cases v <;> first | (exact r'.elim) | skip
    rename_i g
    have r' : Res (wd X I.nm) B (RelR (wd X I.nm) B) (We σ) H M (if cf.isF g then (evA G cf as ρ st).bind fun xs st1 => callP cf m g xs st1 else .bad) Q := r'
    obtain ⟨u, eu, ru⟩ := slot_of p.er ei
    cases ru with
    | glo hm =>
      rename_i a
      cases hF : cf.isF g with
      | false => rw [hF] at r'; exact r'.elim
      | true =>
        rw [hF] at r'
        have r' : Res (wd X I.nm) B (RelR (wd X I.nm) B) (We σ) H M ((evA G cf as ρ st).bind fun xs st1 => callP cf m g xs st1) Q := r'
        have hF := p.cx.isf g hF
        obtain ⟨k, hr, _, fn, _⟩ := p.cx.fns
        obtain ⟨a', fd, ps, hm', hk, hb, F⟩ := fn g hF
        have hm : X.mg (I.nm g) = some (.ref a) := hm
        rw [hm] at hm'
        cases hm'
        have hst := args_star (pos := pos) h2
        refine evE_of (pe_callLS F hr n1 n2 hk hb (passAt p.cx.takes) pa_ev n3 n4 hst.1 hst.2) ⟨eu, hs.A p h2 (Res.bind r' fun xs st1 vs H1 M1 k1 s1 r1 hr1 => ?_)⟩
        exact call_sp (pure_or p.cx hm0) s1 r1 hr1 hE) rfl rfl rfl rfl
end
end Mi

end

section
set_option linter.all false
set_option maxRecDepth 100000
/-! Mi, part Sp: how often; the last, taken off. -/
namespace Mi
open PySem PySem.Spec PyProof.Rows L2

/-- what a call does is told where it is called -/
def rHere (X : Cx) (id : String) : V → List V → Hp → VK → Prop := fun x xs H Q => ∀ (pins : List (Addr × Obj)) (s : Shared) (σ : L2.St) (v : Value) (us : List Value), Inv X pins σ H s → RelV x v → Vals xs us → wpAny (model X.prog X.w) X.A (call (.builtin id) (v :: us)) (EP X pins σ Q) X.xe s
theorem mt_here {X : Cx} {id : String} : MtR X id (rHere X id) := fun pins s σ H x xs v us Q I rx rv h => h pins s σ v us I rx rv
theorem noCels_take : ∀ {xs : List PV} (k : Nat), noCels xs = true → noCels (xs.take k) = true
  | _, 0, _ => rfl
  | [], _ + 1, _ => rfl
  | x :: xs, k + 1, h => by
    obtain ⟨h1, h2⟩ := mem_bool (show (x.noCel && noCels xs) = true from h)
    show (x.noCel && noCels (xs.take k)) = true
    rw [h1, noCels_take k h2]; rfl
theorem count_toDs (d : PV) (hd : d.dat = true) : ∀ xs : List PV, dats xs = true → ((toDs xs).countP fun z => PyData.eqv z (toD d)) = xs.countP fun z => z.eqv d
  | [], _ => rfl
  | x :: xs, h => by
    obtain ⟨h1, h2⟩ := mem_bool (show (x.dat && dats xs) = true from h)
    show (toD x :: toDs xs).countP _ = _
    rw [List.countP_cons, List.countP_cons, count_toDs d hd xs h2, eqv_toD x d h1 hd]
section
variable {I : Info} {G : GlobF} {cf : CallF}
theorem snd_pop (o : Ex) (ho : Snd I G cf o) : Snd I G cf (.pop o) := snd_of (fun {X top We σ ρ H M B st x Q} p h r => by
  cases x <;> first | (exact absurd h Bool.false_ne_true) | skip
  rename_i fn es kw cpos
  cases fn <;> first | (exact absurd h Bool.false_ne_true) | skip
  rename_i b n apos
  cases b <;> first | (exact absurd h Bool.false_ne_true) | skip
  rename_i bn bp
  rcases es with _ | ⟨y, es⟩ <;> rcases kw with _ | ⟨_, _⟩ <;> first | (exact absurd h Bool.false_ne_true) | skip
  obtain ⟨h0, h⟩ := mem_bool (show (decide (n = ("pop" : Str)) && ((apos.endLine == cpos.line) && chkE I.st o X.env.scope (.Name bn bp))) = true from h)
  obtain ⟨h1, h2⟩ := mem_bool h
  have hnm := of_decide_eq_true h0
  subst hnm
  refine evE_of (pe_bm0 PySem.F.plainAttrs_list PySem.F.slot_list_pop PySem.F.type_list_pop mt_pop pe_ev rfl h1) (ho.E p h2 (Res.bind r fun yv st1 u H1 M1 k1 s1 ru r1 => ?_))
  cases yv <;> first | (exact r1.elim) | skip
  rename_i m
  have r1 : Res (wd X I.nm) B (RelR (wd X I.nm) B) (We σ) H1 M1 (match st1[m]? with
    | some (.lst xs) => (match xs[xs.length - 1]? with
      | some v => .ok v (st1.set m (.lst xs.dropLast))
      | none => .bad)
    | _ => .bad) Q := r1
  cases ru with
  | cel hm =>
    rename_i a
    cases em : st1[m]? with
    | none => rw [em] at r1; exact r1.elim
    | some c =>
      rw [em] at r1
      cases c with
      | ins _ _ => exact r1.elim
      | lst xs =>
        dsimp only at r1
        cases ev : xs[xs.length - 1]? with
        | none => rw [ev] at r1; exact r1.elim
        | some v =>
          rw [ev] at r1
          obtain ⟨vs, hv, rr⟩ := s1.get hm em
          obtain ⟨w, hw, rw_⟩ := rr.get ev
          refine ⟨.inl ⟨rfl, vs, .inl (.inl hv)⟩, a, vs, w, rfl, rfl, hv, by rw [← rr.length]; exact hw, ?_⟩
          have kk : Kp H1 M1 (upd H1 a (.lst vs.dropLast)) M1 := .cset (List.mem_of_getElem? hm) hv trivial
          have rd : Rels (wd X I.nm) H1 M1 B xs.dropLast vs.dropLast := by
            rw [List.dropLast_eq_take, List.dropLast_eq_take, rr.length]
            exact rr.take _
          exact r1 w _ M1 kk (s1.cset hm rd (by rw [List.dropLast_eq_take]; exact noCels_take _ (s1.nc _ _ em))) (rw_.mono kk)) rfl rfl rfl rfl
theorem snd_cnt (o z : Ex) (ho : Snd I G cf o) (hz : Snd I G cf z) : Snd I G cf (.cnt o z) := snd_of (fun {X top We σ ρ H M B st x Q} p h r => by
  cases x <;> first | (exact absurd h Bool.false_ne_true) | skip
  rename_i fn es kw cpos
  cases fn <;> first | (exact absurd h Bool.false_ne_true) | skip
  rename_i b n apos
  cases b <;> first | (exact absurd h Bool.false_ne_true) | skip
  rename_i bn bp
  rcases es with _ | ⟨y, _ | ⟨y2, es⟩⟩ <;> rcases kw with _ | ⟨_, _⟩ <;> first | (exact absurd h Bool.false_ne_true) | skip
  obtain ⟨h0, h⟩ := mem_bool (show (decide (n = ("count" : Str)) && ((apos.endLine == cpos.line) && (chkE I.st o X.env.scope (.Name bn bp) && chkE I.st z X.env.scope y))) = true from h)
  obtain ⟨h1, h⟩ := mem_bool h
  obtain ⟨h2, h3⟩ := mem_bool h
  have hnm := of_decide_eq_true h0
  subst hnm
  have hst : starEach [y] X.env = (false, eval y X.env) :: starEach [] X.env := star_of (chk_odd h3) _
  refine evE_of (pe_bm PySem.F.plainAttrs_list PySem.F.slot_list_count PySem.F.type_list_count (mt_here (id := "list.count")) pe_ev pa_ev rfl (by rw [hst]; rfl) h1 hst rfl) (ho.E p h2 (Res.bind r fun yv st1 u H1 M1 k1 s1 ru r1 => ?_))
  have p1 := p.go k1 s1
  have r1 : Res (wd X I.nm) B (RelR (wd X I.nm) B) (We σ) H1 M1 (if (asL st1 yv).isSome then (evE G cf z ρ st1).bind fun z st2 => R.lift (cntV st2 yv z) st2 else .bad) Q := r1
  by_cases hq : (asL st1 yv).isSome = true
  · rw [if_pos hq] at r1
    obtain ⟨xs, ex⟩ := Option.isSome_iff_exists.mp hq
    obtain ⟨a, vs, rfl, hl, rr⟩ := asL_rel s1 ru ex
    refine ⟨.inl ⟨rfl, vs, .inl (.inl hl)⟩, evA1 (chk_odd h3) (hz.E p1 h3 (Res.bind r1 fun zv st2 w H2 M2 k2 s2 rw_ r2 => ?_))⟩
    obtain ⟨c, ec, aft⟩ := Res.liftE r2
    unfold cntV at ec
    obtain ⟨ys, ey, ec⟩ := Option.bind_eq_some_iff.mp ec
    by_cases hd : ((snap st2 zv).dat && (dats ys && decide (deps ys ≤ 60))) = true
    · rw [if_pos hd] at ec
      cases ec
      obtain ⟨d1, hd⟩ := mem_bool hd
      obtain ⟨d2, d3⟩ := mem_bool hd
      have d3 := of_decide_eq_true d3
      obtain ⟨a2, us2, ea, hl2, rr2⟩ := asL_rel s2 (ru.mono k2) ey
      cases ea
      intro pins sh σ' v us J rx rv
      obtain ⟨u', rfl, ru'⟩ := rv.one
      obtain ⟨as, ra⟩ := Dp.reads J _ _ v (.lst (.inl (.inl hl2)) (Rels.dp _ _ d2 rr2)) rx
      obtain ⟨bs, rb⟩ := Dp.reads J _ w u' (snap_dp s2 rw_ d1) ru'
      cases ra with
      | list g1 g2 g3 g4 =>
        refine SeqAt.count_list_data ⟨_, g1, g2, _, g3⟩ g4 rb (plain_toDs _) (plain_toD _) ?_ ?_
        · have := p.cx.un
          have hm := Nat.min_le_left (PyData.depthAll (toDs ys)) (toD (snap st2 zv)).depth
          rw [depth_toDs] at hm ⊢
          omega
        · rw [count_toDs _ d1 _ d2]
          exact ⟨.int _, H2, J.tok _, ⟨_, rfl⟩, aft.now s2 (.int _)⟩
    · rw [if_neg hd] at ec; cases ec
  · rw [if_neg hq] at r1; exact r1.elim) rfl rfl rfl rfl
end
end Mi

end

section
set_option linter.all false
set_option maxRecDepth 100000
/-! Mi, part T: functions handed to a def, and called there. -/
namespace Mi
open PySem PySem.Spec PyProof.Rows L2

section
variable {I : Info} {G : GlobF} {cf : CallF}
/-- what a caller wants, told without what was handed -/
theorem Res.off {w : Wd} {B : Addr → Prop} {We : WeT} {H : Hp} {M : List Addr} {r : R PV} {Q : VK} {E : XK} (h : Res w B (RelR w B) We H M r Q) (hE : ∀ c st' H' M', We c st' H' M' → ∀ a, w.mg (w.nm c) = some (.ref a) → E (.ref a) none H') :
    Res w.o B (RelR w.o B) (fun c _ H' _ => ∀ a, w.mg (w.nm c) = some (.ref a) → E (.ref a) none H') H M r Q := by
  cases r with
  | ok v st => exact fun u H' M' k s r => h u H' M' k s.on r.on
  | ex c st => exact fun H' M' k s a ha => hE c st H' M' (h H' M' k s.on) a ha
  | bad => exact h
theorem args_nil {as : Ex} {sc : Scope} {ρ : Env'} {st : Sto} (h2 : chkA I.st as sc [] = true) : evA G cf as ρ st = .ok [] st := by
  cases as <;> first | (exact (noA rfl h2).elim) | skip
  · rfl
  · exact absurd h2 Bool.false_ne_true
/-- what was handed is called -/
theorem snd_calv (i : Nat) (as : Ex) (hs : Snd I G cf as) : Snd I G cf (.calv i as) := snd_of (fun {X top We σ ρ H M B st x Q} p h r => by
  cases x <;> first | (exact absurd h Bool.false_ne_true) | skip
  rename_i fn es kw pos
  cases fn <;> first | (exact absurd h Bool.false_ne_true) | skip
  rename_i n np
  have hE : ∀ c st' H' M', We σ c st' H' M' → ∀ a, X.mg (I.nm c) = some (.ref a) → WE (Wof X I.nm We) σ (.ref a) none H' := fun c st' H' M' w a ha => ⟨c, st', M', a, rfl, rfl, ha, w⟩
  rcases kw with _ | ⟨_, _⟩
  · obtain ⟨h0, h1⟩ := mem_bool (show ((I.tp && decide (I.clo = some i)) && (nameOk I X.env.scope i n && chkA I.st as X.env.scope es)) = true from h)
    obtain ⟨t0, t1⟩ := mem_bool h0
    obtain ⟨h1, h2⟩ := mem_bool h1
    obtain ⟨n1, n2, n3, n4⟩ := name_ok p.cx h1
    obtain ⟨f, M0, j, c1, c2, c3, c4, c5⟩ := p.kc t0 i (of_decide_eq_true t1)
    have r' : Res (wd X I.nm) B (RelR (wd X I.nm) B) (We σ) H M (match (ρ[i]?).bind id with
      | some .clo => (evA G cf as ρ st).bind fun xs st1 => if noClos xs then cf.clo xs st1 else .bad
      | _ => .bad) Q := r
    cases ei : (ρ[i]?).bind id with
    | none => rw [ei] at r'; exact r'.elim
    | some v =>
      rw [ei] at r'
      cases v <;> first | (exact r'.elim) | skip
      have r' : Res (wd X I.nm) B (RelR (wd X I.nm) B) (We σ) H M ((evA G cf as ρ st).bind fun xs st1 => if noClos xs then cf.clo xs st1 else .bad) Q := r'
      obtain ⟨u, eu, ru⟩ := slot_of p.er ei
      have ef : u = .ref f := by
        cases ru with
        | clo e =>
          have e : I.nm.clo = some _ := e
          rw [c1] at e
          cases e; rfl
      subst ef
      intro pins s I0
      refine wpAny_Call_Name_kw (thn ((pe_var (pos := np) n1 n2 n3 n4).run pins s σ H (fun v H1 => v = .ref f ∧ H1 = H) I0 ⟨.ref f, eu, rfl, rfl⟩) fun u s1 ⟨v, H1, I1, r1, q1⟩ => ?_)
      obtain ⟨rfl, rfl⟩ := q1
      cases r1
      have unOf : ∀ {s2 : Shared} {H2 : Hp}, Inv X pins σ H2 s2 → Un (frs X.outer) [] X.H_0 H2 X.s_0.heap s2.heap := fun J => by
        have := J.base
        rw [c3] at this
        exact this
      have fnAt : ∀ {s2 : Shared} {H2 : Hp}, Inv X pins σ H2 s2 → PySem.W.FnAt f s2.heap := fun J => by
        obtain ⟨oc, od, fd, sl, e⟩ := c5.at_
        exact ⟨oc, od, fd, sl, (unOf J).keep f _ e c5.nh c5.nf (by simp)⟩
      -- behind the arguments
      have fin : ∀ xs st1 vs H2 M2 us s2, Kp H1 M H2 M2 → Cels (wd X I.nm) H2 M2 B st1 → Rels (wd X I.nm) H2 M2 B xs vs → Inv X pins σ H2 s2 → Vals vs us → Res (wd X I.nm) B (RelR (wd X I.nm) B) (We σ) H2 M2 (if noClos xs then cf.clo xs st1 else .bad) Q →
          wpAny (model X.prog X.w) X.A (call (.ref f) us) (EP X pins σ Q) X.xe s2 := fun xs st1 vs H2 M2 us s2 k2 s2' r2 I2 rv hr => by
        by_cases hn : noClos xs = true
        · rw [if_pos hn] at hr
          have rc := c5.run X.A X.stack s2 H2 M2 us vs xs st1 Q (WE (Wof X I.nm We) σ) c2 I2.env0 (unOf I2) rv (c4.trans k2) s2'.off (r2.offc hn) (hr.off hE)
          refine wpAny_call (codeAny_mono rc fun r s3 hq => ?_)
          cases r with
          | error e => exact passAt p.cx.takes σ pins H2 s2 e s3 I2 hq
          | ok fl =>
            cases fl with
            | ret u => exact I2.after hq
            | next => exact False.elim hq
            | brk => exact False.elim hq
            | cont => exact False.elim hq
        · rw [if_neg hn] at hr; exact hr.elim
      rcases es with _ | ⟨y, ys⟩
      · refine PySem.W.callWith_F0 (fnAt I1) ?_
        rw [args_nil h2] at r'
        exact fin [] st [] H1 M [] s1 (.refl _ _) p.cl .nil I1 .nil r'
      · have hst := args_star (pos := pos) h2
        have ha := hs.A p h2 (Res.bind r' (Q := fun vs H2 => ∃ xs st1 M2, Kp H1 M H2 M2 ∧ Cels (wd X I.nm) H2 M2 B st1 ∧ Rels (wd X I.nm) H2 M2 B xs vs ∧ Res (wd X I.nm) B (RelR (wd X I.nm) B) (We σ) H2 M2 (if noClos xs then cf.clo xs st1 else .bad) Q) fun xs st1 vs H2 M2 k2 s2 r2 hr => ⟨xs, st1, M2, k2, s2, r2, hr⟩)
        refine PySem.W.callWith_F (fnAt I1) (thn (ha pos pins s1 I1) fun us s2 ⟨vs, H2, I2, rv, xs, st1, M2, k2, s2', r2, hr⟩ => ⟨fnAt I2, ?_⟩) hst.1 hst.2
        exact fin xs st1 vs H2 M2 us s2 k2 s2' r2 I2 rv hr
  · cases es <;> exact absurd h Bool.false_ne_true) rfl rfl rfl rfl
/-! ### a lambda is made -/
/-- the heap behind the making: the table may have grown -/
def LamH (H H1 : Hp) (P : Addr) (q : Str) : Prop := H1 = H ∨ ∃ (ps more : Array Value) (c : Addr), H P = some (.tbl ps) ∧ H c = none ∧ H1 = upd (upd H P (.tbl (ps ++ more))) c (LamX.CodeO c q)
theorem LamH.kp {H H1 : Hp} {P : Addr} {q : Str} (h : LamH H H1 P q) (M : List Addr) : Kp H M H1 M ∧ ∀ a o, H a = some o → notT o → H1 a = some o := by
  rcases h with rfl | ⟨ps, more, c, h1, h2, rfl⟩
  · exact ⟨.refl _ _, fun a o e _ => e⟩
  · have st : ∀ a o, H a = some o → notT o → upd (upd H P (.tbl (ps ++ more))) c (LamX.CodeO c q) a = some o := fun a o e nt => by
      rw [upd_ne (ne_of_none e h2), upd_ne (fun z => by rw [z, h1] at e; cases e; exact nt)]
      exact e
    refine ⟨⟨fun a o e n nt => ⟨st a o e nt, n⟩, fun _ _ e => e, fun a e => ?_⟩, st⟩
    by_cases q1 : a = c
    · rw [q1]; exact h2
    · rw [upd_ne q1] at e
      by_cases q2 : a = P
      · rw [q2, upd_same] at e; cases e
      · rw [upd_ne q2] at e; exact e
theorem LamH.tabs {H H1 : Hp} {P : Addr} {q : Str} {T : List (Addr × Str)} (h : LamH H H1 P q) (ht : LamX.Tabs T H) (hown : LamX.TabS H1 P q) (hu : ∀ p ∈ T, p.1 = P → p.2 = q) : LamX.Tabs T H1 := fun p hp => by
  by_cases e : p.1 = P
  · rw [hu p hp e, e]; exact hown
  · rcases h with rfl | ⟨ps, more, c, h1, h2, rfl⟩
    · exact ht p hp
    · obtain ⟨qs, g1, g2, g3⟩ := ht p hp
      have kpt : ∀ {b : Addr} {u : HO}, H b = some u → b ≠ P → upd (upd H P (.tbl (ps ++ more))) c (LamX.CodeO c q) b = some u := fun e1 e2 => by
        rw [upd_ne (ne_of_none e1 h2), upd_ne e2]; exact e1
      refine ⟨qs, kpt g1 e, g2, fun pos cv hc => ?_⟩
      obtain ⟨d, d1, d2⟩ := g3 pos cv hc
      refine ⟨d, d1, kpt d2 fun z => ?_⟩
      rw [z, h1] at d2
      exact LamX.codeO_ne ps (Option.some.inj d2).symm
section
variable {X : Cx} {pins : List (Addr × Obj)} {σ : L2.St} {H : Hp} {s : Shared}
/-- the making, with the heap told -/
theorem lam_mk {T : List (Addr × Str)} {c P : Addr} {params : Arguments} {lb : Expr} {sc' : Scope} {lpos : Pos} {E Q : Value → Shared → Prop} (I0 : Inv X pins σ H s) (tb : LamX.TabB X.base X.mg c P) (hcode : X.env.code = .ref c)
    (hin : (P, X.env.qual ++ "<lambda>") ∈ T) (huq : ∀ p ∈ T, p.1 = P → p.2 = X.env.qual ++ "<lambda>") (hT : LamX.Tabs T H) (hdf : defaultsOf params X.env = ([], [])) (hfr : ∀ y ∈ sc'.names, y.2 = .free → ∃ c, X.env.cells.lookup y.1 = some c)
    (fin : ∀ (f d : Addr) (pm tv : Value) (H1 : Hp) (s1 : Shared), Inv X pins σ H1 s1 → LamH H H1 P (X.env.qual ++ "<lambda>") → LamX.Tabs T H1 →
      s1.heap.get? f = some (PySem.W.kla_obj "<lambda>" (X.env.qual ++ "<lambda>") params lb sc' (cloFrom X.env.cells sc'.names []) pm d tv) → H1 f = none → f ∉ frs X.stack → H1 d = some (LamX.CodeO d (X.env.qual ++ "<lambda>")) → Q (.ref f) s1) :
    wpAny (model X.prog X.w) X.A (eval (.Lambda params lb sc' lpos) X.env) Q E s := by
  have own := hT _ hin
  obtain ⟨ps, e1, e2, e3⟩ := own
  have e1 : H P = some (.tbl ps) := e1
  have objP : s.heap.get? P = some { cls := .none, data := .fields ps } := I0.hok P _ e1
  have bmP : s.heap.BuiltinsAt X.mg P := tb.bm.keeps I0.bk
  have frn : ∀ b, s.heap.objs.size ≤ b → b ∉ frs X.stack := fun b hb z =>
    (List.mem_cons.mp (I0.stkSub _ z)).elim (fun e => absurd I0.lt (by rw [← e]; exact Nat.not_lt.mpr hb)) fun e => I0.nofs hb e
  refine PySem.W.kla_eval hdf ?_
  cases hfound : codeAmong lpos ps.toList with
  | some cv =>
    -- the code object is known
    obtain ⟨d, rfl, hd⟩ := e3 lpos cv hfound
    refine PySem.W.kla_makeFunctionHit (mg := X.mg) (c := c) (P := P) (ps := ps) (closure_ok hfr) I0.ok.glob (I0.mod.glob.keeps I0.bk) hcode (tb.code.keeps I0.bk) objP e2 hfound bmP fun tv hp tk hx hsz => ?_
    refine fin hp.objs.size d ((X.mg "__name__").getD .none) tv H _ (I0.kept fun b o e => Heap.get?_push_of_some _ (hx b o e)) (.inl rfl) hT (Heap.get?_push_size _ rfl) (I0.hok.fresh hsz) (frn _ hsz) hd
  | none =>
    refine PySem.W.kla_makeFunction (mg := X.mg) (c := c) (P := P) (ps := ps) (closure_ok hfr) I0.ok.glob (I0.mod.glob.keeps I0.bk) hcode (tb.code.keeps I0.bk) objP e2 hfound tb.gP bmP fun d tv hp tk hx hge hlt hrec htb => ?_
    obtain ⟨d', od, vs, t, z, q1, q2, q3⟩ := hrec
    cases z
    have big := Nat.le_trans hge (Nat.le_of_lt hlt)
    have newD : H d = none := I0.hok.fresh hge
    have J := LamX.inv_table (t' := tk) (q := X.env.qual ++ "<lambda>") (more := #[rawInt lpos.line, rawInt lpos.col, .ref d]) (h' := hp.push (PySem.W.kla_obj "<lambda>" (X.env.qual ++ "<lambda>") params lb sc' (cloFrom X.env.cells sc'.names []) ((X.mg "__name__").getD .none) d tv)) I0 e1
      (fun b o ne e => Heap.get?_push_of_some _ (hx b o ne e)) (Heap.get?_push_of_some _ htb) hge ⟨od, vs, t, Heap.get?_push_of_some _ q1, q2, q3⟩
    have lh : LamH H (upd (upd H P (.tbl (ps ++ #[rawInt lpos.line, rawInt lpos.col, .ref d]))) d (LamX.CodeO d (X.env.qual ++ "<lambda>"))) P (X.env.qual ++ "<lambda>") := .inr ⟨ps, _, d, e1, newD, rfl⟩
    have hst := (lh.kp []).2
    have nPd : P ≠ d := ne_of_none e1 newD
    have ownT : LamX.TabS (upd (upd H P (.tbl (ps ++ #[rawInt lpos.line, rawInt lpos.col, .ref d]))) d (LamX.CodeO d (X.env.qual ++ "<lambda>"))) P (X.env.qual ++ "<lambda>") := by
      have el : (ps ++ #[rawInt lpos.line, rawInt lpos.col, .ref d]).toList = ps.toList ++ [rawInt lpos.line, rawInt lpos.col, .ref d] := by simp
      refine ⟨_, (upd_ne nPd).trans upd_same, by rw [el]; exact PySem.TriplesOk_snoc _ _ _ _ e2, fun pos cv hcv => ?_⟩
      rw [el] at hcv
      rcases LamX.among_app _ e2 hcv with z | z
      · obtain ⟨d0, g1, g2⟩ := e3 pos cv z
        exact ⟨d0, g1, hst _ _ g2 (by unfold LamX.CodeO; trivial)⟩
      · exact ⟨d, z, upd_same⟩
    refine fin hp.objs.size d ((X.mg "__name__").getD .none) tv _ _ J lh (lh.tabs hT ownT huq) (Heap.get?_push_size _ rfl) ?_ (frn _ big) upd_same
    have n1 : hp.objs.size ≠ d := Nat.ne_of_gt hlt
    have n2 : hp.objs.size ≠ P := fun z => by
      have := Heap.lt_size objP
      exact Nat.lt_irrefl P (Nat.lt_of_lt_of_le this (by rw [← z]; exact big))
    rw [upd_ne n1, upd_ne n2]
    exact I0.hok.fresh big
end
end
end Mi

end

section
set_option linter.all false
set_option maxRecDepth 100000
/-! Mi, part U: a lambda's body, run where it is called. -/
namespace Mi
open PySem PySem.Spec PyProof.Rows L2

/-- what a lambda's text must be -/
structure LamIs (I : Info) (caps : List Nat) (ps : List Str) (sc scope : Scope) : Prop where
  kind : scope.kind = .function
  co : scope.isCoroutine = false
  gen : scope.isGenerator = false
  cell : ∀ y ∈ scope.names, y.2 ≠ .cell
  loc : ∀ y ∈ scope.names, y.2 = .local → y.1 ∈ ps
  free : ∀ y ∈ scope.names, y.2 = .free → y.1 ∈ (caps.map fun i => I.N.getD i "") ∧ (sc.names.lookup y.1 = some .cell ∨ sc.names.lookup y.1 = some .free)
  par : ∀ x ∈ ps, scope.names.lookup x = some .local
  cap : ∀ i ∈ caps, i < I.N.length ∧ scope.names.lookup (I.N.getD i "") = some .free
  nd : (ps ++ caps.map fun i => I.N.getD i "").Nodup
theorem lamIs_of {I : Info} {caps : List Nat} {ps : List Str} {sc scope : Scope} (h : lamOk I caps ps sc scope = true) : LamIs I caps ps sc scope := by
  obtain ⟨h1, h⟩ := mem_bool h
  obtain ⟨h2, h⟩ := mem_bool h
  obtain ⟨h3, h⟩ := mem_bool h
  obtain ⟨h4, h⟩ := mem_bool h
  obtain ⟨h5, h⟩ := mem_bool h
  obtain ⟨h6, h7⟩ := mem_bool h
  have h4 := List.all_eq_true.mp h4
  refine ⟨of_decide_eq_true h1, by simpa using h2, by simpa using h3, fun y hy z => ?_, fun y hy z => ?_, fun y hy z => ?_, fun x hx => of_decide_eq_true (List.all_eq_true.mp h5 x hx), fun i hi => ?_, of_decide_eq_true h7⟩
  · obtain ⟨a, _⟩ := mem_bool (h4 y hy)
    rw [z] at a
    simp at a
  · obtain ⟨_, b⟩ := mem_bool (h4 y hy)
    obtain ⟨b, _⟩ := mem_bool b
    rw [z] at b
    simpa using b
  · obtain ⟨_, b⟩ := mem_bool (h4 y hy)
    obtain ⟨_, b⟩ := mem_bool b
    rw [z] at b
    have b : (((caps.map fun i => I.N.getD i "").contains y.1 && (decide (sc.names.lookup y.1 = some .cell) || decide (sc.names.lookup y.1 = some .free)))) = true := by simpa using b
    obtain ⟨b1, b2⟩ := mem_bool b
    refine ⟨by simpa using b1, ?_⟩
    rcases Bool.or_eq_true_iff.mp b2 with q | q
    · exact .inl (of_decide_eq_true q)
    · exact .inr (of_decide_eq_true q)
  · obtain ⟨a, b⟩ := mem_bool (List.all_eq_true.mp h6 i hi)
    exact ⟨of_decide_eq_true a, of_decide_eq_true b⟩
/-- the slots of the body -/
def lamSt (σ : L2.St) (vs : List V) (caps : List Nat) : L2.St := vs.map some ++ caps.map fun i => (σ[i]?).bind id
/-- the context of the body -/
def lamX (X : Cx) (Nl : List Str) (A : Around) (outer : List Env) (s : Shared) (H : Hp) (E : XK) (scope : Scope) (f d : Addr) : Cx := { LamX.lamCx X A outer s H E scope f d with N := Nl }
section
variable {X : Cx} {pins : List (Addr × Obj)} {σ : L2.St} {H HZ : Hp} {s s1 : Shared} {I : Info} {caps : List Nat} {ps : List Str} {scope : Scope}
theorem zip_rev_lookup {us : List Value} : ∀ {ps : List Str}, ps.Nodup → ps.length = us.length → ∀ (i : Nat) (x : Str) (u : Value), ps[i]? = some x → us[i]? = some u → (ps.zip us).reverse.lookup x = some u := by
  intro ps nd hl i x u h1 h2
  have hm : (x, u) ∈ (ps.zip us).reverse := by
    rw [List.mem_reverse]
    refine List.mem_iff_getElem?.mpr ⟨i, ?_⟩
    rw [List.getElem?_zip_eq_some]
    exact ⟨h1, h2⟩
  have ndk : ((ps.zip us).reverse.map (·.1)).Nodup := by
    rw [List.map_reverse, List.map_fst_zip (by omega)]
    exact List.pairwise_reverse.mpr (nd.imp fun h => Ne.symm h)
  generalize (ps.zip us).reverse = l at hm ndk
  induction l with
  | nil => cases hm
  | cons p l ih =>
    obtain ⟨k, v⟩ := p
    rw [List.lookup_cons]
    obtain ⟨n1, n2⟩ := List.nodup_cons.mp (show (k :: l.map (·.1)).Nodup from ndk)
    rcases List.mem_cons.mp hm with e | hm
    · cases e; simp
    · have : x ≠ k := fun z => n1 (List.mem_map.mpr ⟨(x, u), hm, z⟩)
      have hb : (x == k) = false := by simpa using this
      rw [hb]
      exact ih hm n2
theorem vals_get : ∀ {vs : List V} {us : List Value}, Vals vs us → ∀ (i : Nat) (v : V), vs[i]? = some v → ∃ u, us[i]? = some u ∧ RelV v u
  | _, _, .nil, i, v, e => by simp at e
  | _, _, .cons r t, 0, v, e => by simp at e; subst e; exact ⟨_, rfl, r⟩
  | _, _, .cons r t, i + 1, v, e => by
    obtain ⟨u, h1, h2⟩ := vals_get t i v (by simpa using e)
    exact ⟨u, by simpa using h1, h2⟩
theorem lam_inv {A : Around} {outer : List Env} {E : XK} {f d : Addr} {h1 : Heap} {tk : Nat} {us : List Value} {vs : List V} (J : Inv X pins σ H s) (hN : X.N = I.N) (L : LamIs I caps ps X.env.scope scope) (e0 : Env0 X.prog X.w X.K X.mg X.base A outer s1 HZ) (hd : A.handled = none)
    (un : Un (frs X.stack) [] H HZ s.heap s1.heap) (rv : Vals vs us) (hl : ps.length = us.length) (hns : h1.Ns s1.heap.objs.size fun y => (ps.zip us).reverse.lookup y) (kp : ∀ b o, s1.heap.get? b = some o → h1.get? b = some o) :
    Inv (lamX X (ps ++ caps.map fun i => I.N.getD i "") A outer s1 HZ E scope f d) [] (lamSt σ vs caps) HZ { s1 with heap := h1, toks := tk } := by
  -- the captured cells
  have fr : ∀ y ∈ scope.names, y.2 = .free → ∃ c, X.env.cells.lookup y.1 = some c := fun y hy e => J.ok.has _ (L.free y hy e).2
  have back : ∀ {y : Str} {c : Addr}, (cloFrom X.env.cells scope.names []).lookup y = some c → X.env.cells.lookup y = some c := fun {y c} e => by
    rcases cloFrom_mem (PySem.mem_of_lookup e) with z | ⟨z1, z2⟩
    · cases z
    · obtain ⟨c1, e1⟩ := fr _ z1 rfl
      have e1 : X.env.cells.lookup y = some c1 := e1
      rw [z2, e1]; rfl
  have forth : ∀ {y : Str}, scope.names.lookup y = some .free → ∃ c, (cloFrom X.env.cells scope.names []).lookup y = some c := fun {y} e =>
    mem_lookup (cloFrom_has (cells := X.env.cells) (acc := []) (PySem.mem_of_lookup e))
  have still : ∀ {c : Addr} {v : Option Value}, H c = none → s.heap.IsCell c v → h1.IsCell c v := fun {c v} n ⟨o, ho, hd⟩ => by
    obtain ⟨sl, q⟩ := un.any ho n (by simp)
    exact ⟨_, kp _ _ q, hd⟩
  have none_ex : ∀ b : Addr, b ∉ (lamX X (ps ++ caps.map fun i => I.N.getD i "") A outer s1 HZ E scope f d).ex := fun b z => absurd (show b ∈ ([] : List Addr) from z) (by simp)
  refine ⟨⟨e0.mod, L.kind, rfl, rfl, Nat.le_refl _, fun y z c g1 g2 => J.ok.inj y z c (back g1) (back g2), fun y hy => ?_, fun y c z _ => (Bool.noConfusion (show false = true from z)), fun _ => hd, Around.frames_deeper e0.frames, .inr ⟨rfl, rfl⟩, fun b z => absurd z (none_ex b), e0.bs, e0.bsz, fun b _ _ => none_ex b,
      fun b z => absurd z (none_ex b), e0.funs, e0.frf⟩,
    rfl, e0.bare, Un.kept kp, ⟨_, hns, fun i y v g1 g2 g3 => ?_⟩, fun y c e => ?_, e0.hok.fresh (Nat.le_refl _), fun y c e => ?_, fun q hq => absurd (show q ∈ ([] : List (Addr × Obj)) ++ [] from hq) (by simp), e0.hok.kept kp, ?_⟩
  · rcases hy with hy | hy
    · exact absurd rfl (L.cell _ (PySem.mem_of_lookup hy))
    · exact forth hy
  · -- what the slots hold
    have lv : vs.length = us.length := rv.length
    by_cases hi : i < ps.length
    · -- a parameter
      have g1 : ps[i]? = some y := by
        rw [← g1]
        exact (List.getElem?_append_left hi).symm
      have g2 : vs[i]? = some v := by
        have e : (lamSt σ vs caps)[i]? = (vs[i]?).map some := by
          unfold lamSt
          rw [List.getElem?_append_left (by rw [List.length_map]; omega), List.getElem?_map]
        rw [e] at g2
        cases q : vs[i]? with
        | none => rw [q] at g2; cases g2
        | some w => rw [q] at g2; cases g2; rfl
      have hu : i < us.length := by omega
      obtain ⟨u, hu1, hu2⟩ := vals_get rv i v g2
      have nd : ps.Nodup := (List.nodup_append.mp L.nd).1
      exact ⟨u, hu2, .inl ⟨L.par y (List.mem_of_getElem? g1), zip_rev_lookup nd hl i y u g1 hu1⟩⟩
    · -- a captured name
      obtain ⟨j, rfl⟩ : ∃ j, i = ps.length + j := ⟨i - ps.length, by omega⟩
      have g1 : (caps.map fun i => I.N.getD i "")[j]? = some y := by
        rw [← g1]
        show _ = (ps ++ caps.map fun i => I.N.getD i "")[ps.length + j]?
        rw [List.getElem?_append_right (by omega)]
        congr 1; omega
      have g2 : (caps.map fun i => (σ[i]?).bind id)[j]? = some (some v) := by
        rw [← g2]
        unfold lamSt
        rw [List.getElem?_append_right (by rw [List.length_map]; omega), List.length_map]
        congr 1; omega
      rw [List.getElem?_map] at g1 g2
      cases ec : caps[j]? with
      | none => rw [ec] at g1; cases g1
      | some k =>
        rw [ec] at g1 g2
        have g1 : I.N.getD k "" = y := Option.some.inj g1
        have g2 : (σ[k]?).bind id = some v := Option.some.inj g2
        obtain ⟨hk, hfr⟩ := L.cap k (List.mem_of_getElem? ec)
        rw [g1] at hfr
        have hNk : X.N[k]? = some y := by
          rw [hN, List.getElem?_eq_getElem hk]
          rw [← g1, List.getD_eq_getElem?_getD, List.getElem?_eq_getElem hk]; rfl
        have hσ : σ[k]? = some (some v) := by
          cases q : σ[k]? with
          | none => rw [q] at g2; cases g2
          | some o => rw [q] at g2; have g2 : o = some v := g2; rw [g2]
        have hcf := (L.free _ (PySem.mem_of_lookup hfr) rfl).2
        obtain ⟨m, hn, hl2⟩ := J.loc
        obtain ⟨w', r, q⟩ := hl2 k y v hNk hσ (hcf.elim (fun z => .inr (.inl z)) fun z => .inr (.inr z))
        obtain ⟨c2, h2⟩ := forth hfr
        refine ⟨w', r, .inr ⟨.inr hfr, c2, h2, ?_⟩⟩
        have c1 := back h2
        rcases q with ⟨k', _⟩ | ⟨_, c3, e', z⟩
        · exfalso
          have k' : X.env.scope.names.lookup y = some .local := k'
          rcases hcf with z | z <;> rw [show X.env.scope.names.lookup y = _ from z] at k' <;> cases k'
        · rw [c1] at e'
          cases e'
          exact still (J.freeC y _ c1) z
  · obtain ⟨w', z⟩ := J.cell y c (back e)
    exact ⟨w', still (J.freeC y c (back e)) z⟩
  · obtain ⟨v, o, ho, hd⟩ := J.cell y c (back e)
    exact un.free c o ho (J.freeC y c (back e)) (by simp)
  · show (lamSt σ vs caps).length = (ps ++ caps.map fun i => I.N.getD i "").length
    unfold lamSt
    have : vs.length = us.length := rv.length
    rw [List.length_append, List.length_append, List.length_map, List.length_map, List.length_map]
    omega
end
end Mi

end

section
set_option linter.all false
set_option maxRecDepth 100000
/-! Mi, part V: a def called with a lambda; every expression. -/
namespace Mi
open PySem PySem.Spec PyProof.Rows L2

theorem plain_bind {params : Arguments} {ps : List Str} {q : Str} {lb : Expr} {scope : Scope} {cl : List (Str × Addr)} {pm cv tv : Value} {us : List Value} (h : plainArgs params = some ps) (hl : ps.length = us.length) :
    bindArgs (PySem.W.kla_fn "<lambda>" q params lb scope cl pm cv tv) ⟨us, []⟩ = pure (ps.zip us) := by
  unfold plainArgs at h
  split at h
  · cases h
    cases us with
    | nil => rfl
    | cons _ _ => cases hl
  · cases h
    rename_i a
    rcases us with _ | ⟨u, _ | ⟨_, _⟩⟩
    · cases hl
    · have e : ((a.arg == a.arg) : Bool) = true := beq_self_eq_true _
      unfold bindArgs
      simp [seqItems?]
      rfl
    · cases hl
  · cases h
theorem plain_dft {params : Arguments} {ps : List Str} {env : Env} (h : plainArgs params = some ps) : defaultsOf params env = ([], []) := by
  unfold plainArgs at h
  split at h
  · rfl
  · rfl
  · cases h
/-- the last is a lambda -/
theorem lamIs_eq : ∀ {es xs : List Expr} {params : Arguments} {lb : Expr} {scope : Scope}, lamIs es = some (xs, params, lb, scope) → ∃ pos, es = xs ++ [.Lambda params lb scope pos]
  | [], xs, params, lb, scope, h => by simp [lamIs] at h
  | x :: es, xs, params, lb, scope, h => by
    have go : ∀ {r}, (lamIs es).map (fun r => (x :: r.1, r.2)) = some r → ∃ xs', r.1 = x :: xs' ∧ lamIs es = some (xs', r.2) := fun {r} e => by
      obtain ⟨z, e1, e2⟩ := Option.map_eq_some_iff.mp e
      subst e2
      exact ⟨z.1, rfl, e1⟩
    have rec_ : (lamIs es).map (fun r => (x :: r.1, r.2)) = some (xs, params, lb, scope) → ∃ pos, x :: es = xs ++ [.Lambda params lb scope pos] := fun e => by
      obtain ⟨xs', e1, e2⟩ := go e
      obtain ⟨pos, e3⟩ := lamIs_eq e2
      have e1 : xs = x :: xs' := e1
      exact ⟨pos, by rw [e1, e3]; rfl⟩
    cases x with
    | Lambda p b sc ps =>
      cases es with
      | nil =>
        have h : some (([] : List Expr), p, b, sc) = some (xs, params, lb, scope) := h
        cases h
        exact ⟨ps, rfl⟩
      | cons y es => exact rec_ h
    | _ => exact rec_ (by cases es <;> exact h)
/-! ### arguments, one behind another -/
section
variable {M : Model} {A : Around} {E : Value → Shared → Prop}
theorem wp_spl {Γ : PySem.Ctx} : ∀ (l1 l2 : List (Bool × Sem Value)) (Q : List Value → Pos → Shared → Prop) (F : Value → Pos → Shared → Prop) (p : Pos) (s : Shared), (∀ x ∈ l1, x.1 = false) →
    Sem.wp M Γ (spliced (l1 ++ l2)) Q F p s = Sem.wp M Γ (spliced l1) (fun us p' s' => Sem.wp M Γ (spliced l2) (fun vs p'' s'' => Q (us ++ vs) p'' s'') F p' s') F p s
  | [], l2, Q, F, p, s, _ => by
    show Sem.wp M Γ (spliced l2) Q F p s = Sem.wp M Γ (pure []) _ F p s
    rw [Sem.wp_pure']
    rfl
  | (b, x) :: l1, l2, Q, F, p, s, h => by
    have hb : b = false := h (b, x) (by simp)
    subst hb
    show Sem.wp M Γ (spliced ((false, x) :: (l1 ++ l2))) Q F p s = Sem.wp M Γ (spliced ((false, x) :: l1)) _ F p s
    rw [spliced, spliced]
    simp only [Bool.false_eq_true, if_false, Sem.wp_bind', Sem.wp_pure', Sem.wp_holding]
    congr 1
    funext v p1 s1
    rw [wp_spl l1 l2 _ F p1 s1 fun y hy => h y (by simp [hy])]
    rfl
theorem spl_app {l1 l2 : List (Bool × Sem Value)} {s : Shared} {Q : List Value → Shared → Prop} (h1 : ∀ x ∈ l1, x.1 = false) (h : wpAny M A (spliced l1) (fun us s1 => wpAny M A (spliced l2) (fun vs s2 => Q (us ++ vs) s2) E s1) E s) : wpAny M A (spliced (l1 ++ l2)) Q E s := fun Γ p hΓ => by
  show Sem.wp M Γ (spliced (l1 ++ l2)) _ _ p s
  rw [wp_spl l1 l2 _ _ p s h1]
  exact Sem.wp_mono M Γ (spliced l1) (fun us p' s' h' => h' Γ p' hΓ) (fun _ _ _ h' => h') p s (h Γ p hΓ)
end
/-- within the lambda -/
def lamI (I : Info) (ps : List Str) (caps : List Nat) : Info := { I with N := ps ++ caps.map (fun i => I.N.getD i ""), tp := false, lam := false }
def lamE (G : GlobF) (cf : CallF) (np : Nat) (caps : List Nat) (body : Ex) (ρ : Env') : List PV → Sto → R PV := fun ys st' => if ys.length = np ∧ noClos ys = true then evE G cf body (ys.map some ++ caps.map fun i => (ρ[i]?).bind id) st' else .bad
section
variable {I : Info} {G : GlobF} {cf : CallF}
theorem lam_env {w : Wd} {H : Hp} {M : List Addr} {B : Addr → Prop} {ρ : Env'} {σ : L2.St} (er : EnvR w H M B ρ σ) {ys : List PV} {vs : List V} (r : Rels w H M B ys vs) (caps : List Nat) : EnvR w H M B (ys.map some ++ caps.map fun i => (ρ[i]?).bind id) (lamSt σ vs caps) := by
  have hl := r.length
  refine ⟨by unfold lamSt; simp [hl], fun i v e => ?_⟩
  by_cases hi : i < ys.length
  · rw [List.getElem?_append_left (by rw [List.length_map]; exact hi), List.getElem?_map] at e
    cases q : ys[i]? with
    | none => rw [q] at e; cases e
    | some y =>
      rw [q] at e
      cases e
      obtain ⟨u, h1, h2⟩ := r.get q
      refine ⟨u, ?_, h2⟩
      unfold lamSt
      rw [List.getElem?_append_left (by rw [List.length_map]; omega), List.getElem?_map, h1]; rfl
  · rw [List.getElem?_append_right (by rw [List.length_map]; omega), List.length_map, List.getElem?_map] at e
    cases q : caps[i - ys.length]? with
    | none => rw [q] at e; cases e
    | some k =>
      rw [q] at e
      have e : (ρ[k]?).bind id = some v := Option.some.inj e
      obtain ⟨u, h1, h2⟩ := slot_of er e
      refine ⟨u, ?_, h2⟩
      unfold lamSt
      rw [List.getElem?_append_right (by rw [List.length_map]; omega), List.length_map, ← hl, List.getElem?_map, q]
      show some ((σ[k]?).bind id) = _
      rw [h1]; rfl
theorem clo_act {np : Nat} {caps : List Nat} {body : Ex} {ps : List Str} (hb : Snd (lamI I ps caps) G cf body) {X : Cx} {top : Bool} {We : WeS} {σ : L2.St} {ρ : Env'} {H : Hp} {M : List Addr} {B : Addr → Prop} {st : Sto} {pins : List (Addr × Obj)} {s : Shared} {k : Nat} {f d : Addr} {params : Arguments} {lb : Expr} {scope : Scope} {pm tv : Value}
    (p : Pt I G cf X top We σ ρ H M B st) (J : Inv X pins σ H s) (hcl : I.clo = none) (L : LamIs I caps ps X.env.scope scope) (hpa : plainArgs params = some ps) (hnp : ps.length = np) (hchk : chkE (lamI I ps caps).st body scope lb = true)
    (ho : s.heap.get? f = some (PySem.W.kla_obj "<lambda>" (X.env.qual ++ "<lambda>") params lb scope (cloFrom X.env.cells scope.names []) pm d tv)) (hf : H f = none) (hfr : f ∉ frs X.stack) (hd : H d = some (LamX.CodeO d (X.env.qual ++ "<lambda>")))
    (fn : ∀ f, I.F f = true → ∃ a fd ps, X.mg (I.nm f) = some (.ref a) ∧ PySem.W.keepIn X.K (.ref a) = true ∧ Binds X.K fd ps [] ∧ FnOk X.prog X.w X.K X.mg X.base (L2.CX X.prog X.w) k a fd ps (spOf (wd X I.nm.o) cf f))
    (lg : ∀ g, I.L g = true → ∃ a, X.mg (I.nm g) = some (.ref a) ∧ PySem.W.keepIn X.K (.ref a) = true)
    (ow : ∀ o c m f, I.O o c m f = true → ∃ C a, X.mg (I.nm c) = some (.ref C) ∧ OwnAt X.K o C m a ∧ FnR X.prog X.w X.K X.mg X.base (L2.CX X.prog X.w) k a (spOf (wd X I.nm.o) cf f)) :
    CloAct X.prog X.w (wd X I.nm) X.base X.stack s H M B (k + 3) f (lamE G cf np caps body ρ) where
  at_ := ⟨_, _, _, _, ho⟩
  nh := hf
  nf := hfr
  run := fun A outer' s1 H1 M1 us vs as st1 Q E hr e0 un rv k1 c1 r1 res => by
    have lv : vs.length = us.length := rv.length
    have la : as.length = vs.length := r1.length
    unfold lamE at res
    by_cases hq : as.length = np ∧ noClos as = true
    · rw [if_pos hq] at res
      have of1 := un.keep f _ ho hf hfr (by simp)
      have dM : d ∉ M := fun hm => by
        obtain ⟨o, e, h'⟩ := p.cl.isL hm
        rw [hd] at e
        cases e
        exact h'
      have hd1 := (k1.h d _ hd dM (by unfold LamX.CodeO; trivial)).1
      obtain ⟨⟨oc, fvs, t, hoc, hdc, hvc⟩, _, _⟩ := e0.hok d _ hd1
      refine PySem.W.kla_callFunE hr.depth of1 rfl L.co L.gen rfl ⟨d, oc, fvs, t, rfl, hoc, hdc, hvc⟩ ?_
      have hpl : ps.length = us.length := by omega
      rw [plain_bind hpa hpl]
      refine wpAny_pure (wpAny_newFunctionEnv L.cell (fun y hy => L.par _ (List.of_mem_zip hy).1) (fun h1 hns hsb => ⟨e0.mod.nolimit.keeps (fun b o e => (e0.bs b o e).1) |>.fresh _ hsb, ?_⟩) L.kind)
      have kp : ∀ b o, s1.heap.get? b = some o → h1.get? b = some o := fun b o e => hsb.extBut b o (Nat.ne_of_lt (Heap.lt_size e)) (Heap.get?_push_of_some _ e)
      have J1 : Inv (lamX X (ps ++ caps.map fun i => I.N.getD i "") A outer' s1 H1 E scope f d) [] (lamSt σ vs caps) H1 { s1 with heap := h1, toks := s1.toks + (ps.zip us).length } :=
        lam_inv J p.cx.N L e0 hr.hd un rv hpl hns kp
      have cx : Ctx (lamI I ps caps) G cf (lamX X (ps ++ caps.map fun i => I.N.getD i "") A outer' s1 H1 E scope f d) false (fun _ c _ H' _ => ∀ a, X.mg (I.nm c) = some (.ref a) → E (.ref a) none H') :=
        { calm := rfl
          nd := L.nd
          N := rfl
          takes := (takes_of rfl rfl rfl rfl).imp fun cls dd σ H' ⟨c, st', M', a', e1, e2, e3, e4⟩ => by subst e1; subst e2; exact e4 a' e3
          un := by
            have := (hr.deeper (LamX.lamEnv X scope s1.heap.objs.size f d)).un
            show (A.deeper _).units + 65 < cLine
            omega
          flds := p.cx.flds
          isc := p.cx.isc
          mn := p.cx.mn
          fns := ⟨k, (hr.deeper _).mono (Nat.le_add_right _ _), fun z => (by cases z), fn, fun g hg => let ⟨a, h1, h2⟩ := lg g hg; ⟨a, h1, h2, fun z => (by cases z)⟩, hr.deeper _, ow⟩
          glob := p.cx.glob
          free := p.cx.free
          fn := fun z => by cases z
          cl := p.cx.cl
          isf := p.cx.isf
          lam := fun z => by cases z }
      have er := lam_env (p.er.mono k1) r1 caps
      have ev := hb.E (Q := Q) (x := lb) ⟨cx, er, c1, fun z => by cases z⟩ hchk res
      refine PySem.W.kla_codeExpr (wpAny_mono (ev [] _ J1) (fun v s' hq => ?_) fun e s' hq => hq)
      obtain ⟨w', H', J', rw', q⟩ := hq
      exact ⟨w', H', J'.os, J'.bare, J'.base, J'.hok, rw', q⟩
    · rw [if_neg hq] at res; exact res.elim
theorem backTo_plain {pos : Pos} {l : List (Bool × Sem Value)} (h : ∀ x ∈ l, x.1 = false) : backTo pos l = l := by
  unfold backTo
  have : ∀ x ∈ l, (x.1, if x.1 = true then (do let v ← x.2; standAt pos; pure v) else x.2) = x := fun x hx => by
    obtain ⟨b, t⟩ := x
    have hb : b = false := h _ hx
    subst hb; rfl
  refine Eq.trans (List.map_congr_left this) ?_
  simp
theorem star_app {sc : Scope} (env : Env) (e : Expr) : ∀ (as : Ex) (xs : List Expr), chkA I.st as sc xs = true → starEach (xs ++ [e]) env = starEach xs env ++ starEach [e] env ∧ ∀ x ∈ starEach xs env, x.1 = false
  | .nil, xs, h => by
    cases xs with
    | nil => exact ⟨rfl, fun x hx => by cases hx⟩
    | cons _ _ => simp [chkA] at h
  | .cons a as, xs, h => by
    cases xs with
    | nil => simp [chkA] at h
    | cons x xs =>
      obtain ⟨h1, h2⟩ := mem_bool (show (chkE I.st a sc x && chkA I.st as sc xs) = true from h)
      obtain ⟨q1, q2⟩ := star_app env e as xs h2
      refine ⟨?_, fun y hy => ?_⟩
      · rw [List.cons_append, star_of (chk_odd h1), star_of (chk_odd h1), q1]; rfl
      · rw [star_of (chk_odd h1)] at hy
        rcases List.mem_cons.mp hy with rfl | hy
        · rfl
        · exact q2 y hy
  | .var _, xs, h => by cases xs <;> simp [chkA] at h
  | .non, xs, h => by cases xs <;> simp [chkA] at h
  | .bl _, xs, h => by cases xs <;> simp [chkA] at h
  | .int _, xs, h => by cases xs <;> simp [chkA] at h
  | .str _, xs, h => by cases xs <;> simp [chkA] at h
  | .gl _, xs, h => by cases xs <;> simp [chkA] at h
  | .bty _, xs, h => by cases xs <;> simp [chkA] at h
  | .bin .., xs, h => by cases xs <;> simp [chkA] at h
  | .neg _, xs, h => by cases xs <;> simp [chkA] at h
  | .not _, xs, h => by cases xs <;> simp [chkA] at h
  | .and .., xs, h => by cases xs <;> simp [chkA] at h
  | .or .., xs, h => by cases xs <;> simp [chkA] at h
  | .cmp .., xs, h => by cases xs <;> simp [chkA] at h
  | .chn .., xs, h => by cases xs <;> simp [chkA] at h
  | .ite .., xs, h => by cases xs <;> simp [chkA] at h
  | .tup _, xs, h => by cases xs <;> simp [chkA] at h
  | .lst _, xs, h => by cases xs <;> simp [chkA] at h
  | .cell _, xs, h => by cases xs <;> simp [chkA] at h
  | .call .., xs, h => by cases xs <;> simp [chkA] at h
  | .bi .., xs, h => by cases xs <;> simp [chkA] at h
  | .idx .., xs, h => by cases xs <;> simp [chkA] at h
  | .sli .., xs, h => by cases xs <;> simp [chkA] at h
  | .omit, xs, h => by cases xs <;> simp [chkA] at h
  | .comp .., xs, h => by cases xs <;> simp [chkA] at h
  | .comp2 .., xs, h => by cases xs <;> simp [chkA] at h
  | .lrg .., xs, h => by cases xs <;> simp [chkA] at h
  | .lrd .., xs, h => by cases xs <;> simp [chkA] at h
  | .rng1 _, xs, h => by cases xs <;> simp [chkA] at h
  | .rng2 .., xs, h => by cases xs <;> simp [chkA] at h
  | .zip .., xs, h => by cases xs <;> simp [chkA] at h
  | .enu _, xs, h => by cases xs <;> simp [chkA] at h
  | .sq _, xs, h => by cases xs <;> simp [chkA] at h
  | .dict _, xs, h => by cases xs <;> simp [chkA] at h
  | .get .., xs, h => by cases xs <;> simp [chkA] at h
  | .callL .., xs, h => by cases xs <;> simp [chkA] at h
  | .calv .., xs, h => by cases xs <;> simp [chkA] at h
  | .calg .., xs, h => by cases xs <;> simp [chkA] at h
  | .cnt .., xs, h => by cases xs <;> simp [chkA] at h
  | .pop .., xs, h => by cases xs <;> simp [chkA] at h
  | .fld .., xs, h => by cases xs <;> simp [chkA] at h
  | .prop .., xs, h => by cases xs <;> simp [chkA] at h
  | .meth .., xs, h => by cases xs <;> simp [chkA] at h
  | .item .., xs, h => by cases xs <;> simp [chkA] at h
  | .ocall .., xs, h => by cases xs <;> simp [chkA] at h
  | .ostr .., xs, h => by cases xs <;> simp [chkA] at h
  | .olen .., xs, h => by cases xs <;> simp [chkA] at h
  | .obool .., xs, h => by cases xs <;> simp [chkA] at h
  | .obin .., xs, h => by cases xs <;> simp [chkA] at h
  | .oinv .., xs, h => by cases xs <;> simp [chkA] at h
  | .ceq .., xs, h => by cases xs <;> simp [chkA] at h
  | .isin .., xs, h => by cases xs <;> simp [chkA] at h
  | .mk .., xs, h => by cases xs <;> simp [chkA] at h
  | .mks .., xs, h => by cases xs <;> simp [chkA] at h
  | .cm .., xs, h => by cases xs <;> simp [chkA] at h
  | .isc .., xs, h => by cases xs <;> simp [chkA] at h
  | .join .., xs, h => by cases xs <;> simp [chkA] at h
  | .spl .., xs, h => by cases xs <;> simp [chkA] at h
  | .fmt _, xs, h => by cases xs <;> simp [chkA] at h
  | .fs _, xs, h => by cases xs <;> simp [chkA] at h
  | .bot, xs, h => by cases xs <;> simp [chkA] at h
theorem star_first {as : Ex} {sc : Scope} {x : Expr} {xs rest : List Expr} {env : Env} (h : chkA I.st as sc (x :: xs) = true) : starEach (x :: rest) env = (false, eval x env) :: starEach rest env := by
  cases as <;> first | (exact (noA rfl h).elim) | (exact absurd h Bool.false_ne_true) | skip
  rename_i a as'
  obtain ⟨c1, c2⟩ := mem_bool (show (chkE I.st a sc x && chkA I.st as' sc xs) = true from h)
  exact star_of (chk_odd c1) _
theorem Res.toE {w : Wd} {B : Addr → Prop} {We : WeT} {H : Hp} {M : List Addr} {r : R PV} {Q : VK} {E : XK} (h : Res w B (RelR w B) We H M r Q) (hE : ∀ c st' H' M', We c st' H' M' → ∀ a, w.mg (w.nm c) = some (.ref a) → E (.ref a) none H') :
    Res w B (RelR w B) (fun c _ H' _ => ∀ a, w.mg (w.nm c) = some (.ref a) → E (.ref a) none H') H M r Q := by
  cases r with
  | ok v st => exact h
  | ex c st => exact fun H' M' k s a ha => hE c st H' M' (h H' M' k s) a ha
  | bad => exact h
theorem snd_callL (f : Nat) (as : Ex) (np : Nat) (caps : List Nat) (body : Ex) (hs : Snd I G cf as) (hb : ∀ ps, Snd (lamI I ps caps) G cf body) : Snd I G cf (.callL f as np caps body) := snd_of (fun {X top We σ ρ H M B st x Q} p h r => by
  cases x <;> first | (exact absurd h Bool.false_ne_true) | skip
  rename_i fe es kw pos
  cases fe <;> first | (exact absurd h Bool.false_ne_true) | skip
  rename_i n nps
  rcases kw with _ | ⟨_, _⟩
  · have hE : ∀ c st' H' M', We σ c st' H' M' → ∀ a, X.mg (I.nm c) = some (.ref a) → WE (Wof X I.nm We) σ (.ref a) none H' := fun c st' H' M' w a ha => ⟨c, st', M', a, rfl, rfl, ha, w⟩
    obtain ⟨h0, h1⟩ := mem_bool (show (I.clo.isNone && ((I.tp && I.lam) && (I.L f && (gOk I X.env.scope f n && (match lamIs es with
      | some (xs, params, lb, scope) => (match plainArgs params with
        | some ps => decide (ps.length = np) && (lamOk I caps ps X.env.scope scope && (chkA I.st as X.env.scope xs && chkE (lamI I ps caps).st body scope lb))
        | none => false)
      | none => false))))) = true from h)
    obtain ⟨h1, h2⟩ := mem_bool h1
    obtain ⟨t1, t2⟩ := mem_bool h1
    obtain ⟨hLf, h3⟩ := mem_bool h2
    obtain ⟨g0, h4⟩ := mem_bool h3
    have hcl : I.clo = none := Option.isNone_iff_eq_none.mp h0
    obtain ⟨g1, g2⟩ := mem_bool (show (decide (I.nm f = n) && (glB X.env.scope n && nodbg n)) = true from g0)
    obtain ⟨g2, g3⟩ := mem_bool g2
    split at h4
    · rename_i xs params lb scope hes
      split at h4
      · rename_i ps hpa
        obtain ⟨h5, h6⟩ := mem_bool h4
        obtain ⟨h6, h7⟩ := mem_bool h6
        obtain ⟨h7, h8⟩ := mem_bool h7
        obtain ⟨lpos, rfl⟩ := lamIs_eq hes
        have L := lamIs_of h6
        obtain ⟨k, hr, hr2, fn, lg, _, ow⟩ := p.cx.fns
        obtain ⟨g, hm, hk, hL⟩ := lg f hLf
        have hL := hL t2
        have hr2 := hr2 t2
        rw [of_decide_eq_true g1] at hm
        obtain ⟨c, P, hcode, hstk, tb, hin, huq⟩ := p.cx.lam t1 t2
        have ew : (wd X I.nm.o) = wd X I.nm := Wd.o_of (w := wd X I.nm) (p.cx.cl hcl)
        rw [ew] at hL
        have r' : Res (wd X I.nm) B (RelR (wd X I.nm) B) (We σ) H M ((evA G cf as ρ st).bind fun ys st1 => cf.lam f ys (lamE G cf np caps body ρ) st1) Q := r
        intro pins s I0
        refine wpAny_Call_Name_kw (ld_glob I0 (gl_of g2) hm ?_ (nodbg_of g3))
        obtain ⟨star, plain⟩ := star_app X.env (.Lambda params lb scope lpos) as xs h7
        have star : starEach (xs ++ [.Lambda params lb scope lpos]) X.env = starEach xs X.env ++ [(false, eval (.Lambda params lb scope lpos) X.env)] := star
        have allp : ∀ x ∈ starEach (xs ++ [.Lambda params lb scope lpos]) X.env, x.1 = false := fun x hx => by
          rw [star] at hx
          rcases List.mem_append.mp hx with z | z
          · exact plain x z
          · rw [List.mem_singleton.mp z]
        -- behind the arguments
        have go : wpAny (model X.prog X.w) X.A (spliced (backTo pos (starEach (xs ++ [.Lambda params lb scope lpos]) X.env))) (fun vs s₁ => X.K.In s₁.heap ∧ wpAny (model X.prog X.w) X.A (call (.ref g) ([] ++ vs)) (EP X pins σ Q) X.xe s₁) X.xe s := by
          rw [backTo_plain allp, star]
          refine spl_app plain ?_
          have ha := hs.A p h7 (Res.bind r' (Q := fun vs H2 => ∃ ys st1 M2, Kp H M H2 M2 ∧ Cels (wd X I.nm) H2 M2 B st1 ∧ Rels (wd X I.nm) H2 M2 B ys vs ∧ Res (wd X I.nm) B (RelR (wd X I.nm) B) (We σ) H2 M2 (cf.lam f ys (lamE G cf np caps body ρ) st1) Q) fun ys st1 vs H2 M2 k2 s2 r2 hr => ⟨ys, st1, M2, k2, s2, r2, hr⟩) pos pins s I0
          rw [backTo_plain plain] at ha
          refine thn ha fun us s2 ⟨vs, H2, I2, rv, ys, st1, M2, k2, s2', r2, res⟩ => ?_
          refine Calls.spliced_cons (lam_mk (T := I.nm.tabs) I2 tb hcode hin huq s2'.tb (plain_dft hpa) (fun y hy e => I2.ok.has _ (L.free y hy e).2) fun fa d pm tv H3 s3 I3 lh ht ho hf hfr hd => ?_)
          refine Calls.spliced_nil ⟨I3.kIn, ?_⟩
          obtain ⟨k3, keep3⟩ := lh.kp M2
          have s3' : Cels (wd X I.nm) H3 M2 B st1 := s2'.keep k3 (fun a hm => by
            obtain ⟨o, e, ho⟩ := s2'.isL hm
            rw [e]
            exact keep3 a o e (by cases o <;> first | trivial | exact ho)) ht
          have act := clo_act (np := np) (caps := caps) (hb ps) (p.go (k2.trans k3) s3') I3 hcl L hpa (of_decide_eq_true h5) h8 ho hf hfr hd fn (fun g hg => let ⟨a, q1, q2, _⟩ := lg g hg; ⟨a, q1, q2⟩) ow
          have rc := hL X.A X.stack s3 H3 us vs fa ys M2 B st1 (lamE G cf np caps body ρ) Q (WE (Wof X I.nm We) σ) hr2 I3.env0 rv (r2.mono k3) s3' act ((res.mono k3).toE hE)
          refine wpAny_call (codeAny_mono rc fun r s4 hq => ?_)
          cases r with
          | error e => exact passAt p.cx.takes σ pins H3 s3 e s4 I3 hq
          | ok fl =>
            cases fl with
            | ret u => exact I3.after hq
            | next => exact False.elim hq
            | brk => exact False.elim hq
            | cont => exact False.elim hq
        rcases xs with _ | ⟨x, xs⟩
        · exact PySem.W.callWith_K (h₀ := X.base) I0.ok.mod.kin hk go rfl rfl
        · have hst : starEach (x :: (xs ++ [.Lambda params lb scope lpos])) X.env = (false, eval x X.env) :: starEach (xs ++ [.Lambda params lb scope lpos]) X.env := by
            exact star_first h7
          have allp' : ∀ y ∈ starEach (xs ++ [.Lambda params lb scope lpos]) X.env, y.1 = false := fun y hy => allp y (by
            show y ∈ starEach (x :: (xs ++ [.Lambda params lb scope lpos])) X.env
            rw [hst]; exact List.mem_cons_of_mem _ hy)
          refine PySem.W.callWith_K (h₀ := X.base) I0.ok.mod.kin hk go hst ?_
          show (backTo pos (starEach (xs ++ [.Lambda params lb scope lpos]) X.env)).any (·.1) = false
          rw [backTo_plain allp']
          exact List.any_eq_false.mpr fun y hy => by rw [allp' y hy]; decide
      · cases h4
    · cases h4
  · cases es <;> exact absurd h Bool.false_ne_true) rfl rfl rfl rfl
end
end Mi

end

section
set_option linter.all false
set_option maxRecDepth 100000
/-! Mi, part Ob: instances, their own operators; texts. -/
namespace Mi
open PySem PySem.Spec PyProof.Rows L2

/-! ### a callee, wherever the call stands -/
section
variable {X : Cx} {pins : List (Addr × Obj)} {σ : L2.St} {H : Hp} {s : Shared} {k : Nat} {f : Addr} {sp : Sp} {E : XK} {Q : VK} {us : List Value} {vs : List V} {A : Around}
theorem own_code (F : FnR X.prog X.w X.K X.mg X.base (L2.CX X.prog X.w) k f sp) (hr : Room k A) (e0 : Env0 X.prog X.w X.K X.mg X.base A X.stack s H) (hx : PassesAt (L2.CX X.prog X.w) X σ E) (J : Inv X pins σ H s) (r : Vals vs us) (h : sp vs H Q E) :
    codeAny (model X.prog X.w) A (.call (.ref f) ⟨us, []⟩) (fun r s' => match r with | .ok (.ret v) => EP X pins σ Q v s' | .ok _ => False | .error e => X.xe e s') s :=
  codeAny_mono (F A X.stack s H us vs Q E hr e0 r h) fun r s' hq => by
    cases r with
    | error e => exact hx pins H s e s' J hq
    | ok fl =>
      cases fl with
      | ret u => exact J.after hq
      | next => exact False.elim hq
      | brk => exact False.elim hq
      | cont => exact False.elim hq
theorem own_call (F : FnR X.prog X.w X.K X.mg X.base (L2.CX X.prog X.w) k f sp) (hr : Room k A) (e0 : Env0 X.prog X.w X.K X.mg X.base A X.stack s H) (hx : PassesAt (L2.CX X.prog X.w) X σ E) (J : Inv X pins σ H s) (r : Vals vs us) (h : sp vs H Q E) :
    wpAny (model X.prog X.w) A (call (.ref f) us) (EP X pins σ Q) X.xe s :=
  wpAny_call (codeAny_mono (own_code F hr e0 hx J r h) fun r s' hq => by
    cases r with
    | error e => exact hq
    | ok fl =>
      cases fl with
      | ret u => exact hq
      | next => exact False.elim hq
      | brk => exact False.elim hq
      | cont => exact False.elim hq)
end
section
variable {w : Wd} {H : Hp} {M : List Addr} {B : Addr → Prop} {st : Sto}
theorem isIns_rel {c : Nat} {x : PV} {v : V} (s : Cels w H M B st) (r : Rel w H M B x v) (h : isIns st c x = true) : ∃ n a fs C dx gs, x = .cel n ∧ v = .ref a ∧ M[n]? = some a ∧ st[n]? = some (.ins c fs) ∧ w.mg (w.nm c) = some (.ref C) ∧ H a = some (.ins C dx gs) ∧
    gs.map (·.1) = fs.map (·.1) ∧ Rels w H M B (fs.map (·.2)) (gs.map (·.2)) := by
  cases x <;> first | (cases h; done) | skip
  rename_i n
  cases r with
  | cel e =>
    rename_i a
    unfold isIns at h
    dsimp only at h
    cases q : st[n]? with
    | none => rw [q] at h; cases h
    | some cc =>
      rw [q] at h
      cases cc with
      | lst _ => cases h
      | ins d fs =>
        have hd := of_decide_eq_true h
        subst hd
        obtain ⟨C, dx, gs, g1, g2, g3, g4⟩ := s.getI e q
        exact ⟨n, a, fs, C, dx, gs, rfl, rfl, e, q, g1, g2, g3, g4⟩
theorem lookup_rel {x : Str} : ∀ {fs : List (Str × PV)} {gs : List (Str × V)}, gs.map (·.1) = fs.map (·.1) → Rels w H M B (fs.map (·.2)) (gs.map (·.2)) → (∀ v, fs.lookup x = some v → ∃ u, gs.lookup x = some u ∧ Rel w H M B v u) ∧ (fs.lookup x = none → gs.lookup x = none)
  | [], [], _, _ => ⟨fun v e => (by cases e), fun _ => rfl⟩
  | [], _ :: _, h, _ => by cases h
  | _ :: _, [], h, _ => by cases h
  | (f, y) :: fs, (g, z) :: gs, h, r => by
    have h : g :: gs.map (·.1) = f :: fs.map (·.1) := h
    injection h with h1 h2
    subst h1
    cases r with
    | cons r t =>
      obtain ⟨i1, i2⟩ := lookup_rel (x := x) h2 t
      rw [List.lookup_cons, List.lookup_cons]
      cases q : (x == g) with
      | true => exact ⟨fun v e => by cases e; exact ⟨_, rfl, r⟩, fun e => by cases e⟩
      | false => exact ⟨i1, i2⟩
theorem putF_keys {f : Str} {v : PV} {u : V} : ∀ {fs : List (Str × PV)} {gs : List (Str × V)}, gs.map (·.1) = fs.map (·.1) → (putF f u gs).map (·.1) = (putP f v fs).map (·.1)
  | [], [], _ => rfl
  | [], _ :: _, h => by cases h
  | _ :: _, [], h => by cases h
  | (g, y) :: fs, (g', z) :: gs, h => by
    have h : g' :: gs.map (·.1) = g :: fs.map (·.1) := h
    injection h with h1 h2
    subst h1
    show (if g' = f then (g', u) :: gs else (g', z) :: putF f u gs).map (·.1) = (if g' = f then (g', v) :: fs else (g', y) :: putP f v fs).map (·.1)
    by_cases q : g' = f
    · rw [if_pos q, if_pos q]
      show g' :: gs.map (·.1) = g' :: fs.map (·.1)
      rw [h2]
    · rw [if_neg q, if_neg q]
      show g' :: (putF f u gs).map (·.1) = g' :: (putP f v fs).map (·.1)
      rw [putF_keys (f := f) (v := v) (u := u) h2]
theorem putF_rels {f : Str} {v : PV} {u : V} (ru : Rel w H M B v u) : ∀ {fs : List (Str × PV)} {gs : List (Str × V)}, gs.map (·.1) = fs.map (·.1) → Rels w H M B (fs.map (·.2)) (gs.map (·.2)) → Rels w H M B ((putP f v fs).map (·.2)) ((putF f u gs).map (·.2))
  | [], [], _, _ => .cons ru .nil
  | [], _ :: _, h, _ => by cases h
  | _ :: _, [], h, _ => by cases h
  | (g, y) :: fs, (g', z) :: gs, h, r => by
    have h : g' :: gs.map (·.1) = g :: fs.map (·.1) := h
    injection h with h1 h2
    subst h1
    cases r with
    | cons r t =>
      show Rels w H M B ((if g' = f then (g', v) :: fs else (g', y) :: putP f v fs).map (·.2)) ((if g' = f then (g', u) :: gs else (g', z) :: putF f u gs).map (·.2))
      by_cases q : g' = f
      · rw [if_pos q, if_pos q]; exact .cons ru t
      · rw [if_neg q, if_neg q]; exact .cons r (putF_rels ru h2 t)
theorem noClos_put {f : Str} {v : PV} (hv : v.noClo = true) : ∀ {fs : List (Str × PV)}, noClos (fs.map (·.2)) = true → noClos ((putP f v fs).map (·.2)) = true
  | [], _ => by show (v.noClo && true) = true; rw [hv]; rfl
  | (g, y) :: fs, h => by
    obtain ⟨h1, h2⟩ := mem_bool (show (y.noClo && noClos (fs.map (·.2))) = true from h)
    show noClos ((if g = f then (g, v) :: fs else (g, y) :: putP f v fs).map (·.2)) = true
    by_cases q : g = f
    · rw [if_pos q]; show (v.noClo && noClos (fs.map (·.2))) = true; rw [hv, h2]; rfl
    · rw [if_neg q]; show (y.noClo && noClos ((putP f v fs).map (·.2))) = true; rw [h1, noClos_put hv h2]; rfl
end
section
variable {I : Info} {G : GlobF} {cf : CallF}
section
variable {X : Cx} {top : Bool} {We : WeS} {σ : L2.St} {ρ : Env'} {H : Hp} {M : List Addr} {B : Addr → Prop} {st : Sto} {Q : VK}
theorem Pt.hE (p : Pt I G cf X top We σ ρ H M B st) : ∀ c st' H' M', We σ c st' H' M' → ∀ a, X.mg (I.nm c) = some (.ref a) → WE (Wof X I.nm We) σ (.ref a) none H' := fun c st' H' M' w a ha => ⟨c, st', M', a, rfl, rfl, ha, w⟩
theorem Pt.nclo (p : Pt I G cf X top We σ ρ H M B st) (hc : I.clo.isNone = true) : (wd X I.nm).nm.clo = none := p.cx.cl (Option.isNone_iff_eq_none.mp hc)
/-- what an own def promises, by what the evaluator says of it -/
theorem Pt.sp (p : Pt I G cf X top We σ ρ H M B st) (hc : I.clo.isNone = true) {f : Nat} {as : List PV} {vs : List V} (r : Rels (wd X I.nm) H M B as vs) (h : Res (wd X I.nm) B (RelR (wd X I.nm) B) (We σ) H M (cf f as st) Q) :
    spOf (wd X I.nm.o) cf f vs H Q (WE (Wof X I.nm We) σ) := call_sp (m := .sto) (.inl (p.nclo hc)) p.cl r h p.hE
theorem Pt.run (p : Pt I G cf X top We σ ρ H M B st) (hc : I.clo.isNone = true) {A : Around} {k : Nat} {f : Nat} {a : Addr} {as : List PV} {vs : List V} {us : List Value} {pins : List (Addr × Obj)} {s : Shared}
    (F : FnR X.prog X.w X.K X.mg X.base (L2.CX X.prog X.w) k a (spOf (wd X I.nm.o) cf f)) (hr : Room k A) (e0 : Env0 X.prog X.w X.K X.mg X.base A X.stack s H) (J : Inv X pins σ H s) (rv : Vals vs us) (r : Rels (wd X I.nm) H M B as vs)
    (h : Res (wd X I.nm) B (RelR (wd X I.nm) B) (We σ) H M (cf f as st) Q) : wpAny (model X.prog X.w) A (call (.ref a) us) (EP X pins σ Q) X.xe s :=
  own_call F hr e0 (passAt p.cx.takes σ) J rv (p.sp hc r h)
theorem Pt.own (p : Pt I G cf X top We σ ρ H M B st) {o : OwK} {c : Nat} {m : Str} {f : Nat} (h : I.O o c m f = true) : ∃ k C a, Room (k + 2) X.A ∧ X.mg (I.nm c) = some (.ref C) ∧ OwnAt X.K o C m a ∧ FnR X.prog X.w X.K X.mg X.base (L2.CX X.prog X.w) k a (spOf (wd X I.nm.o) cf f) := by
  obtain ⟨k, _, _, _, _, hr, ow⟩ := p.cx.fns
  obtain ⟨C, a, h1, h2, h3⟩ := ow o c m f h
  exact ⟨k, C, a, hr, h1, h2, h3⟩
/-- an instance of the class, as the machine has it -/
theorem Pt.ins (p : Pt I G cf X top We σ ρ H M B st) {c : Nat} {x : PV} {v : V} {C : Addr} (r : Rel (wd X I.nm) H M B x v) (h : isIns st c x = true) (hm : X.mg (I.nm c) = some (.ref C)) : ∃ n a fs dx gs, x = .cel n ∧ v = .ref a ∧ M[n]? = some a ∧ st[n]? = some (.ins c fs) ∧ H a = some (.ins C dx gs) ∧
    gs.map (·.1) = fs.map (·.1) ∧ Rels (wd X I.nm) H M B (fs.map (·.2)) (gs.map (·.2)) := by
  obtain ⟨n, a, fs, C', dx, gs, e1, e2, e3, e4, e5, e6, e7, e8⟩ := isIns_rel p.cl r h
  have e5 : X.mg (I.nm c) = some (.ref C') := e5
  rw [hm] at e5
  cases e5
  exact ⟨n, a, fs, dx, gs, e1, e2, e3, e4, e6, e7, e8⟩
theorem inst_of {pins : List (Addr × Obj)} {s : Shared} {a C dx : Addr} {gs : List (Str × V)} (J : Inv X pins σ H s) (h : H a = some (.ins C dx gs)) : ∃ od, PySem.W.InstAt s.heap a (PySem.W.instObj C dx) C (some od) := by
  obtain ⟨mA, O, _⟩ := ins_get J.hok h
  obtain ⟨od, K, _⟩ := O.look
  exact ⟨od, K⟩
end
/-! ### rules at a point -/
section
variable {X : Cx} {σ : L2.St} {H : Hp} {Q : VK}
abbrev OpAt (X : Cx) (σ : L2.St) (f : Value → Value → Sem Value) (x y : V) (H : Hp) (Q : VK) : Prop := ∀ (pins : List (Addr × Obj)) (s : Shared) (v u : Value), Inv X pins σ H s → RelV x v → RelV y u → wpAny (model X.prog X.w) X.A (f v u) (EP X pins σ Q) X.xe s
theorem ev_attr {x : Expr} {m : Str} {pos : Pos} (hb : abase x = true) (h : EvE X x σ H fun u H1 => ∀ (pins : List (Addr × Obj)) (s : Shared) (v : Value), Inv X pins σ H1 s → RelV u v → wpAny (model X.prog X.w) X.A (getAttr v m true) (EP X pins σ Q) X.xe s) : EvE X (.Attribute x m pos) σ H Q :=
  fun pins s J => attr_of (abase_ok hb) (thn (h pins s J) fun v s1 ⟨u, H1, J1, ru, k⟩ => k pins s1 v J1 ru)
theorem ev_two {l r : Expr} {pins : List (Addr × Obj)} {s : Shared} {f : Value → Value → Sem Value} {Z : Value → Shared → Prop} (J : Inv X pins σ H s) (h : EvE X l σ H fun u H1 => EvE X r σ H1 fun v H2 => ∀ (s : Shared) (a b : Value), Inv X pins σ H2 s → RelV u a → RelV v b → wpAny (model X.prog X.w) X.A (f a b) Z X.xe s) :
    wpAny (model X.prog X.w) X.A (eval l X.env) (fun a s1 => wpAny (model X.prog X.w) X.A (eval r X.env) (fun b s2 => wpAny (model X.prog X.w) X.A (f a b) Z X.xe s2) X.xe s1) X.xe s :=
  thn (h pins s J) fun a s1 ⟨u, H1, J1, ru, k⟩ => thn (k pins s1 J1) fun b s2 ⟨v, H2, J2, rv, k2⟩ => k2 s2 a b J2 ru rv
theorem ev_bin {l r : Expr} {op : Operator} {pos : Pos} (h : EvE X l σ H fun u H1 => EvE X r σ H1 fun v H2 => OpAt X σ (binaryOp op) u v H2 Q) : EvE X (.BinOp l op r pos) σ H Q :=
  fun pins s J => wpAny_BinOp (thn (h pins s J) fun a s1 ⟨u, H1, J1, ru, k⟩ => thn (k pins s1 J1) fun b s2 ⟨v, H2, J2, rv, k2⟩ => k2 pins s2 a b J2 ru rv)
theorem ev_cmp {l r : Expr} {op : CmpOp} {pos : Pos} (hm : behindInMarks op r = false) (h : EvE X l σ H fun u H1 => EvE X r σ H1 fun v H2 => OpAt X σ (compareOp op) u v H2 Q) : EvE X (.Compare l [op] [r] pos) σ H Q :=
  fun pins s J => wpAny_Compare1 (thn (h pins s J) fun a s1 ⟨u, H1, J1, ru, k⟩ => thn (k pins s1 J1) fun b s2 ⟨v, H2, J2, rv, k2⟩ => k2 pins s2 a b J2 ru rv) hm
theorem ev_cmpT {l r : Expr} {op : CmpOp} {pos : Pos} {Q : Bool → Hp → Prop} (hm : behindInMarks op r = false) (h : EvE X l σ H fun u H1 => EvE X r σ H1 fun v H2 => OpAt X σ (compareOp op) u v H2 fun z H3 => ∃ b, z = .bl b ∧ Q b H3) : EvT X (.Compare l [op] [r] pos) σ H Q :=
  fun pins s J => wpAny_isTrue_Compare1 (thn (h pins s J) fun a s1 ⟨u, H1, J1, ru, k⟩ => thn (k pins s1 J1) fun b s2 ⟨v, H2, J2, rv, k2⟩ => thn (k2 pins s2 a b J2 ru rv) fun c s3 ⟨z, H3, J3, rz, b', eb, q⟩ => by
    subst eb
    cases rz
    exact wpAny_truthy_bool ⟨H3, J3, q⟩) hm
theorem ev_sub {l r : Expr} {pos : Pos} (h : EvE X l σ H fun u H1 => EvE X r σ H1 fun v H2 => OpAt X σ (subscriptTail l r) u v H2 Q) : EvE X (.Subscript l r pos) σ H Q :=
  fun pins s J => Subscript_ (thn (h pins s J) fun a s1 ⟨u, H1, J1, ru, k⟩ => thn (k pins s1 J1) fun b s2 ⟨v, H2, J2, rv, k2⟩ => k2 pins s2 a b J2 ru rv)
theorem ev_un {l : Expr} {op : UnaryOp} {pos : Pos} (h : EvE X l σ H fun u H1 => ∀ (pins : List (Addr × Obj)) (s : Shared) (v : Value), Inv X pins σ H1 s → RelV u v → wpAny (model X.prog X.w) X.A (unaryOp op v) (EP X pins σ Q) X.xe s) : EvE X (.UnaryOp op l pos) σ H Q :=
  fun pins s J => UnaryOp_ (thn (h pins s J) fun a s1 ⟨u, H1, J1, ru, k⟩ => k pins s1 a J1 ru)
abbrev CallAt (X : Cx) (σ : L2.St) (f : Value) (vs : List V) (H : Hp) (Q : VK) : Prop := ∀ (pins : List (Addr × Obj)) (s : Shared) (us : List Value), Inv X pins σ H s → Vals vs us → wpAny (model X.prog X.w) X.A (call f us) (EP X pins σ Q) X.xe s
theorem ev_callB {id : String} {n : Str} {y : Expr} {np pos : Pos} (hg : Gl X n) (hm : X.mg n = none) (hv : bootBuiltins n = some (.builtin id)) (ho : oddE y = false) (hn : n ≠ "__name__") (hdb : (n == ("__debug__" : Str)) = false) (h : EvE X y σ H fun u H1 => CallAt X σ (.builtin id) [u] H1 Q) :
    EvE X (.Call (.Name n np) [y] [] pos) σ H Q := fun pins s J =>
  wpAny_Call_Name_kw (ld_blt J hg hm hv (PyProof.Rows.callWith_builtin1 (thn ((evA1 (Q := fun vs H1 => CallAt X σ (.builtin id) vs H1 Q) ho h) pos pins s J) fun us s1 ⟨vs, H1, J1, r1, k⟩ => k pins s1 us J1 r1) (star_of ho _) rfl) hn hdb)
theorem ev_callT {id : String} {n : Str} {y : Expr} {np pos : Pos} (hg : Gl X n) (hm : X.mg n = none) (hv : bootBuiltins n = some (.type id)) (ho : oddE y = false) (hn : n ≠ "__name__") (hdb : (n == ("__debug__" : Str)) = false) (h : EvE X y σ H fun u H1 => CallAt X σ (.type id) [u] H1 Q) :
    EvE X (.Call (.Name n np) [y] [] pos) σ H Q := fun pins s J =>
  wpAny_Call_Name_kw (ld_blt J hg hm hv (PyProof.Rows.callWith_type1 (thn ((evA1 (Q := fun vs H1 => CallAt X σ (.type id) vs H1 Q) ho h) pos pins s J) fun us s1 ⟨vs, H1, J1, r1, k⟩ => k pins s1 us J1 r1) (star_of ho _) rfl) hn hdb)
end
/-! ### fields, properties -/
theorem fldV_eq {st : Sto} {c : Nat} {x : Str} {o v : PV} (h : fldV st c x o = some v) : ∃ n fs, o = .cel n ∧ st[n]? = some (.ins c fs) ∧ fs.lookup x = some v := by
  cases o <;> first | (cases h; done) | skip
  rename_i n
  unfold fldV at h
  dsimp only at h
  split at h
  · rename_i d fs q
    split at h
    · rename_i e; subst e; exact ⟨n, fs, rfl, q, h⟩
    · cases h
  · cases h
theorem snd_fld (c : Nat) (m : Str) (e : Ex) (he : Snd I G cf e) : Snd I G cf (.fld c m e) := snd_of (fun {X top We σ ρ H M B st x Q} p h r => by
  cases x <;> first | (exact absurd h Bool.false_ne_true) | skip
  rename_i b n pos
  obtain ⟨h1, h⟩ := mem_bool (show (decide (m = n) && (abase b && (I.A c m && chkE I.st e X.env.scope b))) = true from h)
  obtain ⟨h2, h⟩ := mem_bool h
  obtain ⟨h3, h4⟩ := mem_bool h
  have e1 := of_decide_eq_true h1
  subst e1
  obtain ⟨C, hC, hcl, hna⟩ := p.cx.flds c m h3
  refine ev_attr h2 (he.E p h4 (Res.bind r fun o st1 u H1 M1 k1 s1 ru hr => ?_))
  obtain ⟨v, ev, q⟩ := Res.liftE hr
  obtain ⟨n', fs, rfl, hs, hl⟩ := fldV_eq ev
  obtain ⟨n2, a, fs2, dx, gs, g1, rfl, g3, g4, g5, g6, g7⟩ := (p.go k1 s1).ins ru (by show (match st1[n']? with | some (.ins d _) => decide (d = c) | _ => false) = true; rw [hs]; simp) hC
  cases g1
  rw [hs] at g4
  cases g4
  obtain ⟨z, hz, rz⟩ := (lookup_rel g6 g7).1 v hl
  intro pins s v0 J rv
  cases rv
  exact getattr_ok J g5 hcl hna hz fun u' s2 J2 ru' => ⟨z, H1, J2, ru', q.now s1 rz⟩) rfl rfl rfl rfl
theorem getprop_at {X : Cx} {pins : List (Addr × Obj)} {σ : L2.St} {H : Hp} {s : Shared} {Q : VK} {a C dx g p : Addr} {gs : List (Str × V)} {m : Str} (J : Inv X pins σ H s) (ea : H a = some (.ins C dx gs)) (c : Cls X.K C) (hp : PropOf X.K C m p g)
    (run : ∀ s1, Inv X pins σ H s1 → codeAny (model X.prog X.w) X.A.in1 (.call (.ref g) ⟨[.ref a], []⟩) (fun r s' => match r with | .ok (.ret v) => EP X pins σ Q v s' | .ok _ => False | .error e => False) s1) : wpAny (model X.prog X.w) X.A (getAttr (.ref a) m true) (EP X pins σ Q) X.xe s := by
  obtain ⟨mA, O, _⟩ := ins_get J.hok ea
  obtain ⟨od, K, _⟩ := O.look
  obtain ⟨rest, hrec⟩ := hp.rec_
  have hc : (PySem.W.clsIn X.K C).isSome = true := by
    obtain ⟨cd, hc, _⟩ := PySem.W.any_some c.hd
    rw [hc]; rfl
  refine PySem.W.get_bind J.kIn K (PySem.W.plainGet_of (c.get m)).1 (PySem.W.findObj_data hc hp.at_ hp.get hp.tak) (PySem.W.plainGet_of (c.get m)).2 (wpAny_call (PySem.W.prop_get (s := { s with toks := s.toks + 1 }) J.kIn hrec ?_))
  refine codeAny_mono (run { s with toks := s.toks + 1 } (J.tok _)) fun r s' hq => ?_
  cases r with
  | error er => exact hq.elim
  | ok fl =>
    cases fl with
    | ret u =>
      obtain ⟨v, H', I3, rv, q3⟩ := hq
      show wpAny _ _ (handedOut u) _ _ _
      rw [PySem.W.handedOut_of (handed_of rv)]
      exact wpAny_pure ⟨v, H', I3, rv, q3⟩
    | next => exact False.elim hq
    | brk => exact False.elim hq
    | cont => exact False.elim hq
theorem if_ins {α β : Type} {w : Wd} {B : Addr → Prop} {rel : Rl α β} {We : WeT} {H : Hp} {M : List Addr} {Q : β → Hp → Prop} {b : Bool} {r : R α} (h : Res w B rel We H M (if b then r else .bad) Q) : b = true ∧ Res w B rel We H M r Q := by
  cases b with
  | true => exact ⟨rfl, h⟩
  | false => exact h.elim
theorem cx_none {P : Program} {w : World} {outer : List Env} {H : Hp} {s : Shared} {e : Value} {s' : Shared} (h : L2.CX P w outer H s (fun _ _ _ => False) e s') : False := by
  obtain ⟨a, B, H', cls, d, _, _, _, _, _, _, _, q⟩ := h
  exact q
theorem Res.noEx' {w : Wd} {B : Addr → Prop} {We : WeT} {H : Hp} {M : List Addr} {r : R PV} {Q : VK} (h : Res w B (RelR w B) We H M r.noEx Q) : Res w B (RelR w B) (fun _ _ _ _ => False) H M r Q := by
  cases r with
  | ok v st => exact h
  | ex c st => exact h.elim
  | bad => exact h
theorem own_code0 {X : Cx} {pins : List (Addr × Obj)} {σ : L2.St} {H : Hp} {s : Shared} {k : Nat} {f : Addr} {sp : Sp} {Q : VK} {us : List Value} {vs : List V} {A : Around} (F : FnR X.prog X.w X.K X.mg X.base (L2.CX X.prog X.w) k f sp) (hr : Room k A) (e0 : Env0 X.prog X.w X.K X.mg X.base A X.stack s H) (J : Inv X pins σ H s) (r : Vals vs us) (h : sp vs H Q fun _ _ _ => False) :
    codeAny (model X.prog X.w) A (.call (.ref f) ⟨us, []⟩) (fun r s' => match r with | .ok (.ret v) => EP X pins σ Q v s' | .ok _ => False | .error e => False) s :=
  codeAny_mono (F A X.stack s H us vs Q _ hr e0 r h) fun r s' hq => by
    cases r with
    | error e => exact cx_none hq
    | ok fl =>
      cases fl with
      | ret u => exact J.after hq
      | next => exact False.elim hq
      | brk => exact False.elim hq
      | cont => exact False.elim hq
theorem snd_prop (c f : Nat) (e : Ex) (he : Snd I G cf e) : Snd I G cf (.prop c f e) := snd_of (fun {X top We σ ρ H M B st x Q} p h r => by
  cases x <;> first | (exact absurd h Bool.false_ne_true) | skip
  rename_i b n pos
  obtain ⟨h1, h⟩ := mem_bool (show (abase b && (I.clo.isNone && (I.O .prop c n f && chkE I.st e X.env.scope b))) = true from h)
  obtain ⟨h2, h⟩ := mem_bool h
  obtain ⟨h3, h4⟩ := mem_bool h
  obtain ⟨k, C, g, hr, hC, ⟨hcl, pa, hp⟩, F⟩ := p.own h3
  refine ev_attr h1 (he.E p h4 (Res.bind r fun o st1 u H1 M1 k1 s1 ru hr1 => ?_))
  obtain ⟨hi, hr1⟩ := if_ins hr1
  have p1 := p.go k1 s1
  obtain ⟨n', a, fs, dx, gs, rfl, rfl, g3, g4, g5, g6, g7⟩ := p1.ins ru hi hC
  intro pins s v0 J rv
  cases rv
  exact getprop_at J g5 hcl hp fun s2 J2 => own_code0 F (Room.in1 (hr.mono (Nat.le_succ _))) J2.env0.in1 J2 (show Vals [V.ref a] [Value.ref a] from .cons rfl .nil) (call_sp (m := .sto) (.inl (p.nclo h2)) p1.cl (.cons ru .nil) (Res.noEx' hr1) fun _ _ _ _ z => z.elim)) rfl rfl rfl rfl
/-! ### methods -/
theorem mcall_eq {sc : Scope} {as : Ex} {es : List Expr} {y m : Str} {yp apos pos : Pos} {env : Env} (h : chkA I.st as sc es = true) (hl : ((apos.endLine == pos.line) && decide (es.length < 30)) = true) :
    eval (.Call (.Attribute (.Name y yp) m apos) es [] pos) env = (do
      let ov ← eval (.Name y yp) env
      standAt apos.atName
      let (f, first) ← holding [ov] (getMethod ov m (L2.plainOf (.Name y yp) env))
      callWith pos f first (backTo pos (starEach es env)) (backToKw pos (keywordEach [] env))) := by
  obtain ⟨h1, h2⟩ := mem_bool hl
  have e0 : eval (.Call (.Attribute (.Name y yp) m apos) es [] pos) env = (do
      let ov ← eval (.Name y yp) env
      standAt apos.atName
      methodCall (.Name y yp) m apos pos env ov (es.length + ([] : List Keyword).length) (backTo pos (starEach es env)) (backToKw pos (keywordEach [] env))) := by
    cases es <;> rfl
  rw [e0]
  have hf : methodCallForm (es.length + ([] : List Keyword).length) (backTo pos (starEach es env)) (backToKw pos (keywordEach [] env)) = true := by
    have hp := chkA_star env pos as es h
    have ha : (backTo pos (starEach es env)).all (fun x => !x.1) = true := by
      rw [List.all_eq_not_any_not]
      simpa using hp
    have h2 := of_decide_eq_true h2
    unfold methodCallForm
    rw [ha]
    simpa [backToKw, keywordEach] using h2
  congr 1
  funext ov
  congr 1
  funext _
  exact mcall_line hf h1
theorem noFld_eq {st : Sto} {m : Str} {n c : Nat} {fs : List (Str × PV)} (h : noFld st m (.cel n) = true) (hs : st[n]? = some (.ins c fs)) : fs.lookup m = none := by
  unfold noFld at h
  dsimp only at h
  rw [hs] at h
  simpa using h
theorem snd_meth (c f : Nat) (e as : Ex) (he : Snd I G cf e) (hs : Snd I G cf as) : Snd I G cf (.meth c f e as) := snd_of (fun {X top We σ ρ H M B st x Q} p h r => by
  cases x <;> first | (exact absurd h Bool.false_ne_true) | skip
  rename_i fn es kw cpos
  cases fn <;> first | (exact absurd h Bool.false_ne_true) | skip
  rename_i b m apos
  cases b <;> first | (exact absurd h Bool.false_ne_true) | skip
  rename_i y yp
  rcases kw with _ | ⟨_, _⟩
  · obtain ⟨h0, h⟩ := mem_bool (show (((apos.endLine == cpos.line) && decide (es.length < 30)) && (I.clo.isNone && (I.O .meth c m f && (decide (I.mn f = m) && (chkE I.st e X.env.scope (.Name y yp) && chkA I.st as X.env.scope es))))) = true from h)
    obtain ⟨h2, h⟩ := mem_bool h
    obtain ⟨h3, h⟩ := mem_bool h
    obtain ⟨h5, h⟩ := mem_bool h
    obtain ⟨h4, h6⟩ := mem_bool h
    obtain ⟨k, C, g, hr, hC, ⟨hcl, hm, hfn⟩, F⟩ := p.own h3
    have hmn : G.mn f = m := (p.cx.mn f).trans (of_decide_eq_true h5)
    have r' : Res (wd X I.nm) B (RelR (wd X I.nm) B) (We σ) H M ((evE G cf e ρ st).bind fun o st1 => if isIns st1 c o && noFld st1 (G.mn f) o then (evA G cf as ρ st1).bind fun xs st2 => cf f (o :: xs) st2 else .bad) Q := r
    rw [hmn] at r'
    have go := he.E (Q := fun u H1 => ∃ a dx gs, u = .ref a ∧ H1 a = some (.ins C dx gs) ∧ gs.lookup m = none ∧ (es = [] → CallAt X σ (.ref g) [.ref a] H1 Q) ∧ EvA X es σ H1 fun vs H2 => CallAt X σ (.ref g) (.ref a :: vs) H2 Q) p h4 (Res.bind r' fun o st1 u H1 M1 k1 s1 ru hr1 => ?_)
    · intro pins s J
      rcases es with _ | ⟨z, zs⟩
      · refine PySem.W.methodCall_KW (he := mcall_eq h6 h0) (thn (go pins s J) fun v s1 ⟨u, H1, J1, rv, a, dx, gs, eu, ea, el, q0, q⟩ => ?_)
        subst eu
        cases rv
        exact getmeth_ok J1 ea hcl.cls hm el (PySem.W.callWith_K0 (first := [.ref a]) J1.kIn hm.kp (q0 rfl pins s1 _ J1 (show Vals [V.ref a] [Value.ref a] from .cons rfl .nil)))
      · refine PySem.W.methodCall_KW (he := mcall_eq h6 h0) (thn (go pins s J) fun v s1 ⟨u, H1, J1, rv, a, dx, gs, eu, ea, el, q0, q⟩ => ?_)
        subst eu
        cases rv
        have hst := args_star (pos := cpos) h6
        refine getmeth_ok J1 ea hcl.cls hm el ?_
        exact PySem.W.callWith_K (first := [.ref a]) (h₀ := X.base) J1.ok.mod.kin hm.kp (thn (q cpos pins s1 J1) fun us s2 ⟨vs, H2, J2, rv2, k2⟩ => ⟨J2.kIn, k2 pins s2 _ J2 (show Vals (V.ref a :: vs) (Value.ref a :: us) from .cons rfl rv2)⟩) hst.1 hst.2
    · obtain ⟨hi, hr1⟩ := if_ins hr1
      obtain ⟨hi, hn⟩ := mem_bool hi
      have p1 := p.go k1 s1
      obtain ⟨n', a, fs, dx, gs, rfl, rfl, g3, g4, g5, g6, g7⟩ := p1.ins ru hi hC
      refine ⟨a, dx, gs, rfl, g5, (lookup_rel g6 g7).2 (noFld_eq hn g4), fun e0 => ?_, ?_⟩
      · subst e0
        rw [args_nil h6] at hr1
        intro pins s us J rv
        exact p1.run h2 F (hr.mono (Nat.le_add_right _ _)) J.env0 J rv (.cons ru .nil) hr1
      refine hs.A p1 h6 (Res.bind hr1 fun xs st2 vs H2 M2 k2 s2 rs hr2 => ?_)
      intro pins s us J rv
      exact (p1.go k2 s2).run h2 F (hr.mono (Nat.le_add_right _ _)) J.env0 J rv (.cons (ru.mono k2) rs) hr2
  · exact absurd h Bool.false_ne_true) rfl rfl rfl rfl

/-! ### own operators -/
theorem Res.bl2 {w : Wd} {B : Addr → Prop} {We : WeT} {H : Hp} {M : List Addr} {r : R PV} {Q : VK} (g : Bool → Bool) (h : Res w B (RelR w B) We H M (r.bind fun v st => match v with
    | .bl b => .ok (.bl (g b)) st
    | _ => .bad) Q) : Res w B (RelR w B) We H M r fun v H' => ∃ b, v = .bl b ∧ Q (.bl (g b)) H' :=
  Res.bind h fun v st u H1 M1 k1 s1 ru hr => by
    cases v <;> first | (exact hr.elim) | skip
    cases ru
    exact ⟨_, rfl, hr.aft.now s1 (.bl _)⟩
theorem subT_of {b : Expr} (h : oddE b = false) (o i : Value) : subscripted b true o i = runValue (.builtin "lifetime.subscript" ⟨[o, i], []⟩) := by
  cases b <;> first | (with_unfolding_all rfl) | (exact absurd h (by simp [oddE]))
theorem snd_item (c f : Nat) (a b : Ex) (ha : Snd I G cf a) (hb : Snd I G cf b) : Snd I G cf (.item c f a b) := snd_of (fun {X top We σ ρ H M B st x Q} p h r => by
  cases x <;> first | (exact absurd h Bool.false_ne_true) | skip
  rename_i l rr pos
  obtain ⟨h2, h⟩ := mem_bool (show (I.clo.isNone && (I.O .meth c "__getitem__" f && (chkE I.st a X.env.scope l && chkE I.st b X.env.scope rr))) = true from h)
  obtain ⟨h3, h⟩ := mem_bool h
  obtain ⟨h4, h5⟩ := mem_bool h
  obtain ⟨k, C, g, hr, hC, ⟨hcl, hm, hfn⟩, F⟩ := p.own h3
  refine ev_sub (two ha hb p h4 h5 r fun o y st2 u v H2 M2 k2 p2 ru rv hr2 => ?_)
  obtain ⟨hi, hr2⟩ := if_ins hr2
  obtain ⟨n', ad, fs, dx, gs, rfl, rfl, g3, g4, g5, g6, g7⟩ := p2.ins ru hi hC
  intro pins s v0 u0 J rv0 ru0
  cases rv0
  obtain ⟨od, K⟩ := inst_of J g5
  obtain ⟨m, hF⟩ := J.fr
  have ps : subscripted rr true (.ref ad) u0 = runValue (.builtin "lifetime.subscript" ⟨[.ref ad, u0], []⟩) := subT_of (chk_odd h5) _ _
  exact PySem.W.sub_K hF J.ok.mod.kin K hm.at_ hfn hm.fn (p2.run h2 F (Room.in1 (hr.mono (Nat.le_succ _))) J.env0.in1 J (show Vals [V.ref ad, v] [Value.ref ad, u0] from .cons rfl (.cons ru0 .nil)) (.cons ru (.cons rv .nil)) hr2) ps) rfl rfl rfl rfl
theorem ev_strO {X : Cx} {σ : L2.St} {Q : VK} {u : Value} {s' : Shared} {pins : List (Addr × Obj)} (h : EP X pins σ (fun v H' => ∃ z, v = .str z ∧ Q v H') u s') : PySem.W.StrBack (EP X pins σ Q) u s' := by
  obtain ⟨v, H', J, rv, z, rfl, q⟩ := h
  obtain ⟨t, rfl⟩ := rv
  exact ⟨.str z, H', J, ⟨t, rfl⟩, q⟩
theorem snd_ostr (c f : Nat) (e : Ex) (he : Snd I G cf e) : Snd I G cf (.ostr c f e) := snd_of (fun {X top We σ ρ H M B st x Q} p h r => by
  cases x <;> first | (exact absurd h Bool.false_ne_true) | skip
  rename_i fn es kw pos
  cases fn <;> first | (exact absurd h Bool.false_ne_true) | skip
  rename_i n np
  rcases es with _ | ⟨y, _ | ⟨z, es⟩⟩ <;> rcases kw with _ | ⟨_, _⟩ <;> first | (exact absurd h Bool.false_ne_true) | skip
  obtain ⟨h2, h⟩ := mem_bool (show (I.clo.isNone && (decide (n = ("str" : Str)) && (glB X.env.scope n && (I.O .meth c "__str__" f && chkE I.st e X.env.scope y)))) = true from h)
  obtain ⟨h0, h⟩ := mem_bool h
  obtain ⟨h1, h⟩ := mem_bool h
  obtain ⟨h3, h4⟩ := mem_bool h
  have hn := of_decide_eq_true h0
  subst hn
  obtain ⟨k, C, g, hr, hC, ⟨hcl, hm, hfn⟩, F⟩ := p.own h3
  refine ev_callT (gl_of h1) (p.cx.free _ (by decide)) rfl (chk_odd h4) (by decide) (by decide) (he.E p h4 (Res.bind r fun o st1 u H1 M1 k1 s1 ru hr1 => ?_))
  obtain ⟨hi, hr1⟩ := if_ins hr1
  have p1 := p.go k1 s1
  obtain ⟨n', ad, fs, dx, gs, rfl, rfl, g3, g4, g5, g6, g7⟩ := p1.ins ru hi hC
  intro pins s us J rv
  obtain ⟨u0, rfl, ru0⟩ := rv.one
  cases ru0
  obtain ⟨od, K⟩ := inst_of J g5
  have hr3 := hr.in1.in1
  refine PySem.W.kso_call hr3.units0 J.kIn K hm.at_ hm.fn (thn (p1.run (Q := fun v H' => ∃ z, v = .str z ∧ Q v H') h2 F hr3 J.env0.in1.in1 J (show Vals [V.ref ad] [Value.ref ad] from .cons rfl .nil) (.cons ru .nil) (Res.bind hr1 fun v st2 w H2 M2 k2 s2 rw_ hr2 => ?_)) fun w s' q => ev_strO q)
  cases v <;> first | (exact hr2.elim) | skip
  cases rw_
  exact ⟨_, rfl, hr2.aft.now s2 (.str _)⟩) rfl rfl rfl rfl
theorem snd_olen (c f : Nat) (e : Ex) (he : Snd I G cf e) : Snd I G cf (.olen c f e) := snd_of (fun {X top We σ ρ H M B st x Q} p h r => by
  cases x <;> first | (exact absurd h Bool.false_ne_true) | skip
  rename_i fn es kw pos
  cases fn <;> first | (exact absurd h Bool.false_ne_true) | skip
  rename_i n np
  rcases es with _ | ⟨y, _ | ⟨z, es⟩⟩ <;> rcases kw with _ | ⟨_, _⟩ <;> first | (exact absurd h Bool.false_ne_true) | skip
  obtain ⟨h2, h⟩ := mem_bool (show (I.clo.isNone && (decide (n = ("len" : Str)) && (glB X.env.scope n && (I.O .meth c "__len__" f && chkE I.st e X.env.scope y)))) = true from h)
  obtain ⟨h0, h⟩ := mem_bool h
  obtain ⟨h1, h⟩ := mem_bool h
  obtain ⟨h3, h4⟩ := mem_bool h
  have hn := of_decide_eq_true h0
  subst hn
  obtain ⟨k, C, g, hr, hC, ⟨hcl, hm, hfn⟩, F⟩ := p.own h3
  refine ev_callB (gl_of h1) (p.cx.free _ (by decide)) rfl (chk_odd h4) (by decide) (by decide) (he.E p h4 (Res.bind r fun o st1 u H1 M1 k1 s1 ru hr1 => ?_))
  obtain ⟨hi, hr1⟩ := if_ins hr1
  have p1 := p.go k1 s1
  obtain ⟨n', ad, fs, dx, gs, rfl, rfl, g3, g4, g5, g6, g7⟩ := p1.ins ru hi hC
  intro pins s us J rv
  obtain ⟨u0, rfl, ru0⟩ := rv.one
  cases ru0
  obtain ⟨od, K⟩ := inst_of J g5
  obtain ⟨m, hF⟩ := J.fr
  refine PySem.W.len_K hF J.ok.mod.kin K hm.at_ hm.fn (thn (p1.run (Q := fun v H' => ∃ i : Int, v = .int i ∧ (0 ≤ i ∧ i < 2 ^ 63) ∧ Q v H') h2 F (Room.in1 (hr.mono (Nat.le_succ _))) J.env0.in1 J (show Vals [V.ref ad] [Value.ref ad] from .cons rfl .nil) (.cons ru .nil) (Res.bind hr1 fun v st2 w H2 M2 k2 s2 rw_ hr2 => ?_)) fun w s' q => ?_)
  · cases v <;> first | (exact hr2.elim) | skip
    rename_i i
    obtain ⟨hq, hr2⟩ := if_ins (show Res (wd X I.nm) B (RelR (wd X I.nm) B) (We σ) H2 M2 (if decide (0 ≤ i) && smallI i then .ok (.int i) st2 else .bad) Q from hr2)
    obtain ⟨q1, q2⟩ := mem_bool hq
    obtain ⟨b1, b2⟩ := rng_small q2
    cases rw_
    exact ⟨i, rfl, ⟨of_decide_eq_true q1, Int.lt_trans b2 (by decide)⟩, hr2.aft.now s2 (.int _)⟩
  · obtain ⟨v, H', J', rv', i, rfl, hb, q⟩ := q
    obtain ⟨t, rfl⟩ := rv'
    exact ⟨hb, .int i, H', J'.tok _, ⟨_, rfl⟩, q⟩) rfl rfl rfl rfl
theorem bool_new {M : Model} {A : Around} {E : Value → Shared → Prop} {s : Shared} {x : Value} {P : Fin → Shared → Prop} (h : wpAny M A (truthy x) (fun b s' => P (.done (.ret (.bool b))) s') E s) : wpAny M A (Builtin.«bool.__new__» ⟨[.type "bool", x], []⟩) P E s := by
  obtain ⟨hp, g, d, tk, os⟩ := s
  have f1 := PySem.F.conv_sub_bool
  unfold Builtin.«bool.__new__»
  refine wpAny_bind (wpAny_of_eq (a := true) (by first | rfl | kernel_rfl) ?_)
  refine PySem.W.KFB.if_not rfl ?_
  refine wpAny_bind (wpAny_of_eq (a := true) f1 ?_)
  refine PySem.W.KFB.if_not rfl ?_
  refine wpAny_bind (wpAny_of_eq (a := [x]) rfl ?_)
  exact wpAny_bind (wpAny_mono h (fun b s' q => wpAny_pure q) fun _ _ z => z)
theorem rInst_bool {X : Cx} {σ : L2.St} {H : Hp} {s : Shared} {pins : List (Addr × Obj)} {A : Around} {E : Value → Shared → Prop} {Q : Value → Shared → Prop} {x C f : Addr} {ox : Obj} {od : Option Obj} (J : Inv X pins σ H s) (K : PySem.W.InstAt s.heap x ox C od) (hs : PySem.W.findIn X.K (.ref C) "__bool__" = some (some (.ref f))) (hf : PySem.W.isFn X.K (.ref f) = true)
    (h : wpAny (model X.prog X.w) A.in1.in1 (call (.ref f) [.ref x]) (PySem.W.BoolBack (fun b s' => Q (.bool b) s')) E s) : wpAny (model X.prog X.w) A (call (.type "bool") [.ref x]) Q E s := by
  obtain ⟨m, hF⟩ := J.fr
  refine callType_codes (T := "bool") (Bi := Builtin.«object.__init__») (Q₁ := fun r s₁ => ∃ b, r = .bool b ∧ Q r s₁) PySem.F.called_bool (PySem.F.typeCall_bool_1 _) PySem.F.entry_object_init ?_ ?_
  · refine codeAny_of_tree ?_
    show wpAny _ A.in1.in1 (do checkBuiltinCall "bool.__new__" ⟨[.type "bool", .ref x], []⟩; again (.builtin "bool.__new__" ⟨[.type "bool", .ref x], []⟩)) _ _ s
    refine wpAny_bind (wpAny_of_eq (PySem.F.newCall_bool_1 _) (wpAny_pure ⟨plainId_quiet (by decide +kernel) _, codeAny_builtin PySem.F.entry_bool_new ?_⟩))
    rw [Around.under_plainId (by decide +kernel) _]
    refine bool_new (PySem.W.truthy_K hF J.ok.mod.kin K hs hf (wpAny_mono h (fun r s' hr => ?_) fun _ _ z => z))
    cases r <;> first | (exact hr.elim) | skip
    exact ⟨_, rfl, hr⟩
  · rintro obj s₁ ⟨b, rfl, hq⟩
    exact ⟨PySem.typeIs_bool _ _, PySem.F.args_object_init_2 _ _, object_init_meets PySem.F.called_bool.init.lookup PySem.F.called_bool.made (by decide) X.prog X.w A.in1 _ s₁ ⟨PySem.typeIs_bool _ _, rfl, hq⟩⟩
theorem snd_obool (c f : Nat) (e : Ex) (he : Snd I G cf e) : Snd I G cf (.obool c f e) := snd_of (fun {X top We σ ρ H M B st x Q} p h r => by
  cases x <;> first | (exact absurd h Bool.false_ne_true) | skip
  rename_i fn es kw pos
  cases fn <;> first | (exact absurd h Bool.false_ne_true) | skip
  rename_i n np
  rcases es with _ | ⟨y, _ | ⟨z, es⟩⟩ <;> rcases kw with _ | ⟨_, _⟩ <;> first | (exact absurd h Bool.false_ne_true) | skip
  obtain ⟨h2, h⟩ := mem_bool (show (I.clo.isNone && (decide (n = ("bool" : Str)) && (glB X.env.scope n && (I.O .meth c "__bool__" f && chkE I.st e X.env.scope y)))) = true from h)
  obtain ⟨h0, h⟩ := mem_bool h
  obtain ⟨h1, h⟩ := mem_bool h
  obtain ⟨h3, h4⟩ := mem_bool h
  have hn := of_decide_eq_true h0
  subst hn
  obtain ⟨k, C, g, hr, hC, ⟨hcl, hm, hfn⟩, F⟩ := p.own h3
  refine ev_callT (gl_of h1) (p.cx.free _ (by decide)) rfl (chk_odd h4) (by decide) (by decide) (he.E p h4 (Res.bind r fun o st1 u H1 M1 k1 s1 ru hr1 => ?_))
  obtain ⟨hi, hr1⟩ := if_ins hr1
  have p1 := p.go k1 s1
  obtain ⟨n', ad, fs, dx, gs, rfl, rfl, g3, g4, g5, g6, g7⟩ := p1.ins ru hi hC
  intro pins s us J rv
  obtain ⟨u0, rfl, ru0⟩ := rv.one
  cases ru0
  obtain ⟨od, K⟩ := inst_of J g5
  refine rInst_bool J K hm.at_ hm.fn (thn (p1.run h2 F hr.in1.in1 J.env0.in1.in1 J (show Vals [V.ref ad] [Value.ref ad] from .cons rfl .nil) (.cons ru .nil) (Res.bl2 (fun b => b) hr1)) fun w s' q => ?_)
  obtain ⟨v, H', J', rv', b, rfl, q⟩ := q
  cases rv'
  exact ⟨.bl b, H', J', rfl, q⟩) rfl rfl rfl rfl
theorem snd_oinv (c f : Nat) (e : Ex) (he : Snd I G cf e) : Snd I G cf (.oinv c f e) := snd_of (fun {X top We σ ρ H M B st x Q} p h r => by
  cases x <;> first | (exact absurd h Bool.false_ne_true) | skip
  rename_i op y pos
  cases op <;> first | (exact absurd h Bool.false_ne_true) | skip
  obtain ⟨h2, h⟩ := mem_bool (show (I.clo.isNone && (I.O .meth c "__invert__" f && chkE I.st e X.env.scope y)) = true from h)
  obtain ⟨h3, h4⟩ := mem_bool h
  obtain ⟨k, C, g, hr, hC, ⟨hcl, hm, hfn⟩, F⟩ := p.own h3
  refine ev_un (he.E p h4 (Res.bind r fun o st1 u H1 M1 k1 s1 ru hr1 => ?_))
  obtain ⟨hi, hr1⟩ := if_ins hr1
  have p1 := p.go k1 s1
  obtain ⟨n', ad, fs, dx, gs, rfl, rfl, g3, g4, g5, g6, g7⟩ := p1.ins ru hi hC
  intro pins s u0 J ru0
  cases ru0
  obtain ⟨od, K⟩ := inst_of J g5
  obtain ⟨m, hF⟩ := J.fr
  exact PySem.W.ksp_inv hF J.ok.mod.kin K hm.at_ hm.fn (p1.run h2 F (hr.mono (Nat.le_add_right _ _)) J.env0 J (show Vals [V.ref ad] [Value.ref ad] from .cons rfl .nil) (.cons ru .nil) hr1)) rfl rfl rfl rfl
/-- the type of the other operand -/
theorem opArg_ty {X : Cx} {nm : Nm} {H : Hp} {M : List Addr} {B : Addr → Prop} {st : Sto} {c : Nat} {x : PV} {v : V} {u : Value} {C : Addr} {pins : List (Addr × Obj)} {σ : L2.St} {s : Shared} (cl : Cels (wd X nm) H M B st) (r : Rel (wd X nm) H M B x v) (ru : RelV v u) (h : opArg st c x = true) (hC : X.mg (nm c) = some (.ref C)) (J : Inv X pins σ H s) (O : ClsO X.K C) :
    ∃ tb, PySem.W.Looks (model X.prog X.w) s.heap (typeOf u) tb ∧ PySem.W.notFirst X.K C tb = true := by
  cases x <;> first | (cases h; done) | skip
  · obtain ⟨a, vs, rfl, hT, _⟩ := r.tupT
    cases ru
    obtain ⟨its, _, ⟨o, ho, hc, _⟩, _⟩ := J.tuple hT
    refine ⟨.type "tuple", ?_, O.tup⟩
    have L := (PySem.W.Looks.ld (M := model X.prog X.w) (part := none) ho)
    exact fun A Q E s' k q => wpAny_typeOf_ref (k _ _ ho) (by rw [hc]; exact q)
  · obtain ⟨n, a, fs, C', dx, gs, _, rfl, _, _, e5, e6, _⟩ := isIns_rel cl r h
    have e5 : X.mg (nm c) = some (.ref C') := e5
    rw [hC] at e5
    cases e5
    cases ru
    obtain ⟨od, K⟩ := inst_of J e6
    exact ⟨.ref C, K.type, O.own⟩
theorem cmpB {X : Cx} {σ : L2.St} {Q : VK} {u : Value} {s' : Shared} {pins : List (Addr × Obj)} (h : EP X pins σ Q u s') : PySem.W.CmpBack (EP X pins σ Q) u s' := by
  obtain ⟨v, H', J, rv, q⟩ := h
  exact SlX.cmpback rv ⟨v, H', J, rv, q⟩
theorem snd_ceq (c f : Nat) (a b : Ex) (ha : Snd I G cf a) (hb : Snd I G cf b) : Snd I G cf (.ceq c f a b) := by
  have inv : ∀ {X : Cx} {x : Expr}, chkE I.st (.ceq c f a b) X.env.scope x = true → ∃ l r pos, x = .Compare l [.Eq] [r] pos ∧ I.clo.isNone = true ∧ I.O .meth c "__eq__" f = true ∧ chkE I.st a X.env.scope l = true ∧ chkE I.st b X.env.scope r = true := fun {X x} h => by
    cases x <;> first | (exact absurd h Bool.false_ne_true) | skip
    rename_i l os rs pos
    rcases os with _ | ⟨o', _ | ⟨o2, os⟩⟩
    · exact absurd h Bool.false_ne_true
    · cases o' <;> rcases rs with _ | ⟨r', _ | ⟨r2, rs⟩⟩ <;> first | (exact absurd h Bool.false_ne_true) | skip
      obtain ⟨h2, h⟩ := mem_bool (show (I.clo.isNone && (I.O .meth c "__eq__" f && (chkE I.st a X.env.scope l && chkE I.st b X.env.scope r'))) = true from h)
      obtain ⟨h3, h⟩ := mem_bool h
      obtain ⟨h4, h5⟩ := mem_bool h
      exact ⟨l, r', pos, rfl, h2, h3, h4, h5⟩
    · cases o' <;> rcases rs with _ | ⟨r', _ | ⟨r2, rs⟩⟩ <;> exact absurd h Bool.false_ne_true
  have key : ∀ {X : Cx} {top : Bool} {We : WeS} {σ : L2.St} {ρ : Env'} {H : Hp} {M : List Addr} {B : Addr → Prop} {st : Sto} {l r : Expr} {Q : VK}, Pt I G cf X top We σ ρ H M B st → I.clo.isNone = true → I.O .meth c "__eq__" f = true → chkE I.st a X.env.scope l = true → chkE I.st b X.env.scope r = true →
      Res (wd X I.nm) B (RelR (wd X I.nm) B) (We σ) H M (evE G cf (.ceq c f a b) ρ st) Q → EvE X l σ H fun u H1 => EvE X r σ H1 fun v H2 => OpAt X σ (compareOp .Eq) u v H2 Q := fun {X top We σ ρ H M B st l r Q} p h2 h3 h4 h5 hr => by
    obtain ⟨k, C, g, hrm, hC, ⟨hcl, hm, hfn⟩, F⟩ := p.own h3
    refine two ha hb p h4 h5 hr fun o y st2 u v H2 M2 k2 p2 ru rv hr2 => ?_
    obtain ⟨hi, hr2⟩ := if_ins hr2
    obtain ⟨hi, ho⟩ := mem_bool hi
    obtain ⟨n', ad, fs, dx, gs, rfl, rfl, g3, g4, g5, g6, g7⟩ := p2.ins ru hi hC
    intro pins s v0 u0 J rv0 ru0
    cases rv0
    obtain ⟨od, K⟩ := inst_of J g5
    obtain ⟨m, hF⟩ := J.fr
    obtain ⟨tb, L, nf⟩ := opArg_ty p2.cl rv ru0 ho hC J hcl
    show wpAny (model X.prog X.w) X.A (richCompare .Eq _ _) _ _ _
    refine PySem.W.cmp_K (op := .Eq) hrm.units0 hF J.ok.mod.kin K L nf hm.at_ hm.fn (thn (p2.run h2 F (hrm.mono (Nat.le_add_right _ _)) J.env0 J (show Vals [V.ref ad, v] [Value.ref ad, u0] from .cons rfl (.cons ru0 .nil)) (.cons ru (.cons rv .nil)) (Res.bl2 (fun b => b) hr2)) fun w s' q => cmpB ?_)
    obtain ⟨z, H', J', rz, b, rfl, q⟩ := q
    exact ⟨.bl b, H', J', rz, q⟩
  refine ⟨fun {X top We σ ρ H M B st x Q} p h r => ?_, fun {X top We σ ρ H M B st x Q} p h r => ?_, fun p h => (noA rfl h).elim, fun p h => (noI rfl h).elim, fun p hf => by cases hf⟩
  · obtain ⟨l, rr, pos, rfl, h2, h3, h4, h5⟩ := inv h
    exact ev_cmp (marks_of _ (chk_odd h5)) (key p h2 h3 h4 h5 r)
  · obtain ⟨l, rr, pos, rfl, h2, h3, h4, h5⟩ := inv h
    refine ev_cmpT (marks_of _ (chk_odd h5)) (key p h2 h3 h4 h5 (Res.ofBl r fun v st' e => ?_))
    obtain ⟨x1, st1, _, e⟩ := bind_ok' e
    obtain ⟨x2, st2, _, e⟩ := bind_ok' e
    split at e
    · obtain ⟨x3, st3, _, e⟩ := bind_ok' e
      cases x3 <;> first | (cases e; done) | skip
      cases e; exact ⟨_, rfl⟩
    · cases e
theorem snd_isin (neg : Bool) (c f : Nat) (a b : Ex) (ha : Snd I G cf a) (hb : Snd I G cf b) : Snd I G cf (.isin neg c f a b) := by
  have inv : ∀ {X : Cx} {x : Expr}, chkE I.st (.isin neg c f a b) X.env.scope x = true → ∃ l r pos, x = .Compare l [if neg then CmpOp.NotIn else .In] [r] pos ∧ I.clo.isNone = true ∧ I.O .meth c "__contains__" f = true ∧ chkE I.st a X.env.scope l = true ∧ chkE I.st b X.env.scope r = true := fun {X x} h => by
    cases x <;> first | (exact absurd h Bool.false_ne_true) | skip
    rename_i l os rs pos
    rcases os with _ | ⟨o', _ | ⟨o2, os⟩⟩ <;> rcases rs with _ | ⟨r', _ | ⟨r2, rs⟩⟩ <;> first | (exact absurd h Bool.false_ne_true) | skip
    obtain ⟨h1, h⟩ := mem_bool (show (decide (o' = if neg then CmpOp.NotIn else .In) && (I.clo.isNone && (I.O .meth c "__contains__" f && (chkE I.st a X.env.scope l && chkE I.st b X.env.scope r')))) = true from h)
    obtain ⟨h2, h⟩ := mem_bool h
    obtain ⟨h3, h⟩ := mem_bool h
    obtain ⟨h4, h5⟩ := mem_bool h
    exact ⟨l, r', pos, by rw [of_decide_eq_true h1], h2, h3, h4, h5⟩
  have key : ∀ {X : Cx} {top : Bool} {We : WeS} {σ : L2.St} {ρ : Env'} {H : Hp} {M : List Addr} {B : Addr → Prop} {st : Sto} {l r : Expr} {Q : VK}, Pt I G cf X top We σ ρ H M B st → I.clo.isNone = true → I.O .meth c "__contains__" f = true → chkE I.st a X.env.scope l = true → chkE I.st b X.env.scope r = true →
      Res (wd X I.nm) B (RelR (wd X I.nm) B) (We σ) H M (evE G cf (.isin neg c f a b) ρ st) Q → EvE X l σ H fun u H1 => EvE X r σ H1 fun v H2 => OpAt X σ (compareOp (if neg then CmpOp.NotIn else .In)) u v H2 Q := fun {X top We σ ρ H M B st l r Q} p h2 h3 h4 h5 hr => by
    obtain ⟨k, C, g, hrm, hC, ⟨hcl, hm, hfn⟩, F⟩ := p.own h3
    refine two ha hb p h4 h5 hr fun y o st2 v u H2 M2 k2 p2 rv ru hr2 => ?_
    obtain ⟨hi, hr2⟩ := if_ins hr2
    obtain ⟨n', ad, fs, dx, gs, rfl, rfl, g3, g4, g5, g6, g7⟩ := p2.ins ru hi hC
    intro pins s v0 u0 J rv0 ru0
    cases ru0
    obtain ⟨od, K⟩ := inst_of J g5
    obtain ⟨m, hF⟩ := J.fr
    have body := p2.run (s := s) (pins := pins) h2 F (hrm.mono (Nat.le_add_right _ _)) J.env0 J (show Vals [V.ref ad, v] [Value.ref ad, v0] from .cons rfl (.cons rv0 .nil)) (.cons ru (.cons rv .nil)) (Res.bl2 (fun b => if neg then !b else b) hr2)
    cases neg with
    | true =>
      refine PySem.W.notIn_K hF J.ok.mod.kin K hm.at_ hm.fn (thn body fun w s' q => ?_)
      obtain ⟨z, H', J', rz, b, rfl, q⟩ := q
      cases rz
      exact wpAny_truthy_bool ⟨.bl (!b), H', J', rfl, q⟩
    | false =>
      refine PySem.W.in_K hF J.ok.mod.kin K hm.at_ hm.fn (thn body fun w s' q => ?_)
      obtain ⟨z, H', J', rz, b, rfl, q⟩ := q
      cases rz
      exact wpAny_truthy_bool ⟨.bl b, H', J', rfl, q⟩
  refine ⟨fun {X top We σ ρ H M B st x Q} p h r => ?_, fun {X top We σ ρ H M B st x Q} p h r => ?_, fun p h => (noA rfl h).elim, fun p h => (noI rfl h).elim, fun p hf => by cases hf⟩
  · obtain ⟨l, rr, pos, rfl, h2, h3, h4, h5⟩ := inv h
    exact ev_cmp (marks_of _ (chk_odd h5)) (key p h2 h3 h4 h5 r)
  · obtain ⟨l, rr, pos, rfl, h2, h3, h4, h5⟩ := inv h
    refine ev_cmpT (marks_of _ (chk_odd h5)) (key p h2 h3 h4 h5 (Res.ofBl r fun v st' e => ?_))
    obtain ⟨x1, st1, _, e⟩ := bind_ok' e
    obtain ⟨x2, st2, _, e⟩ := bind_ok' e
    split at e
    · obtain ⟨x3, st3, _, e⟩ := bind_ok' e
      cases x3 <;> first | (cases e; done) | skip
      cases e; exact ⟨_, rfl⟩
    · cases e
/-! ### new instances -/
theorem mk_run {X : Cx} {pins : List (Addr × Obj)} {σ : L2.St} {H : Hp} {s : Shared} {k : Nat} {f C : Addr} {sp : Sp} {E : XK} {Q : VK} {us : List Value} {vs : List V} (M : Mk X.K C f) (F : FnR X.prog X.w X.K X.mg X.base (L2.CX X.prog X.w) k f sp) (hr : Room (k + 1) X.A) (hx : PassesAt (L2.CX X.prog X.w) X σ E)
    (I : Inv X pins σ H s) (r : Vals vs us) (h : ∀ x dx, H x = none → H dx = none → dx ≠ x → sp (.ref x :: vs) (upd (upd H dx (.own x)) x (.ins C dx [])) (fun v H2 => v = .non ∧ Q (.ref x) H2) E) : wpAny (model X.prog X.w) X.A (call (.ref C) us) (EP X pins σ Q) X.xe s := by
  have hq := h (s.heap.objs.size + 1) s.heap.objs.size (I.hok.fresh (Nat.le_succ _)) (I.hok.fresh (Nat.le_refl _)) (Nat.ne_of_lt (Nat.lt_succ_self _))
  have I2 := Inv.made (C := C) I
  have r2 : Vals (V.ref (s.heap.objs.size + 1) :: vs) (Value.ref (s.heap.objs.size + 1) :: us) := .cons rfl r
  refine wpAny_call (make_map (f := f) I.kIn M.makes M.init (beq_iff_eq.mp M.fn) (codeAny_mono (F _ X.stack _ _ (Value.ref (s.heap.objs.size + 1) :: us) _ _ E (hr.make C us []) (I2.env0.make C us []) r2 hq) fun r s' hq' => ?_))
  cases r with
  | error e => exact hx pins _ _ e s' I2 hq'
  | ok fl =>
    cases fl with
    | ret u =>
      obtain ⟨v, H', I3, rv, ev, q3⟩ := I2.after hq'
      subst ev
      exact ⟨rv, ⟨V.ref (s.heap.objs.size + 1), H', I3, rfl, q3⟩⟩
    | next => exact False.elim hq'
    | brk => exact False.elim hq'
    | cont => exact False.elim hq'
/-- a fresh instance becomes a cell -/
theorem Cels.mkI {w : Wd} {H : Hp} {M : List Addr} {B : Addr → Prop} {st : Sto} {c : Nat} {C x dx : Addr} (s : Cels w H M B st) (hC : w.mg (w.nm c) = some (.ref C)) (hx : H x = none) (hd : H dx = none) (ne : dx ≠ x) :
    Cels w (upd (upd H dx (.own x)) x (.ins C dx [])) (M ++ [x]) B (st ++ [.ins c []]) ∧ Kp H M (upd (upd H dx (.own x)) x (.ins C dx [])) (M ++ [x]) ∧ (M ++ [x])[st.length]? = some x := by
  have hx2 : upd H dx (.own x) x = none := by rw [upd_ne (Ne.symm ne)]; exact hx
  have s1 := s.new (o := .own x) hd
  have s2 := s1.with (o := .ins C dx []) hx2
  refine ⟨s2.ownC (cc := .ins c []) upd_same ⟨C, dx, [], hC, rfl, rfl, rfl⟩ (fun z => s.mem z hx) (fun z => s.bk x z hx) .nil rfl, ((Kp.new hd).trans (Kp.new hx2)).cell hx, ?_⟩
  rw [← s.len]
  simp
theorem Pt.make {X : Cx} {top : Bool} {We : WeS} {σ : L2.St} {ρ : Env'} {H : Hp} {M : List Addr} {B : Addr → Prop} {st : Sto} (p : Pt I G cf X top We σ ρ H M B st) (hc : I.clo.isNone = true) {c f k : Nat} {C a : Addr} {as : List PV} {vs : List V} {us : List Value} {pins : List (Addr × Obj)} {s : Shared} {Q : VK} (hC : X.mg (I.nm c) = some (.ref C)) (hk : Mk X.K C a)
    (F : FnR X.prog X.w X.K X.mg X.base (L2.CX X.prog X.w) k a (spOf (wd X I.nm.o) cf f)) (hr : Room (k + 1) X.A) (J : Inv X pins σ H s) (rv : Vals vs us) (r : Rels (wd X I.nm) H M B as vs)
    (h : Res (wd X I.nm) B (RelR (wd X I.nm) B) (We σ) H M ((cf f (.cel st.length :: as) (st ++ [.ins c []])).bind fun v st2 => if isN v then .ok (.cel st.length) st2 else .bad) Q) : wpAny (model X.prog X.w) X.A (call (.ref C) us) (EP X pins σ Q) X.xe s := by
  refine mk_run hk F hr (passAt p.cx.takes σ) J rv fun x dx hx hd ne => ?_
  obtain ⟨s2, kp, hn⟩ := p.cl.mkI (c := c) hC hx hd ne
  refine call_sp (m := .sto) (.inl (p.nclo hc)) s2 (.cons (.cel hn) (r.mono kp)) (Res.bind (rel2 := RelR (wd X I.nm) B) (Q2 := Q) (h.mono kp) fun v st2 u H2 M2 k2 s3 ru hr2 => ?_) p.hE
  obtain ⟨hi, hr2⟩ := if_ins hr2
  cases v <;> first | (cases hi; done) | skip
  cases ru
  exact ⟨rfl, hr2.aft.now s3 (.cel (k2.m _ _ hn))⟩
theorem snd_mk (c f : Nat) (as : Ex) (hs : Snd I G cf as) : Snd I G cf (.mk c f as) := snd_of (fun {X top We σ ρ H M B st x Q} p h r => by
  cases x <;> first | (exact absurd h Bool.false_ne_true) | skip
  rename_i fn es kw pos
  cases fn <;> first | (exact absurd h Bool.false_ne_true) | skip
  rename_i n np
  rcases kw with _ | ⟨_, _⟩
  · obtain ⟨h2, h⟩ := mem_bool (show (I.clo.isNone && (I.O .init c "__init__" f && (gOk I X.env.scope c n && chkA I.st as X.env.scope es))) = true from h)
    obtain ⟨h3, h⟩ := mem_bool h
    obtain ⟨h4, h5⟩ := mem_bool h
    obtain ⟨k, C, g, hr, hC, hk, F⟩ := p.own h3
    obtain ⟨g1, g2⟩ := mem_bool (show (decide (I.nm c = n) && (glB X.env.scope n && nodbg n)) = true from h4)
    obtain ⟨g2, g3⟩ := mem_bool g2
    have hC' := hC
    rw [of_decide_eq_true g1] at hC'
    have r' : Res (wd X I.nm) B (RelR (wd X I.nm) B) (We σ) H M ((evA G cf as ρ st).bind fun xs st1 => (cf f (.cel st1.length :: xs) (st1 ++ [.ins c []])).bind fun v st2 => if isN v then .ok (.cel st1.length) st2 else .bad) Q := r
    intro pins s J
    refine wpAny_Call_Name_kw (ld_glob J (gl_of g2) hC' ?_ (nodbg_of g3))
    rcases es with _ | ⟨y, ys⟩
    · rw [args_nil h5] at r'
      exact PySem.W.callWith_K0 J.kIn hk.kp (p.make (us := []) h2 hC hk F (hr.mono (Nat.le_succ _)) J .nil .nil r')
    · have hst := args_star (pos := pos) h5
      refine PySem.W.callWith_K (h₀ := X.base) J.ok.mod.kin hk.kp (thn ((hs.A p h5 (Res.bind r' (Q := fun vs H1 => ∀ (pins : List (Addr × Obj)) (s : Shared) (us : List Value), Inv X pins σ H1 s → Vals vs us → wpAny (model X.prog X.w) X.A (call (.ref C) us) (EP X pins σ Q) X.xe s) fun xs st1 vs H1 M1 k1 s1 rs hr1 pins s us J rv => ?_)) pos pins s J) fun us s1 ⟨vs, H1, J1, rv, k1⟩ => ⟨J1.kIn, k1 pins s1 us J1 rv⟩) hst.1 hst.2
      exact (p.go k1 s1).make h2 hC hk F (hr.mono (Nat.le_succ _)) J rv rs hr1
  · cases es <;> exact absurd h Bool.false_ne_true) rfl rfl rfl rfl
/-- the last is starred -/
theorem starB_eq {f : List Expr → Expr → Bool} : ∀ {es : List Expr}, starB f es = true → ∃ xs z p, es = xs ++ [.Starred z p] ∧ f xs z = true
  | [], h => by simp [starB] at h
  | [x], h => by
    cases x <;> first | (simp [starB] at h; done) | skip
    exact ⟨[], _, _, rfl, by simpa [starB] using h⟩
  | x :: y :: r, h => by
    have h' : starB (fun es e => f (x :: es) e) (y :: r) = true := by
      cases x <;> simpa [starB] using h
    obtain ⟨xs, z, p, e, q⟩ := starB_eq h'
    exact ⟨x :: xs, z, p, by rw [e]; rfl, q⟩
theorem backTo_app (pos : Pos) (l1 l2 : List (Bool × Sem Value)) : backTo pos (l1 ++ l2) = backTo pos l1 ++ backTo pos l2 := by
  unfold backTo
  exact List.map_append
theorem snd_mks (v : Option Nat) (c f : Nat) (as e : Ex) (hs : Snd I G cf as) (he : Snd I G cf e) : Snd I G cf (.mks v c f as e) := snd_of (fun {X top We σ ρ H M B st x Q} p h r => by
  cases x <;> first | (exact absurd h Bool.false_ne_true) | skip
  rename_i fn es kw pos
  cases fn <;> first | (exact absurd h Bool.false_ne_true) | skip
  rename_i n np
  rcases es with _ | ⟨y, ys⟩ <;> rcases kw with _ | ⟨_, _⟩ <;> first | (exact absurd h Bool.false_ne_true) | skip
  obtain ⟨h2, h⟩ := mem_bool (show (I.clo.isNone && (I.O .init c "__init__" f && ((match (generalizing := false) v with
    | none => gOk I X.env.scope c n
    | some i => nameOk I X.env.scope i n) && starB (fun es z => !es.isEmpty && (chkA I.st as X.env.scope es && chkE I.st e X.env.scope z)) (y :: ys)))) = true from h)
  obtain ⟨h3, h⟩ := mem_bool h
  obtain ⟨h4, h5⟩ := mem_bool h
  obtain ⟨k, C, g, hr, hC, hk, F⟩ := p.own h3
  obtain ⟨xs, z, zp, hes, h6⟩ := starB_eq h5
  obtain ⟨hne, h6⟩ := mem_bool h6
  obtain ⟨h6, h7⟩ := mem_bool h6
  have r0 : Res (wd X I.nm) B (RelR (wd X I.nm) B) (We σ) H M (if (match (generalizing := false) v with
    | none => true
    | some i => (match (ρ[i]?).bind id with
      | some (.glo x) => decide (x = c)
      | _ => false)) then (evA G cf as ρ st).bind fun xs st1 => (evE G cf e ρ st1).bind fun y st2 => (match y with
    | .tup ys => (cf f (.cel st2.length :: (xs ++ ys)) (st2 ++ [.ins c []])).bind fun v st3 => if isN v then .ok (.cel st2.length) st3 else .bad
    | _ => .bad) else .bad) Q := r
  obtain ⟨hv, r'⟩ := if_ins r0
  -- the class, by its name
  have named : ∀ {pins : List (Addr × Obj)} {s : Shared} {Z : Value → Shared → Prop}, Inv X pins σ H s → (∀ s1, Inv X pins σ H s1 → Z (.ref C) s1) → wpAny (model X.prog X.w) X.A (eval (.Name n np) X.env) Z X.xe s := fun {pins s Z} J hz => by
    cases v with
    | none =>
      obtain ⟨g1, g2⟩ := mem_bool (show (decide (I.nm c = n) && (glB X.env.scope n && nodbg n)) = true from h4)
      obtain ⟨g2, g3⟩ := mem_bool g2
      have hC' := hC
      rw [of_decide_eq_true g1] at hC'
      exact ld_glob J (gl_of g2) hC' (hz s J) (nodbg_of g3)
    | some i =>
      obtain ⟨n1, n2, n3, n4⟩ := name_ok p.cx (show nameOk I X.env.scope i n = true from h4)
      dsimp only at hv
      cases ei : (ρ[i]?).bind id with
      | none => rw [ei] at hv; cases hv
      | some w =>
        rw [ei] at hv
        cases w <;> first | (cases hv; done) | skip
        have hv := of_decide_eq_true hv
        subst hv
        obtain ⟨u, eu, ru⟩ := slot_of p.er ei
        refine thn ((pe_var (pos := np) n1 n2 n3 n4).run pins s σ H (fun v H1 => v = u ∧ H1 = H) J ⟨u, eu, rfl, rfl⟩) fun w s1 ⟨v, H1, J1, rw1, e1, e2⟩ => ?_
        subst e1 e2
        cases ru with
        | glo e =>
          have e : X.mg (I.nm _) = some (.ref _) := e
          rw [hC] at e
          cases e
          cases rw1
          exact hz s1 J1
  intro pins s J
  refine wpAny_Call_Name_kw (named J fun s1 J1 => ?_)
  obtain ⟨star, plain⟩ := star_app X.env (.Starred z zp) as xs h6
  have go : wpAny (model X.prog X.w) X.A (spliced (backTo pos (starEach (y :: ys) X.env))) (fun vs s₁ => X.K.In s₁.heap ∧ wpAny (model X.prog X.w) X.A (call (.ref C) ([] ++ vs)) (EP X pins σ Q) X.xe s₁) X.xe s1 := by
    rw [hes, star, backTo_app, backTo_plain plain]
    refine spl_app plain ?_
    have ha := hs.A p h6 (Res.bind r' (Q := fun vs H2 => ∃ us st1 M2, Kp H M H2 M2 ∧ Cels (wd X I.nm) H2 M2 B st1 ∧ Rels (wd X I.nm) H2 M2 B us vs ∧ Res (wd X I.nm) B (RelR (wd X I.nm) B) (We σ) H2 M2 ((evE G cf e ρ st1).bind fun y st2 => (match y with
      | .tup ys => (cf f (.cel st2.length :: (us ++ ys)) (st2 ++ [.ins c []])).bind fun v st3 => if isN v then .ok (.cel st2.length) st3 else .bad
      | _ => .bad)) Q) fun us st1 vs H2 M2 k2 s2 r2 hr => ⟨us, st1, M2, k2, s2, r2, hr⟩) pos pins s1 J1
    rw [backTo_plain plain] at ha
    refine thn ha fun us s2 ⟨vs, H2, J2, rv, as', st1, M2, k2, s2', r2, res⟩ => ?_
    have p2 := p.go k2 s2'
    refine PySem.W.items_star (e := z) (p := zp) (rest := []) (thn (he.E p2 h7 (Res.bind res (Q := fun u H3 => ∃ a ws, u = .ref a ∧ SqT X.K H3 a ws ∧ ∀ (pins : List (Addr × Obj)) (s : Shared) (us : List Value), Inv X pins σ H3 s → Vals (vs ++ ws) us → wpAny (model X.prog X.w) X.A (call (.ref C) us) (EP X pins σ Q) X.xe s) fun yv st2 u H3 M3 k3 s3 ru hr3 => ?_) pins s2 J2) fun v s3 ⟨u, H3, J3, rv3, a, ws, eu, hT, kk⟩ => ?_)
    · cases yv <;> first | (exact hr3.elim) | skip
      obtain ⟨a, ws, eu, hT, rw'⟩ := ru.tupT
      exact ⟨a, ws, eu, hT, fun pins s us J rv => (p2.go k3 s3).make h2 hC hk F (hr.mono (Nat.le_succ _)) J rv ((r2.mono k3).append rw') hr3⟩
    · subst eu
      cases rv3
      refine StX.star_any J3 (.inl hT) fun us2 s4 J4 rv4 => ?_
      refine Calls.spliced_nil ⟨J4.kIn, ?_⟩
      rw [List.append_nil]
      exact kk pins s4 _ J4 (rv.append rv4)
  rcases xs with _ | ⟨x0, xs⟩
  · cases hne
  · injection hes with e1 e2
    subst e1 e2
    have h6 : chkA I.st as X.env.scope (y :: xs) = true := h6
    show wpAny _ _ (callWith pos (.ref C) [] (backTo pos (starEach (y :: (xs ++ [Expr.Starred z zp])) X.env)) (backToKw pos (keywordEach [] X.env))) _ _ _
    have hst : starEach (y :: (xs ++ [.Starred z zp])) X.env = (false, eval y X.env) :: starEach (xs ++ [.Starred z zp]) X.env := star_first h6
    refine PySem.W.callWith_S2 (h₀ := X.base) J1.ok.mod.kin hk.kp go hst ?_
    have e3 : starEach (xs ++ [.Starred z zp]) X.env = starEach xs X.env ++ starEach [.Starred z zp] X.env := by
      have := star
      rw [show (y :: xs) ++ [Expr.Starred z zp] = y :: (xs ++ [.Starred z zp]) from rfl, hst] at this
      have h0 : starEach (y :: xs) X.env = (false, eval y X.env) :: starEach xs X.env := star_first h6
      rw [h0] at this
      exact (List.cons.inj this).2
    rw [e3, backTo_app, List.any_append]
    simp [backTo, starEach]
  ) rfl rfl rfl rfl
/-! ### classmethods -/
theorem snd_cm (c f : Nat) (as : Ex) (hs : Snd I G cf as) : Snd I G cf (.cm c f as) := snd_of (fun {X top We σ ρ H M B st x Q} p h r => by
  cases x <;> first | (exact absurd h Bool.false_ne_true) | skip
  rename_i fn es kw cpos
  cases fn <;> first | (exact absurd h Bool.false_ne_true) | skip
  rename_i b m apos
  cases b <;> first | (exact absurd h Bool.false_ne_true) | skip
  rename_i y yp
  rcases es with _ | ⟨z, zs⟩ <;> rcases kw with _ | ⟨_, _⟩ <;> first | (exact absurd h Bool.false_ne_true) | skip
  obtain ⟨h0, h⟩ := mem_bool (show (((apos.endLine == cpos.line) && decide ((z :: zs).length < 30)) && (I.clo.isNone && (I.O .cm c m f && (gOk I X.env.scope c y && chkA I.st as X.env.scope (z :: zs))))) = true from h)
  obtain ⟨h2, h⟩ := mem_bool h
  obtain ⟨h3, h⟩ := mem_bool h
  obtain ⟨h4, h6⟩ := mem_bool h
  obtain ⟨k, C, g, hr, hC, ⟨mc, pm, hrd, hm⟩, F⟩ := p.own h3
  obtain ⟨g1, g2⟩ := mem_bool (show (decide (I.nm c = y) && (glB X.env.scope y && nodbg y)) = true from h4)
  obtain ⟨g2, g3⟩ := mem_bool g2
  have hC' := hC
  rw [of_decide_eq_true g1] at hC'
  have hst := args_star (pos := cpos) h6
  have r' : Res (wd X I.nm) B (RelR (wd X I.nm) B) (We σ) H M ((evA G cf as ρ st).bind fun xs st1 => cf f (.glo c :: xs) st1) Q := r
  intro pins s J
  refine PySem.W.methodCall_KW (he := mcall_eq h6 h0) (ld_glob J (gl_of g2) hC' ?_ (nodbg_of g3))
  refine ClX.getmethcm_ok J hrd hm fun s2 J2 => ?_
  refine ClX.callwith_cm J2 (ClX.base_none J (Nat.le_refl _)) hm.fi (thn ((hs.A p h6 (Res.bind r' (Q := fun vs H1 => ∀ (q : Addr) (pins : List (Addr × Obj)) (s : Shared) (us : List Value), Inv X ((q, PySem.W.methodObj (.ref g) (.ref C)) :: pins) σ H1 s → Vals vs us → wpAny (model X.prog X.w) X.A (call (.ref q) us) (EP X pins σ Q) X.xe s) fun xs st1 vs H1 M1 k1 s1 rs hr1 q pins s us J rv => ?_)) cpos _ s2 J2) fun us s3 ⟨vs, H2, J3, rv, q2⟩ => ⟨⟨ClX.pin_at J3, J3.kIn⟩, q2 _ pins s3 us J3 rv⟩) hst.1 hst.2
  have p1 := p.go k1 s1
  refine thn (show wpAny (model X.prog X.w) X.A (call (.ref q) us) (EP X ((q, PySem.W.methodObj (.ref g) (.ref C)) :: pins) σ Q) X.xe s from wpAny_call (PySem.W.method_call (ClX.pin_at J) (codeAny_mono (own_code F (hr.mono (Nat.le_add_right _ _)) J.env0 (passAt p1.cx.takes σ) J (show Vals (V.ref C :: vs) (Value.ref C :: us) from .cons rfl rv) (p1.sp h2 (.cons (.glo hC) rs) hr1)) fun r s' hq => ?_))) fun _ _ y => ClX.unpinE y
  cases r with
  | error e => exact hq
  | ok fl =>
    cases fl with
    | ret u => exact hq
    | next => exact False.elim hq
    | brk => exact False.elim hq
    | cont => exact False.elim hq) rfl rfl rfl rfl
/-! ### isinstance -/
theorem isc_rel {X : Cx} {nm : Nm} {H : Hp} {M : List Addr} {B : Addr → Prop} {st : Sto} {c : Nat} {x : PV} {v : V} {b : Bool} {C : Addr} (cl : Cels (wd X nm) H M B st) (r : Rel (wd X nm) H M B x v) (h : iscV st c x = some b) (hC : X.mg (nm c) = some (.ref C)) (O : IscC X.K C) :
    ∃ t, TyX X.K H v t ∧ PySem.W.kitOne X.K t (.ref C) = some b := by
  cases x <;> first | (cases h; done) | skip
  · cases h; cases r; exact ⟨_, .base .non, O.non⟩
  · cases h; cases r; exact ⟨_, .base (.bl _), O.bl⟩
  · cases h; cases r; exact ⟨_, .base (.int _), O.int⟩
  · cases h; cases r; exact ⟨_, .base (.str _), O.str⟩
  · cases h
    cases r with
    | tup h _ _ => exact ⟨_, .base (.tup h), O.tup⟩
    | ktup h _ =>
      obtain ⟨o, its, k, h1, h2, _⟩ := h
      exact ⟨_, .kTuple h1 h2, O.tup⟩
  · cases h
    obtain ⟨a, vs, rfl, hl, _⟩ := r.lstL
    exact ⟨_, .base (.lst hl), O.lst⟩
  · rename_i n
    unfold iscV at h
    dsimp only at h
    cases q : st[n]? with
    | none => rw [q] at h; cases h
    | some cc =>
      rw [q] at h
      cases cc with
      | lst xs =>
        cases h
        cases r with
        | cel e =>
          obtain ⟨vs, e1, _⟩ := cl.get e q
          exact ⟨_, .base (.lst e1), O.lst⟩
      | ins d fs =>
        dsimp only at h
        by_cases hd : d = c
        · rw [if_pos hd] at h
          cases h
          obtain ⟨n2, a, fs2, C', dx, gs, _, rfl, _, _, e5, e6, _⟩ := isIns_rel cl r (show isIns st c (.cel n) = true by unfold isIns; dsimp only; rw [q]; simp [hd])
          have e5 : X.mg (nm c) = some (.ref C') := e5
          rw [hC] at e5
          cases e5
          exact ⟨_, .base (.ins e6 O.cls O.ca O.cn O.ct O.cm), O.own⟩
        · rw [if_neg hd] at h; cases h
theorem snd_isc (c : Nat) (e : Ex) (he : Snd I G cf e) : Snd I G cf (.isc c e) := snd_of (fun {X top We σ ρ H M B st x Q} p h r => by
  cases x <;> first | (exact absurd h Bool.false_ne_true) | skip
  rename_i fn es kw pos
  cases fn <;> first | (exact absurd h Bool.false_ne_true) | skip
  rename_i n np
  rcases es with _ | ⟨y, _ | ⟨z, _ | ⟨z2, es⟩⟩⟩ <;> rcases kw with _ | ⟨_, _⟩ <;> first | (exact absurd h Bool.false_ne_true) | (cases z <;> exact absurd h Bool.false_ne_true) | skip
  cases z <;> first | (exact absurd h Bool.false_ne_true) | skip
  rename_i z zp
  obtain ⟨h1, h⟩ := mem_bool (show (decide (n = ("isinstance" : Str)) && (glB X.env.scope n && (I.S c && (gOk I X.env.scope c z && chkE I.st e X.env.scope y)))) = true from h)
  obtain ⟨h2, h⟩ := mem_bool h
  obtain ⟨h3, h⟩ := mem_bool h
  obtain ⟨h4, h5⟩ := mem_bool h
  obtain ⟨C, hC, O⟩ := p.cx.isc c h3
  obtain ⟨g1, g2⟩ := mem_bool (show (decide (I.nm c = z) && (glB X.env.scope z && nodbg z)) = true from h4)
  obtain ⟨g2, g3⟩ := mem_bool g2
  have hC' := hC
  rw [of_decide_eq_true g1] at hC'
  have hst : starEach [y, .Name z zp] X.env = (false, eval y X.env) :: starEach [.Name z zp] X.env ∧ (backTo pos (starEach [Expr.Name z zp] X.env)).any (·.1) = false := ⟨star_of (chk_odd h5) _, rfl⟩
  refine evE_of (pe_bi (b := .isi) (of_decide_eq_true h1).symm (gl_of h2) (p.cx.free _ (by rw [of_decide_eq_true h1]; decide)) pa_ev hst.1 hst.2) (evA2 (chk_odd h5) rfl (he.E p h5 (Res.bind r fun xv st1 u H1 M1 k1 s1 ru hr1 => ?_)))
  obtain ⟨v, ev, q⟩ := Res.liftE hr1
  obtain ⟨b, eb, rfl⟩ := Option.map_eq_some_iff.mp ev
  obtain ⟨t, ty, hk⟩ := isc_rel s1 ru eb hC O
  intro pins s J
  exact ld_glob J (gl_of g2) hC' ⟨.ref C, H1, J, rfl, .of call_isi ⟨_, _, _, _, _, rfl, .own C, ty, hk, q.now s1 (.bl _)⟩⟩ (nodbg_of g3)) rfl rfl rfl rfl
/-! ### texts -/
theorem strs_rel {w : Wd} {H : Hp} {M : List Addr} {B : Addr → Prop} : ∀ {xs : List PV} {vs : List V} {ns : List Str}, Rels w H M B xs vs → strs? xs = some ns → vs = ns.map V.str
  | [], _, _, r, e => by cases e; cases r; rfl
  | x :: xs, _, ns, r, e => by
    cases r with
    | cons r t =>
      cases x with
      | str i =>
        obtain ⟨ms, e1, e2⟩ := Option.map_eq_some_iff.mp (show (strs? xs).map (i :: ·) = some ns from e)
        subst e2
        cases r
        rw [strs_rel t e1]; rfl
      | _ => cases e
theorem str_rels {w : Wd} {H : Hp} {M : List Addr} {B : Addr → Prop} : ∀ {xs : List Str}, Rels w H M B (xs.map .str) (xs.map .str)
  | [] => .nil
  | x :: xs => .cons (.str x) str_rels
theorem snd_join (a b : Ex) (ha : Snd I G cf a) (hb : Snd I G cf b) : Snd I G cf (.join a b) := snd_of (fun {X top We σ ρ H M B st x Q} p h r => by
  have lb := line_big
  cases x <;> first | (exact absurd h Bool.false_ne_true) | skip
  rename_i fn es kw cpos
  cases fn <;> first | (exact absurd h Bool.false_ne_true) | skip
  rename_i x m apos
  rcases es with _ | ⟨y, _ | ⟨y2, es⟩⟩ <;> rcases kw with _ | ⟨_, _⟩ <;> first | (exact absurd h Bool.false_ne_true) | skip
  obtain ⟨h0, h⟩ := mem_bool (show (decide (m = ("join" : Str)) && ((apos.endLine == cpos.line) && (abase x && (chkE I.st a X.env.scope x && chkE I.st b X.env.scope y)))) = true from h)
  obtain ⟨h1, h⟩ := mem_bool h
  obtain ⟨h2, h⟩ := mem_bool h
  obtain ⟨h3, h4⟩ := mem_bool h
  have hnm := of_decide_eq_true h0
  subst hnm
  refine evE_of (pe_join pe_ev pe_ev (star_of (chk_odd h4) _) (abase_ok h2) h1) (ha.E p h3 (Res.bind r fun xv st1 u H1 M1 k1 s1 ru r1 => ?_))
  obtain ⟨hi, r1⟩ := if_ins r1
  obtain ⟨z, ez⟩ : ∃ z, xv = .str z := by cases xv <;> first | (cases hi; done) | exact ⟨_, rfl⟩
  subst ez
  cases ru
  refine ⟨⟨_, rfl⟩, hb.E (p.go k1 s1) h4 (Res.bind r1 fun yv st2 v H2 M2 k2 s2 rv r2 => ?_)⟩
  obtain ⟨c, ec, q⟩ := Res.liftE r2
  obtain ⟨ys, e1, ec⟩ := Option.bind_eq_some_iff.mp (show (asS st2 yv).bind (fun ys => (strs? ys).bind fun zs => if (zs.map (·.length)).sum + zs.length * z.length ≤ big then some (.str (Txt.join z zs)) else none) = some c from ec)
  obtain ⟨zs, e2, ec⟩ := Option.bind_eq_some_iff.mp ec
  by_cases hq : (zs.map (·.length)).sum + zs.length * z.length ≤ big
  · rw [if_pos hq] at ec
    cases ec
    obtain ⟨p', us, rfl, hl, rr⟩ := asS_rel s2 rv e1
    rw [strs_rel rr e2] at hl
    exact ⟨_, _, zs, rfl, rfl, hl, Nat.le_trans hq (by decide), q.now s2 (.str _)⟩
  · rw [if_neg hq] at ec; cases ec) rfl rfl rfl rfl
theorem snd_spl (a b : Ex) (ha : Snd I G cf a) (hb : Snd I G cf b) : Snd I G cf (.spl a b) := snd_of (fun {X top We σ ρ H M B st x Q} p h r => by
  have lb := line_big
  cases x <;> first | (exact absurd h Bool.false_ne_true) | skip
  rename_i fn es kw cpos
  cases fn <;> first | (exact absurd h Bool.false_ne_true) | skip
  rename_i x m apos
  rcases es with _ | ⟨y, _ | ⟨y2, es⟩⟩ <;> rcases kw with _ | ⟨_, _⟩ <;> first | (exact absurd h Bool.false_ne_true) | skip
  obtain ⟨h0, h⟩ := mem_bool (show (decide (m = ("split" : Str)) && ((apos.endLine == cpos.line) && (abase x && (chkE I.st a X.env.scope x && chkE I.st b X.env.scope y)))) = true from h)
  obtain ⟨h1, h⟩ := mem_bool h
  obtain ⟨h2, h⟩ := mem_bool h
  obtain ⟨h3, h4⟩ := mem_bool h
  have hnm := of_decide_eq_true h0
  subst hnm
  refine evE_of (pe_split pe_ev pe_ev (star_of (chk_odd h4) _) (abase_ok h2) h1) (ha.E p h3 (Res.bind r fun xv st1 u H1 M1 k1 s1 ru r1 => ?_))
  obtain ⟨hi, r1⟩ := if_ins r1
  cases xv <;> first | (cases hi; done) | skip
  cases ru
  refine ⟨⟨_, rfl⟩, hb.E (p.go k1 s1) h4 (Res.bind r1 fun yv st2 v H2 M2 k2 s2 rv r2 => ?_)⟩
  obtain ⟨c, ec, q⟩ := Res.liftE r2
  cases yv <;> first | (cases ec; done) | skip
  cases rv
  unfold splV at ec
  dsimp only at ec
  split at ec
  · rename_i hq
    cases ec
    exact ⟨_, _, rfl, rfl, hq.1, Nat.le_trans hq.2 lb, fun p' hp => q.newL s2 str_rels hp⟩
  · cases ec) rfl rfl rfl rfl
theorem snd_fmt (e : Ex) (he : Snd I G cf e) : Snd I G cf (.fmt e) := snd_of (fun {X top We σ ρ H M B st x Q} p h r => by
  have lb := line_big
  cases x <;> first | (exact absurd h Bool.false_ne_true) | skip
  rename_i y k sp pos
  cases sp <;> first | (exact absurd h Bool.false_ne_true) | skip
  obtain ⟨h1, h2⟩ := mem_bool (show (decide (k = -1) && chkE I.st e X.env.scope y) = true from h)
  have h1 := of_decide_eq_true h1
  subst h1
  refine evE_of (pe_fmt pe_ev) (he.E p h2 (Res.bind r fun xv st1 u H1 M1 k1 s1 ru r1 => ?_))
  obtain ⟨c, ec, q⟩ := Res.liftE r1
  cases xv <;> first | (cases ec; done) | skip
  · rename_i i
    cases ru
    have ec : (if i.natAbs.log2 < 1920 then some (PV.str (toString i)) else none) = some c := ec
    split at ec
    · rename_i hq; cases ec; exact .inr ⟨i, rfl, hq, q.now s1 (.str _)⟩
    · cases ec
  · rename_i z
    cases ru
    have ec : (if z.length ≤ big then some (PV.str z) else none) = some c := ec
    split at ec
    · rename_i hq; cases ec; exact .inl ⟨z, rfl, Nat.le_trans hq lb, q.now s1 (.str _)⟩
    · cases ec) rfl rfl rfl rfl
/-- the parts, each for itself -/
def SndL (I : Info) (G : GlobF) (cf : CallF) : Ex → Prop
  | .cons a as => Snd I G cf a ∧ SndL I G cf as
  | _ => True
theorem pj_all {X : Cx} : ∀ es : List Expr, PJ X es (es.map (EvE X))
  | [] => .nil
  | _ :: es => .cons pe_ev (pj_all es)
theorem fs_all {X : Cx} {top : Bool} {We : WeS} {σ : L2.St} {ρ : Env'} {B : Addr → Prop} {Q : VK} : ∀ (as : Ex) (es : List Expr) (acc : Str) (H : Hp) (M : List Addr) (st : Sto), SndL I G cf as → Pt I G cf X top We σ ρ H M B st → chkA I.st as X.env.scope es = true →
    Res (wd X I.nm) B (RelR (wd X I.nm) B) (We σ) H M (evJ G cf as acc ρ st) Q → tJs (es.map (EvE X)) acc σ H fun out H1 => Q (.str out) H1 := by
  intro as
  induction as with
  | nil =>
    intro es acc H M st _ p h r
    cases es with
    | nil => exact Res.aft r |>.now p.cl (.str _)
    | cons _ _ => exact absurd h Bool.false_ne_true
  | cons a as _ ih =>
    intro es acc H M st hl p h r
    cases es with
    | nil => exact absurd h Bool.false_ne_true
    | cons e es =>
      obtain ⟨h1, h2⟩ := mem_bool (show (chkE I.st a X.env.scope e && chkA I.st as X.env.scope es) = true from h)
      show EvE X e σ H fun x H1 => ∃ y : Str, x = .str y ∧ (acc ++ y).length ≤ sizeLine ∧ tJs (es.map (EvE X)) (acc ++ y) σ H1 fun out H1 => Q (.str out) H1
      refine hl.1.E p h1 (Res.bind r fun xv st1 u H1 M1 k1 s1 ru r1 => ?_)
      cases xv <;> first | (exact r1.elim) | skip
      rename_i y
      have r1 : Res (wd X I.nm) B (RelR (wd X I.nm) B) (We σ) H1 M1 (if (acc ++ y).length ≤ big then evJ G cf as (acc ++ y) ρ st1 else .bad) Q := r1
      split at r1
      · rename_i hq
        cases ru
        exact ⟨y, rfl, Nat.le_trans hq line_big, ih es (acc ++ y) H1 M1 st1 hl.2 (p.go k1 s1) h2 r1⟩
      · exact r1.elim
  | _ => intro es acc H M st _ p h; exact (noA rfl h).elim
theorem snd_fs (as : Ex) (hl : SndL I G cf as) : Snd I G cf (.fs as) := snd_of (fun {X top We σ ρ H M B st x Q} p h r => by
  cases x <;> first | (exact absurd h Bool.false_ne_true) | skip
  rename_i es pos
  rcases es with _ | ⟨x, _ | ⟨y, es⟩⟩ <;> first | (exact absurd h Bool.false_ne_true) | skip
  exact evE_of (pe_joined (pj_all (x :: y :: es))) (fs_all as (x :: y :: es) Str.empty H M st hl p h r)) rfl rfl rfl rfl
theorem snd_ocall (c f : Nat) (e as : Ex) : Snd I G cf (.ocall c f e as) where
  E := fun {X top We σ ρ H M B st x Q} p h r => by cases x <;> exact absurd h Bool.false_ne_true
  T := fun {X top We σ ρ H M B st x Q} p h r => by cases x <;> exact absurd h Bool.false_ne_true
  A := fun p h => (noA rfl h).elim
  W := fun p h => (noI rfl h).elim
  F := fun p hf => by cases hf
theorem snd_obin (o : Operator) (c f : Nat) (a b : Ex) : Snd I G cf (.obin o c f a b) where
  E := fun {X top We σ ρ H M B st x Q} p h r => by cases x <;> exact absurd h Bool.false_ne_true
  T := fun {X top We σ ρ H M B st x Q} p h r => by cases x <;> exact absurd h Bool.false_ne_true
  A := fun p h => (noA rfl h).elim
  W := fun p h => (noI rfl h).elim
  F := fun p hf => by cases hf
theorem snd_bot : Snd I G cf .bot where
  E := fun p h r => r.elim
  T := fun p h r => r.elim
  A := fun p h => (noA rfl h).elim
  W := fun p h => (noI rfl h).elim
  F := fun p hf => by cases hf
end
end Mi

end

section
set_option linter.all false
set_option maxRecDepth 100000
/-! Mi, part W: comprehensions with two for; every expression. -/
namespace Mi
open PySem PySem.Spec PyProof.Rows L2

section
variable {I : Info} {G : GlobF} {cf : CallF}
/-- the inner turn -/
def turn1R (G : GlobF) (cf : CallF) (tg2 : Tg) (e : Ex) (ρ' : Env') (x : PV) (st : Sto) : R (Option PV) := R.noEx <| match setTg tg2 x (wipeP ρ' tg2.slots) with
  | none => .bad
  | some ρ2 => (evE G cf e ρ2 st).bind fun y st => .ok (some y) st
/-- the outer turn -/
def turn2R (G : GlobF) (cf : CallF) (tg : Tg) (ow : List Nat) (tg2 : Tg) (it2 e : Ex) (ρ : Env') (x : PV) (st : Sto) : R (List PV) := R.noEx <| match setTg tg x (wipeP ρ ow) with
  | none => .bad
  | some ρ' => (evI G cf it2 ρ' st).bind fun xs2 st => compR (turn1R G cf tg2 e ρ') xs2 st
theorem evE_comp2 {tg tg2 : Tg} {ow : List Nat} {it it2 e : Ex} {ρ : Env'} {st : Sto} : evE G cf (.comp2 tg ow it tg2 it2 e) ρ st = (evI G cf it ρ st).bind fun xs st1 => (comp2R (turn2R G cf tg ow tg2 it2 e ρ) xs st1).bind fun ys st2 => if ys.length ≤ big then .ok (.lst ys) st2 else .bad := rfl
theorem comp2R_noex {f : PV → Sto → R (List PV)} (hf : ∀ x st c st', f x st ≠ .ex c st') : ∀ (xs : List PV) (st : Sto) (c : Nat) (st' : Sto), comp2R f xs st ≠ .ex c st'
  | [], st, c, st', h => by cases h
  | x :: xs, st, c, st', h => by
    unfold comp2R at h
    cases e : f x st with
    | ok o st1 =>
      rw [e] at h
      cases e2 : comp2R f xs st1 with
      | ok ys st2 => rw [R.bind_ok, e2] at h; cases h
      | ex c2 st2 => exact comp2R_noex hf xs st1 c2 st2 e2
      | bad => rw [R.bind_ok, e2] at h; cases h
    | ex c2 st2 => exact hf x st c2 st2 e
    | bad => rw [e] at h; cases h
theorem turn2R_noex {tg tg2 : Tg} {ow : List Nat} {it2 e : Ex} {ρ : Env'} (x : PV) (st : Sto) (k : Nat) (st' : Sto) : turn2R G cf tg ow tg2 it2 e ρ x st ≠ .ex k st' := by
  unfold turn2R R.noEx
  split
  · exact fun h => by cases h
  · exact fun h => by cases h
def Com2Pv (w : Wd) (B : Addr → Prop) (H1 : Hp) (M1 : List Addr) (D : Addr) (f : PV → Sto → R (List PV)) (xs ys : List PV) (st2 : Sto) (i : Nat) (H : Hp) : Prop :=
  ∃ M st acc vs rest, comp2R f (xs.drop i) st = .ok rest st2 ∧ acc ++ rest = ys ∧ Kp H1 M1 H M ∧ Cels w H M (With B D) st ∧ H D = some (.lst vs) ∧ D ∉ M ∧ Rels w H M (With B D) acc vs
def Com1Pv (w : Wd) (B : Addr → Prop) (w0H : Hp) (w0M : List Addr) (H4 : Hp) (M4 : List Addr) (D : Addr) (f : PV → Sto → R (Option PV)) (xs goal : List PV) (st7 : Sto) (j : Nat) (H : Hp) : Prop :=
  ∃ M st acc vs rest, compR f (xs.drop j) st = .ok rest st7 ∧ acc ++ rest = goal ∧ KpB (With B D) H4 M4 H M ∧ Kp w0H w0M H M ∧ Cels w H M (With B D) st ∧ H D = some (.lst vs) ∧ D ∉ M ∧ Rels w H M (With B D) acc vs
def tiOf (X : Cx) (scope : Scope) (t x : Expr) : TI := fun σ H Q => ∀ (s : Shared) (H0 : Hp) (C : Addr) (cl : List (Str × Addr)) (fp : List Addr), EvI (X.blk s H0 scope (compEnvC scope cl C X.env) fp) t x σ H Q
theorem yesT {σ : L2.St} {H : Hp} {F : Bool → Hp → Prop} (h : F true H) : tYes σ H F := h
theorem EnvR.monoB {w : Wd} {H H' : Hp} {M M' : List Addr} {B B' : Addr → Prop} {ρ : Env'} {σ : L2.St} (e : EnvR w H M B ρ σ) (k : KpB B H M H' M') (hb : ∀ a, B' a → B a ∨ H a = none) : EnvR w H' M' B' ρ σ := ⟨e.1, fun i v h => let ⟨u, h1, r⟩ := e.2 i v h; ⟨u, h1, r.monoB k hb⟩⟩
theorem snd_comp2 (tg : Tg) (ow : List Nat) (it : Ex) (tg2 : Tg) (it2 e : Ex) (hi : Snd I G cf it) (hi2 : Snd I.b G cf it2) (he : Snd I.b G cf e) : Snd I G cf (.comp2 tg ow it tg2 it2 e) := snd_of (fun {X top We σ ρ H M B st x Q} p h r => by
  cases x <;> first | (exact absurd h Bool.false_ne_true) | skip
  rename_i elt gens scope pos
  rcases gens with _ | ⟨⟨t, iter, ifs, k⟩, _ | ⟨⟨t2, iter2, ifs2, k2⟩, _ | ⟨_, _⟩⟩⟩
  · exact absurd h Bool.false_ne_true
  · rcases k with (_ | k) | k <;> cases ifs <;> exact absurd h Bool.false_ne_true
  · rcases ifs with _ | ⟨_, _⟩ <;> rcases ifs2 with _ | ⟨_, _⟩ <;> rcases k with (_ | k) | k <;> rcases k2 with (_ | k2) | k2 <;> first | (exact absurd h Bool.false_ne_true) | skip
    obtain ⟨h1, h⟩ := mem_bool (show (blkC I.N X.env.scope scope (ownOf I ow) && (tg.slots.all (ow.contains ·) && (tg2.slots.all (ow.contains ·) && (chkI I.st it X.env.scope t iter && (chkTg I.st (ownC scope) (relS scope X.env.scope) tg t && (chkI I.b.st it2 (relS scope X.env.scope) t2 iter2 && (chkTg I.st (ownC scope) (relS scope X.env.scope) tg2 t2 && chkE I.b.st e (relS scope X.env.scope) elt))))))) = true from h)
    obtain ⟨hs1, h⟩ := mem_bool h
    obtain ⟨hs2, h⟩ := mem_bool h
    obtain ⟨h3, h⟩ := mem_bool h
    obtain ⟨h4, h⟩ := mem_bool h
    obtain ⟨h5, h⟩ := mem_bool h
    obtain ⟨h6, h7⟩ := mem_bool h
    have hsl : ∀ i ∈ tg.slots, i ∈ ow := fun i hi => by simpa using List.all_eq_true.mp hs1 i hi
    have hsl2 : ∀ i ∈ tg2.slots, i ∈ ow := fun i hi => by simpa using List.all_eq_true.mp hs2 i hi
    have pgb : ∀ (tg : Tg) (t : Expr), chkTg I.st (ownC scope) (relS scope X.env.scope) tg t = true → ∀ (s : Shared) (H0 : Hp) (C : Addr) (cl : List (Str × Addr)) (fp : List Addr), PG (X.blk s H0 scope (compEnvC scope cl C X.env) fp) t (tg.g X.K) := fun tg t ht s H0 C cl fp =>
      pg_of (X := X.blk s H0 scope (compEnvC scope cl C X.env) fp) (I := I.st) (top := ownC scope) p.cx.calm p.cx.nd p.cx.N (fun x z => z) tg t ht
    refine evE_of (pe_lc2 (wi1 := tiOf X scope t2 iter2) (vs1 := tg2.slots) p.cx.calm p.cx.nd pi_ev (blkOk_by (by rw [p.cx.N]; exact h1)) (fun i hi => by rw [own_ix]; exact hsl2 i hi) (pgb tg t h4) comp_pts
      (fun s H0 C cl fp => ⟨fun pins s1 σ H R I0 hh => (pi_ev (X := X.blk s H0 scope (compEnvC scope cl C X.env) fp)).run pins s1 σ H R I0 (hh s H0 C cl fp)⟩) (pgb tg2 t2 h6) comp_pts comp_pe (folded_of (chkI_odd h3) _) (fun env u => folded_of (chkI_odd h5) env u)) ?_
    rw [own_ix]
    rw [evE_comp2] at r
    refine hi.W p h3 (Res.bind r fun xs st1 J H1 M1 k1 s1 ir r1 => fun D hD => ?_)
    obtain ⟨ys, st2, ec, hlen, r2⟩ : ∃ ys st2, comp2R (turn2R G cf tg ow tg2 it2 e ρ) xs st1 = .ok ys st2 ∧ ys.length ≤ big ∧ Res (wd X I.nm) B (RelR (wd X I.nm) B) (We σ) H1 M1 (.ok (.lst ys) st2) Q := by
      cases q : comp2R (turn2R G cf tg ow tg2 it2 e ρ) xs st1 with
      | ok ys st2 =>
        rw [q] at r1
        have r1' : Res (wd X I.nm) B (RelR (wd X I.nm) B) (We σ) H1 M1 (if ys.length ≤ big then .ok (.lst ys) st2 else .bad) Q := r1
        by_cases hl : ys.length ≤ big
        · rw [if_pos hl] at r1'; exact ⟨ys, st2, rfl, hl, r1'⟩
        · rw [if_neg hl] at r1'; exact r1'.elim
      | ex k st2 => exact (comp2R_noex (fun x st k st' => turn2R_noex x st k st') xs st1 k st2 q).elim
      | bad => rw [q] at r1; exact r1.elim
    have nB : ∀ a, With B D a → B a ∨ H1 a = none := fun a z => z.elim .inl fun q => .inr (by rw [q]; exact hD)
    refine ⟨fun i m H => m = xs.length - i ∧ i ≤ xs.length ∧ Com2Pv (wd X I.nm) B H1 M1 D (turn2R G cf tg ow tg2 it2 e ρ) xs ys st2 i H, ⟨xs.length, by omega, Nat.zero_le _, M1, st1, [], [], ys, ec, rfl, .new hD, s1.with hD, upd_same, fun z => s1.mem z hD, .nil⟩, ?_⟩
    rintro i m H2 ⟨rfl, hi', M', st', acc, vs, rest, er, ea, k', s', hv, hn, rr⟩
    have irh := ir H2 M' (With B D) k'.toB (fun a ha => s'.mem ha) nB
    by_cases hlt : i < xs.length
    · refine .inr ⟨irh.1 i hlt, Com2Pv (wd X I.nm) B H1 M1 D (turn2R G cf tg ow tg2 it2 e ρ) xs ys st2 (i + 1), fun H' pv => ⟨xs.length - (i + 1), by omega, rfl, hlt, pv⟩, fun u H3 hy => ?_⟩
      obtain ⟨pv, ep, hh, rp⟩ := irh.2.2 i u H3 hlt hy
      have hd : xs.drop i = pv :: xs.drop (i + 1) := by
        obtain ⟨hl, e1⟩ := List.getElem?_eq_some_iff.mp ep
        rw [List.drop_eq_getElem_cons hl, e1]
      rw [hd] at er
      have st3 : Kp H2 M' H3 M' ∧ Cels (wd X I.nm) H3 M' (With B D) st' ∧ H3 D = some (.lst vs) := by
        rcases hh with rfl | ⟨T, o, hT, rfl⟩
        · exact ⟨.refl _ _, s', hv⟩
        · exact ⟨.new hT, s'.new hT, by rw [upd_ne (ne_of_none hv hT)]; exact hv⟩
      obtain ⟨k3, s3, hv3⟩ := st3
      have rr3 := rr.mono k3
      obtain ⟨items, st4, e1, e2⟩ := bind_ok' (show (turn2R G cf tg ow tg2 it2 e ρ pv st').bind (fun ys st1 => (comp2R (turn2R G cf tg ow tg2 it2 e ρ) (xs.drop (i + 1)) st1).bind fun zs st2 => .ok (ys ++ zs) st2) = .ok rest st2 from er)
      obtain ⟨rest', st5, e3, e4⟩ := bind_ok' e2
      cases e4
      have e1 := noEx_ok' e1
      cases es : setTg tg pv (wipeP ρ ow) with
      | none => rw [es] at e1; cases e1
      | some ρ' =>
        rw [es] at e1
        have env : EnvR (wd X I.nm) H3 M' (With B D) (wipeP ρ ow) (L2.wipe σ ow) := ((p.er.mono k1).bchg nB |>.mono (k'.trans k3)).wipe ow
        refine setTg_g tg pv u (wipeP ρ ow) ρ' (L2.wipe σ ow) _ (chkTg_wf tg t h4) es env rp fun σ2 env2 sl => ⟨?_, fun s H0 C cl fp => evP_of pts_nil (yesT ?_)⟩
        · rw [sl.wipe hsl, wipe_wipe]
        · show (if (true : Bool) = true then _ else _)
          rw [if_pos rfl]
          obtain ⟨xs2, st6, e5, e6⟩ := bind_ok' e1
          intro s H0 C cl fp
          have pt2 : Pt I.b G cf (X.blk s H0 scope (compEnvC scope cl C X.env) fp) false WeN σ2 ρ' H3 M' (With B D) st' := ⟨p.cx.blk s H0 scope _ fp, env2, s3, fun z => by cases z⟩
          refine hi2.W pt2 h5 (Res.ok' e5 fun J1 H4 M4 k4 s4 ir1 => ?_)
          have hv4 := k4.h D _ hv3 hn trivial
          refine ⟨fun j m H => m = xs2.length - j ∧ j ≤ xs2.length ∧ Com1Pv (wd X I.nm) B H1 M1 H4 M4 D (turn1R G cf tg2 e ρ') xs2 (acc ++ items) st4 j H, ⟨xs2.length, by omega, Nat.zero_le _, M4, st6, acc, vs, items, e6, rfl, .refl _ _, (k'.trans k3).trans k4, s4, hv4.1, hv4.2, rr3.mono k4⟩, ?_⟩
          rintro j m H5 ⟨rfl, hj', M5, st5', acc1, vs1, rest1, er1, ea1, k5, k5', s5, hv5, hn5, rr5⟩
          have irh1 := ir1 H5 M5 (With B D) k5 (fun a ha => s5.mem ha) (fun a z => .inl z)
          by_cases hlt1 : j < xs2.length
          · refine .inr ⟨irh1.1 j hlt1, Com1Pv (wd X I.nm) B H1 M1 H4 M4 D (turn1R G cf tg2 e ρ') xs2 (acc ++ items) st4 (j + 1), fun H' pv => ⟨xs2.length - (j + 1), by omega, rfl, hlt1, pv⟩, fun u1 H6 hy1 => ?_⟩
            obtain ⟨pv1, ep1, hh1, rp1⟩ := irh1.2.2 j u1 H6 hlt1 hy1
            have hd1 : xs2.drop j = pv1 :: xs2.drop (j + 1) := by
              obtain ⟨hl, e1⟩ := List.getElem?_eq_some_iff.mp ep1
              rw [List.drop_eq_getElem_cons hl, e1]
            rw [hd1] at er1
            have st6' : Kp H5 M5 H6 M5 ∧ Cels (wd X I.nm) H6 M5 (With B D) st5' ∧ H6 D = some (.lst vs1) := by
              rcases hh1 with rfl | ⟨T, o, hT, rfl⟩
              · exact ⟨.refl _ _, s5, hv5⟩
              · exact ⟨.new hT, s5.new hT, by rw [upd_ne (ne_of_none hv5 hT)]; exact hv5⟩
            obtain ⟨k6, s6, hv6⟩ := st6'
            have rr6 := rr5.mono k6
            obtain ⟨o1, st7, f1, f2⟩ := bind_ok' (show (turn1R G cf tg2 e ρ' pv1 st5').bind (fun o st1 => (compR (turn1R G cf tg2 e ρ') (xs2.drop (j + 1)) st1).bind fun ys st2 => .ok (match o with
              | some y => y :: ys
              | none => ys) st2) = .ok rest1 st4 from er1)
            obtain ⟨rest1', st8, f3, f4⟩ := bind_ok' f2
            cases f4
            have f1 := noEx_ok' f1
            cases es1 : setTg tg2 pv1 (wipeP ρ' tg2.slots) with
            | none => rw [es1] at f1; cases f1
            | some ρ2 =>
              rw [es1] at f1
              have envI : EnvR (wd X I.nm) H6 M5 (With B D) (wipeP ρ' tg2.slots) (L2.wipe σ2 tg2.slots) := (((env2.mono k4).monoB k5 fun a z => .inl z).mono k6).wipe tg2.slots
              refine setTg_g tg2 pv1 u1 (wipeP ρ' tg2.slots) ρ2 (L2.wipe σ2 tg2.slots) _ (chkTg_wf tg2 t2 h6) es1 envI rp1 fun σ3 env3 sl3 => ⟨?_, fun s H0 C cl fp => evP_of pts_nil (yesT ?_)⟩
              · rw [sl3.wipe fun i hi => hi, wipe_wipe]
              · show (if (true : Bool) = true then _ else _)
                rw [if_pos rfl]
                obtain ⟨y, st9, g1, g2⟩ := bind_ok' f1
                cases g2
                intro s H0 C cl fp
                have pt3 : Pt I.b G cf (X.blk s H0 scope (compEnvC scope cl C X.env) fp) false WeN σ3 ρ2 H6 M5 (With B D) st5' := ⟨p.cx.blk s H0 scope _ fp, env3, s6, fun z => by cases z⟩
                refine he.E pt3 h7 (Res.ok' g1 fun yv H7 M7 k7 s7 ry => ?_)
                have hD7 := k7.h D _ hv6 hn5 trivial
                have hlt2 : acc1.length + 1 ≤ ys.length := by
                  have z : acc1.length + (rest1'.length + 1) = acc.length + items.length := by
                    have := congrArg List.length ea1
                    simpa using this
                  rw [← ea]
                  simp only [List.length_append]
                  omega
                refine ⟨vs1, hD7.1, ?_, M7, _, acc1 ++ [y], vs1 ++ [yv], rest1', f3, by rw [← ea1, List.append_assoc]; rfl, (k5.trans (k6.trans k7).toB).trans (.chg hD7.1 trivial (.inr rfl)), ((k5'.trans k6).trans k7).chgD hD hD7.1 trivial, s7.chg hD7.1 trivial (.inr rfl), upd_same, hD7.2, ?_⟩
                · rw [← rr5.length]; exact Nat.lt_of_lt_of_le (Nat.lt_of_succ_le hlt2) (Nat.le_trans hlen line_big)
                · exact ((rr6.mono k7).append (.cons ry .nil)).chg hD7.1 trivial (.inr rfl)
          · refine .inl ⟨?_, ?_⟩
            · have : j = xs2.length := by omega
              rw [this]; exact irh1.2.1
            · have hje : j = xs2.length := by omega
              subst hje
              rw [List.drop_length] at er1
              cases er1
              rw [List.append_nil] at ea1
              exact ⟨M5, _, acc1, vs1, rest', e3, by rw [ea1, List.append_assoc]; exact ea, k5', s5, hv5, hn5, rr5⟩
    · refine .inl ⟨?_, ?_⟩
      · have : i = xs.length := by omega
        rw [this]; exact irh.2.1
      · have hie : i = xs.length := by omega
        subst hie
        rw [List.drop_length] at er
        cases er
        rw [List.append_nil] at ea
        subst ea
        exact r2 (.ref D) H2 M' k' (s'.weak fun _ z => .inl z) (.lst hv hn (fun z => s1.bk D z hD) (rr.weak fun _ z => .inl z))
  · exact absurd h (by rcases k with (_ | k) | k <;> rcases k2 with (_ | k2) | k2 <;> cases ifs <;> cases ifs2 <;> exact Bool.false_ne_true)) rfl rfl rfl rfl
end
section
variable {G : GlobF} {cf : CallF}
/-- every expression -/
theorem snd2 (e : Ex) {I : Info} : Snd I G cf e ∧ SndL I G cf e := by
  induction e generalizing I with
  | var i => exact ⟨snd_var i, True.intro⟩
  | non  => exact ⟨snd_non, True.intro⟩
  | bl b => exact ⟨snd_bl b, True.intro⟩
  | int i => exact ⟨snd_int i, True.intro⟩
  | str x => exact ⟨snd_str x, True.intro⟩
  | gl x => exact ⟨snd_gl x, True.intro⟩
  | bty n => exact ⟨snd_bty n, True.intro⟩
  | bin o a b ha hb => exact ⟨snd_bin o a b ha.1 hb.1, True.intro⟩
  | neg a ha => exact ⟨snd_neg a ha.1, True.intro⟩
  | not a ha => exact ⟨snd_not a ha.1, True.intro⟩
  | and a b ha hb => exact ⟨snd_and a b ha.1 hb.1, True.intro⟩
  | or a b ha hb => exact ⟨snd_or a b ha.1 hb.1, True.intro⟩
  | cmp o a b ha hb => exact ⟨snd_cmp o a b ha.1 hb.1, True.intro⟩
  | chn o o' a b c ha hb hc => exact ⟨snd_chn o o' a b c ha.1 hb.1 hc.1, True.intro⟩
  | ite c a b hc ha hb => exact ⟨snd_ite c a b hc.1 ha.1 hb.1, True.intro⟩
  | nil  => exact ⟨snd_nil, True.intro⟩
  | cons a as ha hs => exact ⟨snd_cons a as ha.1 hs.1, ha.1, hs.2⟩
  | tup as hs => exact ⟨snd_tup as hs.1, True.intro⟩
  | lst as hs => exact ⟨snd_lst as hs.1, True.intro⟩
  | cell e he => exact ⟨snd_cell e he.1, True.intro⟩
  | call m f as hs => exact ⟨snd_call m f as hs.1, True.intro⟩
  | bi b as hs => exact ⟨snd_bi b as hs.1, True.intro⟩
  | idx a b ha hb => exact ⟨snd_idx a b ha.1 hb.1, True.intro⟩
  | sli a lo hi ha hl hh => exact ⟨snd_sli a lo hi ha.1 hl.1 hh.1, True.intro⟩
  | «omit»  => exact ⟨snd_omit, True.intro⟩
  | comp tg ow it c e hi hc he => exact ⟨snd_comp tg ow it c e hi.1 hc.1 he.1, True.intro⟩
  | comp2 tg ow it tg2 it2 e hi hi2 he => exact ⟨snd_comp2 tg ow it tg2 it2 e hi.1 hi2.1 he.1, True.intro⟩
  | lrg a b ha hb => exact ⟨snd_lrg a b ha.1 hb.1, True.intro⟩
  | lrd a b ha hb => exact ⟨snd_lrd a b ha.1 hb.1, True.intro⟩
  | rng1 a ha => exact ⟨snd_rng1 a ha.1, True.intro⟩
  | rng2 a b ha hb => exact ⟨snd_rng2 a b ha.1 hb.1, True.intro⟩
  | zip a b ha hb => exact ⟨snd_zip a b ha.1 hb.1, True.intro⟩
  | enu a ha => exact ⟨snd_enu a ha.1, True.intro⟩
  | sq a ha => exact ⟨snd_sq a ha.1, True.intro⟩
  | dict a ha => exact ⟨snd_dict a ha.1, True.intro⟩
  | get d k x hd hk hx => exact ⟨snd_get d k x hd.1 hk.1 hx.1, True.intro⟩
  | callL f as np caps body hs hb => exact ⟨snd_callL f as np caps body hs.1 fun ps => hb.1, True.intro⟩
  | calv i as hs => exact ⟨snd_calv i as hs.1, True.intro⟩
  | calg m i as hs => exact ⟨snd_calg m i as hs.1, True.intro⟩
  | cnt o x ho hx => exact ⟨snd_cnt o x ho.1 hx.1, True.intro⟩
  | pop o ho => exact ⟨snd_pop o ho.1, True.intro⟩
  | fld c x e he => exact ⟨snd_fld c x e he.1, True.intro⟩
  | prop c f e he => exact ⟨snd_prop c f e he.1, True.intro⟩
  | meth c f e as he hs => exact ⟨snd_meth c f e as he.1 hs.1, True.intro⟩
  | item c f a b ha hb => exact ⟨snd_item c f a b ha.1 hb.1, True.intro⟩
  | ocall c f e as he hs => exact ⟨snd_ocall c f e as, True.intro⟩
  | ostr c f e he => exact ⟨snd_ostr c f e he.1, True.intro⟩
  | olen c f e he => exact ⟨snd_olen c f e he.1, True.intro⟩
  | obool c f e he => exact ⟨snd_obool c f e he.1, True.intro⟩
  | obin o c f a b ha hb => exact ⟨snd_obin o c f a b, True.intro⟩
  | oinv c f e he => exact ⟨snd_oinv c f e he.1, True.intro⟩
  | ceq c f a b ha hb => exact ⟨snd_ceq c f a b ha.1 hb.1, True.intro⟩
  | isin neg c f a e ha he => exact ⟨snd_isin neg c f a e ha.1 he.1, True.intro⟩
  | mk c f as hs => exact ⟨snd_mk c f as hs.1, True.intro⟩
  | mks v c f as e hs he => exact ⟨snd_mks v c f as e hs.1 he.1, True.intro⟩
  | cm c f as hs => exact ⟨snd_cm c f as hs.1, True.intro⟩
  | isc c e he => exact ⟨snd_isc c e he.1, True.intro⟩
  | join a b ha hb => exact ⟨snd_join a b ha.1 hb.1, True.intro⟩
  | spl a b ha hb => exact ⟨snd_spl a b ha.1 hb.1, True.intro⟩
  | fmt e he => exact ⟨snd_fmt e he.1, True.intro⟩
  | fs as hs => exact ⟨snd_fs as hs.2, True.intro⟩
  | bot  => exact ⟨snd_bot, True.intro⟩
theorem snd (e : Ex) {I : Info} : Snd I G cf e := (snd2 e).1
end
end Mi

end

section
set_option linter.all false
set_option maxRecDepth 100000
/-! Mi, part X: several except clauses, each with a name or with none. -/
namespace Mi
open PySem PySem.Spec PyProof.Rows L2

/-- a clause: its class, the slot of its name, its suite -/
structure Cl where
  c : Value
  o : Option Nat
  ts : Addr → Value → Option Addr → TS
def asEnd : Option Nat → Ends → Ends
  | none, D => D
  | some i, D => ⟨fun τ G => D.nx (τ.set i none) G, D.rt, fun τ G => D.bk (τ.set i none) G, fun τ G => D.ct (τ.set i none) G⟩
def asPut (a : Addr) : Option Nat → L2.St → L2.St
  | none, τ => τ
  | some i, τ => τ.set i (some (.ref a))
def wMix (K : PySem.W.Frag) (Wo : WX) (D : Ends) : List Cl → WX
  | [] => Wo
  | k :: ks => fun u d τ G => ∃ b, PySem.W.exmOne K u k.c = some b ∧ (b = true → ∀ a, G a = none → k.ts a u d (asEnd k.o D) (asPut a k.o τ) G) ∧ (b = false → wMix K Wo D ks u d τ G)
def SlotIs (X : Cx) : Option Str → Option Nat → Prop
  | none, none => True
  | some n, some i => X.N[i]? = some n ∧ X.env.kindOf n = some .local
  | _, _ => False
inductive Hds (X : Cx) : List ExceptHandler → List Cl → Prop
  | nil : Hds X [] []
  | cons {x : Str} {k : Cl} {b : Stmt} {bs : List Stmt} {n : Option Str} {p q : Pos} {hs : List ExceptHandler} {ks : List Cl} (nc : Names X x k.c) (sl : SlotIs X n k.o)
      (su : ∀ (a : Addr) (oe : Obj) (u : Value) (d : Option Addr) (pn : List (Addr × Obj)), Zc u d oe → (∃ vs, oe.data = .fields vs) → PSs (X.suite a ((a, oe) :: pn)) (b :: bs) (k.ts a u d)) (r : Hds X hs ks) :
      Hds X (.ExceptHandler (some (.Name x p)) n (b :: bs) q :: hs) (k :: ks)
section
variable {X : Cx} {body : List Stmt} {h₀ : ExceptHandler} {hds : List ExceptHandler} {ks : List Cl} {pos : Pos} {tb : WX → TS} {Wo : WX}
theorem ps_tryMix (e1 : X.stack = X.env :: X.outer) (e2 : X.env.frame = some X.env.locals) (nd : X.N.Nodup) (tk : Takes X Wo)
    (hb : ∀ (W : WX) (pn : List (Addr × Obj)) (xe : Value → Shared → Prop), Takes (X.tr pn xe) W → PassesOwn (model X.prog X.w) X.A X.env xe → PSs (X.tr pn xe) body (tb W))
    (hk : Hds X (h₀ :: hds) ks) : PS X (.Try body (h₀ :: hds) [] [] pos) (fun D τ G => tb (wMix X.K Wo D ks) D τ G) := by
  refine ⟨fun pins s τ G D I go => ?_⟩
  have ok := I.ok
  have fr : X.A.frames = some (X.env :: X.outer) := by rw [ok.frames, e1]
  refine wpAny_Try_except (wpAny_mono ((hb (wMix X.K Wo D ks) (X.pn ++ pins) (fun e s₁ => wpAny (model X.prog X.w) X.A (noteFrame e X.env) (fun _ s₂ => wpAny (model X.prog X.w) X.A (setFlight e none)
    (fun _ s₃ => wpAny (model X.prog X.w) X.A (handleBy e X.env (h₀ :: hds)) (SP X pins D) X.xe s₃) X.xe s₂) X.xe s₁) (fun u t xx => ?_) PassesOwn.looking).run [] s τ G D (I.toTry _) go)
    (fun f t sp => ?_) fun e t z => z)
  · obtain ⟨a, B, sI, pins', τ', G', u, d, rfl, J0, nb, up, sk, na, os, ag, w⟩ := xx
    have J : Inv X pins τ' G' sI := J0.ofTry ok
    have sk' : Sky B (X.env :: X.outer) a (Zc u d) X.env.locals t.heap := by rw [← e1]; exact sk
    show wpAny (model X.prog X.w) X.A (noteFrame (.ref a) X.env) _ _ _
    refine Sky.land Zc.steady fr e2 sk' fun g3 fl3 up3 => ?_
    have J3 : Inv X pins τ' G' { t with heap := g3 } := J.landed nb fl3.1 (up.trans up3) os ag
    obtain ⟨oe3, vs3, he3, hz3, hd3⟩ := fl3.there
    have nofr : a ∉ frs (X.env :: X.outer) := fun hm => by
      obtain ⟨_, o2, q2, nf⟩ := fl3.2.2.1.mem hm
      rw [he3] at q2; cases q2
      exact nf _ hd3
    have nL : a ≠ X.env.locals := fun z => nofr (List.mem_filterMap.mpr ⟨X.env, List.mem_cons_self, by rw [e2, z]⟩)
    have nF : a ∉ X.fs := fun hm => by
      obtain ⟨v, m1, m2⟩ := List.mem_filterMap.mp hm
      exact nofr (List.mem_filterMap.mpr ⟨v, List.mem_cons_of_mem _ m1, m2⟩)
    have S3 := J3.suite he3 hd3 na nL nF
    suffices key : ∀ {hs' : List ExceptHandler} {ks' : List Cl}, Hds X hs' ks' → wMix X.K Wo D ks' u d τ' G' → wpAny (model X.prog X.w) X.A (handleBy (.ref a) X.env hs') (SP X pins D) X.xe { t with heap := g3 } from key hk w
    intro hs' ks' hh
    induction hh with
    | nil =>
      intro w
      refine wpAny_handleBy_nil ?_
      obtain ⟨_, _, _, o4, v4, T, _, _, y1, _, y2, y3, _⟩ := id fl3
      unfold PySem.passOn
      refine wpAny_bind (wpAny_field y1 y2 y3 ?_)
      rw [if_neg (show ¬ ((Value.ref T == Value.none) = true) by simp)]
      have out : wpAny (model X.prog X.w) X.A (setFlight (.ref a) X.env.frame) (fun _ t4 => wpAny (model X.prog X.w) X.A (throw (.ref a) : Sem Flow) (SP X pins D) X.xe t4) X.xe { t with heap := g3 } := by
        rw [e2]
        exact HandSPX.setFlight_upZ fl3 fun g4 z4 up4 => wpAny_throw (tk _ _ ⟨a, B, sI, pins, τ', G', u, d, rfl, J, nb, (up.trans up3).trans up4, .inr (.inr (by rw [e1]; exact z4)), na, os, ag, w⟩)
      first
        | exact wpAny_bind (wpAny_pure (wpAny_bind out))
        | exact wpAny_bind out
    | @cons x k b bs n p q hs2 ks2 nc sl su r ih =>
      intro w
      obtain ⟨m, hm, yes, no⟩ := w
      refine wpAny_handleBy_cons (codeAny_handlers_test ?_) (fun z => by cases z)
      have LT : PySem.W.Looks (model X.prog X.w) g3 (typeOf (.ref a)) u := fun A Q E s k q => wpAny_typeOf_ref (k _ _ he3) (by rw [hz3.1]; exact q)
      have LM := PySem.W.exm_one (M := model X.prog X.w) (J3.kIn) LT hm
      have named : ∀ {Q E : Value → Shared → Prop}, Q k.c { t with heap := g3 } → wpAny (model X.prog X.w) (X.A.mark (some (.ref a))) (eval (.Name x p) X.env) Q E { t with heap := g3 } := fun {Q E} z => by
        obtain ⟨hg, hdb, hm | ⟨hm, hv, hn⟩⟩ := nc
        · exact ld_glob (X := X.suite a ((a, oe3) :: (X.pn ++ pins))) S3 hg hm z hdb
        · exact ld_blt (X := X.suite a ((a, oe3) :: (X.pn ++ pins))) S3 hg hm hv z hn hdb
      refine named (LM.here ?_)
      cases m with
      | false => exact ih (no rfl)
      | true =>
        cases n with
        | none =>
          cases ko : k.o with
          | some i => rw [ko] at sl; exact sl.elim
          | none =>
            refine codeAny_handlers_suite (HandSPX.lands_againZ fl3 fun g4 fl4 up4 => ?_)
            obtain ⟨oe4, vs4, he4, hz4, hd4⟩ := fl4.there
            have S4 := (J.landed nb fl4.1 ((up.trans up3).trans up4) os ag : Inv X pins τ' G' { t with heap := g4 }).suite he4 hd4 na nL nF
            have yes := yes rfl a na
            rw [ko] at yes
            refine wpAny_mono ((su a oe4 u d (X.pn ++ pins) hz4 ⟨_, hd4⟩).run [] _ _ G' _ S4 yes) (fun f t6 sp => ?_) (fun _ _ z => False.elim z)
            cases f with
            | ret z =>
              obtain ⟨v6, τ6, G6, S6, r6, q6⟩ := sp
              exact ⟨_, _, _, S6.unsuite ok, r6, q6⟩
            | _ =>
              obtain ⟨τ6, G6, S6, q6⟩ := sp
              exact ⟨_, _, S6.unsuite ok, q6⟩
        | some n =>
          cases ko : k.o with
          | none => rw [ko] at sl; exact sl.elim
          | some i =>
            rw [ko] at sl
            obtain ⟨hi, hl⟩ := sl
            refine codeAny_handlers_suite_as (HandSPX.lands_againZ fl3 fun g4 fl4 up4 => ?_)
            obtain ⟨oe4, vs4, he4, hz4, hd4⟩ := fl4.there
            have S4 := (J.landed nb fl4.1 ((up.trans up3).trans up4) os ag : Inv X pins τ' G' { t with heap := g4 }).suite he4 hd4 na nL nF
            have yes := yes rfl a na
            rw [ko] at yes
            refine store_ok (X := X.suite a ((a, oe4) :: (X.pn ++ pins))) (v := .ref a) S4 nd hi (.inl hl) rfl (fun t5 S5 => ?_) (.inr hl)
            refine wpAny_mono ((su a oe4 u d (X.pn ++ pins) hz4 ⟨_, hd4⟩).run [] t5 _ G' _ S5 yes) (fun f t6 sp => ?_) (fun _ _ z => False.elim z)
            have gone : ∀ {τ6 : L2.St} {G6 : Hp} {Q : Shared → Prop}, Inv (X.suite a ((a, oe4) :: (X.pn ++ pins))) [] τ6 G6 t6 → (∀ t7, Inv X pins (τ6.set i none) G6 t7 → Q t7) →
                wpAny (model X.prog X.w) X.A (do bindName X.env n .none; unbindBehindTheSuite X.env n q) (fun _ t7 => Q t7) X.xe t6 := fun S6 z => gone_ok (S6.unsuite ok) nd hi hl z
            cases f with
            | ret z =>
              obtain ⟨v6, τ6, G6, S6, r6, q6⟩ := sp
              exact gone S6 fun t7 J7 => ⟨_, _, _, J7, r6, q6⟩
            | _ =>
              obtain ⟨τ6, G6, S6, q6⟩ := sp
              exact gone S6 fun t7 J7 => ⟨_, _, J7, q6⟩
  · cases f with
    | next =>
      obtain ⟨τ', G', J', z⟩ := sp
      exact wpAny_execs_nil ⟨τ', G', J'.ofTry ok, z⟩
    | ret u =>
      obtain ⟨v, τ', G', J', r, z⟩ := sp
      exact ⟨v, τ', G', J'.ofTry ok, r, z⟩
    | _ =>
      obtain ⟨τ', G', J', z⟩ := sp
      exact ⟨τ', G', J'.ofTry ok, z⟩
end
end Mi

end

section
set_option linter.all false
set_option maxRecDepth 100000
/-! Mi, part J: statements. -/
namespace Mi
open PySem PySem.Spec PyProof.Rows L2

/-! ### the check -/
def isLc : Expr → Bool
  | .ListComp .. => true
  | .SetComp .. => true
  | .DictComp .. => true
  | _ => false
/-- is the list of a comprehension stored within the comprehension's block? -/
def swB (sc : Scope) (x : Str) (px : Pos) : Expr → Bool
  | .ListComp _ _ scope pos => decide (sc.names.lookup x = some .local) && ((px.line == pos.line) && !(scope.names.any fun (n, k) => n == x && (k == .local || k == .cell)))
  | _ => false
def Ex.isCp : Ex → Bool
  | .comp .. => true
  | _ => false
def Ex.isComp : Ex → Bool
  | .comp .. => true
  | .cell e => e.isCp
  | _ => false
/-- the names of a tuple of targets that are stored from the right -/
def swNames (sc : Scope) (ts : List Expr) : List Str := ts.filterMap fun
  | .Name id pos => if sc.names.lookup id == some .local && pos.line == (ts.head?.map (·.pos.line)).getD 0 then some id else none
  | _ => none
/-- stored from the left -/
def swN (sc : Scope) (ts vs : List Expr) : Bool :=
  (!(ts.length == 2 || ts.length == 3) || vs.length != ts.length) || (((swNames sc ts).length != ts.length || (swNames sc ts).eraseDups.length != (swNames sc ts).length) || vs.all (foldedForSure 8))
def swS (vs : List Expr) : Bool := !(vs.all (constantsAlone 8))
/-- names only, by slots -/
def parT (sc : Scope) : Tg → Ex → List Expr → Bool
  | .cons (.nm i) (.cons (.nm j) .nil), .tup _, [.Name x px, .Name y py] => decide (i ≠ j) && (decide (sc.names.lookup x = some .local) && (decide (sc.names.lookup y = some .local) && decide (swNames sc [.Name x px, .Name y py] = [x, y])))
  | .cons (.nm i) (.cons (.nm j) (.cons (.nm k) .nil)), .tup _, [.Name x px, .Name y py, .Name z pz] => decide (i ≠ j) && (decide (i ≠ k) && (decide (j ≠ k) && (decide (sc.names.lookup x = some .local) && (decide (sc.names.lookup y = some .local) &&
      (decide (sc.names.lookup z = some .local) && decide (swNames sc [.Name x px, .Name y py, .Name z pz] = [x, y, z]))))))
  | _, _, _ => false
def styleB (sc : Scope) (t : Tg) (e : Ex) (ts : List Expr) : Expr → Bool
  | .Tuple vs _ _ => swN sc ts vs || (swS vs && parT sc t e ts)
  | .List .. => false
  | _ => true
/-- an except suite -/
def seB (I : Info) (sc : Scope) (ei : Option Nat) : Se → Expr → Bool
  | .str s, .Constant (.str t) _ _ => decide (s = t)
  | .non, .Constant .none _ _ => true
  | .isx i c a b, .IfExp (.Call (.Name f _) (.Name x _ :: .Name y _ :: []) [] _) t e _ => decide (ei = some i) && (decide (f = ("isinstance" : Str)) && (glB sc f && (nameOk I sc i x && (I.C c && (gOk I sc c y && (seB I sc ei a t && seB I sc ei b e))))))
  | _, _ => false
def suB (I : Info) (sc : Scope) (ei : Option Nat) : Su → Stmt → Bool
  | .ret e, .Return (some v) _ => seB I sc ei e v
  | .set i e, .Assign (.Name x px :: []) v _ => decide (I.N[i]? = some x) && (decide (sc.names.lookup x = some .local) && (seB I sc ei e v && (decide (ei ≠ some i) && !(swB sc x px v))))
  | _, _ => false
def hnB (I : Info) (sc : Scope) : Hn → List ExceptHandler → Bool
  | .nil, [] => true
  | .cons c i su r, .ExceptHandler (some (.Name x _)) n (st :: []) _ :: hs => I.C c && (gOk I sc c x && ((match i, n with
    | none, none => true
    | some i, some n => decide (I.N[i]? = some n) && decide (sc.names.lookup n = some .local)
    | _, _ => false) && (suB I sc i su st && hnB I sc r hs)))
  | _, _ => false
mutual
def chkS1 (I : Info) : Sm → Scope → Stmt → Bool
  | .set i e, sc, .Assign (.Name x px :: []) v _ => decide (I.N[i]? = some x) && (locB allS sc x && (chkE I e sc v && (!(swB sc x px v) || e.isComp)))
  | .setT t e, sc, .Assign (.Tuple es k p :: []) v _ => chkTg I allS sc t (.Tuple es k p) && (chkE I e sc v && styleB sc t e es v)
  | .put o i e, sc, .Assign (.Subscript a b _ :: []) v _ => chkE I o sc a && (chkE I i sc b && chkE I e sc v)
  | .app o e, sc, .Expr (.Call (.Attribute (.Name x p) n apos) (y :: []) [] cpos) _ => decide (n = ("append" : Str)) && ((apos.endLine == cpos.line) && (chkE I o sc (.Name x p) && chkE I e sc y))
  | .fput c f o e, sc, .Assign (.Attribute a m _ :: []) v _ => decide (f = m) && (I.A c m && (!(isLc v) && (chkE I o sc a && chkE I e sc v)))
  | .bot, _, _ => true
  | .drop e, sc, .Expr v _ => !(isLc v) && chkE I e sc v
  | .ret e, sc, .Return (some v) _ => chkE I e sc v
  | .ret .non, sc, .Return none _ => true
  | .ite c a b, sc, .If t x y _ => chkE I c sc t && (chkS I a sc x && chkS I b sc y)
  | .for t it b, sc, .For tg iter body [] _ => chkI I it sc tg iter && (chkTg I allS sc t tg && chkS I b sc body)
  | .while c b, sc, .While t body [] _ => chkE I c sc t && chkS I b sc body
  | .forC t enu o b, sc, .For tg iter body [] _ => (match enu, tg, iter with
    | false, _, y => chkE I o sc y
    | true, .Tuple _ _ _, .Call (.Name x _) (y :: []) [] _ => decide (x = ("enumerate" : Str)) && (glB sc x && chkE I o sc y)
    | _, _, _ => false) && (chkTg I allS sc t tg && chkS I b sc body)
  | .tryH b h, sc, .Try body hs [] [] _ => chkS I b sc body && (!hs.isEmpty && hnB I sc h hs)
  | .raise c _, sc, .Raise (some (.Call (.Name x _) (.Constant (.str _) _ _ :: []) [] _)) none _ => I.C c && gOk I sc c x
  | _, _, _ => false
def chkS (I : Info) : Sm → Scope → List Stmt → Bool
  | .skip, _, [] => true
  | .seq a b, sc, s :: ss => chkS1 I a sc s && chkS I b sc ss
  | _, _, _ => false
end
/-! ### the stores' order -/
theorem sw_none {ts vs : List Expr} {k k2 : Nat} {p p2 : Pos} {env : Env} (hk : env.scope.kind = .function) (hs : ∀ v ∈ vs, oddE v = false) (h : swN env.scope ts vs = true) : swappedStores [.Tuple ts k p] (.Tuple vs k2 p2) env = pure none := by
  have hb : env.blockKind = .function := by unfold Env.blockKind; rw [hk]; rfl
  have hst : (vs.any fun | .Starred .. => true | _ => false) = false := by
    rw [List.any_eq_false]
    intro v hv
    have := hs v hv
    cases v <;> first | (intro z; cases z; done) | (cases this)
  have en : (ts.filterMap fun | .Name id pos => if env.kindOf id == some .local && pos.line == (ts.head?.map (·.pos.line)).getD 0 then some id else none | _ => none) = swNames env.scope ts := rfl
  unfold swappedStores
  show (do
    if !(ts.length == 2 || ts.length == 3) || vs.length != ts.length || env.blockKind != .function then return none
    if vs.any fun | .Starred .. => true | _ => false then return none
    if (swNames env.scope ts).length != ts.length || (swNames env.scope ts).eraseDups.length != (swNames env.scope ts).length then return none
    if vs.all (foldedForSure 8) then return none
    if vs.all (constantsAlone 8) then unsupported "assign.tuple-of-constant-expressions:order-of-the-stores"
    return some (swNames env.scope ts) : Sem (Option (List Str))) = pure none
  rw [hb, hst]
  unfold swN at h
  cases h1 : (!(ts.length == 2 || ts.length == 3) || vs.length != ts.length) with
  | true => simp
  | false =>
    rw [h1] at h
    cases h2 : ((swNames env.scope ts).length != ts.length || (swNames env.scope ts).eraseDups.length != (swNames env.scope ts).length) with
    | true => simp
    | false =>
      rw [h2] at h
      have h3 : vs.all (foldedForSure 8) = true := h
      simp [h3]
theorem sw_some {ts vs : List Expr} {k k2 : Nat} {p p2 : Pos} {env : Env} (hk : env.scope.kind = .function) (hs : ∀ v ∈ vs, oddE v = false) (h : swN env.scope ts vs = false) (h2 : swS vs = true) : swappedStores [.Tuple ts k p] (.Tuple vs k2 p2) env = pure (some (swNames env.scope ts)) := by
  have hb : env.blockKind = .function := by unfold Env.blockKind; rw [hk]; rfl
  have hst : (vs.any fun | .Starred .. => true | _ => false) = false := by
    rw [List.any_eq_false]
    intro v hv
    have := hs v hv
    cases v <;> first | (intro z; cases z; done) | (cases this)
  unfold swappedStores
  show (do
    if !(ts.length == 2 || ts.length == 3) || vs.length != ts.length || env.blockKind != .function then return none
    if vs.any fun | .Starred .. => true | _ => false then return none
    if (swNames env.scope ts).length != ts.length || (swNames env.scope ts).eraseDups.length != (swNames env.scope ts).length then return none
    if vs.all (foldedForSure 8) then return none
    if vs.all (constantsAlone 8) then unsupported "assign.tuple-of-constant-expressions:order-of-the-stores"
    return some (swNames env.scope ts) : Sem (Option (List Str))) = pure (some (swNames env.scope ts))
  rw [hb, hst]
  unfold swN at h
  unfold swS at h2
  simp only [Bool.or_eq_false_iff] at h
  obtain ⟨h1, h3, h4⟩ := h
  have e1 : (!(ts.length == 2 || ts.length == 3) || vs.length != ts.length) = false := by rw [Bool.or_eq_false_iff]; exact h1
  have e2 : ((swNames env.scope ts).length != ts.length || (swNames env.scope ts).eraseDups.length != (swNames env.scope ts).length) = false := by rw [Bool.or_eq_false_iff]; exact h3
  have e3 : vs.all (constantsAlone 8) = false := by simpa using h2
  rw [e1, e2, h4, e3]
  rfl
theorem swW_false {v : Expr} (h : isLc v = false) (t : Option Expr) (l : Nat) (env : Env) : swapsWith v t l env = pure false := by
  cases v <;> first | rfl | (cases h)
theorem swB_false {v : Expr} {x : Str} {px : Pos} {l : Nat} {env : Env} (hk : env.scope.kind = .function) (hv : oddE v = false) (h : swB env.scope x px v = false) : swapsWith v (some (.Name x px)) l env = pure false := by
  cases q : isLc v with
  | false => exact swW_false q _ _ _
  | true =>
    cases v <;> first | (cases q; done) | (cases hv; done) | skip
    rename_i elt gs scope pos
    have hb : env.blockKind = .function := by unfold Env.blockKind; rw [hk]; rfl
    show (pure (env.blockKind == .function && env.kindOf x == some .local && px.line == pos.line && !(scope.names.any fun (n, k) => n == x && (k == .local || k == .cell))) : Sem Bool) = pure false
    unfold swB at h
    rw [hb]
    congr 1
    rw [Bool.and_assoc, Bool.and_assoc]
    show (true && _) = false
    rw [Bool.true_and, ← h]
    congr 1
    by_cases e : env.scope.names.lookup x = some .local
    · rw [decide_eq_true e]
      show (env.scope.names.lookup x == some .local) = true
      rw [e]; rfl
    · rw [decide_eq_false e]
      show (env.scope.names.lookup x == some .local) = false
      cases q : env.scope.names.lookup x with
      | none => rfl
      | some k => cases k <;> first | rfl | (exact absurd q e)
theorem swB_true {elt : Expr} {gs : List Comprehension} {scope : Scope} {pos px : Pos} {x : Str} {l : Nat} {env : Env} (hk : env.scope.kind = .function) (h : swB env.scope x px (.ListComp elt gs scope pos) = true) :
    env.scope.names.lookup x = some .local ∧ swapsWith (.ListComp elt gs scope pos) (some (.Name x px)) l env = pure true := by
  obtain ⟨h1, h⟩ := mem_bool h
  obtain ⟨h2, h3⟩ := mem_bool h
  exact ⟨of_decide_eq_true h1, sw_true hk (of_decide_eq_true h1) h2 (by simpa using h3)⟩
end Mi

end

section
set_option linter.all false
set_option maxRecDepth 100000
/-! Mi, part K: statements keep the promise. -/
namespace Mi
open PySem PySem.Spec PyProof.Rows L2

def Sub (ρ0 ρ : Env') : Prop := ρ0.length = ρ.length ∧ ∀ (i : Nat) (v : PV), ρ0[i]? = some (some v) → ρ[i]? = some (some v)
theorem Sub.set {ρ0 ρ : Env'} {i : Nat} {o : Option PV} (s : Sub ρ0 ρ) (h : ∀ v, ρ0[i]? ≠ some (some v)) : Sub ρ0 (ρ.set i o) := ⟨by rw [List.length_set]; exact s.1, fun j v e => by
  by_cases q : i = j
  · subst q; exact (h v e).elim
  · rw [List.getElem?_set_ne q]; exact s.2 j v e⟩
theorem Sub.tg : ∀ (t : Tg) (p : PV) (ρ ρ' ρ0 : Env'), setTg t p ρ = some ρ' → Sub ρ0 ρ → (∀ i ∈ t.slots, ∀ v, ρ0[i]? ≠ some (some v)) → Sub ρ0 ρ'
  | .nm i, p, ρ, ρ', ρ0, h, s, hn => by cases h; exact s.set (hn i (by simp [Tg.slots]))
  | .nil, p, ρ, ρ', ρ0, h, s, hn => by
    cases p <;> first | (simp [setTg] at h; done) | skip
    rename_i xs
    cases xs with
    | nil => cases h; exact s
    | cons _ _ => simp [setTg] at h
  | .cons t ts, p, ρ, ρ', ρ0, h, s, hn => by
    cases p <;> first | (simp [setTg] at h; done) | skip
    rename_i xs
    cases xs with
    | nil => simp [setTg] at h
    | cons x xs =>
      obtain ⟨ρ1, g1, g2⟩ := Option.bind_eq_some_iff.mp (show ((setTg t x ρ).bind fun ρ' => setTg ts (.tup xs) ρ') = some ρ' from h)
      exact Sub.tg ts (.tup xs) ρ1 ρ' ρ0 g2 (Sub.tg t x ρ ρ1 ρ0 g1 s fun i hi => hn i (by simp [Tg.slots, hi])) fun i hi => hn i (by simp [Tg.slots, hi])
theorem EnvR.sub {w : Wd} {H : Hp} {M : List Addr} {B : Addr → Prop} {ρ ρ0 : Env'} {σ : L2.St} (e : EnvR w H M B ρ σ) (s : Sub ρ0 ρ) : EnvR w H M B ρ0 σ := ⟨s.1.trans e.1, fun i v h => e.2 i v (s.2 i v h)⟩

/-- what follows a statement -/
def ResS (w : Wd) (B : Addr → Prop) (We : WeS) (ρ0 : Env') (H : Hp) (M : List Addr) (r : R Fl) (D : Ends) : Prop :=
  match r with
  | .ok (.nx ρ') st => ∀ σ' H' M', Kp H M H' M' → Cels w H' M' B st → EnvR w H' M' B ρ' σ' → Sub ρ0 ρ' → D.nx σ' H'
  | .ok (.rt v) st => ∀ u H' M', Kp H M H' M' → Cels w H' M' B st → Rel w H' M' B v u → D.rt u H'
  | .ex c st => ∀ σ' H' M', Kp H M H' M' → Cels w H' M' B st → EnvR w H' M' B ρ0 σ' → We σ' c st H' M'
  | .bad => False
section
variable {α β : Type} {w : Wd} {B : Addr → Prop} {rel : Rl α β} {We : WeS} {ρ ρ0 : Env'} {σ : L2.St} {H H' : Hp} {M M' : List Addr} {D D' : Ends}
theorem ResS.mono {r : R Fl} (h : ResS w B We ρ0 H M r D) (k : Kp H M H' M') : ResS w B We ρ0 H' M' r D := by
  cases r with
  | ok f st =>
    cases f with
    | nx ρ' => exact fun σ' H2 M2 k2 s e sb => h σ' H2 M2 (k.trans k2) s e sb
    | rt v => exact fun u H2 M2 k2 s e => h u H2 M2 (k.trans k2) s e
  | ex c st => exact fun σ' H2 M2 k2 s e => h σ' H2 M2 (k.trans k2) s e
  | bad => exact h.elim
theorem ResS.bind {r : R α} {f : α → Sto → R Fl} {Q : β → Hp → Prop} (h : ResS w B We ρ0 H M (r.bind f) D) (er : EnvR w H M B ρ σ) (sb : Sub ρ0 ρ)
    (g : ∀ a st v H' M', Kp H M H' M' → Cels w H' M' B st → rel H' M' a v → ResS w B We ρ0 H' M' (f a st) D → Q v H') : Res w B rel (We σ) H M r Q := by
  cases r with
  | ok a st => exact fun v H2 M2 k2 s q => g a st v H2 M2 k2 s q (ResS.mono (show ResS w B We ρ0 H M (f a st) D from h) k2)
  | ex c st => exact fun H2 M2 k2 s => h σ H2 M2 k2 s ((er.mono k2).sub sb)
  | bad => exact h
/-- the first of two statements -/
theorem ResS.seq {r : R Fl} {f : Fl → Sto → R Fl} (h : ResS w B We ρ0 H M (r.bind f) D)
    (hn : ∀ ρ' st σ' H' M', Kp H M H' M' → Cels w H' M' B st → EnvR w H' M' B ρ' σ' → Sub ρ0 ρ' → ResS w B We ρ0 H' M' (f (.nx ρ') st) D → D'.nx σ' H')
    (hr : ∀ v st, f (.rt v) st = .ok (.rt v) st) (hD : D'.rt = D.rt) : ResS w B We ρ0 H M r D' := by
  cases r with
  | ok fl st =>
    cases fl with
    | nx ρ' => exact fun σ' H2 M2 k2 s e sb => hn ρ' st σ' H2 M2 k2 s e sb (ResS.mono (show ResS w B We ρ0 H M (f (.nx ρ') st) D from h) k2)
    | rt v =>
      have h' : ResS w B We ρ0 H M (f (.rt v) st) D := h
      rw [hr] at h'
      intro u H2 M2 k2 s e
      rw [hD]
      exact h' u H2 M2 k2 s e
  | ex c st => exact h
  | bad => exact h
end

def EvS (X : Cx) (x : Stmt) : TS := fun D σ H => ∀ (pins : List (Addr × Obj)) (s : Shared), Inv X pins σ H s → wpAny (model X.prog X.w) X.A (exec x X.env) (SP X pins D) X.xe s
def EvSs (X : Cx) (x : List Stmt) : TS := fun D σ H => ∀ (pins : List (Addr × Obj)) (s : Shared), Inv X pins σ H s → wpAny (model X.prog X.w) X.A (execs x X.env) (SP X pins D) X.xe s
section
variable {X : Cx} {σ : L2.St} {H : Hp} {D : Ends}
theorem ps_ev {x : Stmt} : PS X x (EvS X x) := ⟨fun pins s _ _ _ I h => h pins s I⟩
theorem pss_ev {x : List Stmt} : PSs X x (EvSs X x) := ⟨fun pins s _ _ _ I h => h pins s I⟩
theorem evS_of {x : Stmt} {t : TS} (h : PS X x t) (q : t D σ H) : EvS X x D σ H := fun pins s I => h.run pins s σ H D I q
theorem evSs_of {x : List Stmt} {t : TS} (h : PSs X x t) (q : t D σ H) : EvSs X x D σ H := fun pins s I => h.run pins s σ H D I q
end

/-- a def's body, running -/
structure CtS (I : Info) (G : GlobF) (cf : CallF) (X : Cx) (We : WeS) : Prop where
  cx : Ctx I G cf X true We
  own : PassesOwn (model X.prog X.w) X.A X.env X.xe
  kind : X.env.scope.kind = .function
  exc : ∀ c, I.C c = true → ∃ a B newId initId bmB, X.mg (I.nm c) = some (.ref a) ∧ PySem.W.keepIn X.K (.ref a) = true ∧ Raises X (.ref a) ∧ ExcBaseFacts B newId initId bmB ∧ PySem.W.excIn X.K a bmB newId = true
  sub : ∀ c d b, G.S c d = some b → ∃ a k, X.mg (I.nm c) = some (.ref a) ∧ X.mg (I.nm d) = some (.ref k) ∧ PySem.W.exmOne X.K (.ref a) (.ref k) = some b ∧ PySem.W.kitOne X.K (.ref a) (.ref k) = some b ∧ ExcC X.K a
  stk : X.stack = X.env :: X.outer
  frm : X.env.frame = some X.env.locals
abbrev KcOk (I : Info) (cf : CallF) (X : Cx) (H : Hp) (M : List Addr) (B : Addr → Prop) : Prop :=
  I.tp = true → ∀ i, I.clo = some i → ∃ f M0 j, I.nm.clo = some f ∧ Room j X.A ∧ X.ex = [] ∧ Kp X.H_0 M0 H M ∧ CloAct X.prog X.w (wd X I.nm.o) X.base X.outer X.s_0 X.H_0 M0 B j f cf.clo
theorem KcOk.go {I : Info} {cf : CallF} {X : Cx} {H H' : Hp} {M M' : List Addr} {B : Addr → Prop} (p : KcOk I cf X H M B) (k : Kp H M H' M') : KcOk I cf X H' M' B :=
  fun ht i hi => let ⟨f, M0, j, e1, e2, e3, e4, e5⟩ := p ht i hi; ⟨f, M0, j, e1, e2, e3, e4.trans k, e5⟩
structure PtS (I : Info) (G : GlobF) (cf : CallF) (X : Cx) (We : WeS) (ρ0 : Env') (σ : L2.St) (ρ : Env') (H : Hp) (M : List Addr) (B : Addr → Prop) (st : Sto) : Prop where
  cs : CtS I G cf X We
  er : EnvR (wd X I.nm) H M B ρ σ
  cl : Cels (wd X I.nm) H M B st
  sb : Sub ρ0 ρ
  kc : KcOk I cf X H M B
section
variable {I : Info} {G : GlobF} {cf : CallF} {N : Nat}
theorem PtS.pt {X : Cx} {We : WeS} {ρ0 : Env'} {σ : L2.St} {ρ : Env'} {H : Hp} {M : List Addr} {B : Addr → Prop} {st : Sto} (p : PtS I G cf X We ρ0 σ ρ H M B st) : Pt I G cf X true We σ ρ H M B st := ⟨p.cs.cx, p.er, p.cl, p.kc⟩
structure SndS (I : Info) (G : GlobF) (cf : CallF) (N : Nat) (a : Sm) : Prop where
  S : ∀ {X : Cx} {We : WeS} {ρ0 : Env'} {σ : L2.St} {ρ : Env'} {H : Hp} {M : List Addr} {B : Addr → Prop} {st : Sto} {x : Stmt} {D : Ends}, PtS I G cf X We ρ0 σ ρ H M B st → chkS1 I.st a X.env.scope x = true → (∀ i ∈ a.asg, ∀ v, ρ0[i]? ≠ some (some v)) →
    ResS (wd X I.nm) B We ρ0 H M (evS G cf N a ρ st) D → EvS X x D σ H
  L : ∀ {X : Cx} {We : WeS} {ρ0 : Env'} {σ : L2.St} {ρ : Env'} {H : Hp} {M : List Addr} {B : Addr → Prop} {st : Sto} {xs : List Stmt} {D : Ends}, PtS I G cf X We ρ0 σ ρ H M B st → chkS I.st a X.env.scope xs = true → (∀ i ∈ a.asg, ∀ v, ρ0[i]? ≠ some (some v)) →
    ResS (wd X I.nm) B We ρ0 H M (evS G cf N a ρ st) D → EvSs X xs D σ H
theorem noL {a : Sm} {sc : Scope} {xs : List Stmt} (ha : (match a with | .skip => false | .seq .. => false | _ => true) = true) (h : chkS I.st a sc xs = true) : False := by
  cases a <;> first | (cases ha; done) | (cases xs <;> exact absurd h Bool.false_ne_true)
theorem noS {a : Sm} {sc : Scope} {x : Stmt} (ha : (match a with | .skip => true | .seq .. => true | _ => false) = true) (h : chkS1 I.st a sc x = true) : False := by
  cases a <;> first | (cases ha; done) | (cases x <;> exact absurd h Bool.false_ne_true)
theorem sd_skip : SndS I G cf N .skip where
  S := fun p h => (noS rfl h).elim
  L := fun {X We ρ0 σ ρ H M B st xs D} p h hn r => by
    cases xs with
    | cons _ _ => exact absurd h Bool.false_ne_true
    | nil => exact evSs_of pss_nil (r σ H M (.refl _ _) p.cl p.er p.sb)
theorem sd_seq (a b : Sm) (ha : SndS I G cf N a) (hb : SndS I G cf N b) : SndS I G cf N (.seq a b) where
  S := fun p h => (noS rfl h).elim
  L := fun {X We ρ0 σ ρ H M B st xs D} p h hn r => by
    cases xs with
    | nil => exact absurd h Bool.false_ne_true
    | cons x xs =>
      obtain ⟨h1, h2⟩ := mem_bool (show (chkS1 I.st a X.env.scope x && chkS I.st b X.env.scope xs) = true from h)
      refine evSs_of (pss_cons ps_ev pss_ev) (ha.S p h1 (fun i hi => hn i (by simp [Sm.asg, hi])) (ResS.seq (D := D) r (fun ρ' st1 σ1 H1 M1 k1 s1 e1 sb1 r1 => ?_) (fun v st => rfl) rfl))
      exact hb.L ⟨p.cs, e1, s1, sb1, p.kc.go k1⟩ h2 (fun i hi => hn i (by simp [Sm.asg, hi])) r1
theorem cell_resF {w : Wd} {B : Addr → Prop} {We : WeT} {H : Hp} {M : List Addr} {Q : VK} {e : Ex} {ρ : Env'} {st : Sto} (r : Res w B (RelR w B) We H M (evE G cf (.cell e) ρ st) Q) : ResF w B We H M (evE G cf e ρ st) Q := by
  have r' : Res w B (RelR w B) We H M ((evE G cf e ρ st).bind fun x st1 => match x with
    | .lst xs => if noCels xs then .ok (.cel st1.length) (st1 ++ [.lst xs]) else .bad
    | _ => .bad) Q := r
  cases e1 : evE G cf e ρ st with
  | ok v st1 =>
    rw [e1] at r'
    cases v <;> first | (exact r'.elim) | skip
    rename_i xs
    refine ⟨xs, rfl, fun p vs H' M' hp h2 n b k s rr => ?_⟩
    have r2 : Res w B (RelR w B) We H M (if noCels xs then .ok (.cel st1.length) (st1 ++ [.lst xs]) else .bad) Q := r'
    by_cases hn : noCels xs = true
    · rw [if_pos hn] at r2
      refine r2 (.ref p) H' (M' ++ [p]) (k.cell hp) (s.own h2 n b rr hn) (.cel ?_)
      rw [← s.len]
      simp
    · rw [if_neg hn] at r2; exact r2.elim
  | ex c st1 => rw [e1] at r'; exact r'
  | bad => rw [e1] at r'; exact r'.elim
theorem comp_isl {tg : Tg} {ow : List Nat} {it c e : Ex} {ρ : Env'} {st : Sto} {v : PV} {st' : Sto} (q : evE G cf (.comp tg ow it c e) ρ st = .ok v st') : ∃ xs, v = .lst xs := by
  rw [evE_comp] at q
  obtain ⟨xs, st1, _, q⟩ := bind_ok' q
  obtain ⟨ys, st2, _, q⟩ := bind_ok' q
  split at q
  · cases q; exact ⟨_, rfl⟩
  · cases q
theorem sd_set (i : Nat) (e : Ex) : SndS I G cf N (.set i e) where
  L := fun p h => (noL rfl h).elim
  S := fun {X We ρ0 σ ρ H M B st x D} p h hn r => by
    cases x <;> first | (exact absurd h Bool.false_ne_true) | skip
    rename_i ts v pos
    rcases ts with _ | ⟨t, _ | ⟨t2, ts⟩⟩
    · exact absurd h Bool.false_ne_true
    · cases t <;> first | (exact absurd h Bool.false_ne_true) | skip
      rename_i n np
      obtain ⟨h1, h⟩ := mem_bool (show (decide (I.N[i]? = some n) && (locB allS X.env.scope n && (chkE I.st e X.env.scope v && (!(swB X.env.scope n np v) || e.isComp)))) = true from h)
      obtain ⟨h2, h⟩ := mem_bool h
      obtain ⟨h3, h4⟩ := mem_bool h
      have cx := p.cs.cx
      obtain ⟨l1, l2⟩ := locB_of (top := allS) cx.calm cx.nd cx.N (fun x _ => cx.fn rfl x) h2
      have h1 : X.N[i]? = some n := by rw [cx.N]; exact of_decide_eq_true h1
      have r1 : Res (wd X I.nm) B (RelR (wd X I.nm) B) (We σ) H M (evE G cf e ρ st) (fun u H1 => D.nx (σ.set i (some u)) H1) :=
        ResS.bind r p.er p.sb fun a st1 u H1 M1 k1 s1 ru r1 => r1 _ H1 M1 (.refl _ _) s1 ((p.er.mono k1).set ru) (p.sb.set (hn i (by simp [Sm.asg])))
      cases q : swB X.env.scope n np v with
      | false => exact evS_of (ps_set cx.nd h1 l1 pe_ev (swB_false p.cs.kind (chk_odd h3) q) l2) ((snd e).E p.pt h3 r1)
      | true =>
        rw [q] at h4
        have h4 : e.isComp = true := h4
        have go : ∀ {tg : Tg} {ow : List Nat} {it c e' : Ex}, chkE I.st (.comp tg ow it c e') X.env.scope v = true → ResF (wd X I.nm) B (We σ) H M (evE G cf (.comp tg ow it c e') ρ st) (fun u H1 => D.nx (σ.set i (some u)) H1) → EvS X (.Assign [.Name n np] v pos) D σ H := fun {tg ow it c e'} hc hr => by
          obtain ⟨elt, t, iter, ifs, scope, cpos, rfl, k⟩ := comp_is hc
          obtain ⟨w1, w2⟩ := swB_true p.cs.kind q
          refine evS_of (ps_setLc cx.calm cx.nd h1 w1 w2 pi_ev (blkOk_by (by rw [cx.N]; exact k.blk)) (comp_pg cx k) comp_pts comp_pe (folded_of (chkI_odd k.it) _)) ?_
          rw [own_ix]
          exact comp_tlc (snd _) (snd _) (snd _) p.pt k hr
        cases e with
        | cell e1 =>
          have h4 : e1.isCp = true := h4
          cases e1 <;> first | (cases h4; done) | skip
          exact go (mem_bool (show (freshE _ && chkE I.st _ X.env.scope v) = true from h3)).2 (cell_resF r1)
        | comp tg ow it c e' => exact go h3 (ResF.of r1 fun v st' z => comp_isl z)
        | _ => cases h4
    · cases t <;> exact absurd h Bool.false_ne_true
theorem sd_ret (e : Ex) : SndS I G cf N (.ret e) where
  L := fun p h => (noL rfl h).elim
  S := fun {X We ρ0 σ ρ H M B st x D} p h hn r => by
    cases x <;> first | (cases e <;> exact absurd h Bool.false_ne_true) | skip
    rename_i v pos
    cases v with
    | some v =>
      have h : chkE I.st e X.env.scope v = true := by cases e <;> exact h
      exact evS_of (ps_ret pe_ev) ((snd e).E p.pt h (ResS.bind r p.er p.sb fun a st1 u H1 M1 k1 s1 ru r1 => r1 u H1 M1 (.refl _ _) s1 ru))
    | none =>
      cases e <;> first | (exact absurd h Bool.false_ne_true) | skip
      exact evS_of ps_retN (r .non H M (.refl _ _) p.cl .non)
theorem sd_drop (e : Ex) : SndS I G cf N (.drop e) where
  L := fun p h => (noL rfl h).elim
  S := fun {X We ρ0 σ ρ H M B st x D} p h hn r => by
    cases x <;> first | (exact absurd h Bool.false_ne_true) | skip
    rename_i v pos
    obtain ⟨h1, h2⟩ := mem_bool (show (!(isLc v) && chkE I.st e X.env.scope v) = true from h)
    exact evS_of (ps_expr pe_ev (swW_false (by simpa using h1) _ _ _)) ((snd e).E p.pt h2 (ResS.bind r p.er p.sb fun a st1 u H1 M1 k1 s1 ru r1 => r1 σ H1 M1 (.refl _ _) s1 (p.er.mono k1) p.sb))
theorem sd_ite (c : Ex) (a b : Sm) (ha : SndS I G cf N a) (hb : SndS I G cf N b) : SndS I G cf N (.ite c a b) where
  L := fun p h => (noL rfl h).elim
  S := fun {X We ρ0 σ ρ H M B st x D} p h hn r => by
    cases x <;> first | (exact absurd h Bool.false_ne_true) | skip
    rename_i t xs ys pos
    obtain ⟨h1, h⟩ := mem_bool (show (chkE I.st c X.env.scope t && (chkS I.st a X.env.scope xs && chkS I.st b X.env.scope ys)) = true from h)
    obtain ⟨h2, h3⟩ := mem_bool h
    refine evS_of (ps_if pt_ev pss_ev pss_ev) ((snd c).T p.pt h1 (ResS.bind r p.er p.sb fun d st1 d' H1 M1 k1 s1 e1 r1 => ?_))
    subst e1
    cases d' with
    | true => exact ha.L ⟨p.cs, p.er.mono k1, s1, p.sb, p.kc.go k1⟩ h2 (fun i hi => hn i (by simp [Sm.asg, hi])) r1
    | false => exact hb.L ⟨p.cs, p.er.mono k1, s1, p.sb, p.kc.go k1⟩ h3 (fun i hi => hn i (by simp [Sm.asg, hi])) r1
theorem sd_raise (c : Nat) (m : Str) : SndS I G cf N (.raise c m) where
  L := fun p h => (noL rfl h).elim
  S := fun {X We ρ0 σ ρ H M B st x D} p h hn r => by
    cases x <;> first | (exact absurd h Bool.false_ne_true) | skip
    rename_i exc cause pos
    cases exc with
    | none => exact absurd h Bool.false_ne_true
    | some exc =>
      cases exc <;> first | (exact absurd h Bool.false_ne_true) | skip
      rename_i fn es kw cpos
      cases fn <;> first | (exact absurd h Bool.false_ne_true) | skip
      rename_i n np
      rcases es with _ | ⟨y, _ | ⟨z, es⟩⟩
      · exact absurd h Bool.false_ne_true
      · cases y <;> first | (exact absurd h Bool.false_ne_true) | skip
        rename_i k j kp
        cases k <;> first | (exact absurd h Bool.false_ne_true) | skip
        rename_i txt
        cases kw with
        | cons _ _ => exact absurd h Bool.false_ne_true
        | nil =>
          cases cause with
          | some _ => exact absurd h Bool.false_ne_true
          | none =>
            obtain ⟨h0, h1⟩ := mem_bool (show (I.C c && (decide (I.nm c = n) && (glB X.env.scope n && nodbg n))) = true from h)
            obtain ⟨h1, h2⟩ := mem_bool h1
            obtain ⟨h2, h3⟩ := mem_bool h2
            obtain ⟨a, B1, newId, initId, bmB, m1, m2, m3, F, q⟩ := p.cs.exc c h0
            have m1' := m1
            rw [of_decide_eq_true h1] at m1
            refine evS_of (ps_raise p.cs.cx.calm p.cs.cx.takes (pmk_own F q m1 m2 m3 (gl_of h2) (nodbg_of h3))) ?_
            exact ⟨c, st, M, a, rfl, rfl, m1', r σ H M (.refl _ _) p.cl (p.er.sub p.sb)⟩
      · cases y <;> first | (exact absurd h Bool.false_ne_true) | (rename_i k j kp; cases k <;> exact absurd h Bool.false_ne_true)

theorem sd_for (t : Tg) (it : Ex) (b : Sm) (hb : SndS I G cf N b) : SndS I G cf N (.for t it b) where
  L := fun p h => (noL rfl h).elim
  S := fun {X We ρ0 σ ρ H M B st x D} p h hn r => by
    cases x <;> first | (exact absurd h Bool.false_ne_true) | skip
    rename_i tg iter body els pos
    cases els with
    | cons _ _ => exact absurd h Bool.false_ne_true
    | nil =>
      obtain ⟨h1, h⟩ := mem_bool (show (chkI I.st it X.env.scope tg iter && (chkTg I.st allS X.env.scope t tg && chkS I.st b X.env.scope body)) = true from h)
      obtain ⟨h2, h3⟩ := mem_bool h
      have cx := p.cs.cx
      have hnt : ∀ i ∈ t.slots, ∀ v, ρ0[i]? ≠ some (some v) := fun i hi => hn i (by simp [Sm.asg, hi])
      have hnb : ∀ i ∈ b.asg, ∀ v, ρ0[i]? ≠ some (some v) := fun i hi => hn i (by simp [Sm.asg, hi])
      refine evS_of (ps_for p.cs.own cx.calm pi_ev (pg_of (I := I.st) (top := allS) cx.calm cx.nd cx.N (fun x _ => cx.fn rfl x) t tg h2) pss_ev (folded_of (chkI_odd h1) _)) ((snd it).W p.pt h1 (ResS.bind r p.er p.sb fun xs st1 J H1 M1 k1 s1 ir r1 => ?_))
      have hB : ∀ a, B a → B a ∨ H1 a = none := fun a z => .inl z
      have walk : L2.Walk J xs.length (fun H => ∃ M, Kp H1 M1 H M ∧ ∀ a, a ∈ M → H a ≠ none) (fun i H x H' => J.yld i H x H') :=
        ⟨fun i H hi ⟨M, k, hm⟩ => (ir H M B k.toB hm hB).1 i hi, fun H ⟨M, k, hm⟩ => (ir H M B k.toB hm hB).2.1, fun i H x H' _ _ y => y⟩
      refine for_it walk (fun i σ' H' => ∃ M' st' ρ', Kp H1 M1 H' M' ∧ Cels (wd X I.nm) H' M' B st' ∧ EnvR (wd X I.nm) H' M' B ρ' σ' ∧ Sub ρ0 ρ' ∧
        ResS (wd X I.nm) B We ρ0 H' M' (forR (fun x ρ st => match setTg t x ρ with
          | none => .bad
          | some ρ' => evS G cf N b ρ' st) (xs.drop i) ρ' st') D) ⟨M1, st1, ρ, .refl _ _, s1, p.er.mono k1, p.sb, r1⟩ ?_ ?_ ?_
      · rintro i σ' H' hi ⟨M', st', ρ', k', s', _⟩
        exact ⟨M', k', fun a ha => s'.mem ha⟩
      · rintro i u σ' H2 H3 hi ⟨M', st', ρ', k', s', e', sb', r'⟩ hy
        obtain ⟨pv, ep, hh, rp⟩ := (ir H2 M' B k'.toB (fun a ha => s'.mem ha) hB).2.2 i u H3 hi hy
        have hd : xs.drop i = pv :: xs.drop (i + 1) := by
          obtain ⟨hl, e1⟩ := List.getElem?_eq_some_iff.mp ep
          rw [List.drop_eq_getElem_cons hl, e1]
        rw [hd] at r'
        have st3 : Kp H2 M' H3 M' ∧ Cels (wd X I.nm) H3 M' B st' := by
          rcases hh with rfl | ⟨T, o, hT, rfl⟩
          · exact ⟨.refl _ _, s'⟩
          · exact ⟨.new hT, s'.new hT⟩
        obtain ⟨k3, s3⟩ := st3
        have r2 : ResS (wd X I.nm) B We ρ0 H3 M' ((match setTg t pv ρ' with
          | none => R.bad
          | some ρ' => evS G cf N b ρ' st').bind fun fl st1 => match fl with
            | .nx ρ' => forR (fun x ρ st => match setTg t x ρ with
              | none => .bad
              | some ρ' => evS G cf N b ρ' st) (xs.drop (i + 1)) ρ' st1
            | .rt v => .ok (.rt v) st1) D := ResS.mono r' k3
        cases es : setTg t pv ρ' with
        | none => rw [es] at r2; exact r2.elim
        | some ρ2 =>
          rw [es] at r2
          refine setTg_g t pv u ρ' ρ2 σ' _ (chkTg_wf t tg h2) es (e'.mono k3) rp fun σ2 env2 sl => ?_
          refine hb.L ⟨p.cs, env2, s3, Sub.tg t pv ρ' ρ2 ρ0 es sb' hnt, (p.kc.go (k1.trans k')).go k3⟩ h3 hnb (ResS.seq r2 (fun ρ4 st4 σ4 H4 M4 k4 s4 e4 sb4 r4 => ?_) (fun v st => rfl) rfl)
          exact ⟨M4, st4, ρ4, (k'.trans k3).trans k4, s4, e4, sb4, r4⟩
      · rintro σ' H' ⟨M', st', ρ', k', s', e', sb', r'⟩
        rw [List.drop_length] at r'
        exact r' σ' H' M' (.refl _ _) s' e' sb'
theorem sd_while (c : Ex) (b : Sm) (hb : SndS I G cf N b) : SndS I G cf N (.while c b) where
  L := fun p h => (noL rfl h).elim
  S := fun {X We ρ0 σ ρ H M B st x D} p h hn r => by
    cases x <;> first | (exact absurd h Bool.false_ne_true) | skip
    rename_i t body els pos
    cases els with
    | cons _ _ => exact absurd h Bool.false_ne_true
    | nil =>
      obtain ⟨h1, h2⟩ := mem_bool (show (chkE I.st c X.env.scope t && chkS I.st b X.env.scope body) = true from h)
      refine evS_of (ps_while p.cs.own pt_ev pss_ev) ?_
      refine ⟨fun m σ' H' => ∃ M' st' ρ', Kp H M H' M' ∧ Cels (wd X I.nm) H' M' B st' ∧ EnvR (wd X I.nm) H' M' B ρ' σ' ∧ Sub ρ0 ρ' ∧
        ResS (wd X I.nm) B We ρ0 H' M' (whR (fun ρ st => tstR false (evE G cf c ρ) st) (fun ρ st => evS G cf N b ρ st) m ρ' st') D, ⟨N, M, st, ρ, .refl _ _, p.cl, p.er, p.sb, r⟩, ?_⟩
      rintro m σ' H' ⟨M', st', ρ', k', s', e', sb', r'⟩
      cases m with
      | zero => exact r'.elim
      | succ m =>
        have r2 : ResS (wd X I.nm) B We ρ0 H' M' ((tstR false (evE G cf c ρ') st').bind fun d st1 => if d then (evS G cf N b ρ' st1).bind fun fl st2 => (match fl with
          | .nx ρ' => whR (fun ρ st => tstR false (evE G cf c ρ) st) (fun ρ st => evS G cf N b ρ st) m ρ' st2
          | .rt v => .ok (.rt v) st2) else .ok (.nx ρ') st1) D := r'
        have pt : Pt I G cf X true We σ' ρ' H' M' B st' := ⟨p.cs.cx, e', s', p.kc.go k'⟩
        refine (snd c).T pt h1 (ResS.bind r2 e' sb' fun d st1 d' H1 M1 k1 s1 e1 r3 => ?_)
        subst e1
        cases d' with
        | false => exact r3 σ' H1 M1 (.refl _ _) s1 (e'.mono k1) sb'
        | true =>
          rw [if_pos rfl]
          refine ⟨_, fun σ2 H2 z => ⟨m, Nat.lt_succ_self _, z⟩, ?_⟩
          refine hb.L ⟨p.cs, e'.mono k1, s1, sb', (p.kc.go k').go k1⟩ h2 (fun i hi => hn i (by simp [Sm.asg, hi])) (ResS.seq (show ResS _ _ _ _ _ _ ((evS G cf N b ρ' st1).bind _) _ from r3) (fun ρ4 st4 σ4 H4 M4 k4 s4 e4 sb4 r4 => ?_) (fun v st => rfl) rfl)
          exact ⟨M4, st4, ρ4, (k'.trans k1).trans k4, s4, e4, sb4, r4⟩
theorem noCels_set : ∀ {xs : List PV} {j : Nat} {v : PV}, noCels xs = true → v.noCel = true → noCels (xs.set j v) = true
  | [], _, _, _, _ => rfl
  | x :: xs, 0, v, h, hv => by
    obtain ⟨h1, h2⟩ := mem_bool (show (x.noCel && noCels xs) = true from h)
    show (v.noCel && noCels xs) = true
    rw [hv, h2]; rfl
  | x :: xs, j + 1, v, h, hv => by
    obtain ⟨h1, h2⟩ := mem_bool (show (x.noCel && noCels xs) = true from h)
    show (x.noCel && noCels (xs.set j v)) = true
    rw [h1, noCels_set h2 hv]; rfl
theorem noCels_snoc : ∀ {xs : List PV} {v : PV}, noCels xs = true → v.noCel = true → noCels (xs ++ [v]) = true
  | [], v, _, hv => by
    show (v.noCel && true) = true
    rw [hv]; rfl
  | x :: xs, v, h, hv => by
    obtain ⟨h1, h2⟩ := mem_bool (show (x.noCel && noCels xs) = true from h)
    show (x.noCel && noCels (xs ++ [v])) = true
    rw [h1, noCels_snoc h2 hv]; rfl
theorem sd_put (o i e : Ex) : SndS I G cf N (.put o i e) where
  L := fun p h => (noL rfl h).elim
  S := fun {X We ρ0 σ ρ H M B st x D} p h hn r => by
    cases x <;> first | (exact absurd h Bool.false_ne_true) | skip
    rename_i ts v pos
    rcases ts with _ | ⟨t, _ | ⟨t2, ts⟩⟩
    · exact absurd h Bool.false_ne_true
    · cases t <;> first | (exact absurd h Bool.false_ne_true) | skip
      rename_i a b spos
      obtain ⟨h1, h⟩ := mem_bool (show (chkE I.st o X.env.scope a && (chkE I.st i X.env.scope b && chkE I.st e X.env.scope v)) = true from h)
      obtain ⟨h2, h3⟩ := mem_bool h
      have ho := chk_odd h2
      refine evS_of (ps_asg pe_ev (pg_sub pe_ev pe_ev set_list (by cases b <;> first | (intro _; rfl) | (cases ho; done))) (by cases v <;> rfl) (by cases v <;> rfl) rfl) ?_
      refine (snd e).E p.pt h3 (ResS.bind r p.er p.sb fun x st1 u H1 M1 k1 s1 ru r1 => ?_)
      have p1 := p.pt.go k1 s1
      refine (snd o).E p1 h1 (ResS.bind r1 p1.er p.sb fun y st2 w H2 M2 k2 s2 rw' r2 => ?_)
      have p2 := p1.go k2 s2
      refine (snd i).E p2 h2 (ResS.bind r2 p2.er p.sb fun z st3 q H3 M3 k3 s3 rq r3 => ?_)
      have ry := rw'.mono k3
      have rx := (ru.mono k2).mono k3
      have r3 : ResS (wd X I.nm) B We ρ0 H3 M3 (R.sto ρ (putV st3 y z x)) D := r3
      cases e1 : putV st3 y z x with
      | none => rw [e1] at r3; exact r3.elim
      | some st4 =>
        rw [e1] at r3
        unfold putV at e1
        split at e1
        · rename_i n k
          split at e1
          · rename_i xs hx
            split at e1
            · rename_i hc
              obtain ⟨j, hj, e2⟩ := Option.map_eq_some_iff.mp e1
              subst e2
              cases ry with
              | cel hm =>
                cases rq
                obtain ⟨vs, hv, rr⟩ := s3.get hm hx
                refine ⟨_, vs, k, j, rfl, rfl, hv, by rw [← rr.length]; exact hj, ?_⟩
                have kk : Kp H3 M3 (upd H3 _ (.lst (vs.set j u))) M3 := .cset (List.mem_of_getElem? hm) hv trivial
                exact r3 σ _ M3 kk (s3.cset hm (rr.set j rx) (noCels_set (s3.nc _ _ hx) hc)) (((p2.go k3 s3).er).mono kk) p.sb
            · cases e1
          · cases e1
        · cases e1
    · cases t <;> exact absurd h Bool.false_ne_true
theorem sd_app (o e : Ex) : SndS I G cf N (.app o e) where
  L := fun p h => (noL rfl h).elim
  S := fun {X We ρ0 σ ρ H M B st x D} p h hn r => by
    cases x <;> first | (exact absurd h Bool.false_ne_true) | skip
    rename_i c pos
    cases c <;> first | (exact absurd h Bool.false_ne_true) | skip
    rename_i fn es kw cpos
    cases fn <;> first | (exact absurd h Bool.false_ne_true) | skip
    rename_i b n apos
    cases b <;> first | (exact absurd h Bool.false_ne_true) | skip
    rename_i bn bp
    rcases es with _ | ⟨y, _ | ⟨y2, es⟩⟩ <;> rcases kw with _ | ⟨_, _⟩ <;> first | (exact absurd h Bool.false_ne_true) | skip
    obtain ⟨h0, h⟩ := mem_bool (show (decide (n = ("append" : Str)) && ((apos.endLine == cpos.line) && (chkE I.st o X.env.scope (.Name bn bp) && chkE I.st e X.env.scope y))) = true from h)
    obtain ⟨h1, h⟩ := mem_bool h
    obtain ⟨h2, h3⟩ := mem_bool h
    have hnm := of_decide_eq_true h0
    subst hnm
    have hst : starEach [y] X.env = (false, eval y X.env) :: starEach [] X.env := star_of (chk_odd h3) _
    refine evS_of (ps_expr (pe_bm PySem.F.plainAttrs_list PySem.F.slot_list_append PySem.F.type_list_append mt_append pe_ev pa_ev rfl (by rw [hst]; rfl) h1 hst rfl) rfl) ?_
    refine (snd o).E p.pt h2 (ResS.bind r p.er p.sb fun yv st1 u H1 M1 k1 s1 ru r1 => ?_)
    cases yv <;> first | (exact r1.elim) | skip
    rename_i m
    have r0 : ResS (wd X I.nm) B We ρ0 H1 M1 (if (asL st1 (.cel m)).isSome then (evE G cf e ρ st1).bind fun x st2 => R.sto ρ (appV st2 (.cel m) x) else .bad) D := r1
    cases hq : (asL st1 (.cel m)).isSome with
    | false => rw [hq] at r0; exact r0.elim
    | true => 
    rw [hq] at r0
    have r1 : ResS (wd X I.nm) B We ρ0 H1 M1 ((evE G cf e ρ st1).bind fun x st2 => R.sto ρ (appV st2 (.cel m) x)) D := r0
    obtain ⟨xs0, ex0⟩ := Option.isSome_iff_exists.mp hq
    obtain ⟨a0, vs0, ea0, hl0, _⟩ := asL_rel s1 ru ex0
    have p1 := p.pt.go k1 s1
    cases ru with
    | cel hm =>
      rename_i a
      refine ⟨.inl ⟨rfl, ?_⟩, ?_⟩
      · cases ea0
        exact ⟨vs0, .inl (.inl hl0)⟩
      · refine evA1 (chk_odd h3) ((snd e).E p1 h3 (ResS.bind r1 p1.er p.sb fun xv st2 w H2 M2 k2 s2 rx r2 => ?_))
        cases e1 : appV st2 (.cel m) xv with
        | none => rw [e1] at r2; exact r2.elim
        | some st4 =>
          rw [e1] at r2
          unfold appV at e1
          dsimp only at e1
          split at e1
          · rename_i xs hx
            split at e1
            · rename_i hc
              cases e1
              have hm2 := k2.m _ _ hm
              obtain ⟨vs, hv, rr⟩ := s2.get hm2 hx
              obtain ⟨c1, c2⟩ := mem_bool hc
              refine ⟨_, vs, w, rfl, rfl, hv, ?_, ?_⟩
              · rw [← rr.length]; exact Nat.lt_of_lt_of_le (of_decide_eq_true c2) line_big
              · have kk : Kp H2 M2 (upd H2 a (.lst (vs ++ [w]))) M2 := .cset (List.mem_of_getElem? hm2) hv trivial
                exact r2 σ _ M2 kk (s2.cset hm2 (rr.append (.cons rx .nil)) (noCels_snoc (s2.nc _ _ hx) c1)) (((p1.go k2 s2).er).mono kk) p.sb
            · cases e1
          · cases e1
    

theorem sd_fput (c : Nat) (f : Str) (o e : Ex) : SndS I G cf N (.fput c f o e) where
  L := fun p h => (noL rfl h).elim
  S := fun {X We ρ0 σ ρ H M B st x D} p h hn r => by
    cases x <;> first | (exact absurd h Bool.false_ne_true) | skip
    rename_i ts v pos
    rcases ts with _ | ⟨t, _ | ⟨t2, ts⟩⟩
    · exact absurd h Bool.false_ne_true
    · cases t <;> first | (exact absurd h Bool.false_ne_true) | skip
      rename_i a m apos
      obtain ⟨h0, h⟩ := mem_bool (show (decide (f = m) && (I.A c m && (!(isLc v) && (chkE I.st o X.env.scope a && chkE I.st e X.env.scope v)))) = true from h)
      obtain ⟨h1, h⟩ := mem_bool h
      obtain ⟨h2, h⟩ := mem_bool h
      obtain ⟨h3, h4⟩ := mem_bool h
      have e0 := of_decide_eq_true h0
      subst e0
      obtain ⟨C, hC, hcl, hna⟩ := p.cs.cx.flds c f h1
      refine evS_of (ps_fld pe_ev pe_ev (by cases v <;> first | rfl | (cases h2; done))) ?_
      refine (snd e).E p.pt h4 (ResS.bind r p.er p.sb fun x st1 u H1 M1 k1 s1 ru r1 => ?_)
      have p1 := p.pt.go k1 s1
      refine (snd o).E p1 h3 (ResS.bind r1 p1.er p.sb fun y st2 w H2 M2 k2 s2 rw' r2 => ?_)
      have p2 := p1.go k2 s2
      have r2 : ResS (wd X I.nm) B We ρ0 H2 M2 (R.sto ρ (fputV st2 c f y x)) D := r2
      cases e1 : fputV st2 c f y x with
      | none => rw [e1] at r2; exact r2.elim
      | some st4 =>
        rw [e1] at r2
        cases y <;> first | (cases e1; done) | skip
        rename_i n
        unfold fputV at e1
        dsimp only at e1
        split at e1
        · rename_i d fs hx
          split at e1
          · rename_i hc
            obtain ⟨hd, hv, hz⟩ := hc
            subst hd
            cases e1
            obtain ⟨n2, ad, fs2, dx, gs, g1, rfl, g3, g4, g5, g6, g7⟩ := p2.ins rw' (by show (match st2[n]? with | some (.ins d' _) => decide (d' = d) | _ => false) = true; rw [hx]; simp) hC
            cases g1
            rw [hx] at g4
            cases g4
            have hl : gs.length = fs.length := by have := congrArg List.length g6; simpa using this
            refine ⟨ad, C, dx, gs, rfl, g5, hcl, hna, by omega, ?_⟩
            have kk : Kp H2 M2 (upd H2 ad (.ins C dx (putF f u gs))) M2 := .cset (List.mem_of_getElem? g3) g5 trivial
            have s3 := s2.csetC (cc := .ins d (putP f x fs)) (o := .ins C dx (putF f u gs)) (vs := List.map Prod.snd (putF f u gs)) g3 ⟨C, dx, putF f u gs, hC, rfl, putF_keys g6, rfl⟩ (putF_rels (ru.mono k2) g6 g7) (noClos_put hv (s2.nc _ _ hx))
            exact r2 σ _ M2 kk s3 (p2.er.mono kk) p.sb
          · cases e1
        · cases e1
    · cases t <;> exact absurd h Bool.false_ne_true
theorem sd_bot : SndS I G cf N .bot where
  L := fun p h => (noL rfl h).elim
  S := fun p h hn r => r.elim
theorem chkA_odd {sc : Scope} : ∀ (as : Ex) (xs : List Expr), chkA I.st as sc xs = true → ∀ v ∈ xs, oddE v = false := by
  intro as
  induction as with
  | nil =>
    intro xs h
    cases xs with
    | nil => intro v hv; cases hv
    | cons _ _ => exact absurd h Bool.false_ne_true
  | cons a as iha ih =>
    intro xs h
    cases xs with
    | nil => exact absurd h Bool.false_ne_true
    | cons x xs =>
      obtain ⟨h1, h2⟩ := mem_bool (show (chkE I.st a sc x && chkA I.st as sc xs) = true from h)
      intro v hv
      rcases List.mem_cons.mp hv with rfl | hv
      · exact chk_odd h1
      · exact ih xs h2 v hv
  | _ => intro xs h; exact (noA rfl h).elim
theorem par_is {sc : Scope} {t : Tg} {e : Ex} {ts : List Expr} (h : parT sc t e ts = true) :
    (∃ i j as x px y py, t = .cons (.nm i) (.cons (.nm j) .nil) ∧ e = .tup as ∧ ts = [.Name x px, .Name y py] ∧ i ≠ j ∧ sc.names.lookup x = some .local ∧ sc.names.lookup y = some .local ∧ swNames sc ts = [x, y]) ∨
    (∃ i j k as x px y py z pz, t = .cons (.nm i) (.cons (.nm j) (.cons (.nm k) .nil)) ∧ e = .tup as ∧ ts = [.Name x px, .Name y py, .Name z pz] ∧ i ≠ j ∧ i ≠ k ∧ j ≠ k ∧ sc.names.lookup x = some .local ∧ sc.names.lookup y = some .local ∧ sc.names.lookup z = some .local ∧ swNames sc ts = [x, y, z]) := by
  unfold parT at h
  split at h
  · obtain ⟨h1, h⟩ := mem_bool h
    obtain ⟨h2, h⟩ := mem_bool h
    obtain ⟨h3, h4⟩ := mem_bool h
    exact .inl ⟨_, _, _, _, _, _, _, rfl, rfl, rfl, of_decide_eq_true h1, of_decide_eq_true h2, of_decide_eq_true h3, of_decide_eq_true h4⟩
  · obtain ⟨h1, h⟩ := mem_bool h
    obtain ⟨h2, h⟩ := mem_bool h
    obtain ⟨h3, h⟩ := mem_bool h
    obtain ⟨h4, h⟩ := mem_bool h
    obtain ⟨h5, h⟩ := mem_bool h
    obtain ⟨h6, h7⟩ := mem_bool h
    exact .inr ⟨_, _, _, _, _, _, _, _, _, _, rfl, rfl, rfl, of_decide_eq_true h1, of_decide_eq_true h2, of_decide_eq_true h3, of_decide_eq_true h4, of_decide_eq_true h5, of_decide_eq_true h6, of_decide_eq_true h7⟩
  · cases h
theorem chk_tup_odd {sc : Scope} {vs : List Expr} {k : Nat} {p : Pos} (e : Ex) (h : chkE I.st e sc (.Tuple vs k p) = true) : ∀ v ∈ vs, oddE v = false := by
  induction e with
  | tup as _ => exact chkA_odd as vs (mem_bool (show (decide (vs.length ≤ 1000) && chkA I.st as sc vs) = true from h)).2
  | cell e ih => exact ih (mem_bool (show (freshE e && chkE I.st e sc (.Tuple vs k p)) = true from h)).2
  | _ => exact absurd h Bool.false_ne_true
theorem sd_setT (t : Tg) (e : Ex) : SndS I G cf N (.setT t e) where
  L := fun p h => (noL rfl h).elim
  S := fun {X We ρ0 σ ρ H M B st x D} p h hn r => by
    cases x <;> first | (exact absurd h Bool.false_ne_true) | skip
    rename_i tss v pos
    rcases tss with _ | ⟨tg, _ | ⟨t2, tss⟩⟩
    · exact absurd h Bool.false_ne_true
    · cases tg <;> first | (exact absurd h Bool.false_ne_true) | skip
      rename_i ts k tpos
      obtain ⟨h1, h⟩ := mem_bool (show (chkTg I.st allS X.env.scope t (.Tuple ts k tpos) && (chkE I.st e X.env.scope v && styleB X.env.scope t e ts v)) = true from h)
      obtain ⟨h2, h3⟩ := mem_bool h
      have cx := p.cs.cx
      have left : swappedStores [.Tuple ts k tpos] v X.env = pure none → swapsWithSole [.Tuple ts k tpos] v pos.line X.env = pure false → EvS X (.Assign [.Tuple ts k tpos] v pos) D σ H := fun hw hs => by
        refine evS_of (ps_asg pe_ev (pg_of (I := I.st) (top := allS) cx.calm cx.nd cx.N (fun x _ => cx.fn rfl x) t _ h1) hs hw rfl) ((snd e).E p.pt h2 (ResS.bind r p.er p.sb fun a st1 u H1 M1 k1 s1 ru r1 => ?_))
        have r1 : ResS (wd X I.nm) B We ρ0 H1 M1 (R.lift ((setTg t a ρ).map .nx) st1) D := r1
        cases es : setTg t a ρ with
        | none => rw [es] at r1; exact r1.elim
        | some ρ' =>
          rw [es] at r1
          exact setTg_g t a u ρ ρ' σ D.nx (chkTg_wf t _ h1) es (p.er.mono k1) ru fun σ' e' _ => r1 σ' H1 M1 (.refl _ _) s1 e' (Sub.tg t a ρ ρ' ρ0 es p.sb hn)
      have hsw : isLc v = true ∨ isLc v = false := by cases isLc v <;> simp
      have sole : swapsWithSole [.Tuple ts k tpos] v pos.line X.env = pure false := by cases v <;> rfl
      by_cases hv : ∃ vs k2 p2, v = .Tuple vs k2 p2
      · obtain ⟨vs, k2, p2, rfl⟩ := hv
        have odd : ∀ v ∈ vs, oddE v = false := chk_tup_odd e h2
        have h3 : (swN X.env.scope ts vs || (swS vs && parT X.env.scope t e ts)) = true := h3
        cases q : swN X.env.scope ts vs with
        | true => exact left (sw_none p.cs.kind odd q) sole
        | false =>
          rw [q] at h3
          obtain ⟨h3, h4⟩ := mem_bool (show (swS vs && parT X.env.scope t e ts) = true from h3)
          have hw := sw_some (k := k) (k2 := k2) (p := tpos) (p2 := p2) p.cs.kind odd q h3
          have hlen : vs.length = ts.length := by
            unfold swN at q
            simp only [Bool.or_eq_false_iff] at q
            simpa using q.1.2
          rcases par_is h4 with ⟨i, j, as, x, px, y, py, rfl, rfl, rfl, hij, hx, hy, hs⟩ | ⟨i, j, l, as, x, px, y, py, z, pz, rfl, rfl, rfl, hij, hil, hjl, hx, hy, hz, hs⟩
          · rw [hs] at hw
            rcases vs with _ | ⟨a, _ | ⟨b, _ | ⟨c, vs⟩⟩⟩ <;> first | (cases hlen; done) | skip
            obtain ⟨c1, c2⟩ := mem_bool (show (chkTg I.st allS X.env.scope (.nm i) (.Name x px) && (chkTg I.st allS X.env.scope (.nm j) (.Name y py) && chkTgs I.st allS X.env.scope .nil [])) = true from h1)
            obtain ⟨c2, _⟩ := mem_bool c2
            have i1 : X.N[i]? = some x := by rw [cx.N]; exact of_decide_eq_true (mem_bool (show (decide (I.N[i]? = some x) && locB allS X.env.scope x) = true from c1)).1
            have i2 : X.N[j]? = some y := by rw [cx.N]; exact of_decide_eq_true (mem_bool (show (decide (I.N[j]? = some y) && locB allS X.env.scope y) = true from c2)).1
            have ha := (mem_bool (show (decide ([a, b].length ≤ 1000) && chkA I.st as X.env.scope [a, b]) = true from h2)).2
            refine evS_of (ps_par cx.calm cx.nd i1 i2 hij hx hy pa_ev hw sole) ((snd as).A p.pt ha ?_)
            have r' : ResS (wd X I.nm) B We ρ0 H M (((evA G cf as ρ st).bind fun xs st1 => .ok (.tup xs) st1).bind fun x st1 => R.lift ((setTg (.cons (.nm i) (.cons (.nm j) .nil)) x ρ).map .nx) st1) D := r
            have r2 : ResS (wd X I.nm) B We ρ0 H M ((evA G cf as ρ st).bind fun xs st1 => R.lift ((setTg (.cons (.nm i) (.cons (.nm j) .nil)) (.tup xs) ρ).map .nx) st1) D := by
              cases qe : evA G cf as ρ st with
              | ok xs st1 => rw [qe] at r'; exact r'
              | ex c st1 => rw [qe] at r'; exact r'
              | bad => rw [qe] at r'; exact r'
            refine ResS.bind r2 p.er p.sb fun xs st1 us H1 M1 k1 s1 ru r1 => ?_
            cases ru with
            | nil => exact r1.elim
            | cons ra ru =>
              cases ru with
              | nil => exact r1.elim
              | cons rb ru =>
                cases ru with
                | cons _ _ => exact r1.elim
                | nil => exact ⟨_, _, rfl, r1 _ H1 M1 (.refl _ _) s1 (((p.er.mono k1).set ra).set rb) ((p.sb.set (hn i (by simp [Sm.asg, Tg.slots]))).set (hn j (by simp [Sm.asg, Tg.slots])))⟩
          · rw [hs] at hw
            rcases vs with _ | ⟨a, _ | ⟨b, _ | ⟨c, _ | ⟨d, vs⟩⟩⟩⟩ <;> first | (cases hlen; done) | skip
            obtain ⟨c1, c2⟩ := mem_bool (show (chkTg I.st allS X.env.scope (.nm i) (.Name x px) && (chkTg I.st allS X.env.scope (.nm j) (.Name y py) && (chkTg I.st allS X.env.scope (.nm l) (.Name z pz) && chkTgs I.st allS X.env.scope .nil []))) = true from h1)
            obtain ⟨c2, c3⟩ := mem_bool c2
            obtain ⟨c3, _⟩ := mem_bool c3
            have i1 : X.N[i]? = some x := by rw [cx.N]; exact of_decide_eq_true (mem_bool (show (decide (I.N[i]? = some x) && locB allS X.env.scope x) = true from c1)).1
            have i2 : X.N[j]? = some y := by rw [cx.N]; exact of_decide_eq_true (mem_bool (show (decide (I.N[j]? = some y) && locB allS X.env.scope y) = true from c2)).1
            have i3 : X.N[l]? = some z := by rw [cx.N]; exact of_decide_eq_true (mem_bool (show (decide (I.N[l]? = some z) && locB allS X.env.scope z) = true from c3)).1
            have ha := (mem_bool (show (decide ([a, b, c].length ≤ 1000) && chkA I.st as X.env.scope [a, b, c]) = true from h2)).2
            refine evS_of (ps_par3 cx.calm cx.nd i1 i2 i3 hij hil hjl hx hy hz pa_ev hw sole) ((snd as).A p.pt ha ?_)
            have r' : ResS (wd X I.nm) B We ρ0 H M (((evA G cf as ρ st).bind fun xs st1 => .ok (.tup xs) st1).bind fun x st1 => R.lift ((setTg (.cons (.nm i) (.cons (.nm j) (.cons (.nm l) .nil))) x ρ).map .nx) st1) D := r
            have r2 : ResS (wd X I.nm) B We ρ0 H M ((evA G cf as ρ st).bind fun xs st1 => R.lift ((setTg (.cons (.nm i) (.cons (.nm j) (.cons (.nm l) .nil))) (.tup xs) ρ).map .nx) st1) D := by
              cases qe : evA G cf as ρ st with
              | ok xs st1 => rw [qe] at r'; exact r'
              | ex c st1 => rw [qe] at r'; exact r'
              | bad => rw [qe] at r'; exact r'
            refine ResS.bind r2 p.er p.sb fun xs st1 us H1 M1 k1 s1 ru r1 => ?_
            cases ru with
            | nil => exact r1.elim
            | cons ra ru =>
              cases ru with
              | nil => exact r1.elim
              | cons rb ru =>
                cases ru with
                | nil => exact r1.elim
                | cons rc ru =>
                  cases ru with
                  | cons _ _ => exact r1.elim
                  | nil => exact ⟨_, _, _, rfl, r1 _ H1 M1 (.refl _ _) s1 ((((p.er.mono k1).set ra).set rb).set rc) (((p.sb.set (hn i (by simp [Sm.asg, Tg.slots]))).set (hn j (by simp [Sm.asg, Tg.slots]))).set (hn l (by simp [Sm.asg, Tg.slots])))⟩
      · refine left ?_ sole
        cases v <;> first | rfl | (exact (hv ⟨_, _, _, rfl⟩).elim)
    · cases tg <;> exact absurd h Bool.false_ne_true
end
end Mi

end

section
set_option linter.all false
set_option maxRecDepth 100000
/-! Mi, part Y: a cell walked; errors caught; every statement keeps the promise. -/
namespace Mi
open PySem PySem.Spec PyProof.Rows L2

section
variable {I : Info} {G : GlobF} {cf : CallF} {N : Nat}
theorem forC_len {g : PV → Env' → Sto → R Fl} {n m k : Nat} {enu : Bool} {ρ ρ0 : Env'} {st : Sto} {w : Wd} {B : Addr → Prop} {We : WeS} {H : Hp} {M : List Addr} {D : Ends} (r : ResS w B We ρ0 H M (forC g n m enu k ρ st) D) : ∃ ys, st[n]? = some (.lst ys) ∧ ys.length = m := by
  cases k with
  | zero =>
    unfold forC at r
    split at r
    · rename_i ys e
      by_cases q : ys.length = m
      · exact ⟨ys, e, q⟩
      · rw [if_neg q] at r; exact r.elim
    · exact r.elim
  | succ k =>
    unfold forC at r
    split at r
    · rename_i ys e
      by_cases q : ys.length = m
      · exact ⟨ys, e, q⟩
      · rw [if_neg q] at r; exact r.elim
    · exact r.elim
theorem forC_turn {g : PV → Env' → Sto → R Fl} {n m k : Nat} {enu : Bool} {ρ ρ0 : Env'} {st : Sto} {w : Wd} {B : Addr → Prop} {We : WeS} {H : Hp} {M : List Addr} {D : Ends} {ys : List PV} (e : st[n]? = some (.lst ys)) (r : ResS w B We ρ0 H M (forC g n m enu (k + 1) ρ st) D) :
    ∃ x, ys[m - (k + 1)]? = some x ∧ ResS w B We ρ0 H M ((g (if enu then .tup [.int ((m - (k + 1) : Nat) : Int), x] else x) ρ st).bind fun fl st1 => (match fl with
        | .nx ρ' => forC g n m enu k ρ' st1
        | .rt v => .ok (.rt v) st1)) D := by
  unfold forC at r
  rw [e] at r
  dsimp only at r
  by_cases q : ys.length = m
  · rw [if_pos q] at r
    cases h : ys[m - (k + 1)]? with
    | none => rw [h] at r; exact r.elim
    | some x => rw [h] at r; exact ⟨x, rfl, r⟩
  · rw [if_neg q] at r; exact r.elim
/-- what walks a list that keeps its length -/
def JofC (enu : Bool) (K : PySem.W.Frag) (a : Addr) : It := match enu with
  | false => Itl K a
  | true => IteG false K a
theorem walkC {enu : Bool} {K : PySem.W.Frag} {a : Addr} {m : Nat} : L2.Walk (JofC enu K a) m (fun H => ∃ vs, H a = some (.lst vs) ∧ vs.length = m) (fun i H x H' => (JofC enu K a).yld i H x H') := by
  refine ⟨fun i H hi hh => ?_, fun H hh => ?_, fun i H x H' _ _ y => y⟩
  · obtain ⟨vs, e, hl⟩ := hh
    have hq : vs[i]? = some (vs[i]'(by omega)) := List.getElem?_eq_getElem _
    cases enu with
    | false => exact ⟨vs, _, .inl (.inl e), hq⟩
    | true => exact ⟨vs, _, .inl (.inl e), hq⟩
  · obtain ⟨vs, e, hl⟩ := hh
    cases enu with
    | false => exact ⟨vs, .inl (.inl e), Nat.le_of_eq hl⟩
    | true => exact ⟨vs, .inl (.inl e), hl.symm⟩
theorem yieldC {enu : Bool} {w : Wd} {a : Addr} {i : Nat} {H H' : Hp} {M : List Addr} {B : Addr → Prop} {st : Sto} {x v : V} {vs : List V} {p : PV} (s : Cels w H M B st) (e : H a = some (.lst vs)) (hv : vs[i]? = some v) (rp : Rel w H M B p v) (y : (JofC enu w.K a).yld i H x H') :
    Kp H M H' M ∧ Cels w H' M B st ∧ Rel w H' M B (if enu then .tup [.int (i : Int), p] else p) x := by
  cases enu with
  | false =>
    obtain ⟨e1, e2⟩ := y
    subst e1
    have := e2 vs (.inl (.inl e))
    rw [hv] at this
    cases this
    exact ⟨.refl _ _, s, rp⟩
  | true =>
    obtain ⟨T, x1, e1, hT, e2, h1⟩ := y
    subst e1; subst e2
    have := h1 vs (.inl (.inl e))
    rw [hv] at this
    cases this
    exact ⟨.new hT, s.new hT, .tup upd_same (fun z => s.mem z hT) (.cons (.int _) (.cons (rp.mono (.new hT)) .nil))⟩
theorem forC_for (enu : Bool) (t : Tg) {tg : Expr} {b : Sm} {body : List Stmt} (hb : SndS I G cf N b) {X : Cx} {We : WeS} {ρ0 ρ : Env'} {σ : L2.St} {H : Hp} {M : List Addr} {B : Addr → Prop} {st : Sto} {D : Ends} {n m : Nat} {a : Addr} (p : PtS I G cf X We ρ0 σ ρ H M B st)
    (h2 : chkTg I.st allS X.env.scope t tg = true) (h3 : chkS I.st b X.env.scope body = true) (hnt : ∀ i ∈ t.slots, ∀ v, ρ0[i]? ≠ some (some v)) (hnb : ∀ i ∈ b.asg, ∀ v, ρ0[i]? ≠ some (some v)) (hm : M[n]? = some a)
    (r : ResS (wd X I.nm) B We ρ0 H M (forC (fun x ρ st => match setTg t x ρ with
      | none => .bad
      | some ρ' => evS G cf N b ρ' st) n m enu m ρ st) D) :
    ∃ W : Nat → Nat → L2.St → Hp → Prop, (∃ m, W 0 m σ H) ∧ ∀ i m σ H, W i m σ H →
      ((JofC enu X.K a).stop i H ∧ D.nx σ H) ∨ ((JofC enu X.K a).go i H ∧ ∃ N : L2.St → Hp → Prop, (∀ σ' H', N σ' H' → ∃ m', m' < m ∧ W (i + 1) m' σ' H') ∧ ∀ x H', (JofC enu X.K a).yld i H x H' → t.g X.K x σ H' fun σ2 H2 => EvSs X body { D with nx := N, ct := N, bk := D.nx } σ2 H2) := by
  refine for_it (tb := EvSs X body) (walkC (enu := enu) (K := X.K) (a := a) (m := m)) (fun i σ' H' => ∃ M' st' ρ', Kp H M H' M' ∧ Cels (wd X I.nm) H' M' B st' ∧ EnvR (wd X I.nm) H' M' B ρ' σ' ∧ Sub ρ0 ρ' ∧
    ResS (wd X I.nm) B We ρ0 H' M' (forC (fun x ρ st => match setTg t x ρ with
      | none => .bad
      | some ρ' => evS G cf N b ρ' st) n m enu (m - i) ρ' st') D) ⟨M, st, ρ, .refl _ _, p.cl, p.er, p.sb, r⟩ ?_ ?_ ?_
  · rintro i σ' H' hi ⟨M', st', ρ', k', s', _, _, r'⟩
    obtain ⟨ys, e1, e2⟩ := forC_len r'
    obtain ⟨vs, hv, rr⟩ := s'.get (k'.m _ _ hm) e1
    exact ⟨vs, hv, by rw [← rr.length]; exact e2⟩
  · rintro i u σ' H2 H3 hi ⟨M', st', ρ', k', s', e', sb', r'⟩ hy
    obtain ⟨ys, e1, e2⟩ := forC_len r'
    obtain ⟨vs, hv, rr⟩ := s'.get (k'.m _ _ hm) e1
    have hi1 : m - i = (m - (i + 1)) + 1 := by omega
    rw [hi1] at r'
    obtain ⟨q, eq, r2⟩ := forC_turn e1 r'
    have hi2 : m - ((m - (i + 1)) + 1) = i := by omega
    rw [hi2] at eq r2
    obtain ⟨v, ev, rv⟩ := rr.get eq
    obtain ⟨k3, s3, rp⟩ := yieldC (w := wd X I.nm) s' hv ev rv hy
    have r2 := ResS.mono r2 k3
    cases es : setTg t (if enu then .tup [.int (i : Int), q] else q) ρ' with
    | none => rw [es] at r2; exact r2.elim
    | some ρ2 =>
      rw [es] at r2
      refine setTg_g t _ u ρ' ρ2 σ' _ (chkTg_wf t tg h2) es (e'.mono k3) rp fun σ2 env2 sl => ?_
      refine hb.L ⟨p.cs, env2, s3, Sub.tg t _ ρ' ρ2 ρ0 es sb' hnt, (p.kc.go k').go k3⟩ h3 hnb (ResS.seq r2 (fun ρ4 st4 σ4 H4 M4 k4 s4 e4 sb4 r4 => ?_) (fun v st => rfl) rfl)
      exact ⟨M4, st4, ρ4, (k'.trans k3).trans k4, s4, e4, sb4, r4⟩
  · rintro σ' H' ⟨M', st', ρ', k', s', e', sb', r'⟩
    obtain ⟨ys, e1, e2⟩ := forC_len r'
    rw [Nat.sub_self] at r'
    unfold forC at r'
    rw [e1] at r'
    dsimp only at r'
    rw [if_pos e2] at r'
    exact r' σ' H' M' (.refl _ _) s' e' sb'
theorem forC_at {w : Wd} {B : Addr → Prop} {We : WeS} {ρ0 ρ : Env'} {H : Hp} {M : List Addr} {D : Ends} {x : PV} {st : Sto} {enu : Bool} {g : PV → Env' → Sto → R Fl} (r : ResS w B We ρ0 H M (match x with
    | .cel n => (match st[n]? with
      | some (.lst ys) => forC g n ys.length enu ys.length ρ st
      | _ => .bad)
    | _ => .bad) D) : ∃ n ys, x = .cel n ∧ st[n]? = some (.lst ys) ∧ ResS w B We ρ0 H M (forC g n ys.length enu ys.length ρ st) D := by
  cases x <;> first | (exact r.elim) | skip
  rename_i n
  dsimp only at r
  cases e : st[n]? with
  | none => rw [e] at r; exact r.elim
  | some c =>
    rw [e] at r
    cases c with
    | lst ys => exact ⟨n, ys, rfl, e, r⟩
    | ins _ _ => exact r.elim
theorem sd_forC (t : Tg) (enu : Bool) (o : Ex) (b : Sm) (hb : SndS I G cf N b) : SndS I G cf N (.forC t enu o b) where
  L := fun p h => (noL rfl h).elim
  S := fun {X We ρ0 σ ρ H M B st x D} p h hn r => by
    cases x <;> first | (exact absurd h Bool.false_ne_true) | skip
    rename_i tg iter body els pos
    cases els with
    | cons _ _ => exact absurd h Bool.false_ne_true
    | nil =>
      have hnt : ∀ i ∈ t.slots, ∀ v, ρ0[i]? ≠ some (some v) := fun i hi => hn i (by simp [Sm.asg, hi])
      have hnb : ∀ i ∈ b.asg, ∀ v, ρ0[i]? ≠ some (some v) := fun i hi => hn i (by simp [Sm.asg, hi])
      have cx := p.cs.cx
      cases enu with
      | false =>
        obtain ⟨h1, h⟩ := mem_bool (show (chkE I.st o X.env.scope iter && (chkTg I.st allS X.env.scope t tg && chkS I.st b X.env.scope body)) = true from h)
        obtain ⟨h2, h3⟩ := mem_bool h
        refine evS_of (ps_for p.cs.own cx.calm (pi_sq pe_ev) (pg_of (I := I.st) (top := allS) cx.calm cx.nd cx.N (fun x _ => cx.fn rfl x) t tg h2) pss_ev (folded_of (chk_odd h1) _)) ((snd o).E p.pt h1 (ResS.bind r p.er p.sb fun x st1 u H1 M1 k1 s1 ru r1 => ?_))
        obtain ⟨n, ys, rfl, ey, r2⟩ := forC_at r1
        cases ru with
        | cel hm =>
          obtain ⟨vs, hv, rr⟩ := s1.get hm ey
          exact ⟨false, _, vs, rfl, .inl (.inl hv), forC_for false t hb ⟨p.cs, p.er.mono k1, s1, p.sb, p.kc.go k1⟩ h2 h3 hnt hnb hm r2⟩
      | true =>
        cases tg <;> first | (exact absurd h Bool.false_ne_true) | skip
        rename_i elts kk tpos
        cases iter <;> first | (exact absurd h Bool.false_ne_true) | skip
        rename_i fn es kw cpos
        cases fn <;> first | (exact absurd h Bool.false_ne_true) | skip
        rename_i nn np
        rcases es with _ | ⟨y, _ | ⟨z, es⟩⟩ <;> rcases kw with _ | ⟨_, _⟩ <;> first | (exact absurd h Bool.false_ne_true) | skip
        obtain ⟨h1, h⟩ := mem_bool (show ((decide (nn = ("enumerate" : Str)) && (glB X.env.scope nn && chkE I.st o X.env.scope y)) && (chkTg I.st allS X.env.scope t (.Tuple elts kk tpos) && chkS I.st b X.env.scope body)) = true from h)
        obtain ⟨h2, h3⟩ := mem_bool h
        obtain ⟨g1, g2⟩ := mem_bool h1
        obtain ⟨g2, g3⟩ := mem_bool g2
        have hnn := of_decide_eq_true g1
        subst hnn
        refine evS_of (ps_for p.cs.own cx.calm (pi_enumG (gl_of g2) (cx.free _ (by decide)) pa_ev (star_of (chk_odd g3) _)) (pg_of (I := I.st) (top := allS) cx.calm cx.nd cx.N (fun x _ => cx.fn rfl x) t _ h2) pss_ev (by intro _; rfl)) (evA1 (chk_odd g3) ((snd o).E p.pt g3 (ResS.bind r p.er p.sb fun x st1 u H1 M1 k1 s1 ru r1 => ?_)))
        obtain ⟨n, ys, rfl, ey, r2⟩ := forC_at r1
        cases ru with
        | cel hm =>
          obtain ⟨vs, hv, rr⟩ := s1.get hm ey
          exact ⟨_, false, vs, rfl, .inl (.inl hv), forC_for true t hb ⟨p.cs, p.er.mono k1, s1, p.sb, p.kc.go k1⟩ h2 h3 hnt hnb hm r2⟩

/-! ### errors caught -/
theorem wipeP_get (vs : List Nat) : ∀ (ρ : Env') (i : Nat) (v : PV), (wipeP ρ vs)[i]? = some (some v) → i ∉ vs ∧ ρ[i]? = some (some v) := by
  induction vs with
  | nil => exact fun ρ i v h => ⟨by simp, h⟩
  | cons j vs ih =>
    intro ρ i v h
    unfold wipeP at h
    by_cases q : j = i
    · subst q
      by_cases hl : j < (wipeP ρ vs).length
      · rw [List.getElem?_set_self hl] at h; cases h
      · rw [List.getElem?_eq_none (by rw [List.length_set]; omega)] at h; cases h
    · rw [List.getElem?_set_ne q] at h
      obtain ⟨h1, h2⟩ := ih ρ i v h
      exact ⟨by simp [h1, Ne.symm q], h2⟩
theorem wipeP_len (vs : List Nat) : ∀ ρ : Env', (wipeP ρ vs).length = ρ.length := by
  induction vs with
  | nil => intro ρ; rfl
  | cons j vs ih => intro ρ; unfold wipeP; rw [List.length_set, ih]
theorem wipeP_keep (vs : List Nat) : ∀ (ρ : Env') (i : Nat) (v : PV), i ∉ vs → ρ[i]? = some (some v) → (wipeP ρ vs)[i]? = some (some v) := by
  induction vs with
  | nil => exact fun ρ i v _ h => h
  | cons j vs ih =>
    intro ρ i v hi h
    unfold wipeP
    rw [List.getElem?_set_ne (fun z => hi (by simp [z]))]
    exact ih ρ i v (fun z => hi (by simp [z])) h
theorem Sub.wipe (ρ : Env') (vs : List Nat) : Sub (wipeP ρ vs) ρ := ⟨wipeP_len vs ρ, fun i v h => (wipeP_get vs ρ i v h).2⟩
theorem Sub.under {ρ0 ρ : Env'} {vs : List Nat} (s : Sub ρ0 ρ) (hn : ∀ i ∈ vs, ∀ v, ρ0[i]? ≠ some (some v)) : Sub ρ0 (wipeP ρ vs) :=
  ⟨by rw [wipeP_len]; exact s.1, fun i v h => wipeP_keep vs ρ i v (fun hi => hn i hi v h) (s.2 i v h)⟩
theorem Sub.trans {ρ0 ρ1 ρ2 : Env'} (a : Sub ρ0 ρ1) (b : Sub ρ1 ρ2) : Sub ρ0 ρ2 := ⟨a.1.trans b.1, fun i v h => b.2 i v (a.2 i v h)⟩
/-- what an except suite says, as V -/
def sayV : PV → V
  | .str s => .str s
  | _ => .non
theorem seB_odd {sc : Scope} {ei : Option Nat} : ∀ {e : Se} {x : Expr}, seB I.st sc ei e x = true → oddE x = false ∧ isLc x = false := by
  intro e x h
  cases x <;> first | exact ⟨rfl, rfl⟩ | (cases e <;> exact absurd h Bool.false_ne_true)
theorem seB_isx {sc : Scope} {ei : Option Nat} {i d : Nat} {l r : Se} {x : Expr} (h : seB I.st sc ei (.isx i d l r) x = true) : ∃ f fp n np m mp cpos xl xr pos, x = .IfExp (.Call (.Name f fp) [.Name n np, .Name m mp] [] cpos) xl xr pos ∧
    (decide (ei = some i) && (decide (f = ("isinstance" : Str)) && (glB sc f && (nameOk I sc i n && (I.C d && (gOk I sc d m && (seB I.st sc ei l xl && seB I.st sc ei r xr))))))) = true := by
  unfold seB at h
  split at h
  · rename_i e2; cases e2
  · rename_i e2; cases e2
  · rename_i e1; cases e1; exact ⟨_, _, _, _, _, _, _, _, _, _, rfl, h⟩
  · cases h
theorem pe_se {X : Cx} {We : WeS} (cs : CtS I G cf X We) {a ca : Addr} {oe : Obj} {pn : List (Addr × Obj)} {c : Nat} {ei : Option Nat} (hz : Zc (.ref ca) none oe) (hf : ∃ vs, oe.data = .fields vs) (hca : X.mg (I.nm c) = some (.ref ca)) :
    ∀ (e : Se) (x : Expr) (σ : L2.St) (H : Hp) (Q : VK) (v : PV), seB I.st X.env.scope ei e x = true → (∀ i, ei = some i → σ[i]? = some (some (.ref a))) → evSe G.S c e = some v → Q (sayV v) H → EvE (X.suite a ((a, oe) :: pn)) x σ H Q
  | .str s, x, σ, H, Q, v, h, hs, ev, q => by
    cases x <;> first | (exact absurd h Bool.false_ne_true) | skip
    rename_i k _ _
    cases k <;> first | (exact absurd h Bool.false_ne_true) | skip
    rename_i s'
    have e : s = s' := of_decide_eq_true (show (decide (s = s')) = true from h)
    subst e
    cases ev
    exact evE_of pe_str q
  | .non, x, σ, H, Q, v, h, hs, ev, q => by
    cases x <;> first | (exact absurd h Bool.false_ne_true) | skip
    rename_i k _ _
    cases k <;> first | (exact absurd h Bool.false_ne_true) | skip
    cases ev
    exact evE_of pe_non q
  | .isx i d l r, x, σ, H, Q, v, h, hs, ev, q => by
    obtain ⟨f, fp, n, np, m, mp, cpos, xl, xr, pos, rfl, h⟩ := seB_isx h
    obtain ⟨h1, h⟩ := mem_bool h
    obtain ⟨h2, h⟩ := mem_bool h
    obtain ⟨h3, h⟩ := mem_bool h
    obtain ⟨h4, h⟩ := mem_bool h
    obtain ⟨h5, h⟩ := mem_bool h
    obtain ⟨h6, h⟩ := mem_bool h
    obtain ⟨h7, h8⟩ := mem_bool h
    have hfn := of_decide_eq_true h2
    subst hfn
    obtain ⟨a1, a2⟩ := mem_bool (show (decide (I.N[i]? = some n) && (visB X.env.scope n && (nodbg n && !(n == ("__classdict__" : Str))))) = true from h4)
    obtain ⟨a2, a3⟩ := mem_bool a2
    obtain ⟨a3, a4⟩ := mem_bool a3
    obtain ⟨b1, b2⟩ := mem_bool (show (decide (I.nm d = m) && (glB X.env.scope m && nodbg m)) = true from h6)
    obtain ⟨b2, b3⟩ := mem_bool b2
    unfold evSe at ev
    cases eb : G.S c d with
    | none => rw [eb] at ev; cases ev
    | some b =>
      rw [eb] at ev
      obtain ⟨a0, k0, m1, m2, m3, m4, EC⟩ := cs.sub c d b eb
      rw [hca] at m1
      cases m1
      have mm := m2
      rw [of_decide_eq_true b1] at mm
      have gl1 : Gl X ("isinstance" : Str) := gl_of h3
      have gl2 : Gl X m := gl_of b2
      refine evE_of (X := X.suite a ((a, oe) :: pn)) (pe_ifExp (pt_truth (pe_callB (X := X.suite a ((a, oe) :: pn)) (call_isE EC hz hf) gl1 (cs.cx.free _ (by decide)) PyProof.Rows.boot_isinstance
        (pa_cons (pe_var (X := X.suite a ((a, oe) :: pn)) (i := i) (by show X.N[i]? = some n; rw [cs.cx.N]; exact of_decide_eq_true a1) (vis_of a2) (nodbg_of a3) (by simpa using a4)) (pa_cons (pe_glob (X := X.suite a ((a, oe) :: pn)) (v := .ref k0) gl2 mm rfl (nodbg_of b3)) pa_nil))) (fun _ => rfl)) pe_ev pe_ev) ?_
      refine ⟨.ref a, hs i (of_decide_eq_true h1), ?_⟩
      refine ⟨.ref k0, .ref k0, b, rfl, fun u ru => ru, m4, b, rfl, ?_⟩
      cases b with
      | true => exact pe_se cs hz hf hca l xl σ H Q v h7 hs ev q
      | false => exact pe_se cs hz hf hca r xr σ H Q v h8 hs ev q
theorem seB_rel {w : Wd} {H : Hp} {M : List Addr} {B : Addr → Prop} {S : SubF} {c : Nat} : ∀ (e : Se) (v : PV), evSe S c e = some v → Rel w H M B v (sayV v)
  | .str s, v, h => by cases h; exact .str _
  | .non, v, h => by cases h; exact .non
  | .isx i d l r, v, h => by
    unfold evSe at h
    split at h
    · exact seB_rel l v h
    · exact seB_rel r v h
    · cases h
theorem suB_is {sc : Scope} {ei : Option Nat} {s : Su} {x : Stmt} (h : suB I.st sc ei s x = true) : (∃ e v p, s = .ret e ∧ x = .Return (some v) p ∧ seB I.st sc ei e v = true) ∨
    ∃ i e n np v p, s = .set i e ∧ x = .Assign [.Name n np] v p ∧ (decide (I.N[i]? = some n) && (decide (sc.names.lookup n = some .local) && (seB I.st sc ei e v && (decide (ei ≠ some i) && !(swB sc n np v))))) = true := by
  unfold suB at h
  split at h
  · exact .inl ⟨_, _, _, rfl, rfl, h⟩
  · exact .inr ⟨_, _, _, _, _, _, rfl, rfl, h⟩
  · cases h
theorem hnB_cons {sc : Scope} {c : Nat} {i : Option Nat} {su : Su} {r : Hn} {hs : List ExceptHandler} (h : hnB I.st sc (.cons c i su r) hs = true) : ∃ x np n st p hs', hs = .ExceptHandler (some (.Name x np)) n [st] p :: hs' ∧ I.C c = true ∧ gOk I sc c x = true ∧
    ((i = none ∧ n = none) ∨ ∃ j m, i = some j ∧ n = some m ∧ I.N[j]? = some m ∧ sc.names.lookup m = some .local) ∧ suB I.st sc i su st = true ∧ hnB I.st sc r hs' = true := by
  unfold hnB at h
  split at h
  · rename_i e2; cases e2
  · rename_i e2
    cases e2
    obtain ⟨h1, h⟩ := mem_bool h
    obtain ⟨h2, h⟩ := mem_bool h
    obtain ⟨h3, h⟩ := mem_bool h
    obtain ⟨h4, h5⟩ := mem_bool h
    refine ⟨_, _, _, _, _, _, rfl, h1, h2, ?_, h4, h5⟩
    split at h3
    · exact .inl ⟨rfl, rfl⟩
    · obtain ⟨z1, z2⟩ := mem_bool h3
      exact .inr ⟨_, _, rfl, rfl, of_decide_eq_true z1, of_decide_eq_true z2⟩
    · cases h3
  · cases h
theorem hnB_nil {sc : Scope} {hs : List ExceptHandler} (h : hnB I.st sc .nil hs = true) : hs = [] := by
  unfold hnB at h
  split at h
  · rfl
  · rename_i e2; cases e2
  · cases h
/-- a suite's wish -/
def suT (X : Cx) (st : Stmt) : Addr → Value → Option Addr → TS := fun a u d D τ H => ∀ (oe : Obj) (pn : List (Addr × Obj)), Zc u d oe → (∃ vs, oe.data = .fields vs) → EvSs (X.suite a ((a, oe) :: pn)) [st] D τ H
/-- the clauses of a text -/
def clsOf (X : Cx) (nm : Nm) : Hn → List ExceptHandler → List Cl
  | .cons c i _ r, .ExceptHandler _ _ (st :: _) _ :: hs => ⟨(X.mg (nm c)).getD .none, i, suT X st⟩ :: clsOf X nm r hs
  | _, _ => []
theorem hds_of {X : Cx} {We : WeS} (cs : CtS I G cf X We) : ∀ (h : Hn) (hs : List ExceptHandler), hnB I.st X.env.scope h hs = true → Hds X hs (clsOf X I.nm h hs)
  | .nil, hs, h => by rw [hnB_nil h]; exact .nil
  | .cons c i su r, hs, h => by
    obtain ⟨x, np, n, st, p, hs', rfl, h1, h2, h3, h4, h5⟩ := hnB_cons h
    obtain ⟨a, _, _, _, _, m1, _⟩ := cs.exc c h1
    obtain ⟨b1, b2⟩ := mem_bool (show (decide (I.nm c = x) && (glB X.env.scope x && nodbg x)) = true from h2)
    obtain ⟨b2, b3⟩ := mem_bool b2
    have e1 : (X.mg (I.nm c)).getD .none = .ref a := by rw [m1]; rfl
    refine .cons (k := ⟨(X.mg (I.nm c)).getD .none, i, suT X st⟩) ⟨gl_of b2, nodbg_of b3, .inl ?_⟩ ?_ ?_ (hds_of cs r hs' h5)
    · show X.mg x = some ((X.mg (I.nm c)).getD .none)
      rw [← of_decide_eq_true b1, m1]; rfl
    · rcases h3 with ⟨rfl, rfl⟩ | ⟨j, m, rfl, rfl, q1, q2⟩
      · exact True.intro
      · exact ⟨by rw [cs.cx.N]; exact q1, q2⟩
    · intro a oe u d pn hz hf
      exact ⟨fun pins s σ H D I h => pss_ev.run pins s σ H D I (h oe pn hz hf)⟩
theorem su_ok {X : Cx} {We : WeS} (cs : CtS I G cf X We) {ρ0 ρ : Env'} {σ : L2.St} {H : Hp} {M : List Addr} {B : Addr → Prop} {st : Sto} {D : Ends} {c : Nat} {ca a : Addr} {su : Su} {i : Option Nat} {x : Stmt} (hca : X.mg (I.nm c) = some (.ref ca)) (er : EnvR (wd X I.nm) H M B ρ σ) (s : Cels (wd X I.nm) H M B st)
    (sb : Sub ρ0 ρ) (hi : ∀ j, i = some j → j < σ.length ∧ ∀ v, ρ0[j]? ≠ some (some v)) (hn : ∀ j ∈ su.asg, ∀ v, ρ0[j]? ≠ some (some v)) (h : suB I.st X.env.scope i su x = true)
    (r : ResS (wd X I.nm) B We ρ0 H M (evSu G.S c (match (generalizing := false) i with | some i => ρ.set i none | none => ρ) st su) D) : suT X x a (.ref ca) none (asEnd i D) (asPut a i σ) H := by
  intro oe pn hz hf
  have hslot : ∀ j, i = some j → (asPut a i σ)[j]? = some (some (.ref a)) := fun j e => by
    subst e
    exact List.getElem?_set_self (hi j rfl).1
  refine evSs_of (pss_one ps_ev) ?_
  rcases suB_is h with ⟨e, v, p, rfl, rfl, h1⟩ | ⟨j, e, n, np, v, p, rfl, rfl, h1⟩
  · have r' : ResS (wd X I.nm) B We ρ0 H M (R.lift ((evSe G.S c e).map .rt) st) D := r
    cases ev : evSe G.S c e with
    | none => rw [ev] at r'; exact r'.elim
    | some pv =>
      rw [ev] at r'
      refine evS_of (ps_ret pe_ev) (pe_se cs hz hf hca e v _ H _ pv h1 hslot ev ?_)
      have q := r' (sayV pv) H M (.refl _ _) s (seB_rel e pv ev)
      cases i <;> exact q
  · obtain ⟨g1, h1⟩ := mem_bool h1
    obtain ⟨g2, h1⟩ := mem_bool h1
    obtain ⟨g3, h1⟩ := mem_bool h1
    obtain ⟨g4, g5⟩ := mem_bool h1
    have gl : X.env.scope.names.lookup n = some .local := of_decide_eq_true g2
    have hij : i ≠ some j := of_decide_eq_true g4
    have hne : ∀ v, ρ0[j]? ≠ some (some v) := hn j (by simp [Su.asg])
    have r' : ResS (wd X I.nm) B We ρ0 H M (R.lift ((evSe G.S c e).map fun v => .nx ((match (generalizing := false) i with | some i => ρ.set i none | none => ρ).set j (some v))) st) D := r
    cases ev : evSe G.S c e with
    | none => rw [ev] at r'; exact r'.elim
    | some pv =>
      rw [ev] at r'
      obtain ⟨o1, o2⟩ := seB_odd g3
      refine evS_of (ps_set (X := X.suite a ((a, oe) :: pn)) (i := j) cs.cx.nd (by show X.N[j]? = some n; rw [cs.cx.N]; exact of_decide_eq_true g1) (.inl gl) pe_ev (swW_false o2 _ _ _) (.inr gl)) (pe_se cs hz hf hca e v _ H _ pv g3 hslot ev ?_)
      cases i with
      | none => exact r' _ H M (.refl _ _) s (er.set (seB_rel e pv ev)) (sb.set hne)
      | some k =>
        have hk : k ≠ j := fun z => hij (by rw [z])
        refine r' _ H M (.refl _ _) s ?_ ((sb.set (hi k rfl).2).set hne)
        -- the name is gone
        show EnvR _ H M B _ (((σ.set k (some (.ref a))).set j (some (sayV pv))).set k none)
        rw [List.set_comm _ _ (Ne.symm hk), List.set_set]
        have e1 : EnvR (wd X I.nm) H M B (ρ.set k none) (σ.set k none) := ⟨by rw [List.length_set, List.length_set]; exact er.1, fun l x hx => by
          by_cases q : k = l
          · subst q
            have hl : k < ρ.length := by
              have := (List.getElem?_eq_some_iff.mp hx).1
              rwa [List.length_set] at this
            rw [List.getElem?_set_self hl] at hx; cases hx
          · rw [List.getElem?_set_ne q] at hx ⊢
            exact er.2 l x hx⟩
        exact e1.set (seB_rel e pv ev)
theorem hn_ok {X : Cx} {We : WeS} (cs : CtS I G cf X We) {ρ0 ρ : Env'} {σ : L2.St} {H : Hp} {M : List Addr} {B : Addr → Prop} {st : Sto} {D : Ends} {c : Nat} {ca : Addr} (hca : X.mg (I.nm c) = some (.ref ca)) (er : EnvR (wd X I.nm) H M B ρ σ) (s : Cels (wd X I.nm) H M B st) (sb : Sub ρ0 ρ) (hl : X.N.length = σ.length) :
    ∀ (h : Hn) (hs : List ExceptHandler), hnB I.st X.env.scope h hs = true → (∀ j ∈ h.asg, ∀ v, ρ0[j]? ≠ some (some v)) → ResS (wd X I.nm) B We ρ0 H M (evH G.S c ρ st h) D → wMix X.K (Wof X I.nm We) D (clsOf X I.nm h hs) (.ref ca) none σ H
  | .nil, hs, h, hn, r => by
    rw [hnB_nil h]
    exact ⟨c, st, M, ca, rfl, rfl, hca, r σ H M (.refl _ _) s (er.sub sb)⟩
  | .cons d i su r0, hs, h, hn, r => by
    obtain ⟨x, np, n, st', p, hs', rfl, h1, h2, h3, h4, h5⟩ := hnB_cons h
    unfold evH at r
    cases eb : G.S c d with
    | none => rw [eb] at r; exact r.elim
    | some b =>
      rw [eb] at r
      obtain ⟨a0, k0, m1, m2, m3, m4, EC⟩ := cs.sub c d b eb
      rw [hca] at m1
      cases m1
      refine ⟨b, by show PySem.W.exmOne X.K _ ((X.mg (I.nm d)).getD .none) = _; rw [m2]; exact m3, fun hb a ha => ?_, fun hb => ?_⟩
      · subst hb
        refine su_ok cs hca er s sb (fun j e => ⟨?_, ?_⟩) (fun j hj => hn j (by simp [Hn.asg, hj])) h4 r
        · rcases h3 with ⟨rfl, _⟩ | ⟨j', m, rfl, _, q1, _⟩
          · cases e
          · cases e
            rw [← hl, cs.cx.N]
            exact (List.getElem?_eq_some_iff.mp q1).1
        · subst e
          exact hn j (by simp [Hn.asg])
      · subst hb
        exact hn_ok cs hca er s sb hl r0 hs' h5 (fun j hj => hn j (by simp [Hn.asg, hj])) r
theorem CtS.tr {X : Cx} {We We' : WeS} (cs : CtS I G cf X We) {pn : List (Addr × Obj)} {xe : Value → Shared → Prop} (tk : Takes (X.tr pn xe) (Wof (X.tr pn xe) I.nm We')) (own : PassesOwn (model X.prog X.w) X.A X.env xe) : CtS I G cf (X.tr pn xe) We' where
  cx := ⟨cs.cx.calm, cs.cx.nd, cs.cx.N, tk, cs.cx.un, cs.cx.fns, cs.cx.glob, cs.cx.free, cs.cx.fn, cs.cx.cl, cs.cx.isf, cs.cx.flds, cs.cx.isc, cs.cx.mn, cs.cx.lam⟩
  own := own
  kind := cs.kind
  exc := cs.exc
  sub := cs.sub
  stk := cs.stk
  frm := cs.frm
theorem takes_mono {X : Cx} {W W' : WX} (t : Takes X W) (h : ∀ u d σ H, W' u d σ H → W u d σ H) : Takes X W' :=
  fun u s' ⟨a, B, sI, pins, σ, H, cls, d, e1, e2, e3, e4, e5, e6, e7, e8, w⟩ => t u s' ⟨a, B, sI, pins, σ, H, cls, d, e1, e2, e3, e4, e5, e6, e7, e8, h _ _ _ _ w⟩
theorem sd_tryH (b : Sm) (h : Hn) (hb : SndS I G cf N b) : SndS I G cf N (.tryH b h) where
  L := fun p h => (noL rfl h).elim
  S := fun {X We ρ0 σ ρ H M B st x D} p hc hn r => by
    cases x <;> first | (exact absurd hc Bool.false_ne_true) | skip
    rename_i body hs els fin pos
    cases els with
    | cons _ _ => exact absurd hc Bool.false_ne_true
    | nil =>
      cases fin with
      | cons _ _ => exact absurd hc Bool.false_ne_true
      | nil =>
        obtain ⟨h1, h2⟩ := mem_bool (show (chkS I.st b X.env.scope body && (!hs.isEmpty && hnB I.st X.env.scope h hs)) = true from hc)
        obtain ⟨h2, h3⟩ := mem_bool h2
        have hk := hds_of p.cs h hs h3
        cases hs with
        | nil => cases h2
        | cons h0 hs =>
          have hl : X.N.length = X.N.length := rfl
          have hnb : ∀ i ∈ b.asg, ∀ v, ρ0[i]? ≠ some (some v) := fun i hi => hn i (by simp [Sm.asg, hi])
          have hnh : ∀ i ∈ h.asg, ∀ v, ρ0[i]? ≠ some (some v) := fun i hi => hn i (by simp [Sm.asg, hi])
          let W := wMix X.K (Wof X I.nm We) D (clsOf X I.nm h (h0 :: hs))
          intro pins sh IV
          have hlen := IV.len
          refine evS_of (ps_tryMix (tb := fun W D τ G => ∀ (pn : List (Addr × Obj)) (xe : Value → Shared → Prop), Takes (X.tr pn xe) W → PassesOwn (model X.prog X.w) X.A X.env xe → EvSs (X.tr pn xe) body D τ G) p.cs.stk p.cs.frm p.cs.cx.nd p.cs.cx.takes
            (fun W pn xe tk own => ⟨fun pins s σ H D I h => pss_ev.run pins s σ H D I (h pn xe tk own)⟩) hk) ?_ pins sh IV
          intro pn xe tk own
          refine hb.L (We := fun σ' c st' H' M' => ∀ a, X.mg (I.nm c) = some (.ref a) → W (.ref a) none σ' H') (ρ0 := wipeP ρ b.asg) ⟨p.cs.tr (takes_mono tk fun u d σ H w => ?_) own, p.er, p.cl, .wipe ρ _, p.kc⟩ h1 (fun i hi v e => (wipeP_get _ _ _ _ e).1 hi) ?_
          · obtain ⟨c, st', M', a, rfl, rfl, e, w⟩ := w
            exact w a e
          · have r : ResS (wd X I.nm) B We ρ0 H M (match evS G cf N b ρ st with
              | .ex c st' => evH G.S c (wipeP ρ b.asg) st' h
              | r => r) D := r
            cases ev : evS G cf N b ρ st with
            | bad => rw [ev] at r; exact r.elim
            | ok f st' =>
              rw [ev] at r
              cases f with
              | nx ρ' => exact fun σ' H' M' k s e sb => r σ' H' M' k s e ((p.sb.under hnb).trans sb)
              | rt v => exact r
            | ex c st' =>
              rw [ev] at r
              intro σ' H' M' k s e a ha
              exact hn_ok p.cs ha e s (p.sb.under hnb) (by rw [← e.1, wipeP_len, p.er.1]; exact hlen.symm) h (h0 :: hs) h3 hnh (ResS.mono r k)
/-- every statement -/
theorem sd_aug (op : Operator) (c f i : Nat) (e : Ex) : SndS I G cf N (.aug op c f i e) where
  L := fun p h => (noL rfl h).elim
  S := fun {X We ρ0 σ ρ H M B st x D} p h hn r => by cases x <;> exact absurd h Bool.false_ne_true
theorem sdS (a : Sm) : SndS I G cf N a := by
  induction a with
  | skip => exact sd_skip
  | seq a b ha hb => exact sd_seq a b ha hb
  | set i e => exact sd_set i e
  | setT t e => exact sd_setT t e
  | put o i e => exact sd_put o i e
  | app o e => exact sd_app o e
  | ret e => exact sd_ret e
  | ite c a b ha hb => exact sd_ite c a b ha hb
  | «for» t it b hb => exact sd_for t it b hb
  | «while» c b hb => exact sd_while c b hb
  | raise c m => exact sd_raise c m
  | drop e => exact sd_drop e
  | fput c f o e => exact sd_fput c f o e
  | bot => exact sd_bot
  | aug op c f i e => exact sd_aug op c f i e
  | forC t enu o b hb => exact sd_forC t enu o b hb
  | tryH b h hb => exact sd_tryH b h hb
end
end Mi

end

section
set_option linter.all false
set_option maxRecDepth 100000
/-! Mi, part L: defs keep the promise that the evaluator makes. -/
namespace Mi
open PySem PySem.Spec PyProof.Rows L2

/-! ### a def of the text -/
structure Def where
  x : Str
  fn : Fn
  params : Arguments
  body : List Stmt
  scope : Scope
  qn : Str := x
  /-- a class's own: how, whose -/
  own : Option (OwK × Nat) := none
def nodupB : List Str → Bool
  | [] => true
  | x :: xs => !(xs.contains x) && nodupB xs
theorem nodupB_ok : ∀ {xs : List Str}, nodupB xs = true → xs.Nodup
  | [], _ => List.nodup_nil
  | x :: xs, h => by
    obtain ⟨h1, h2⟩ := mem_bool (show (!(xs.contains x) && nodupB xs) = true from h)
    exact List.nodup_cons.mpr ⟨by simpa using h1, nodupB_ok h2⟩
def scopeB (ns ps : List Str) (sc : Scope) : Bool :=
  (match sc.kind with | .function => true | _ => false) && (!sc.isCoroutine && (!sc.isGenerator && (nodupB ns && (decide (ns.take ps.length = ps) && ((ps.all fun x => match sc.names.lookup x with
    | some .local => true
    | some .cell => true
    | _ => false) && sc.names.all fun y => match y.2 with | .free => false | _ => true)))))
theorem scopeB_ok {ns ps : List Str} {sc : Scope} (h : scopeB ns ps sc = true) : FnScope ns ps sc := by
  obtain ⟨h1, h⟩ := mem_bool h
  obtain ⟨h2, h⟩ := mem_bool h
  obtain ⟨h3, h⟩ := mem_bool h
  obtain ⟨h4, h⟩ := mem_bool h
  obtain ⟨h5, h⟩ := mem_bool h
  obtain ⟨h6, h7⟩ := mem_bool h
  refine ⟨?_, by simpa using h2, by simpa using h3, nodupB_ok h4, of_decide_eq_true h5, fun x hx => ?_, fun y hy e => ?_⟩
  · split at h1
    · rename_i e; exact e
    · cases h1
  · have := List.all_eq_true.mp h6 x hx
    split at this
    · rename_i e; exact .inl e
    · rename_i e; exact .inr e
    · cases this
  · have := List.all_eq_true.mp h7 y hy
    rw [e] at this
    cases this
def Def.Bd (d : Def) : Prop := (d.fn.va = false → ∀ (kV doc pm : Value) (an : Option Addr) (cdv ct : Value) (us : List Value), us.length = d.fn.ps.length → bindArgs (PySem.W.fnOf d.x d.qn d.params d.body d.scope .none kV doc pm an cdv ct) ⟨us, []⟩ = pure (d.fn.ps.zip us)) ∧
  (d.fn.va = true → ∃ ps pv, d.fn.ps = ps ++ [pv] ∧ ∀ (kV doc pm : Value) (an : Option Addr) (cdv ct : Value) (us rest : List Value), us.length = ps.length → bindArgs (PySem.W.fnOf d.x d.qn d.params d.body d.scope .none kV doc pm an cdv ct) ⟨us ++ rest, []⟩ = (newTuple rest >>= fun t => pure (ps.zip us ++ [(pv, t)])))

/-! ### a module's facts -/
structure Mdl where
  defs : List Def
  f : Nat → Str
  C : Nat → Bool
  /-- defs that are handed a function; defs that make some -/
  L : Nat → Bool
  mks : Nat → Bool
  G : GlobF
  /-- fields; classes that isinstance asks for -/
  A : Nat → Str → Bool := fun _ _ => false
  S : Nat → Bool := fun _ => false
def Def.isP (d : Def) : Bool := d.own.isNone
def Mdl.F (m : Mdl) : Nat → Bool := fun f => !(m.L f) && (match m.defs[f]? with
  | some d => d.isP
  | none => false)
def Mdl.O (m : Mdl) : OwK → Nat → Str → Nat → Bool := fun o c x f => !(m.L f) && (match m.defs[f]? with
  | some d => decide (d.own = some (o, c)) && decide (d.x = x)
  | none => false)
def Mdl.at_ (m : Mdl) (l : Bool) : Nat → Option Fn := fun f => if m.L f = l then (m.defs[f]?).map (·.fn) else none
abbrev Mdl.run (m : Mdl) (N d : Nat) : CallF := runF m.G (m.at_ false) (m.at_ true) N d
def Mdl.info (m : Mdl) (T : List (Addr × Str)) (f : Nat) (ns : List Str) (a : Option Addr) (clo : Option Nat) : Info := ⟨ns, ⟨m.f, T, a⟩, m.F, m.C, fun g => m.L g && decide (g < m.defs.length), m.mks f, clo, true, m.O, m.A, m.S, m.G.mn⟩
def Mdl.ok1 (m : Mdl) (f : Nat) (d : Def) : Bool := (scopeB d.fn.ns d.fn.ps d.scope && (decide (d.fn.own = !d.isP) && (d.isP && !d.fn.va || !d.isP))) && (if m.L f then (d.isP && decide (0 < d.fn.ps.length)) && chkS (m.info [] f d.fn.ns none (some (d.fn.ps.length - 1))) d.fn.body d.scope d.body else chkS (m.info [] f d.fn.ns none none) d.fn.body d.scope d.body)
def Mdl.oks (m : Mdl) : Nat → List Def → Bool
  | _, [] => true
  | f, d :: ds => m.ok1 f d && m.oks (f + 1) ds
theorem Mdl.oks_at {m : Mdl} : ∀ {ds : List Def} {k : Nat}, m.oks k ds = true → ∀ (i : Nat) (d : Def), ds[i]? = some d → m.ok1 (k + i) d = true
  | [], _, _, i, d, e => by simp at e
  | d0 :: ds, k, h, i, d, e => by
    obtain ⟨h1, h2⟩ := mem_bool (show (m.ok1 k d0 && m.oks (k + 1) ds) = true from h)
    cases i with
    | zero =>
      have e : d0 = d := by simpa using e
      subst e; exact h1
    | succ i =>
      have := Mdl.oks_at h2 i d (by simpa using e)
      rw [show k + 1 + i = k + (i + 1) by omega] at this
      exact this
/-- the name of a def's lambdas -/
def lamNm (d : Def) : Str := d.qn ++ ".<locals>." ++ "<lambda>"
structure MdlOk (m : Mdl) (K : PySem.W.Frag) (mg : Str → Option Value) (T : List (Addr × Str)) (cs : List (Addr × Addr)) : Prop where
  ok : m.oks 0 m.defs = true
  nm : ∀ (f : Nat) (d : Def), m.defs[f]? = some d → m.f f = d.x
  fd : ∀ (f : Nat) (d : Def), m.defs[f]? = some d → ∃ a fd, (d.own = none → mg d.x = some (.ref a)) ∧ (∀ o c, d.own = some (o, c) → ∃ C, mg (m.f c) = some (.ref C) ∧ OwnAt K o C d.x a) ∧ FunD K d.x d.qn d.params d.body d.scope [] [] a fd ∧ (m.mks f = true → ∃ c P, fd.code = .ref c ∧ (c, P) ∈ cs ∧ (P, lamNm d) ∈ T ∧ ∀ p ∈ T, p.1 = P → p.2 = lamNm d)
  bd : ∀ (f : Nat) (d : Def), m.defs[f]? = some d → d.Bd
  exc : ∀ c, m.C c = true → ∃ a B newId initId bmB, mg (m.f c) = some (.ref a) ∧ PySem.W.keepIn K (.ref a) = true ∧ PySem.W.subIn K (.ref a) (.type "BaseException") = some true ∧ PySem.W.typeIn K (.ref a) = some (.type "type") ∧
    ExcBaseFacts B newId initId bmB ∧ PySem.W.excIn K a bmB newId = true
  sub : ∀ c d b, m.G.S c d = some b → ∃ a k, mg (m.f c) = some (.ref a) ∧ mg (m.f d) = some (.ref k) ∧ PySem.W.exmOne K (.ref a) (.ref k) = some b ∧ PySem.W.kitOne K (.ref a) (.ref k) = some b ∧ ExcC K a
  glob : ∀ g v, m.G g = some v → ∃ u x, mg (m.f g) = some u ∧ RelV x u ∧ ∀ H M B a, Rel ⟨K, mg, ⟨m.f, T, a⟩⟩ H M B v x
  free : ∀ x, x ∈ bnames → mg x = none
  flds : ∀ c x, m.A c x = true → ∃ C, mg (m.f c) = some (.ref C) ∧ Cls K C ∧ NoAttr K C x
  isc : ∀ c, m.S c = true → ∃ C, mg (m.f c) = some (.ref C) ∧ IscC K C
section
variable {m : Mdl} {P : Program} {w : World} {K : PySem.W.Frag} {mg : Str → Option Value} {T : List (Addr × Str)} {cs : List (Addr × Addr)} {base : Heap} {N : Nat}
theorem sp_len {fn : Fn} {f : Nat} {d : Nat} (hT : m.at_ false f = some fn) (hv : fn.va = false) (vs : List V) (H : Hp) (Q : VK) (E : XK) (h : spOf ⟨K, mg, ⟨m.f, T, none⟩⟩ (m.run N (d + 1)) f vs H Q E) : vs.length = fn.ps.length := by
  obtain ⟨as, M, B, st, r, s, q⟩ := h
  rw [← r.length]
  by_cases e : fitV fn as
  · unfold fitV at e
    rw [hv] at e
    exact e
  · have : m.run N (d + 1) f as st = .bad := by
      show (match m.at_ false f with
        | none => R.bad
        | some fn => if fitV fn as then (evS m.G (m.run N d) N fn.body (startE fn (packV fn as)) st).bind Fl.val else .bad) = _
      rw [hT]
      show (if fitV fn as then _ else R.bad) = R.bad
      rw [if_neg e]
    rw [this] at q
    exact q.elim
theorem env_start {wl : Wd} {H : Hp} {M : List Addr} {B : Addr → Prop} {fn : Fn} {as : List PV} {vs : List V} (r : Rels wl H M B as vs) (hl : as.length ≤ fn.ns.length) : EnvR wl H M B (startE fn as) (L2.start fn.ns vs) := by
  unfold startE L2.start
  refine ⟨by rw [List.length_append, List.length_append, List.length_map, List.length_map, List.length_replicate, List.length_replicate, r.length], fun i v e => ?_⟩
  have hv := r.length
  by_cases h : i < as.length
  · rw [List.getElem?_append_left (by simpa using h), List.getElem?_map] at e
    cases q : as[i]? with
    | none => rw [q] at e; cases e
    | some x =>
      rw [q] at e
      cases e
      obtain ⟨u, h1, h2⟩ := r.get q
      refine ⟨u, ?_, h2⟩
      rw [List.getElem?_append_left (by simpa [← hv] using h), List.getElem?_map, h1]
      rfl
  · rw [List.getElem?_append_right (by simpa using h), List.getElem?_replicate] at e
    split at e <;> cases e
theorem startL_eq (fn : Fn) (as : List PV) : startL fn as = startE fn (as ++ [.clo]) := by
  unfold startL startE
  rw [List.length_append]; rfl
theorem Mdl.run_eq (m : Mdl) {N d f : Nat} {fn : Fn} {as : List PV} {st : Sto} (h : m.at_ false f = some fn) : m.run N (d + 1) f as st = if fitV fn as then (evS m.G (m.run N d) N fn.body (startE fn (packV fn as)) st).bind Fl.val else .bad := by
  show (match m.at_ false f with
    | none => R.bad
    | some fn => if fitV fn as then (evS m.G (m.run N d) N fn.body (startE fn (packV fn as)) st).bind Fl.val else .bad) = _
  rw [h]
theorem Mdl.run_at (m : Mdl) {N d f : Nat} {fn : Fn} {as : List PV} {st : Sto} (h : m.at_ false f = some fn) (hl : as.length = fn.ps.length) (hv : fn.va = false := by rfl) : m.run N (d + 1) f as st = (evS m.G (m.run N d) N fn.body (startE fn as) st).bind Fl.val := by
  rw [m.run_eq h]
  have e1 : fitV fn as := by unfold fitV; rw [hv]; exact hl
  have e2 : packV fn as = as := by unfold packV; rw [hv]; rfl
  rw [if_pos e1, e2]
theorem Mdl.run_va (m : Mdl) {N d f : Nat} {fn : Fn} {as : List PV} {st : Sto} (h : m.at_ false f = some fn) (h1 : fn.ps.length ≤ as.length + 1) (h2 : as.length ≤ big) (hv : fn.va = true := by rfl) :
    m.run N (d + 1) f as st = (evS m.G (m.run N d) N fn.body (startE fn (as.take (fn.ps.length - 1) ++ [.tup (as.drop (fn.ps.length - 1))])) st).bind Fl.val := by
  rw [m.run_eq h]
  have e1 : fitV fn as := by unfold fitV; rw [hv]; exact ⟨h1, h2⟩
  have e2 : packV fn as = as.take (fn.ps.length - 1) ++ [.tup (as.drop (fn.ps.length - 1))] := by unfold packV; rw [hv]; rfl
  rw [if_pos e1, e2]
theorem Mdl.lam_at (m : Mdl) {N d f : Nat} {fn : Fn} {as : List PV} {clo : List PV → Sto → R PV} {st : Sto} (h : m.at_ true f = some fn) (hl : as.length + 1 = fn.ps.length) :
    (m.run N (d + 1)).lam f as clo st = R.clean ((evS m.G { m.run N d with clo := clo } N fn.body (startL fn as) st).bind Fl.val) := by
  show (match m.at_ true f with
    | none => R.bad
    | some fn => if as.length + 1 = fn.ps.length then R.clean ((evS m.G { m.run N d with clo := clo } N fn.body (startL fn as) st).bind Fl.val) else .bad) = _
  rw [h]
  exact if_pos hl
/-- a def, called at one place -/
theorem fn_at {k : Nat} {a : Addr} {d : Def} {dV kV doc pm cdv ct oc : Value} {an od : Option Addr} {osl : Array (Option Value)} (lk : K.lookup a = some ⟨oc, od, .func (PySem.W.fnOf d.x d.qn d.params d.body d.scope dV kV doc pm an cdv ct), osl⟩) (hcd : PySem.W.codeIn K cdv d.qn = true)
    (S : FnScope d.fn.ns d.fn.ps d.scope) {A : Around} {outer : List Env} {s : Shared} {H : Hp} {args : Args} {us : List Value} {vs : List V} {Q : VK} {E : XK} (hr : Room (k + 1) A) (e0 : Env0 P w K mg base A outer s H)
    (hb : BindsTo s (PySem.W.fnOf d.x d.qn d.params d.body d.scope dV kV doc pm an cdv ct) args (d.fn.ps.zip us)) (rv : Vals vs us) (hl : vs.length = d.fn.ps.length)
    (go : EvSs (cxOf (L2.CX P w) P w K mg base d.fn.ns d.qn d.scope a cdv A outer s H E) d.body { nx := fun _ G => Q .non G, rt := Q } (start d.fn.ns vs) H) : codeAny (model P w) A (.call (.ref a) args) (CR (L2.CX P w) outer P w H s Q E) s := by
  have kx : K.In s.heap := e0.mod.kin.keeps fun b o e => (e0.bs b o e).1
  have par : ∀ y ∈ d.fn.ps.zip us, d.scope.names.lookup y.1 = some .local ∨ (d.scope.names.lookup y.1 = some .cell ∧ ((cellsFrom (s.heap.objs.size + 1) d.scope.names []).lookup y.1).isSome = true) := fun y hy =>
    (S.par y.1 (List.of_mem_zip (a := y.1) (b := y.2) hy).1).elim .inl fun q => .inr ⟨q, PySem.W.cellsFrom_some _ _ _ (.inl q)⟩
  refine codeAny_call_function hr.depth (kx _ _ lk) rfl S.co S.gen rfl (PySem.W.codeRec_of kx hcd) (hb _ _ _ _ (wpAny_newFunctionEnv_cells S.kind par fun env he s1 x => ?_))
  subst he
  refine ⟨(e0.mod.nolimit.keeps fun b o e => (e0.bs b o e).1).keeps x.toInCall.keep, codeAny_func ?_⟩
  have I := inv_start (CX := L2.CX P w) (E := E) S hr.hd e0 hl rv x
  refine wpAny_mono (go [] s1 I) (fun fl s' hs => ?_) fun e s' hs => hs
  cases fl with
  | ret u =>
    obtain ⟨v, _, G, J, r, q⟩ := hs
    exact ⟨v, G, J.os, J.bare, J.base, J.hok, r, q⟩
  | next =>
    obtain ⟨_, G, J, q⟩ := hs
    exact ⟨.non, G, J.os, J.bare, J.base, J.hok, rfl, q⟩
  | brk =>
    obtain ⟨_, _, _, q⟩ := hs
    exact q.elim
  | cont =>
    obtain ⟨_, _, _, q⟩ := hs
    exact q.elim
abbrev WeE (mg : Str → Option Value) (f : Nat → Str) (E : XK) : WeS := fun _ c _ H' _ => ∀ a, mg (f c) = some (.ref a) → E (.ref a) none H'
/-- what a def's end gives -/
theorem res_fl {wl : Wd} {B : Addr → Prop} {E : XK} {f : Nat → Str} {ρ0 : Env'} {H : Hp} {M : List Addr} {r : R Fl} {Q : VK} (q : Res wl B (RelR wl B) (fun c _ H' _ => ∀ a, mg (f c) = some (.ref a) → E (.ref a) none H') H M (r.bind Fl.val) Q) :
    ResS wl B (WeE mg f E) ρ0 H M r { nx := fun _ H' => Q .non H', rt := Q } := by
  cases r with
  | ok fl st1 =>
    cases fl with
    | nx ρ => exact fun σ' H' M' k s1 _ _ => q .non H' M' k s1 .non
    | rt v => exact fun u H' M' k s1 ru => q u H' M' k s1 ru
  | ex c st1 => exact fun σ' H' M' k s1 _ => q H' M' k s1
  | bad => exact q
/-- what every def keeps at a depth -/
structure Deep (m : Mdl) (P : Program) (w : World) (K : PySem.W.Frag) (mg : Str → Option Value) (T : List (Addr × Str)) (base : Heap) (N d : Nat) : Prop where
  fn : ∀ (f : Nat) (D : Def), m.defs[f]? = some D → m.L f = false → D.own = none → ∃ a fd, mg (m.f f) = some (.ref a) ∧ PySem.W.keepIn K (.ref a) = true ∧ Binds K fd D.fn.ps [] ∧
    FunD K D.x D.qn D.params D.body D.scope [] [] a fd ∧ FnOk P w K mg base (L2.CX P w) (6 * d) a fd D.fn.ps (spOf ⟨K, mg, ⟨m.f, T, none⟩⟩ (m.run N d) f)
  own : ∀ (f : Nat) (D : Def) (o : OwK) (c : Nat), m.defs[f]? = some D → m.L f = false → D.own = some (o, c) → ∃ C a, mg (m.f c) = some (.ref C) ∧ OwnAt K o C D.x a ∧ FnR P w K mg base (L2.CX P w) (6 * d) a (spOf ⟨K, mg, ⟨m.f, T, none⟩⟩ (m.run N d) f)
  lam : ∀ (f : Nat) (D : Def), m.defs[f]? = some D → m.L f = true → ∃ a, mg (m.f f) = some (.ref a) ∧ PySem.W.keepIn K (.ref a) = true ∧ LamOk P w ⟨K, mg, ⟨m.f, T, none⟩⟩ base (6 * d) a ((m.run N d).lam f)
theorem cx_of (hm : MdlOk m K mg T cs) (htb : ∀ p ∈ cs, LamX.TabB base mg p.1 p.2) {d : Nat} (ih : Deep m P w K mg T base N d) {f : Nat} {D : Def} {a : Addr} {cdv : Value} (S : FnScope D.fn.ns D.fn.ps D.scope)
    (hmk : m.mks f = true → ∃ c P, cdv = .ref c ∧ (c, P) ∈ cs ∧ (P, lamNm D) ∈ T ∧ ∀ p ∈ T, p.1 = P → p.2 = lamNm D) {A : Around} {outer : List Env} {s : Shared} {H : Hp} {E : XK} {k : Nat} (hr : Room k (A.deeper (envOfC D.qn D.scope s.heap.objs.size a cdv))) (hk : 6 * d + 5 ≤ k)
    (fa : Option Addr) (clo : Option Nat) (cf : CallF) (h1 : cf.call = (m.run N d).call) (h2 : cf.lam = (m.run N d).lam) (h3 : cf.isF = (m.run N d).isF) (hcl : clo = none → fa = none) :
    CtS (m.info T f D.fn.ns fa clo) m.G cf (cxOf (L2.CX P w) P w K mg base D.fn.ns D.qn D.scope a cdv A outer s H E) (WeE mg m.f E) where
  cx :=
    { calm := rfl
      nd := S.nd
      N := rfl
      takes := (takes_of rfl rfl rfl rfl).imp fun cls dd σ H' ⟨c, st', M', a', e1, e2, e3, e4⟩ => by subst e1; subst e2; exact e4 a' e3
      un := by have := hr.un; show (A.deeper _).units + 65 < cLine; omega
      fns := by
        refine ⟨6 * d, hr.mono (by omega), fun z => hr.mono hk, fun g hg => ?_, fun g hg => ?_, hr.mono (by omega), fun o c x g hg => ?_⟩
        · obtain ⟨g2, g1⟩ := mem_bool (show (!(m.L g) && (match m.defs[g]? with
            | some d => d.isP
            | none => false)) = true from hg)
          cases eD : m.defs[g]? with
          | none => rw [eD] at g1; cases g1
          | some D' =>
            rw [eD] at g1
            obtain ⟨a', fd', q1, q2, q3, q4, q5⟩ := ih.fn g D' eD (by simpa using g2) (Option.isNone_iff_eq_none.mp g1)
            refine ⟨a', fd', _, q1, q2, q3, ?_⟩
            have e : spOf ⟨K, mg, ⟨m.f, T, none⟩⟩ cf g = spOf ⟨K, mg, ⟨m.f, T, none⟩⟩ (m.run N d) g := by unfold spOf; rw [h1]
            show FnOk P w K mg base (L2.CX P w) (6 * d) a' fd' _ (spOf ⟨K, mg, ⟨m.f, T, none⟩⟩ cf g)
            rw [e]; exact q5
        · obtain ⟨g1, g2⟩ := mem_bool (show (m.L g && decide (g < m.defs.length)) = true from hg)
          have g2 := of_decide_eq_true g2
          obtain ⟨a', q1, q2, q3⟩ := ih.lam g m.defs[g] (List.getElem?_eq_getElem g2) g1
          exact ⟨a', q1, q2, fun _ => by rw [h2]; exact q3⟩
        · obtain ⟨g2, g1⟩ := mem_bool (show (!(m.L g) && (match m.defs[g]? with
            | some d => decide (d.own = some (o, c)) && decide (d.x = x)
            | none => false)) = true from hg)
          cases eD : m.defs[g]? with
          | none => rw [eD] at g1; cases g1
          | some D' =>
            rw [eD] at g1
            obtain ⟨g3, g4⟩ := mem_bool g1
            have g4 := of_decide_eq_true g4
            subst g4
            obtain ⟨C', a', q1, q2, q3⟩ := ih.own g D' o c eD (by simpa using g2) (of_decide_eq_true g3)
            refine ⟨C', a', q1, q2, ?_⟩
            have e : spOf ⟨K, mg, ⟨m.f, T, none⟩⟩ cf g = spOf ⟨K, mg, ⟨m.f, T, none⟩⟩ (m.run N d) g := by unfold spOf; rw [h1]
            show FnR P w K mg base (L2.CX P w) (6 * d) a' (spOf ⟨K, mg, ⟨m.f, T, none⟩⟩ cf g)
            rw [e]; exact q3
      glob := fun g v e => let ⟨u, x, e1, e2, e3⟩ := hm.glob g v e; ⟨u, x, e1, e2, fun H M B => e3 H M B fa⟩
      free := hm.free
      fn := fun _ _ => rfl
      cl := hcl
      isf := fun g hg => by
        rw [h3] at hg
        have hg : plainAt (m.at_ false g) = true := by cases d <;> exact hg
        unfold Mdl.at_ at hg
        split at hg
        · rename_i hL
          show (!(m.L g) && (match m.defs[g]? with
            | some d => d.isP
            | none => false)) = true
          rw [hL]
          cases q : m.defs[g]? with
          | none => rw [q] at hg; cases hg
          | some D' =>
            rw [q] at hg
            have ho : D'.fn.own = false := by simpa [plainAt] using hg
            obtain ⟨k1, _⟩ := mem_bool (show ((scopeB D'.fn.ns D'.fn.ps D'.scope && (decide (D'.fn.own = !D'.isP) && (D'.isP && !D'.fn.va || !D'.isP))) && _) = true from by have := Mdl.oks_at hm.ok g D' q; rw [Nat.zero_add] at this; exact this)
            obtain ⟨_, k1⟩ := mem_bool k1
            obtain ⟨k1, _⟩ := mem_bool k1
            have k1 := of_decide_eq_true k1
            rw [ho] at k1
            simpa using k1.symm
        · cases hg
      flds := hm.flds
      isc := hm.isc
      mn := fun _ => rfl
      lam := fun _ hl => by
        obtain ⟨c, Pt, e1, e2, e3, e4⟩ := hmk hl
        exact ⟨c, Pt, e1, rfl, htb _ e2, e3, e4⟩ }
  own := passes_of rfl
  kind := S.kind
  exc := fun c hc => let ⟨a', B', newId, initId, bmB, m1, m2, m3, m4, m5, m6⟩ := hm.exc c hc; ⟨a', B', newId, initId, bmB, m1, m2, raises_own m3 m4, m5, m6⟩
  sub := hm.sub
  stk := rfl
  frm := rfl
theorem sub_start (fn : Fn) (as : List PV) (h : as.length ≤ fn.ns.length) : Sub (List.replicate fn.ns.length none) (startE fn as) := by
  refine ⟨by unfold startE; rw [List.length_replicate, List.length_append, List.length_map, List.length_replicate]; omega, fun i v e => ?_⟩
  rw [List.getElem?_replicate] at e
  split at e <;> cases e
theorem rep_none {n i : Nat} {v : PV} : (List.replicate n (none : Option PV))[i]? ≠ some (some v) := fun e => by
  rw [List.getElem?_replicate] at e
  split at e <;> cases e
/-- what a def's check says -/
theorem ok_of (hm : MdlOk m K mg T cs) {f : Nat} {D : Def} (hD : m.defs[f]? = some D) (hL : m.L f = false) : FnScope D.fn.ns D.fn.ps D.scope ∧ (D.own = none → D.fn.va = false) ∧ chkS (m.info [] f D.fn.ns none none) D.fn.body D.scope D.body = true := by
  obtain ⟨k1, k2⟩ := mem_bool (show ((scopeB D.fn.ns D.fn.ps D.scope && (decide (D.fn.own = !D.isP) && (D.isP && !D.fn.va || !D.isP))) && _) = true from by have := Mdl.oks_at hm.ok f D hD; rw [Nat.zero_add] at this; exact this)
  obtain ⟨k1, k3⟩ := mem_bool k1
  obtain ⟨_, k3⟩ := mem_bool k3
  rw [hL] at k2
  refine ⟨scopeB_ok k1, fun ho => ?_, k2⟩
  have e : D.isP = true := by unfold Def.isP; rw [ho]; rfl
  rw [e] at k3
  simpa using k3
/-- a body, run -/
theorem body_ok (hm : MdlOk m K mg T cs) (htb : ∀ p ∈ cs, LamX.TabB base mg p.1 p.2) {d : Nat} (ih : Deep m P w K mg T base N d) {f : Nat} {D : Def} {a : Addr} {cdv : Value} (S : FnScope D.fn.ns D.fn.ps D.scope) (hk : chkS (m.info [] f D.fn.ns none none) D.fn.body D.scope D.body = true)
    (hmk : m.mks f = true → ∃ c P, cdv = .ref c ∧ (c, P) ∈ cs ∧ (P, lamNm D) ∈ T ∧ ∀ p ∈ T, p.1 = P → p.2 = lamNm D) {A : Around} {outer : List Env} {s : Shared} {H : Hp} {E : XK} {Q : VK} {as : List PV} {vs : List V} {M : List Addr} {B : Addr → Prop} {st : Sto}
    (hr : Room (6 * d + 5) (A.deeper (envOfC D.qn D.scope s.heap.objs.size a cdv))) (r : Rels ⟨K, mg, ⟨m.f, T, none⟩⟩ H M B as vs) (hl : as.length = D.fn.ps.length) (sc : Cels ⟨K, mg, ⟨m.f, T, none⟩⟩ H M B st)
    (q : Res ⟨K, mg, ⟨m.f, T, none⟩⟩ B (RelR ⟨K, mg, ⟨m.f, T, none⟩⟩ B) (fun c _ H' _ => ∀ a, mg (m.f c) = some (.ref a) → E (.ref a) none H') H M ((evS m.G (m.run N d) N D.fn.body (startE D.fn as) st).bind Fl.val) Q) :
    EvSs (cxOf (L2.CX P w) P w K mg base D.fn.ns D.qn D.scope a cdv A outer s H E) D.body { nx := fun _ G => Q .non G, rt := Q } (start D.fn.ns vs) H := by
  have hpl : D.fn.ps.length ≤ D.fn.ns.length := by have := congrArg List.length S.pre; rw [List.length_take] at this; omega
  have cs' := cx_of (E := E) hm htb ih (f := f) (D := D) (a := a) (cdv := cdv) S hmk (A := A) (outer := outer) (s := s) (H := H) hr (Nat.le_refl _) none none (m.run N d) rfl rfl rfl (fun _ => rfl)
  exact (sdS D.fn.body).L (ρ0 := List.replicate D.fn.ns.length none) ⟨cs', env_start r (by omega), sc, sub_start _ _ (by omega), fun _ i hi => by cases hi⟩ hk (fun i _ v => rep_none) (res_fl q)
/-- a def with a starred parameter, called -/
abbrev bodySp (m : Mdl) (K : PySem.W.Frag) (mg : Str → Option Value) (T : List (Addr × Str)) (N d : Nat) (D : Def) : Sp := fun vs H Q E => ∃ (as : List PV) (M : List Addr) (B : Addr → Prop) (st : Sto), Rels ⟨K, mg, ⟨m.f, T, none⟩⟩ H M B as vs ∧ as.length = D.fn.ps.length ∧ Cels ⟨K, mg, ⟨m.f, T, none⟩⟩ H M B st ∧
  Res ⟨K, mg, ⟨m.f, T, none⟩⟩ B (RelR ⟨K, mg, ⟨m.f, T, none⟩⟩ B) (fun c _ H' _ => ∀ a, mg (m.f c) = some (.ref a) → E (.ref a) none H') H M ((evS m.G (m.run N d) N D.fn.body (startE D.fn as) st).bind Fl.val) Q
theorem va_of {d f : Nat} {D : Def} (hT : m.at_ false f = some D.fn) (hv : D.fn.va = true) {vs : List V} {H : Hp} {Q : VK} {E : XK} (h : spOf ⟨K, mg, ⟨m.f, T, none⟩⟩ (m.run N (d + 1)) f vs H Q E) {ps : List Str} {pv : Str} (hps : D.fn.ps = ps ++ [pv]) :
    ∃ ws rest, vs = ws ++ rest ∧ ws.length = ps.length ∧ rest.length ≤ sizeLine ∧ ∀ p, H p = Option.none → bodySp m K mg T N d D (ws ++ [V.ref p]) (upd H p (.tup rest)) Q E := by
  obtain ⟨as, M, B, st, r, sc, q⟩ := h
  rw [m.run_eq hT] at q
  have hn : D.fn.ps.length = ps.length + 1 := by rw [hps]; simp
  by_cases e : fitV D.fn as
  · rw [if_pos e] at q
    have e' := e
    unfold fitV at e'
    rw [hv] at e'
    obtain ⟨e1, e2⟩ : D.fn.ps.length ≤ as.length + 1 ∧ as.length ≤ big := e'
    have hvl := r.length
    refine ⟨vs.take ps.length, vs.drop ps.length, (List.take_append_drop _ _).symm, by rw [List.length_take]; omega, by rw [List.length_drop]; have := line_big; omega, fun p hp => ?_⟩
    refine ⟨packV D.fn as, M, B, st, ?_, ?_, sc.new hp, Res.mono q (.new hp)⟩
    · unfold packV
      rw [hv, hn]
      show Rels _ _ _ _ (as.take (ps.length + 1 - 1) ++ [.tup (as.drop (ps.length + 1 - 1))]) _
      rw [Nat.add_sub_cancel]
      exact ((r.take _).mono (.new hp)).append (.cons (.tup upd_same (fun z => sc.mem z hp) ((r.drop _).mono (.new hp))) .nil)
    · unfold packV
      rw [hv, hn]
      show (as.take (ps.length + 1 - 1) ++ [PV.tup (as.drop (ps.length + 1 - 1))]).length = _
      rw [Nat.add_sub_cancel, List.length_append, List.length_take]
      show _ + 1 = _
      omega
  · rw [if_neg e] at q
    exact q.elim
/-- THE RULE: every def keeps what the evaluator says, to any depth -/
theorem defs_ok (hm : MdlOk m K mg T cs) (htb : ∀ p ∈ cs, LamX.TabB base mg p.1 p.2) : ∀ d : Nat, Deep m P w K mg T base N d := by
  intro d
  induction d with
  | zero =>
    refine ⟨fun f D hD hL ho => ?_, fun f D o c hD hL ho => ?_, fun f D hD hL => ?_⟩
    · obtain ⟨a, fd, g, _, F, _⟩ := hm.fd f D hD
      refine ⟨a, fd, by rw [hm.nm f D hD]; exact g ho, F.kp, F.bindsN ((hm.bd f D hD).1 ((ok_of hm hD hL).2.1 ho)), F, ⟨fun vs H Q E h => ?_, fun A outer s H args us vs Q E _ _ _ _ h => ?_⟩⟩
      · obtain ⟨as, M, B, st, r, s, q⟩ := h
        exact (show False from q).elim
      · obtain ⟨as, M, B, st, r, s, q⟩ := h
        exact (show False from q).elim
    · obtain ⟨a, fd, _, g, F, _⟩ := hm.fd f D hD
      obtain ⟨C, g1, g2⟩ := g o c ho
      refine ⟨C, a, g1, g2, fun A outer s H us vs Q E _ _ _ h => ?_⟩
      obtain ⟨as, M, B, st, r, s, q⟩ := h
      exact (show False from q).elim
    · obtain ⟨a, fd, g, _, F, _⟩ := hm.fd f D hD
      have ho : D.own = none := by
        obtain ⟨_, k2⟩ := mem_bool (show (_ && (if m.L f then (D.isP && decide (0 < D.fn.ps.length)) && _ else _)) = true from by have := Mdl.oks_at hm.ok f D hD; rw [Nat.zero_add] at this; exact this)
        rw [hL] at k2
        exact Option.isNone_iff_eq_none.mp (mem_bool (mem_bool k2).1).1
      exact ⟨a, by rw [hm.nm f D hD]; exact g ho, F.kp, fun A outer s H us vs fa as M B st clo Q E _ _ _ _ _ _ q => (show False from q).elim⟩
  | succ d ih =>
    refine ⟨fun f D hD hL ho => ?_, fun f D o c hD hL ho => ?_, fun f D hD hL => ?_⟩
    · obtain ⟨a, fd, g, _, F, hmk⟩ := hm.fd f D hD
      have hT : m.at_ false f = some D.fn := by unfold Mdl.at_; rw [if_pos hL, hD]; rfl
      obtain ⟨S, hv, k2⟩ := ok_of hm hD hL
      have hv := hv ho
      refine ⟨a, fd, by rw [hm.nm f D hD]; exact g ho, F.kp, F.bindsN ((hm.bd f D hD).1 hv), F, ⟨sp_len hT hv, fun A outer s H args us vs Q E hr e0 hb rv h => ?_⟩⟩
      have hl := sp_len hT hv vs H Q E h
      obtain ⟨oc, od, dV, kV, doc, pm, an, cdv, ct, osl, rfl, lk, hcd, _, _⟩ := F.ex
      obtain ⟨as, M, B, st, r, sc, q⟩ := h
      have hal : as.length = D.fn.ps.length := by rw [r.length]; exact hl
      rw [m.run_at hT hal hv] at q
      have hr' : Room (6 * d + 5 + 1) A := hr
      exact fn_at (k := 6 * d + 5) lk hcd S hr' e0 hb rv hl (body_ok hm htb ih S k2 hmk (hr'.deeper _) r hal sc q)
    · obtain ⟨a, fd, _, g, F, hmk⟩ := hm.fd f D hD
      obtain ⟨C, g1, g2⟩ := g o c ho
      have hT : m.at_ false f = some D.fn := by unfold Mdl.at_; rw [if_pos hL, hD]; rfl
      obtain ⟨S, _, k2⟩ := ok_of hm hD hL
      refine ⟨C, a, g1, g2, ?_⟩
      cases hv : D.fn.va with
      | false =>
        intro A outer s H us vs Q E hr e0 rv h
        have hl := sp_len hT hv vs H Q E h
        obtain ⟨oc, od, dV, kV, doc, pm, an, cdv, ct, osl, rfl, lk, hcd, _, _⟩ := id F.ex
        obtain ⟨as, M, B, st, r, sc, q⟩ := h
        have hal : as.length = D.fn.ps.length := by rw [r.length]; exact hl
        rw [m.run_at hT hal hv] at q
        have hr' : Room (6 * d + 5 + 1) A := hr
        exact fn_at (k := 6 * d + 5) lk hcd S hr' e0 (FunD.bindsA F ((hm.bd f D hD).1 hv) s us (by rw [← rv.length]; exact hl)) rv hl (body_ok hm htb ih S k2 hmk (hr'.deeper _) r hal sc q)
      | true =>
        obtain ⟨ps, pv, hps, hb⟩ := (hm.bd f D hD).2 hv
        obtain ⟨oc, od, dV, kV, doc, pm, an, cdv, ct, osl, rfl, lk, hcd, hdV, _⟩ := F.ex
        have hd0 : dV = .none := by
          rcases hdV with ⟨_, e⟩ | ⟨e, _⟩
          · exact e
          · exact absurd rfl e
        subst hd0
        rw [hps] at S
        refine FnR.imp (StX.fn_star (sp := bodySp m K mg T N d D) lk hcd S StX.cxUp (hb kV doc pm an cdv ct) fun A outer s H vs Q E hr h => ?_) fun vs H Q E h => va_of hT hv h hps
        obtain ⟨as, M, B, st, r, hal, sc, q⟩ := h
        rw [← hps] at S
        exact ⟨_, pss_ev, body_ok hm htb ih S k2 hmk hr r hal sc q⟩
    · obtain ⟨a, fd, g, _, F, hmk⟩ := hm.fd f D hD
      have hT : m.at_ true f = some D.fn := by unfold Mdl.at_; rw [if_pos hL, hD]; rfl
      obtain ⟨k1, k2⟩ := mem_bool (show ((scopeB D.fn.ns D.fn.ps D.scope && (decide (D.fn.own = !D.isP) && (D.isP && !D.fn.va || !D.isP))) && (if m.L f then (D.isP && decide (0 < D.fn.ps.length)) && chkS (m.info [] f D.fn.ns none (some (D.fn.ps.length - 1))) D.fn.body D.scope D.body else _)) = true from by have := Mdl.oks_at hm.ok f D hD; rw [Nat.zero_add] at this; exact this)
      rw [hL] at k2
      obtain ⟨k2, k3⟩ := mem_bool k2
      obtain ⟨ho, k2⟩ := mem_bool k2
      have ho : D.own = none := Option.isNone_iff_eq_none.mp ho
      have k2 := of_decide_eq_true k2
      obtain ⟨k1, k4⟩ := mem_bool k1
      have hv : D.fn.va = false := by
        obtain ⟨_, k4⟩ := mem_bool k4
        have e : D.isP = true := by unfold Def.isP; rw [ho]; rfl
        rw [e] at k4
        simpa using k4
      have S := scopeB_ok k1
      refine ⟨a, by rw [hm.nm f D hD]; exact g ho, F.kp, fun A outer s H us vs fa as M B st clo Q E hr e0 rv r sc ca q => ?_⟩
      obtain ⟨oc, od, dV, kV, doc, pm, an, cdv, ct, osl, rfl, lk, hcd, _, _⟩ := id F.ex
      have hpl : D.fn.ps.length ≤ D.fn.ns.length := by have := congrArg List.length S.pre; rw [List.length_take] at this; omega
      have er : (m.run N (d + 1)).lam f as clo st = (match m.at_ true f with
          | none => R.bad
          | some fn => if as.length + 1 = fn.ps.length then R.clean ((evS m.G { m.run N d with clo := clo } N fn.body (startL fn as) st).bind Fl.val) else .bad) := rfl
      rw [er, hT] at q
      dsimp only at q
      by_cases hal : as.length + 1 = D.fn.ps.length
      · rw [if_pos hal] at q
        have hvl : vs.length = as.length := r.length.symm
        have hl : (vs ++ [V.ref fa]).length = D.fn.ps.length := by rw [List.length_append, hvl]; exact hal
        have hr' : Room (6 * d + 10 + 1) A := hr
        refine fn_at (k := 6 * d + 10) lk hcd S hr' e0 (FunD.bindsA F ((hm.bd f D hD).1 hv) s (us ++ [.ref fa]) ?_) (Vals.append rv (.cons (show RelV (.ref fa) (.ref fa) from rfl) .nil)) hl ?_
        · rw [List.length_append, ← rv.length, hvl]; exact hal
        · have cs' := cx_of (E := E) hm htb ih (f := f) (D := D) (a := a) (cdv := cdv) S hmk (A := A) (outer := outer) (s := s) (H := H) (hr'.deeper _) (by omega) (some fa) (some (D.fn.ps.length - 1)) { m.run N d with clo := clo } rfl rfl rfl (fun z => by cases z)
          have ron : Rels ⟨K, mg, ⟨m.f, T, some fa⟩⟩ H M B (as ++ [.clo]) (vs ++ [.ref fa]) := (Rels.on (w := ⟨K, mg, ⟨m.f, T, some fa⟩⟩) r).append (.cons (.clo rfl) .nil)
          refine (sdS (N := N) D.fn.body).L (ρ0 := List.replicate D.fn.ns.length none) (ρ := startL D.fn as) ⟨cs', ?_, Cels.on (w := ⟨K, mg, ⟨m.f, T, some fa⟩⟩) sc, ?_, fun _ i hi => ⟨fa, M, 6 * (d + 1) + 3, rfl, ?_, rfl, .refl _ _, ?_⟩⟩ k3 (fun i _ v => rep_none) ?_
          · rw [startL_eq]
            exact env_start ron (by rw [List.length_append]; show as.length + 1 ≤ _; omega)
          · rw [startL_eq]
            exact sub_start _ _ (by rw [List.length_append]; show as.length + 1 ≤ _; omega)
          · exact (hr'.deeper _).mono (by omega)
          · exact ca
          · refine res_fl ?_
            -- what comes back holds no function
            cases e : (evS m.G { m.run N d with clo := clo } N D.fn.body (startL D.fn as) st).bind Fl.val with
            | ok v st' =>
              rw [e] at q
              unfold R.clean at q
              dsimp only at q
              by_cases hv : v.noCel = true
              · rw [if_pos hv] at q
                exact fun u H' M' k s1 ru => q u H' M' k (Cels.off s1) (Rel.off hv ru)
              · rw [if_neg hv] at q; exact q.elim
            | ex c st' =>
              rw [e] at q
              exact fun H' M' k s1 => q H' M' k (Cels.off s1)
            | bad => rw [e] at q; exact q.elim
      · rw [if_neg hal] at q; exact q.elim
end
end Mi

end

section
set_option linter.all false
set_option maxRecDepth 100000
/-! Mi, part M: a module's facts by the head; the law's end. -/
namespace Mi
open PySem PySem.Spec PyProof.Rows L2


mutual
def kRel (K : PySem.W.Frag) (nm : Nat → Str) : PV → Value → Bool
  | .non, .none => true
  | .bl b, .bool c => b == c
  | .int i, .int j _ => decide (i = j)
  | .str x, .str y _ => decide (x = y)
  | .ty n, .type m => decide (n = m)
  | .glo x, .ref a => decide (PySem.W.nsIn K mainGlobals (nm x) = some (some (.ref a)))
  | .tup xs, .ref a => (match K.lookup a with
    | some ⟨.type c, _, .seq its _, _⟩ => decide (c = "tuple") && (decide (its.size ≤ sizeLine) && kRels K nm xs its.toList)
    | _ => false)
  | .scr xs, .ref a => (match K.lookup a with
    | some ⟨.type c, none, .seq its _, _⟩ => decide (c = "list") && (decide (its.size ≤ sizeLine) && kRels K nm xs its.toList)
    | _ => false)
  | _, _ => false
def kRels (K : PySem.W.Frag) (nm : Nat → Str) : List PV → List Value → Bool
  | [], [] => true
  | x :: xs, v :: vs => kRel K nm x v && kRels K nm xs vs
  | _, _ => false
end
section
variable {K : PySem.W.Frag} {mg : Str → Option Value} {nm : Nat → Str} {h : Heap}
mutual
theorem kRel_ok (X : K.In h) (Gn : h.Ns mainGlobals mg) : ∀ (p : PV) (u : Value), kRel K nm p u = true → ∃ x, RelV x u ∧ ∀ H M B T a, Rel ⟨K, mg, ⟨nm, T, a⟩⟩ H M B p x
  | .non, u, e => by cases u <;> first | (exact absurd e Bool.false_ne_true) | exact ⟨.non, rfl, fun _ _ _ _ _ => .non⟩
  | .bl b, u, e => by
    cases u <;> first | (exact absurd e Bool.false_ne_true) | skip
    rename_i c
    have e1 : b = c := eq_of_beq (show (b == c) = true from e)
    subst e1
    exact ⟨.bl b, rfl, fun _ _ _ _ _ => .bl b⟩
  | .int i, u, e => by
    cases u <;> first | (exact absurd e Bool.false_ne_true) | skip
    rename_i j t
    have e1 : i = j := of_decide_eq_true (show decide (i = j) = true from e)
    subst e1
    exact ⟨.int i, ⟨t, rfl⟩, fun _ _ _ _ _ => .int i⟩
  | .str i, u, e => by
    cases u <;> first | (exact absurd e Bool.false_ne_true) | skip
    rename_i j t
    have e1 : i = j := of_decide_eq_true (show decide (i = j) = true from e)
    subst e1
    exact ⟨.str i, ⟨t, rfl⟩, fun _ _ _ _ _ => .str i⟩
  | .ty i, u, e => by
    cases u <;> first | (exact absurd e Bool.false_ne_true) | skip
    rename_i j
    have e1 : i = j := of_decide_eq_true (show decide (i = j) = true from e)
    subst e1
    exact ⟨.ty i, rfl, fun _ _ _ _ _ => .ty i⟩
  | .glo x, u, e => by
    cases u <;> first | (exact absurd e Bool.false_ne_true) | skip
    rename_i a
    have e1 : PySem.W.nsIn K mainGlobals (nm x) = some (some (.ref a)) := of_decide_eq_true (show decide _ = true from e)
    exact ⟨.ref a, rfl, fun _ _ _ _ _ => .glo (PySem.W.mg_of X Gn e1)⟩
  | .tup xs, u, e => by
    cases u <;> first | (exact absurd e Bool.false_ne_true) | skip
    rename_i a
    have e1 : (match K.lookup a with
      | some ⟨.type c, _, .seq its _, _⟩ => decide (c = "tuple") && (decide (its.size ≤ sizeLine) && kRels K nm xs its.toList)
      | _ => false) = true := e
    split at e1
    · rename_i c od its n osl q
      obtain ⟨h1, e1⟩ := mem_bool e1
      obtain ⟨h2, h3⟩ := mem_bool e1
      obtain ⟨vs, r1, r2⟩ := kRels_ok X Gn xs its.toList h3
      refine ⟨.ref a, rfl, fun H M B T a => .ktup ⟨_, its, n, q, congrArg Value.type (of_decide_eq_true h1), rfl, of_decide_eq_true h2, r1⟩ (r2 H M B T a)⟩
    · cases e1
  | .scr xs, u, e => by
    cases u <;> first | (exact absurd e Bool.false_ne_true) | skip
    rename_i a
    have e1 : (match K.lookup a with
      | some ⟨.type c, none, .seq its _, _⟩ => decide (c = "list") && (decide (its.size ≤ sizeLine) && kRels K nm xs its.toList)
      | _ => false) = true := e
    split at e1
    · rename_i c its n osl q
      obtain ⟨h1, e1⟩ := mem_bool e1
      obtain ⟨h2, h3⟩ := mem_bool e1
      obtain ⟨vs, r1, r2⟩ := kRels_ok X Gn xs its.toList h3
      refine ⟨.ref a, rfl, fun H M B T a => .kscr ⟨_, its, n, q, congrArg Value.type (of_decide_eq_true h1), rfl, rfl, of_decide_eq_true h2, r1⟩ (r2 H M B T a)⟩
    · cases e1
  | .lst xs, u, e => by cases u <;> exact absurd e Bool.false_ne_true
  | .cel n, u, e => by cases u <;> exact absurd e Bool.false_ne_true
  | .dct n, u, e => by cases u <;> exact absurd e Bool.false_ne_true
  | .clo, u, e => by cases u <;> exact absurd e Bool.false_ne_true
theorem kRels_ok (X : K.In h) (Gn : h.Ns mainGlobals mg) : ∀ (ps : List PV) (us : List Value), kRels K nm ps us = true → ∃ xs, Vals xs us ∧ ∀ H M B T a, Rels ⟨K, mg, ⟨nm, T, a⟩⟩ H M B ps xs
  | [], us, e => by
    cases us with
    | nil => exact ⟨[], .nil, fun _ _ _ _ _ => .nil⟩
    | cons _ _ => exact absurd e Bool.false_ne_true
  | p :: ps, us, e => by
    cases us with
    | nil => exact absurd e Bool.false_ne_true
    | cons u us =>
      obtain ⟨h1, h2⟩ := mem_bool (show (kRel K nm p u && kRels K nm ps us) = true from e)
      obtain ⟨x, r1, r2⟩ := kRel_ok X Gn p u h1
      obtain ⟨xs, r3, r4⟩ := kRels_ok X Gn ps us h2
      exact ⟨x :: xs, .cons r1 r3, fun H M B T a => .cons (r2 H M B T a) (r4 H M B T a)⟩
end
end

/-! ### a module by its lists -/
structure Txt where
  defs : List Def
  /-- all names: the defs', then others' -/
  names : List Str
  /-- exception classes -/
  cls : List Nat
  /-- constants -/
  cons : List (Nat × PV)
  /-- defs that are handed a function; defs that make some -/
  lams : List Nat := []
  mks : List Nat := []
  /-- which class stands below which -/
  subs : List ((Nat × Nat) × Bool) := []
  /-- fields of classes; classes that isinstance asks for -/
  flds : List (Nat × Str) := []
  iscs : List Nat := []
def Txt.nm (t : Txt) : Nat → Str := fun i => t.names.getD i ""
def Txt.mn (t : Txt) (f : Nat) : Str := match t.defs[f]? with
  | some d => d.x
  | none => ""
def Txt.mdl (t : Txt) : Mdl := ⟨t.defs, t.nm, fun c => t.cls.contains c, fun f => t.lams.contains f, fun f => t.mks.contains f, ⟨fun g => t.cons.lookup g, t.mn, fun c d => t.subs.lookup (c, d)⟩, fun c x => t.flds.contains (c, x), fun c => t.iscs.contains c⟩
def Def.dd (d : Def) : He.DefD := ⟨(d.x, none), d.x, d.qn, d.params, d.body, d.scope, [], []⟩
def Txt.fn (t : Txt) : List He.DefD := (t.defs.filter Def.isP).map Def.dd
def Txt.ow (t : Txt) : List Def := t.defs.filter fun d => !d.isP
def Txt.fa (t : Txt) : List He.Fa := ((t.defs.filter Def.isP).map fun d => .glo d.x) ++ ((t.cls.map fun c => .glo (t.nm c)) ++ ((t.cls.map fun c => .exc (t.nm c)) ++ bnames.map .free))
/-- a class of errors, as isinstance asks it -/
def excCB (K : PySem.W.Frag) (D : Addr) : Bool :=
  decide (PySem.W.findIn K (.ref D) "__getattribute__" = some (some (.builtin "BaseException.__getattribute__"))) && (decide (PySem.W.findIn K (.ref D) "__getattr__" = some none) && (decide (PySem.W.subIn K (.ref D) (.type "BaseException") = some true) && (PySem.W.hasDictIn K D &&
    (decide (PySem.W.findIn K (.ref D) "__class__" = some (some (.builtin "object.__class__"))) && (decide (PySem.W.specialIn K (.builtin "object.__class__") "__get__" = some (some (.builtin "getset_descriptor.__get__"))) && (decide (PySem.W.takesIn K (.builtin "object.__class__") = some true) &&
      decide (PySem.W.mroIn K D (.type "object") = some true)))))))
theorem excCB_ok {K : PySem.W.Frag} {D : Addr} (h : excCB K D = true) : ExcC K D := by
  obtain ⟨h1, h⟩ := mem_bool h
  obtain ⟨h2, h⟩ := mem_bool h
  obtain ⟨h3, h⟩ := mem_bool h
  obtain ⟨h4, h⟩ := mem_bool h
  obtain ⟨h5, h⟩ := mem_bool h
  obtain ⟨h6, h⟩ := mem_bool h
  obtain ⟨h7, h8⟩ := mem_bool h
  exact ⟨of_decide_eq_true h1, of_decide_eq_true h2, of_decide_eq_true h3, h4, of_decide_eq_true h5, of_decide_eq_true h6, of_decide_eq_true h7, of_decide_eq_true h8⟩
/-- a class's statement -/
def clsAt (s : Stmt) (k : Nat) : Stmt := match s with
  | .ClassDef _ _ _ body _ _ _ _ _ _ _ => body.getD k (.Pass ⟨0, 0, 0, 0⟩)
  | _ => .Pass ⟨0, 0, 0, 0⟩
/-! ### what classes have of their own -/
def inRec (K : PySem.W.Frag) (p : Addr) (n : String) : Addr := match PySem.W.recIn K p n with
  | some (.ref g :: _) => g
  | _ => 0
def recB (K : PySem.W.Frag) (p : Addr) (n : String) : Bool := match PySem.W.recIn K p n with
  | some (.ref _ :: _) => true
  | _ => false
theorem recB_ok {K : PySem.W.Frag} {p : Addr} {n : String} (h : recB K p n = true) : ∃ rest, PySem.W.recIn K p n = some (.ref (inRec K p n) :: rest) := by
  unfold recB at h
  unfold inRec
  split at h
  · rename_i g rest e
    exact ⟨rest, by rw [e]⟩
  · cases h
/-- where an own def stands -/
def ownAd (K : PySem.W.Frag) (o : OwK) (C : Addr) (m : Str) : Addr := match o with
  | .prop => inRec K (He.ma K C m) "property"
  | .cm => inRec K (He.ma K C m) "classmethod"
  | .init => He.ma K C "__init__"
  | _ => He.ma K C m
def clsB (K : PySem.W.Frag) (C : Addr) : Bool := PySem.W.plainGet K C Str.empty && (PySem.W.hasDictIn K C && (PySem.W.plainOver K C && He.eqO (PySem.W.findIn K (.ref C) "__setattr__") (some (some (.builtin "object.__setattr__")))))
theorem clsB_ok {K : PySem.W.Frag} {C : Addr} (c : clsB K C = true) : Cls K C := by
  obtain ⟨c1, c⟩ := mem_bool c
  obtain ⟨c2, c⟩ := mem_bool c
  obtain ⟨c3, c4⟩ := mem_bool c
  exact ⟨c1, c2, c3, He.eqO_ok c4⟩
def fcB (K : PySem.W.Frag) (C : Addr) (m : Str) (p : Addr) : Bool := match PySem.W.findCls K (.ref C) (.type "type") m with
  | some (.get g q n c) => decide (g = .builtin "classmethod.__get__") && (decide (q = .ref p) && (decide (n = .none) && decide (c = .ref C)))
  | _ => false
theorem fcB_ok {K : PySem.W.Frag} {C : Addr} {m : Str} {p : Addr} (h : fcB K C m p = true) : PySem.W.findCls K (.ref C) (.type "type") m = some (.get (.builtin "classmethod.__get__") (.ref p) .none (.ref C)) := by
  unfold fcB at h
  split at h
  · rename_i g q n c e
    obtain ⟨h1, h⟩ := mem_bool h
    obtain ⟨h2, h⟩ := mem_bool h
    obtain ⟨h3, h4⟩ := mem_bool h
    rw [e, of_decide_eq_true h1, of_decide_eq_true h2, of_decide_eq_true h3, of_decide_eq_true h4]
  · cases h
def ownB (K : PySem.W.Frag) (o : OwK) (C : Addr) (m : Str) : Bool := match o with
  | .meth => (clsB K C && (PySem.W.selfFirst K C && (PySem.W.notFirst K C (.type "tuple") && PySem.W.notFirst K C (.ref C)))) && (He.eqO (PySem.W.findIn K (.ref C) m) (some (some (.ref (He.ma K C m)))) && (PySem.W.isFn K (.ref (He.ma K C m)) && (PySem.W.keepIn K (.ref (He.ma K C m)) && PySem.W.fnIn K (He.ma K C m))))
  | .prop => clsB K C && (He.eqO (PySem.W.findIn K (.ref C) m) (some (some (.ref (He.ma K C m)))) && (He.eqO (PySem.W.specialIn K (.ref (He.ma K C m)) "__get__") (some (some (.builtin "property.__get__"))) && (decide (PySem.W.takesIn K (.ref (He.ma K C m)) = some true) && recB K (He.ma K C m) "property")))
  | .init => PySem.W.makesIn K C && (He.eqO (PySem.W.findIn K (.ref C) "__init__") (some (some (.ref (He.ma K C "__init__")))) && (PySem.W.isFn K (.ref (He.ma K C "__init__")) && PySem.W.keepIn K (.ref C)))
  | .cm => PySem.W.readsIn K C (.type "type") && (He.eqO (PySem.W.specialIn K (.ref C) "__getattribute__") (some (some (.builtin "type.__getattribute__"))) && (fcB K C m (He.ma K C m) && (recB K (He.ma K C m) "classmethod" && PySem.W.fnIn K (inRec K (He.ma K C m) "classmethod"))))
  | .gen => false
theorem ownB_ok {K : PySem.W.Frag} {o : OwK} {C : Addr} {m : Str} (h : ownB K o C m = true) : OwnAt K o C m (ownAd K o C m) := by
  cases o with
  | meth =>
    obtain ⟨h0, h⟩ := mem_bool h
    obtain ⟨c1, h0⟩ := mem_bool h0
    obtain ⟨c2, h0⟩ := mem_bool h0
    obtain ⟨c3, c4⟩ := mem_bool h0
    obtain ⟨h1, h⟩ := mem_bool h
    obtain ⟨h2, h⟩ := mem_bool h
    obtain ⟨h3, h4⟩ := mem_bool h
    exact ⟨⟨clsB_ok c1, c2, c3, c4⟩, ⟨He.eqO_ok h1, h2, h3⟩, h4⟩
  | prop =>
    obtain ⟨h0, h⟩ := mem_bool h
    obtain ⟨h1, h⟩ := mem_bool h
    obtain ⟨h2, h⟩ := mem_bool h
    obtain ⟨h3, h4⟩ := mem_bool h
    exact ⟨clsB_ok h0, _, ⟨He.eqO_ok h1, He.eqO_ok h2, of_decide_eq_true h3, recB_ok h4⟩⟩
  | init =>
    obtain ⟨h1, h⟩ := mem_bool h
    obtain ⟨h2, h⟩ := mem_bool h
    obtain ⟨h3, h4⟩ := mem_bool h
    exact ⟨h1, He.eqO_ok h2, h3, h4⟩
  | cm =>
    obtain ⟨h1, h⟩ := mem_bool h
    obtain ⟨h2, h⟩ := mem_bool h
    obtain ⟨h3, h⟩ := mem_bool h
    obtain ⟨h4, h5⟩ := mem_bool h
    exact ⟨_, _, ⟨h1, He.eqO_ok h2⟩, ⟨fcB_ok h3, recB_ok h4, h5⟩⟩
  | gen => cases h
def iscB (K : PySem.W.Frag) (C : Addr) : Bool := clsB K C && (He.eqO (PySem.W.findIn K (.ref C) "__class__") (some (some (.builtin "object.__class__"))) && (He.eqO (PySem.W.specialIn K (.builtin "object.__class__") "__get__") (some (some (.builtin "getset_descriptor.__get__"))) &&
  (decide (PySem.W.takesIn K (.builtin "object.__class__") = some true) && (decide (PySem.W.mroIn K C (.type "object") = some true) && (decide (PySem.W.kitOne K (.ref C) (.ref C) = some true) && (decide (PySem.W.kitOne K (.type "NoneType") (.ref C) = some false) &&
  (decide (PySem.W.kitOne K (.type "bool") (.ref C) = some false) && (decide (PySem.W.kitOne K (.type "int") (.ref C) = some false) && (decide (PySem.W.kitOne K (.type "str") (.ref C) = some false) && (decide (PySem.W.kitOne K (.type "tuple") (.ref C) = some false) && decide (PySem.W.kitOne K (.type "list") (.ref C) = some false)))))))))))
theorem iscB_ok {K : PySem.W.Frag} {C : Addr} (h : iscB K C = true) : IscC K C := by
  obtain ⟨h1, h⟩ := mem_bool h
  obtain ⟨h2, h⟩ := mem_bool h
  obtain ⟨h3, h⟩ := mem_bool h
  obtain ⟨h4, h⟩ := mem_bool h
  obtain ⟨h5, h⟩ := mem_bool h
  obtain ⟨h6, h⟩ := mem_bool h
  obtain ⟨h7, h⟩ := mem_bool h
  obtain ⟨h8, h⟩ := mem_bool h
  obtain ⟨h9, h⟩ := mem_bool h
  obtain ⟨g1, h⟩ := mem_bool h
  obtain ⟨g2, g3⟩ := mem_bool h
  exact ⟨clsB_ok h1, He.eqO_ok h2, He.eqO_ok h3, of_decide_eq_true h4, of_decide_eq_true h5, of_decide_eq_true h6, of_decide_eq_true h7, of_decide_eq_true h8, of_decide_eq_true h9, of_decide_eq_true g1, of_decide_eq_true g2, of_decide_eq_true g3⟩
/-! ### own defs, observed -/
def fnAt (K : PySem.W.Frag) (a : Addr) : He.FnW := match K.lookup a with
  | some ⟨_, _, .func fd, _⟩ => some (fd.name, fd.qualname, fd.params, fd.body, fd.scope, fd.globals, fd.closure, fd.builtins)
  | _ => none
def fdB (K : PySem.W.Frag) (a : Addr) (q : Str) : Bool := PySem.W.keepIn K (.ref a) && (match K.lookup a with
  | some ⟨_, _, .func fd, _⟩ => PySem.W.codeIn K fd.code q && (He.dflB K fd.defaults [] && He.kwdB K fd.kwdefaults [])
  | _ => false)
theorem funD_at {K : PySem.W.Frag} {d : Def} {a : Addr} (e : fnAt K a = d.dd.val) (c : fdB K a d.qn = true) : ∃ fd, FunD K d.x d.qn d.params d.body d.scope [] [] a fd := by
  obtain ⟨kp, c2⟩ := mem_bool c
  unfold fnAt at e
  cases q : K.lookup a with
  | none =>
    rw [q] at c2
    cases c2
  | some o =>
    obtain ⟨oc, od, dt, osl⟩ := o
    rw [q] at c2 e
    cases dt with
    | func fd =>
      obtain ⟨n1, n2, n3, n4, n5, n6, n7, n8, n9, n10, n11, n12, n13, n14, n15⟩ := fd
      have e2 : (some (n1, n2, n3, n4, n5, n6, n7, n15) : He.FnW) = some (d.x, d.qn, d.params, .stmts d.body, d.scope, mainGlobals, [], builtinsNs) := e
      simp only [Option.some.injEq, Prod.mk.injEq] at e2
      obtain ⟨h1, h2, h3, h4, h5, h6, h7, h8⟩ := e2
      subst h1 h2 h3 h4 h5 h6 h7 h8
      have c3 : (PySem.W.codeIn K n13 d.qn && (He.dflB K n8 [] && He.kwdB K n9 [])) = true := c2
      obtain ⟨k1, k2⟩ := mem_bool c3
      obtain ⟨k3, k4⟩ := mem_bool k2
      exact ⟨_, ⟨oc, od, n8, n9, n10, n11, n12, n13, n14, osl, rfl, q, k1, He.dflB_ok k3, He.kwdB_ok k4⟩, kp⟩
    | _ => cases c2
def Txt.oa (t : Txt) (K : PySem.W.Frag) (d : Def) : Addr := match d.own with
  | some (o, c) => ownAd K o (He.ga K (t.nm c)) d.x
  | none => 0
def gloB (K : PySem.W.Frag) (x : Str) : Bool := (He.Fa.glo x).ok K
def Txt.exo (t : Txt) (K : PySem.W.Frag) : Bool := (t.ow.all fun d => match d.own with
  | some (o, c) => gloB K (t.nm c) && (ownB K o (He.ga K (t.nm c)) d.x && fdB K (t.oa K d) d.qn)
  | none => true) && ((t.flds.all fun p => gloB K (t.nm p.1) && (clsB K (He.ga K (t.nm p.1)) && He.eqO (PySem.W.findIn K (.ref (He.ga K (t.nm p.1))) p.2) (some none))) && t.iscs.all fun c => gloB K (t.nm c) && iscB K (He.ga K (t.nm c)))
def Txt.obsO (t : Txt) (K : PySem.W.Frag) : List He.FnW := t.ow.map fun d => fnAt K (t.oa K d)
def Txt.valO (t : Txt) : List He.FnW := t.ow.map fun d => d.dd.val
def Txt.tab (t : Txt) (K : PySem.W.Frag) (i : Nat) : Addr := (He.cT K (t.nm i, none)).2
def Txt.ex (t : Txt) (K : PySem.W.Frag) : Bool := t.exo K && ((t.cons.all fun p => match PySem.W.nsIn K mainGlobals (t.nm p.1) with
  | some (some u) => kRel K t.nm p.2 u
  | _ => false) && ((t.subs.all fun p => match PySem.W.nsIn K mainGlobals (t.nm p.1.1), PySem.W.nsIn K mainGlobals (t.nm p.1.2) with
  | some (some (.ref a)), some (some (.ref k)) => decide (PySem.W.exmOne K (.ref a) (.ref k) = some p.2) && (decide (PySem.W.kitOne K (.ref a) (.ref k) = some p.2) && excCB K a)
  | _, _ => false) && t.mks.all fun i => t.mks.all fun j => decide (i = j) || !decide (t.tab K i = t.tab K j)))
def Txt.tf (t : Txt) : List He.Defn := t.mks.map fun i => (t.nm i, none)
/-- the part of the heap that is looked at -/
def kM (ads : List Addr) (g : Addr → Option Obj) : PySem.W.Frag := He.frT g ads
abbrev AlM : Type := He.AlX × List He.FnW
def obsM (t : Txt) (ads : List Addr) (g : Addr → Option Obj) : AlM := ((He.obsT t.fa t.fn [] (kM ads g), t.ex (kM ads g) && He.tabsB g t.tf (kM ads g)), t.obsO (kM ads g))
theorem saysM_of {t : Txt} {ads : List Addr} {w : World} {h : Heap} (e : obsM t ads h.get? = (He.valX t.fn [] w, t.valO)) : He.SaysX t.fa t.fn [] t.tf t.ex w h (kM ads h.get?) := by
  have e1 : He.obsT t.fa t.fn [] (kM ads h.get?) = He.valT t.fn [] w := congrArg (fun z : AlM => z.1.1) e
  have e2 : (t.ex (kM ads h.get?) && He.tabsB h.get? t.tf (kM ads h.get?)) = true := congrArg (fun z : AlM => z.1.2) e
  obtain ⟨h1, h2⟩ := mem_bool e2
  have key : ∀ p ∈ t.tf, PySem.W.codeHdIn (kM ads h.get?) (He.cT (kM ads h.get?) p).1 (He.cT (kM ads h.get?) p).2 = true ∧ ∃ o, h.get? (He.cT (kM ads h.get?) p).2 = some o ∧ He.emptyTab o = true := fun p hp => by
    obtain ⟨h3, h4⟩ := mem_bool (List.all_eq_true.mp h2 p hp)
    refine ⟨h3, ?_⟩
    cases q : h.get? (He.cT (kM ads h.get?) p).2 with
    | none =>
      rw [q] at h4
      cases h4
    | some o =>
      rw [q] at h4
      exact ⟨o, rfl, h4⟩
  exact ⟨e1, h1, fun p hp => (key p hp).1, fun p hp => by
    obtain ⟨_, o, q, z⟩ := key p hp
    exact He.frT_none q z, fun p hp => by
    obtain ⟨_, o, q, z⟩ := key p hp
    rw [q, He.emptyTab_eq z]⟩
def Txt.hook (t : Txt) (ads : List Addr) : PySem.W.Hook where
  α := AlM
  obs := fun s => obsM t ads s.heap.get?
  val := fun w => (He.valX t.fn [] w, t.valO)
  says := fun w h => ∃ K : PySem.W.Frag, K.In h ∧ He.SaysX t.fa t.fn [] t.tf t.ex w h K ∧ t.obsO K = t.valO
  of := fun w h e => ⟨_, He.frT_in, saysM_of e, congrArg (fun z : AlM => z.2) e⟩
  keeps := fun _ _ _ ⟨K, hK, c, co⟩ k => ⟨K, PySem.W.Frag.In.keeps hK k, ⟨c.t, c.more, c.hd, c.out, fun p hp => k _ _ (c.empty p hp)⟩, co⟩
theorem obsM_eq {t : Txt} {ads : List Addr} {g : Addr → Option Obj} {s : Shared} (h : ∀ a, g a = s.heap.get? a) : obsM t ads g = (t.hook ads).obs s := by
  have e : g = s.heap.get? := funext h
  rw [e] <;> rfl
def Txt.cs (t : Txt) (K : PySem.W.Frag) : List (Addr × Addr) := t.tf.map (He.cT K)
def Txt.T (t : Txt) (K : PySem.W.Frag) : List (Addr × Str) := t.mks.map fun i => (t.tab K i, t.nm i ++ ".<locals>." ++ "<lambda>")
/-- the names' list: the defs' names come first -/
def prefB : List Def → List Str → Bool
  | [], _ => true
  | d :: ds, x :: xs => decide (d.x = x) && prefB ds xs
  | _, _ => false
theorem prefB_ok : ∀ {ds : List Def} {xs : List Str}, prefB ds xs = true → ∀ (f : Nat) (d : Def), ds[f]? = some d → xs.getD f "" = d.x
  | [], _, _, f, d, e => by simp at e
  | d :: ds, [], h, _, _, _ => by cases h
  | d :: ds, x :: xs, h, f, d', e => by
    obtain ⟨h1, h2⟩ := mem_bool (show (decide (d.x = x) && prefB ds xs) = true from h)
    cases f with
    | zero =>
      have e : d = d' := by simpa using e
      subst e
      exact (of_decide_eq_true h1).symm
    | succ f => exact prefB_ok h2 f d' (by simpa using e)
def Txt.mkB (t : Txt) : Bool := t.mks.all fun f => match t.defs[f]? with
  | some d => d.isP && decide (d.qn = d.x)
  | none => true
def Txt.ok (t : Txt) : Bool := (prefB t.defs t.names && t.mkB) && t.mdl.oks 0 t.defs
/-- every def binds -/
def AllBd : List Def → Prop
  | [] => True
  | d :: ds => d.Bd ∧ AllBd ds
theorem AllBd.at_ : ∀ {ds : List Def}, AllBd ds → ∀ (f : Nat) (d : Def), ds[f]? = some d → d.Bd
  | [], _, f, d, e => by simp at e
  | d :: ds, h, 0, d', e => by
    have e : d = d' := by simpa using e
    subst e; exact h.1
  | d :: ds, h, f + 1, d', e => AllBd.at_ h.2 f d' (by simpa using e)
theorem lookup_mem' {α β : Type} [BEq β] [LawfulBEq β] : ∀ {l : List (β × α)} {n : β} {v : α}, l.lookup n = some v → (n, v) ∈ l
  | [], _, _, h => by simp at h
  | (k, x) :: l, n, v, h => by
    rw [List.lookup_cons] at h
    cases q : (n == k) with
    | true =>
      rw [q] at h
      have e : n = k := eq_of_beq q
      subst e
      have e2 : x = v := Option.some.inj h
      subst e2
      exact List.mem_cons_self
    | false => rw [q] at h; exact List.mem_cons_of_mem _ (lookup_mem' h)
theorem mem_map_of {α β : Type} {f : α → β} {g : α → β} : ∀ {l : List α}, l.map f = l.map g → ∀ x ∈ l, f x = g x
  | [], _, x, hx => by cases hx
  | a :: l, h, x, hx => by
    rw [List.map_cons, List.map_cons] at h
    injection h with h1 h2
    rcases List.mem_cons.mp hx with e | e
    · subst e; exact h1
    · exact mem_map_of h2 x e
theorem Txt.mdlOk {t : Txt} {K : PySem.W.Frag} {mg : Str → Option Value} {h h' : Heap} {w : World} (ok : t.ok = true) (bd : AllBd t.defs) (X : K.In h) (Gn : h.Ns mainGlobals mg) (c : He.SaysX t.fa t.fn [] t.tf t.ex w h' K) (co : t.obsO K = t.valO) : MdlOk t.mdl K mg (t.T K) (t.cs K) := by
  obtain ⟨k1, k2⟩ := mem_bool ok
  obtain ⟨k1, k3⟩ := mem_bool k1
  obtain ⟨x0, x1⟩ := mem_bool c.more
  obtain ⟨y1, y2⟩ := mem_bool x0
  obtain ⟨y2, y3⟩ := mem_bool y2
  obtain ⟨x1, x2⟩ := mem_bool x1
  obtain ⟨x2, x3⟩ := mem_bool x2
  have fact : ∀ f, f ∈ t.fa → f.ok K = true := fun f hf => He.SaysD.facts c.t.d hf
  refine ⟨k2, fun f d e => prefB_ok k1 f d e, fun f d e => ?_, fun f d e => bd.at_ f d e, fun k hk => ?_, fun k l b e => ?_, fun g v e => ?_, fun x hx => ?_, fun k x hk => ?_, fun k hk => ?_⟩
  · have hd : d ∈ t.defs := List.mem_of_getElem? e
    have hx : t.nm f = d.x := prefB_ok k1 f d e
    cases ho : d.own with
    | some oc =>
      obtain ⟨o, k⟩ := oc
      have hq : d.isP = false := by unfold Def.isP; rw [ho]; rfl
      have hm : d ∈ t.ow := List.mem_filter.mpr ⟨hd, by rw [hq]; rfl⟩
      have z := List.all_eq_true.mp y1 d hm
      rw [ho] at z
      obtain ⟨z1, z⟩ := mem_bool z
      obtain ⟨z2, z3⟩ := mem_bool z
      obtain ⟨fd, F⟩ := funD_at (mem_map_of co d hm) z3
      have eo : t.oa K d = ownAd K o (He.ga K (t.nm k)) d.x := by unfold Txt.oa; rw [ho]
      rw [eo] at F
      refine ⟨_, fd, fun z => (by cases z), fun o' c' z => ?_, F, fun hmk => ?_⟩
      · cases z
        exact ⟨_, He.glo_ok X Gn z1, ownB_ok z2⟩
      · have hmk : f ∈ t.mks := by simpa [Txt.mdl] using hmk
        have z := List.all_eq_true.mp k3 f hmk
        rw [show t.defs[f]? = some d from e] at z
        rw [(mem_bool z).1] at hq
        cases hq
    | none =>
    have hq : d.isP = true := by unfold Def.isP; rw [ho]; rfl
    have hf : d ∈ t.defs.filter Def.isP := List.mem_filter.mpr ⟨hd, hq⟩
    obtain ⟨fd, F⟩ := He.SaysD.defs c.t.d (d := d.dd) (List.mem_map.mpr ⟨d, hf, rfl⟩)
    refine ⟨_, fd, fun _ => He.glo_ok X Gn (fact _ (List.mem_append_left _ (List.mem_map.mpr ⟨d, hf, rfl⟩))), fun _ _ z => (by cases z), F, fun hm => ?_⟩
    have hm : f ∈ t.mks := by simpa [Txt.mdl] using hm
    have zq := List.all_eq_true.mp k3 f hm
    rw [show t.defs[f]? = some d from e] at zq
    have hqn : d.qn = d.x := of_decide_eq_true (mem_bool zq).2
    obtain ⟨oc, od, dV, kV, doc, pm, an, cdv, ct, osl, efd, lk, hcd, _, _⟩ := F.ex
    obtain ⟨cc, ec⟩ := He.codeIn_ref hcd
    have e3 : fd.code = .ref cc := by rw [efd]; exact ec
    have e4 : He.codeOf K (d.x, none) = cc := He.codeOf_eq lk e3
    refine ⟨cc, t.tab K f, e3, List.mem_map.mpr ⟨(t.nm f, none), List.mem_map.mpr ⟨f, hm, rfl⟩, ?_⟩, List.mem_map.mpr ⟨f, hm, ?_⟩, fun p hp e5 => ?_⟩
    · unfold Txt.tab He.cT
      rw [hx, e4]
    · unfold lamNm
      rw [hx, hqn]
    · obtain ⟨i, hi, rfl⟩ := List.mem_map.mp hp
      have q := List.all_eq_true.mp (List.all_eq_true.mp x3 i hi) f hm
      have e6 : t.tab K i = t.tab K f := e5
      rw [e6] at q
      have e7 : i = f := by simpa using q
      subst e7
      show t.nm i ++ _ ++ _ = _
      unfold lamNm
      rw [hx, hqn]
  · have hk : k ∈ t.cls := by simpa [Txt.mdl] using hk
    have g := He.glo_ok X Gn (fact (.glo (t.nm k)) (List.mem_append_right _ (List.mem_append_left _ (List.mem_map.mpr ⟨k, hk, rfl⟩))))
    obtain ⟨e1, e2, e3, e4⟩ := He.exc_ok (fact (.exc (t.nm k)) (List.mem_append_right _ (List.mem_append_right _ (List.mem_append_left _ (List.mem_map.mpr ⟨k, hk, rfl⟩)))))
    exact ⟨_, _, _, _, _, g, e2, e3, e4, PySem.F.excBase_ValueError, e1⟩
  · have hm := lookup_mem' (show t.subs.lookup (k, l) = some b from e)
    have q := List.all_eq_true.mp x2 ((k, l), b) hm
    dsimp only at q
    split at q
    · rename_i a z u1 u2
      obtain ⟨q1, q2⟩ := mem_bool q
      obtain ⟨q2, q3⟩ := mem_bool q2
      exact ⟨a, z, PySem.W.mg_of X Gn u1, PySem.W.mg_of X Gn u2, of_decide_eq_true q1, of_decide_eq_true q2, excCB_ok q3⟩
    · cases q
  · have hm := lookup_mem' (show t.cons.lookup g = some v from e)
    have q := List.all_eq_true.mp x1 (g, v) hm
    dsimp only at q
    split at q
    · rename_i u hu
      obtain ⟨x, r1, r2⟩ := kRel_ok (mg := mg) X Gn v u q
      exact ⟨u, x, PySem.W.mg_of X Gn hu, r1, fun H M B a => r2 H M B _ a⟩
    · cases q
  · exact He.free_ok X Gn (fact (.free x) (List.mem_append_right _ (List.mem_append_right _ (List.mem_append_right _ (List.mem_map.mpr ⟨x, hx, rfl⟩)))))
  · have hm : (k, x) ∈ t.flds := by simpa [Txt.mdl] using hk
    obtain ⟨z1, z⟩ := mem_bool (List.all_eq_true.mp y2 (k, x) hm)
    obtain ⟨z2, z3⟩ := mem_bool z
    exact ⟨_, He.glo_ok X Gn z1, clsB_ok z2, He.eqO_ok z3⟩
  · have hm : k ∈ t.iscs := by simpa [Txt.mdl] using hk
    obtain ⟨z1, z2⟩ := mem_bool (List.all_eq_true.mp y3 k hm)
    exact ⟨_, He.glo_ok X Gn z1, iscB_ok z2⟩

/-- the law's promise: the evaluator, at some fuel, answers True -/
def spLaw (t : Txt) (K : PySem.W.Frag) (mg : Str → Option Value) (d f : Nat) : Sp := fun vs H Q E => ∃ N, spOf ⟨K, mg, ⟨t.nm, t.T K, none⟩⟩ (t.mdl.run N d) f vs H Q E
theorem scr_rel {w : Wd} {H : Hp} {a : Addr} {ns : List Int} (hS : SqL w.K H a (ns.map V.int)) : Rel w H [] (fun _ => False) (.scr (ns.map PV.int)) (.ref a) := by
  have rs : Rels w H [] (fun _ => False) (ns.map PV.int) (ns.map V.int) := by
    clear hS
    induction ns with
    | nil => exact .nil
    | cons n ns ih => exact .cons (.int n) ih
  rcases hS with (h | ⟨o, h⟩) | h
  · exact .scl h (by simp) (fun z => z) rs
  · exact .scr h (by simp) rs
  · exact .kscr h rs
theorem law_sp {t : Txt} {K : PySem.W.Frag} {mg : Str → Option Value} {d f n : Nat} (law : ∀ ns : List Int, ns.length ≤ n → ∃ N st, t.mdl.run N d f [.scr (ns.map PV.int)] [] = .ok (.bl true) st)
    (H : Hp) (a : Addr) (ns : List Int) (hl : ns.length ≤ n) (hT : ∀ p ∈ t.cs K, H p.2 = some (.tbl #[])) (hS : SqL K H a (ns.map V.int)) : spLaw t K mg d f [.ref a] H (fun v _ => v = .bl true) fun _ _ _ => False := by
  obtain ⟨N, st, e⟩ := law ns hl
  refine ⟨N, [.scr (ns.map PV.int)], [], fun _ => False, [], .cons (scr_rel hS) .nil, ⟨rfl, List.nodup_nil, by simp, fun a z => z.elim, fun n a c e => by simp at e, fun n a e => by simp at e, fun p hp => ?_⟩, ?_⟩
  · obtain ⟨i, hi, rfl⟩ := List.mem_map.mp (show p ∈ t.T K from hp)
    exact .nil (hT (He.cT K (t.nm i, none)) (List.mem_map.mpr ⟨(t.nm i, none), List.mem_map.mpr ⟨i, hi, rfl⟩, rfl⟩))
  · rw [e]
    intro u H' M' k s r
    cases r
    rfl
theorem cx_end {P : Program} (w : World) (H : Hp) (s : Shared) (e : Value) (s' : Shared) (h : L2.CX P w [] H s (fun _ _ _ => False) e s') : False := by
  obtain ⟨a, B, H', cls, d, _, _, _, _, _, _, _, q⟩ := h
  exact q
/-- THE END: the law's def over the head's facts -/
theorem law_end {t : Txt} {ads : List Addr} {l : PySem.W.OpenLaw} {d f n : Nat} {D : Def} {h : Heap} {w : World} {mg : Str → Option Value} {fa : Addr} (ok : t.ok = true) (bd : AllBd t.defs) (hD : t.defs[f]? = some D) (hL : t.mdl.L f = false) (ho : D.own = none) (hp : D.fn.ps = [("script" : Str)])
    (law : ∀ ns : List Int, ns.length ≤ n → ∃ N st, t.mdl.run N d f [.scr (ns.map PV.int)] [] = .ok (.bl true) st)
    (Y : (t.hook ads).says w h) (Gn : h.Ns mainGlobals mg) (hfa : mg D.x = some (.ref fa)) :
    ∃ K : PySem.W.Frag, K.In h ∧ LamX.LawAtS l w K (L2.CX l.prog w) (6 * d) n "script" mg fa h := by
  obtain ⟨K, KX, c, co⟩ := Y
  have hm := Txt.mdlOk ok bd KX Gn c co
  obtain ⟨a, fd, g, _, F, _⟩ := hm.fd f D hD
  have hv := (ok_of hm hD hL).2.1 ho
  have g := g ho
  rw [hfa] at g
  cases g
  have key : ∀ p ∈ t.cs K, ∃ q ∈ t.tf, p = He.cT K q := fun p hp => let ⟨q, h1, h2⟩ := List.mem_map.mp hp; ⟨q, h1, h2.symm⟩
  refine ⟨K, KX, fd, t.cs K, spLaw t K mg d f, fun p hp => ?_, fun p hp => ?_, fun p hp => ?_, fun s u => ?_, fun H a ns hl _ hT hS => law_sp law H a ns hl hT hS, fun base hK hN htb => ⟨fun vs H Q E h => ?_, fun A outer s H args us vs Q E hr he hb hv h => ?_⟩⟩
  · obtain ⟨q, h1, rfl⟩ := key p hp
    exact c.empty q h1
  · obtain ⟨q, h1, rfl⟩ := key p hp
    exact c.out q h1
  · obtain ⟨q, h1, rfl⟩ := key p hp
    exact PySem.W.codeHd_of_K KX (c.hd q h1)
  · have b := FunD.bindsA (ps := D.fn.ps) F ((bd.at_ f D hD).1 hv) s [u] (by rw [hp]; rfl)
    rw [hp] at b
    exact b
  · obtain ⟨N, h⟩ := h
    obtain ⟨a', fd', _, _, _, _, G⟩ := (defs_ok (P := l.prog) (w := w) (N := N) hm htb d).fn f D hD hL ho
    have := G.len vs H Q E h
    rw [hp] at this
    exact this
  · obtain ⟨N, h⟩ := h
    obtain ⟨a', fd', g, _, _, F', G⟩ := (defs_ok (P := l.prog) (w := w) (N := N) hm htb d).fn f D hD hL ho
    rw [hm.nm f D hD, hfa] at g
    cases g
    have e2 : fd = fd' := by
      obtain ⟨_, _, _, _, _, _, _, _, _, _, _, l1, _⟩ := F.ex
      obtain ⟨_, _, _, _, _, _, _, _, _, _, _, l2, _⟩ := F'.ex
      rw [l1] at l2
      cases l2
      rfl
    subst e2
    exact G.run A outer s H args us vs Q E hr he (by rw [hp]; exact hb) hv h
end Mi

end

section
set_option linter.all false
set_option maxRecDepth 100000
/-! Mi, part N: the evaluator's steps as rewriting rules; results told by a word (Ok). -/
namespace Mi
open PySem L2
/-- what stands behind a statement -/
def seqK (f : Env' → Sto → R Fl) (fl : Fl) (st : Sto) : R Fl := match fl with
  | .nx ρ => f ρ st
  | .rt v => .ok (.rt v) st
/-- a for's turn -/
def forB (t : Tg) (g : Env' → Sto → R Fl) (x : PV) (ρ : Env') (st : Sto) : R Fl := match setTg t x ρ with
  | none => .bad
  | some ρ' => g ρ' st
/-- a comprehension's turn -/
def lcB (tg : Tg) (ow : List Nat) (c : Env' → Sto → R Bool) (e : Env' → Sto → R PV) (ρ : Env') (x : PV) (st : Sto) : R (Option PV) := R.noEx <| match setTg tg x (wipeP ρ ow) with
  | none => .bad
  | some ρ' => (c ρ' st).bind fun b st => if b then (e ρ' st).bind fun y st => .ok (some y) st else .ok none st
def andK (f : Sto → R PV) (x : PV) (st : Sto) : R PV := match x with
  | .bl true => f st
  | .bl false => .ok (.bl false) st
  | _ => .bad
def orK (f : Sto → R PV) (x : PV) (st : Sto) : R PV := match x with
  | .bl true => .ok (.bl true) st
  | .bl false => f st
  | _ => .bad
@[simp] theorem e00 (f : Env' → Sto → R Fl) (ρ : Env') (st : Sto) : seqK f (.nx ρ) st = f ρ st := rfl
@[simp] theorem e01 (f : Env' → Sto → R Fl) (v : PV) (st : Sto) : seqK f (.rt v) st = .ok (.rt v) st := rfl
@[simp] theorem e02 (f : Sto → R PV) (st : Sto) : andK f (.bl true) st = f st := rfl
@[simp] theorem e03 (f : Sto → R PV) (st : Sto) : andK f (.bl false) st = .ok (.bl false) st := rfl
@[simp] theorem e04 (f : Sto → R PV) (st : Sto) : orK f (.bl true) st = .ok (.bl true) st := rfl
@[simp] theorem e05 (f : Sto → R PV) (st : Sto) : orK f (.bl false) st = f st := rfl
theorem forB_of {t : Tg} {g : Env' → Sto → R Fl} {x : PV} {ρ ρ' : Env'} {st : Sto} (h : setTg t x ρ = some ρ') : forB t g x ρ st = g ρ' st := by unfold forB; rw [h]
@[simp] theorem e06 (i : Nat) (g : Env' → Sto → R Fl) (x : PV) (ρ : Env') (st : Sto) : forB (.nm i) g x ρ st = g (ρ.set i (some x)) st := rfl
@[simp] theorem e07 (i j : Nat) (g : Env' → Sto → R Fl) (x y : PV) (ρ : Env') (st : Sto) : forB (.cons (.nm i) (.cons (.nm j) .nil)) g (.tup [x, y]) ρ st = g ((ρ.set i (some x)).set j (some y)) st := rfl
/-! what stands behind, by names -/
section
variable (G : GlobF) (cf : CallF) (N : Nat)
def binK2 (o : Operator) (x y : PV) (st : Sto) : R PV := R.lift (binV st o x y) st
def binK1 (o : Operator) (b : Ex) (ρ : Env') (x : PV) (st : Sto) : R PV := (evE G cf b ρ st).bind (binK2 o x)
def negK (x : PV) (st : Sto) : R PV := R.lift (negV x) st
def truK (x : PV) (st : Sto) : R Bool := R.lift (truV st x) st
def tstK (c : Ex) (ρ : Env') (st : Sto) : R Bool := (evE G cf c ρ st).bind truK
def notK (b : Bool) (st : Sto) : R PV := .ok (.bl (!b)) st
def cmpK2 (o : CmpOp) (x y : PV) (st : Sto) : R PV := R.lift ((cmpV st o x y).map .bl) st
def cmpK1 (o : CmpOp) (b : Ex) (ρ : Env') (x : PV) (st : Sto) : R PV := (evE G cf b ρ st).bind (cmpK2 o x)
def chnK3 (o' : CmpOp) (c : Ex) (ρ : Env') (y : PV) (st : Sto) (d : Option Bool) : R PV := match d with
  | some true => (evE G cf c ρ st).bind (cmpK2 o' y)
  | some false => .ok (.bl false) st
  | none => .bad
def chnK2 (o o' : CmpOp) (c : Ex) (ρ : Env') (x y : PV) (st : Sto) : R PV := chnK3 G cf o' c ρ y st (cmpV st o x y)
def chnK1 (o o' : CmpOp) (b c : Ex) (ρ : Env') (x : PV) (st : Sto) : R PV := (evE G cf b ρ st).bind (chnK2 G cf o o' c ρ x)
def iteK (a b : Ex) (ρ : Env') (d : Bool) (st : Sto) : R PV := if d then evE G cf a ρ st else evE G cf b ρ st
def tupK (xs : List PV) (st : Sto) : R PV := .ok (.tup xs) st
def lstK (xs : List PV) (st : Sto) : R PV := .ok (.lst xs) st
def cellK (x : PV) (st : Sto) : R PV := match x with
  | .lst xs => if noCels xs then .ok (.cel st.length) (st ++ [.lst xs]) else .bad
  | _ => .bad
def callK (m : CM) (f : Nat) (xs : List PV) (st : Sto) : R PV := callP cf m f xs st
def biK (b : Bi) (xs : List PV) (st : Sto) : R PV := R.lift (biV st b xs) st
def idxK2 (x y : PV) (st : Sto) : R PV := R.lift (ixV st x y) st
def idxK1 (b : Ex) (ρ : Env') (x : PV) (st : Sto) : R PV := (evE G cf b ρ st).bind (idxK2 x)
def sliK3 (x : PV) (l h : Option Int) (st : Sto) : R PV := match x with
  | .tup xs => .ok (.tup (cutG xs l h)) st
  | .str z => if z.length ≤ big then .ok (.str (cutS z l h)) st else .bad
  | x => R.lift ((asL st x).map fun xs => .lst (cutG xs l h)) st
def oIntK (x : PV) (st : Sto) : R (Option Int) := R.lift (oInt x) st
def sliK2 (hi : Ex) (ρ : Env') (x : PV) (l : Option Int) (st : Sto) : R PV := (optR hi.isOmit (evE G cf hi ρ) st).bind (sliK3 x l)
def sliK1 (lo hi : Ex) (ρ : Env') (x : PV) (st : Sto) : R PV := (optR lo.isOmit (evE G cf lo ρ) st).bind (sliK2 G cf hi ρ x)
def lcT (c : Ex) (ρ : Env') (st : Sto) : R Bool := tstR c.isOmit (evE G cf c ρ) st
def lcE (ys : List PV) (st : Sto) : R PV := if ys.length ≤ big then .ok (.lst ys) st else .bad
def lcK (tg : Tg) (ow : List Nat) (c e : Ex) (ρ : Env') (xs : List PV) (st : Sto) : R PV := (compR (lcB tg ow (lcT G cf c) (evE G cf e) ρ) xs st).bind lcE
def lrgK2 (dn : Bool) (x y : PV) (st : Sto) : R PV := R.lift (lrgV dn x y) st
def lrgK1 (dn : Bool) (b : Ex) (ρ : Env') (x : PV) (st : Sto) : R PV := (evE G cf b ρ st).bind (lrgK2 dn x)
def consK2 (x : PV) (xs : List PV) (st : Sto) : R (List PV) := .ok (x :: xs) st
def consK1 (as : Ex) (ρ : Env') (x : PV) (st : Sto) : R (List PV) := (evA G cf as ρ st).bind (consK2 x)
def rng1K (x : PV) (st : Sto) : R (List PV) := match x with
  | .int j => if smallI j then .ok (rngL 0 j.toNat) st else .bad
  | _ => .bad
def rng2K2 (x y : PV) (st : Sto) : R (List PV) := match x, y with
  | .int i, .int j => if smallI i && smallI j then .ok (rngL i (j - i).toNat) st else .bad
  | _, _ => .bad
def rng2K1 (b : Ex) (ρ : Env') (x : PV) (st : Sto) : R (List PV) := (evE G cf b ρ st).bind (rng2K2 x)
def zipO (x y : Option (List PV)) (st : Sto) : R (List PV) := match x, y with
  | some xs, some ys => .ok (zipL xs ys) st
  | _, _ => .bad
def zipK2 (x y : PV) (st : Sto) : R (List PV) := zipO (walkL x) (walkL y) st
def zipK1 (b : Ex) (ρ : Env') (x : PV) (st : Sto) : R (List PV) := (evE G cf b ρ st).bind (zipK2 x)
def enuK (x : PV) (st : Sto) : R (List PV) := R.lift ((walkL x).map enuL) st
def sqK (x : PV) (st : Sto) : R (List PV) := R.lift (walkL x) st
def setK (i : Nat) (ρ : Env') (x : PV) (st : Sto) : R Fl := .ok (.nx (ρ.set i (some x))) st
def setTK (t : Tg) (ρ : Env') (x : PV) (st : Sto) : R Fl := R.lift ((setTg t x ρ).map .nx) st
def putK3 (ρ : Env') (x y z : PV) (st : Sto) : R Fl := R.sto ρ (putV st y z x)
def putK2 (i : Ex) (ρ : Env') (x y : PV) (st : Sto) : R Fl := (evE G cf i ρ st).bind (putK3 ρ x y)
def putK1 (o i : Ex) (ρ : Env') (x : PV) (st : Sto) : R Fl := (evE G cf o ρ st).bind (putK2 G cf i ρ x)
def appK2 (ρ : Env') (n : Nat) (x : PV) (st : Sto) : R Fl := R.sto ρ (appV st (.cel n) x)
def appK1 (e : Ex) (ρ : Env') (y : PV) (st : Sto) : R Fl := match y with
  | .cel n => if (asL st (.cel n)).isSome then (evE G cf e ρ st).bind (appK2 ρ n) else .bad
  | _ => .bad
def dropK (ρ : Env') (x : PV) (st : Sto) : R Fl := .ok (.nx ρ) st
def retK (x : PV) (st : Sto) : R Fl := .ok (.rt x) st
def iteS (a b : Sm) (ρ : Env') (d : Bool) (st : Sto) : R Fl := if d then evS G cf N a ρ st else evS G cf N b ρ st
def forK (t : Tg) (b : Sm) (ρ : Env') (xs : List PV) (st : Sto) : R Fl := forR (forB t (evS G cf N b)) xs ρ st
def dictK (x : PV) (st : Sto) : R PV := R.lift (dctV st x) st
def getK3 (d b c : PV) (st : Sto) : R PV := R.lift (getV d b c) st
def getK2 (x : Ex) (ρ : Env') (d b : PV) (st : Sto) : R PV := (evE G cf x ρ st).bind (getK3 d b)
def getK1 (k x : Ex) (ρ : Env') (d : PV) (st : Sto) : R PV := match d with
  | .dct kvs => (evE G cf k ρ st).bind (getK2 G cf x ρ (.dct kvs))
  | _ => .bad
/-- what a lambda does -/
def lamF (np : Nat) (caps : List Nat) (body : Ex) (ρ : Env') (ys : List PV) (st : Sto) : R PV := if ys.length = np ∧ noClos ys = true then evE G cf body (ys.map some ++ caps.map fun i => (ρ[i]?).bind id) st else .bad
def lamK (f np : Nat) (caps : List Nat) (body : Ex) (ρ : Env') (xs : List PV) (st : Sto) : R PV := cf.lam f xs (lamF G cf np caps body ρ) st
def cloK (xs : List PV) (st : Sto) : R PV := if noClos xs then cf.clo xs st else .bad
def calvK (as : Ex) (ρ : Env') (st : Sto) (o : Option PV) : R PV := match o with
  | some .clo => (evA G cf as ρ st).bind (cloK cf)
  | _ => .bad
def calgK2 (m : CM) (x : Nat) (xs : List PV) (st : Sto) : R PV := callP cf m x xs st
def calgK (m : CM) (as : Ex) (ρ : Env') (st : Sto) (o : Option PV) : R PV := match o with
  | some (.glo x) => if cf.isF x then (evA G cf as ρ st).bind (calgK2 cf m x) else .bad
  | _ => .bad
def lc2B (tg : Tg) (ow : List Nat) (it2 : Env' → Sto → R (List PV)) (tg2 : Tg) (e : Env' → Sto → R PV) (ρ : Env') (x : PV) (st : Sto) : R (List PV) := R.noEx <| match setTg tg x (wipeP ρ ow) with
  | none => .bad
  | some ρ' => (it2 ρ' st).bind fun xs2 st => compR (fun x st => R.noEx <| match setTg tg2 x (wipeP ρ' tg2.slots) with
    | none => .bad
    | some ρ2 => (e ρ2 st).bind fun y st => .ok (some y) st) xs2 st
def lc2K (tg : Tg) (ow : List Nat) (it2 : Ex) (tg2 : Tg) (e : Ex) (ρ : Env') (xs : List PV) (st : Sto) : R PV := (comp2R (lc2B tg ow (evI G cf it2) tg2 (evE G cf e) ρ) xs st).bind lcE
def forCK (t : Tg) (enu : Bool) (b : Sm) (ρ : Env') (x : PV) (st : Sto) : R Fl := match x with
  | .cel n => (match st[n]? with
    | some (.lst ys) => forC (forB t (evS G cf N b)) n ys.length enu ys.length ρ st
    | _ => .bad)
  | _ => .bad
def tryK (S : SubF) (h : Hn) (ρ : Env') (r : R Fl) : R Fl := match r with
  | .ex c st' => evH S c ρ st' h
  | r => r
def turnK2 (y : PV) (st : Sto) : R (Option PV) := .ok (some y) st
def turnK1 (e : Env' → Sto → R PV) (ρ : Env') (b : Bool) (st : Sto) : R (Option PV) := if b then (e ρ st).bind turnK2 else .ok none st
def whK (c : Env' → Sto → R Bool) (f : Env' → Sto → R Fl) (n : Nat) (ρ : Env') (b : Bool) (st : Sto) : R Fl := if b then (f ρ st).bind (seqK (whR c f n)) else .ok (.nx ρ) st
/-! instances, texts -/
def fldK (c : Nat) (x : Str) (o : PV) (st : Sto) : R PV := R.lift (fldV st c x o) st
def propK (c f : Nat) (o : PV) (st : Sto) : R PV := if isIns st c o then (cf f [o] st).noEx else .bad
def oinvK (c f : Nat) (o : PV) (st : Sto) : R PV := if isIns st c o then cf f [o] st else .bad
def methK2 (f : Nat) (o : PV) (xs : List PV) (st : Sto) : R PV := cf f (o :: xs) st
def methK (m : Str) (c f : Nat) (as : Ex) (ρ : Env') (o : PV) (st : Sto) : R PV := if isIns st c o && noFld st m o then (evA G cf as ρ st).bind (methK2 cf f o) else .bad
def itemK2 (c f : Nat) (o x : PV) (st : Sto) : R PV := if isIns st c o then cf f [o, x] st else .bad
def itemK (c f : Nat) (b : Ex) (ρ : Env') (o : PV) (st : Sto) : R PV := (evE G cf b ρ st).bind (itemK2 cf c f o)
def ocallK2 (c f : Nat) (o : PV) (xs : List PV) (st : Sto) : R PV := if isIns st c o then cf f (o :: xs) st else .bad
def ocallK (c f : Nat) (as : Ex) (ρ : Env') (o : PV) (st : Sto) : R PV := (evA G cf as ρ st).bind (ocallK2 cf c f o)
def ostrK2 (v : PV) (st : Sto) : R PV := match v with
  | .str x => .ok (.str x) st
  | _ => .bad
def ostrK (c f : Nat) (o : PV) (st : Sto) : R PV := if isIns st c o then (cf f [o] st).bind ostrK2 else .bad
def olenK2 (v : PV) (st : Sto) : R PV := match v with
  | .int n => if decide (0 ≤ n) && smallI n then .ok (.int n) st else .bad
  | _ => .bad
def olenK (c f : Nat) (o : PV) (st : Sto) : R PV := if isIns st c o then (cf f [o] st).bind olenK2 else .bad
def oblK2 (v : PV) (st : Sto) : R PV := match v with
  | .bl b => .ok (.bl b) st
  | _ => .bad
def oblK (c f : Nat) (o : PV) (st : Sto) : R PV := if isIns st c o then (cf f [o] st).bind oblK2 else .bad
def obinK2 (c f : Nat) (o x : PV) (st : Sto) : R PV := if isIns st c o && opArg st c x then cf f [o, x] st else .bad
def obinK (c f : Nat) (b : Ex) (ρ : Env') (o : PV) (st : Sto) : R PV := (evE G cf b ρ st).bind (obinK2 cf c f o)
def ceqK2 (c f : Nat) (o x : PV) (st : Sto) : R PV := if isIns st c o && opArg st c x then (cf f [o, x] st).bind oblK2 else .bad
def ceqK (c f : Nat) (b : Ex) (ρ : Env') (o : PV) (st : Sto) : R PV := (evE G cf b ρ st).bind (ceqK2 cf c f o)
def inK3 (neg : Bool) (v : PV) (st : Sto) : R PV := match v with
  | .bl b => .ok (.bl (if neg then !b else b)) st
  | _ => .bad
def inK2 (neg : Bool) (c f : Nat) (x o : PV) (st : Sto) : R PV := if isIns st c o then (cf f [o, x] st).bind (inK3 neg) else .bad
def inK (neg : Bool) (c f : Nat) (e : Ex) (ρ : Env') (x : PV) (st : Sto) : R PV := (evE G cf e ρ st).bind (inK2 cf neg c f x)
def mkK2 (n : Nat) (v : PV) (st : Sto) : R PV := if isN v then .ok (.cel n) st else .bad
def mkK (c f : Nat) (xs : List PV) (st : Sto) : R PV := (cf f (.cel st.length :: xs) (st ++ [.ins c []])).bind (mkK2 st.length)
def mksK2 (c f : Nat) (xs : List PV) (y : PV) (st : Sto) : R PV := match y with
  | .tup ys => (cf f (.cel st.length :: (xs ++ ys)) (st ++ [.ins c []])).bind (mkK2 st.length)
  | _ => .bad
def mksK (c f : Nat) (e : Ex) (ρ : Env') (xs : List PV) (st : Sto) : R PV := (evE G cf e ρ st).bind (mksK2 cf c f xs)
def mksC (ρ : Env') (c : Nat) (v : Option Nat) : Bool := match v with
  | none => true
  | some i => (match (ρ[i]?).bind id with
    | some (.glo x) => decide (x = c)
    | _ => false)
def cmK (c f : Nat) (xs : List PV) (st : Sto) : R PV := cf f (.glo c :: xs) st
def iscK (c : Nat) (x : PV) (st : Sto) : R PV := R.lift ((iscV st c x).map .bl) st
def joinK2 (x y : PV) (st : Sto) : R PV := R.lift (joinV st x y) st
def joinK (b : Ex) (ρ : Env') (x : PV) (st : Sto) : R PV := if isStr x then (evE G cf b ρ st).bind (joinK2 x) else .bad
def splK2 (x y : PV) (st : Sto) : R PV := R.lift (splV x y) st
def splK (b : Ex) (ρ : Env') (x : PV) (st : Sto) : R PV := if isStr x then (evE G cf b ρ st).bind (splK2 x) else .bad
def fmtK (x : PV) (st : Sto) : R PV := R.lift (fmtV x) st
def fsK (G : GlobF) (cf : CallF) (as : Ex) (acc : Str) (ρ : Env') (x : PV) (st1 : Sto) : R PV := match x with
  | .str y => if (acc ++ y).length ≤ big then evJ G cf as (acc ++ y) ρ st1 else .bad
  | _ => .bad
def fputK2 (c : Nat) (x : Str) (ρ : Env') (v y : PV) (st : Sto) : R Fl := R.sto ρ (fputV st c x y v)
def fputK (c : Nat) (x : Str) (o : Ex) (ρ : Env') (v : PV) (st : Sto) : R Fl := (evE G cf o ρ st).bind (fputK2 c x ρ v)
def augK3 (i : Nat) (ρ : Env') (v : PV) (st : Sto) : R Fl := .ok (.nx (ρ.set i (some v))) st
def augK2 (c f i : Nat) (ρ : Env') (o x : PV) (st : Sto) : R Fl := if isIns st c o then (cf f [o, x] st).bind (augK3 i ρ) else .bad
def augK (c f i : Nat) (e : Ex) (ρ : Env') (o : PV) (st : Sto) : R Fl := (evE G cf e ρ st).bind (augK2 cf c f i ρ o)
end
section
variable {G : GlobF} {cf : CallF} {N : Nat}
@[simp] theorem e5f (c : Nat) (x : Str) (o : PV) (st : Sto) : fldK c x o st = R.lift (fldV st c x o) st := rfl
@[simp] theorem e5g (c f : Nat) (o : PV) (st : Sto) : propK cf c f o st = if isIns st c o then (cf f [o] st).noEx else .bad := rfl
@[simp] theorem e5h (c f : Nat) (o : PV) (st : Sto) : oinvK cf c f o st = if isIns st c o then cf f [o] st else .bad := rfl
@[simp] theorem e5i (f : Nat) (o : PV) (xs : List PV) (st : Sto) : methK2 cf f o xs st = cf f (o :: xs) st := rfl
@[simp] theorem e5j (m : Str) (c f : Nat) (as : Ex) (ρ : Env') (o : PV) (st : Sto) : methK G cf m c f as ρ o st = if isIns st c o && noFld st m o then (evA G cf as ρ st).bind (methK2 cf f o) else .bad := rfl
@[simp] theorem e5k (c f : Nat) (o x : PV) (st : Sto) : itemK2 cf c f o x st = if isIns st c o then cf f [o, x] st else .bad := rfl
@[simp] theorem e5l (c f : Nat) (b : Ex) (ρ : Env') (o : PV) (st : Sto) : itemK G cf c f b ρ o st = (evE G cf b ρ st).bind (itemK2 cf c f o) := rfl
@[simp] theorem e5m (c f : Nat) (o : PV) (xs : List PV) (st : Sto) : ocallK2 cf c f o xs st = if isIns st c o then cf f (o :: xs) st else .bad := rfl
@[simp] theorem e5n (c f : Nat) (as : Ex) (ρ : Env') (o : PV) (st : Sto) : ocallK G cf c f as ρ o st = (evA G cf as ρ st).bind (ocallK2 cf c f o) := rfl
@[simp] theorem e5o (x : Str) (st : Sto) : ostrK2 (.str x) st = .ok (.str x) st := rfl
@[simp] theorem e5p (c f : Nat) (o : PV) (st : Sto) : ostrK cf c f o st = if isIns st c o then (cf f [o] st).bind ostrK2 else .bad := rfl
@[simp] theorem e5q (n : Int) (st : Sto) : olenK2 (.int n) st = if decide (0 ≤ n) && smallI n then .ok (.int n) st else .bad := rfl
@[simp] theorem e5r (c f : Nat) (o : PV) (st : Sto) : olenK cf c f o st = if isIns st c o then (cf f [o] st).bind olenK2 else .bad := rfl
@[simp] theorem e5s (b : Bool) (st : Sto) : oblK2 (.bl b) st = .ok (.bl b) st := rfl
@[simp] theorem e5t (c f : Nat) (o : PV) (st : Sto) : oblK cf c f o st = if isIns st c o then (cf f [o] st).bind oblK2 else .bad := rfl
@[simp] theorem e5u (c f : Nat) (o x : PV) (st : Sto) : obinK2 cf c f o x st = if isIns st c o && opArg st c x then cf f [o, x] st else .bad := rfl
@[simp] theorem e5v (c f : Nat) (b : Ex) (ρ : Env') (o : PV) (st : Sto) : obinK G cf c f b ρ o st = (evE G cf b ρ st).bind (obinK2 cf c f o) := rfl
@[simp] theorem e5w (c f : Nat) (o x : PV) (st : Sto) : ceqK2 cf c f o x st = if isIns st c o && opArg st c x then (cf f [o, x] st).bind oblK2 else .bad := rfl
@[simp] theorem e5x (c f : Nat) (b : Ex) (ρ : Env') (o : PV) (st : Sto) : ceqK G cf c f b ρ o st = (evE G cf b ρ st).bind (ceqK2 cf c f o) := rfl
@[simp] theorem e5y (neg : Bool) (b : Bool) (st : Sto) : inK3 neg (.bl b) st = .ok (.bl (if neg then !b else b)) st := rfl
@[simp] theorem e5z (neg : Bool) (c f : Nat) (x o : PV) (st : Sto) : inK2 cf neg c f x o st = if isIns st c o then (cf f [o, x] st).bind (inK3 neg) else .bad := rfl
@[simp] theorem e60 (neg : Bool) (c f : Nat) (e : Ex) (ρ : Env') (x : PV) (st : Sto) : inK G cf neg c f e ρ x st = (evE G cf e ρ st).bind (inK2 cf neg c f x) := rfl
@[simp] theorem e61 (n : Nat) (st : Sto) : mkK2 n .non st = .ok (.cel n) st := rfl
@[simp] theorem e62 (c f : Nat) (xs : List PV) (st : Sto) : mkK cf c f xs st = (cf f (.cel st.length :: xs) (st ++ [.ins c []])).bind (mkK2 st.length) := rfl
@[simp] theorem e63 (c f : Nat) (xs ys : List PV) (st : Sto) : mksK2 cf c f xs (.tup ys) st = (cf f (.cel st.length :: (xs ++ ys)) (st ++ [.ins c []])).bind (mkK2 st.length) := rfl
@[simp] theorem e64 (c f : Nat) (e : Ex) (ρ : Env') (xs : List PV) (st : Sto) : mksK G cf c f e ρ xs st = (evE G cf e ρ st).bind (mksK2 cf c f xs) := rfl
@[simp] theorem e65 (c f : Nat) (xs : List PV) (st : Sto) : cmK cf c f xs st = cf f (.glo c :: xs) st := rfl
@[simp] theorem e66 (c : Nat) (x : PV) (st : Sto) : iscK c x st = R.lift ((iscV st c x).map .bl) st := rfl
@[simp] theorem e67 (x y : PV) (st : Sto) : joinK2 x y st = R.lift (joinV st x y) st := rfl
@[simp] theorem e68 (b : Ex) (ρ : Env') (x : Str) (st : Sto) : joinK G cf b ρ (.str x) st = (evE G cf b ρ st).bind (joinK2 (.str x)) := rfl
@[simp] theorem e69 (x y : PV) (st : Sto) : splK2 x y st = R.lift (splV x y) st := rfl
@[simp] theorem e6a (b : Ex) (ρ : Env') (x : Str) (st : Sto) : splK G cf b ρ (.str x) st = (evE G cf b ρ st).bind (splK2 (.str x)) := rfl
@[simp] theorem e6b (x : PV) (st : Sto) : fmtK x st = R.lift (fmtV x) st := rfl
@[simp] theorem e6c {G : GlobF} {cf : CallF} (as : Ex) (acc : Str) (ρ : Env') (y : Str) (st : Sto) : fsK G cf as acc ρ (.str y) st = if (acc ++ y).length ≤ big then evJ G cf as (acc ++ y) ρ st else .bad := rfl
@[simp] theorem e6d (c : Nat) (x : Str) (ρ : Env') (v y : PV) (st : Sto) : fputK2 c x ρ v y st = R.sto ρ (fputV st c x y v) := rfl
@[simp] theorem e6e (c : Nat) (x : Str) (o : Ex) (ρ : Env') (v : PV) (st : Sto) : fputK G cf c x o ρ v st = (evE G cf o ρ st).bind (fputK2 c x ρ v) := rfl
@[simp] theorem e6f (i : Nat) (ρ : Env') (v : PV) (st : Sto) : augK3 i ρ v st = .ok (.nx (ρ.set i (some v))) st := rfl
@[simp] theorem e6g (c f i : Nat) (ρ : Env') (o x : PV) (st : Sto) : augK2 cf c f i ρ o x st = if isIns st c o then (cf f [o, x] st).bind (augK3 i ρ) else .bad := rfl
@[simp] theorem e6h (c f i : Nat) (e : Ex) (ρ : Env') (o : PV) (st : Sto) : augK G cf c f i e ρ o st = (evE G cf e ρ st).bind (augK2 cf c f i ρ o) := rfl
@[simp] theorem e08 (o : Operator) (x y : PV) (st : Sto) : binK2 o x y st = R.lift (binV st o x y) st := rfl
@[simp] theorem e09 (o : Operator) (b : Ex) (ρ : Env') (x : PV) (st : Sto) : binK1 G cf o b ρ x st = (evE G cf b ρ st).bind (binK2 o x) := rfl
@[simp] theorem e0a (x : PV) (st : Sto) : negK x st = R.lift (negV x) st := rfl
@[simp] theorem e0b (x : PV) (st : Sto) : truK x st = R.lift (truV st x) st := rfl
@[simp] theorem e0c (c : Ex) (ρ : Env') (st : Sto) : tstK G cf c ρ st = (evE G cf c ρ st).bind truK := rfl
@[simp] theorem e0d (b : Bool) (st : Sto) : notK b st = .ok (.bl (!b)) st := rfl
@[simp] theorem e0e (o : CmpOp) (x y : PV) (st : Sto) : cmpK2 o x y st = R.lift ((cmpV st o x y).map .bl) st := rfl
@[simp] theorem e0f (o : CmpOp) (b : Ex) (ρ : Env') (x : PV) (st : Sto) : cmpK1 G cf o b ρ x st = (evE G cf b ρ st).bind (cmpK2 o x) := rfl
@[simp] theorem e0g (o' : CmpOp) (c : Ex) (ρ : Env') (y : PV) (st : Sto) : chnK3 G cf o' c ρ y st (some true) = (evE G cf c ρ st).bind (cmpK2 o' y) := rfl
@[simp] theorem e0h (o' : CmpOp) (c : Ex) (ρ : Env') (y : PV) (st : Sto) : chnK3 G cf o' c ρ y st (some false) = .ok (.bl false) st := rfl
@[simp] theorem e0i (o o' : CmpOp) (c : Ex) (ρ : Env') (x y : PV) (st : Sto) : chnK2 G cf o o' c ρ x y st = chnK3 G cf o' c ρ y st (cmpV st o x y) := rfl
@[simp] theorem e0j (o o' : CmpOp) (b c : Ex) (ρ : Env') (x : PV) (st : Sto) : chnK1 G cf o o' b c ρ x st = (evE G cf b ρ st).bind (chnK2 G cf o o' c ρ x) := rfl
@[simp] theorem e0k (a b : Ex) (ρ : Env') (st : Sto) : iteK G cf a b ρ true st = evE G cf a ρ st := rfl
@[simp] theorem e0l (a b : Ex) (ρ : Env') (st : Sto) : iteK G cf a b ρ false st = evE G cf b ρ st := rfl
@[simp] theorem e0m (xs : List PV) (st : Sto) : tupK xs st = .ok (.tup xs) st := rfl
@[simp] theorem e0n (xs : List PV) (st : Sto) : lstK xs st = .ok (.lst xs) st := rfl
@[simp] theorem e0o (xs : List PV) (st : Sto) : cellK (.lst xs) st = if noCels xs then .ok (.cel st.length) (st ++ [.lst xs]) else .bad := rfl
@[simp] theorem e0p (m : CM) (f : Nat) (xs : List PV) (st : Sto) : callK cf m f xs st = callP cf m f xs st := rfl
@[simp] theorem e0q (b : Bi) (xs : List PV) (st : Sto) : biK b xs st = R.lift (biV st b xs) st := rfl
@[simp] theorem e0r (x y : PV) (st : Sto) : idxK2 x y st = R.lift (ixV st x y) st := rfl
@[simp] theorem e0s (b : Ex) (ρ : Env') (x : PV) (st : Sto) : idxK1 G cf b ρ x st = (evE G cf b ρ st).bind (idxK2 x) := rfl
@[simp] theorem e0t (xs : List PV) (l h : Option Int) (st : Sto) : sliK3 (.tup xs) l h st = .ok (.tup (cutG xs l h)) st := rfl
@[simp] theorem e0u (xs : List PV) (l h : Option Int) (st : Sto) : sliK3 (.lst xs) l h st = .ok (.lst (cutG xs l h)) st := rfl
@[simp] theorem e0v (i : Int) (st : Sto) : oIntK (.int i) st = .ok (some i) st := rfl
@[simp] theorem e0w (hi : Ex) (ρ : Env') (x : PV) (l : Option Int) (st : Sto) : sliK2 G cf hi ρ x l st = (optR hi.isOmit (evE G cf hi ρ) st).bind (sliK3 x l) := rfl
@[simp] theorem e0x (lo hi : Ex) (ρ : Env') (x : PV) (st : Sto) : sliK1 G cf lo hi ρ x st = (optR lo.isOmit (evE G cf lo ρ) st).bind (sliK2 G cf hi ρ x) := rfl
@[simp] theorem e0y (c : Ex) (ρ : Env') (st : Sto) : lcT G cf c ρ st = tstR c.isOmit (evE G cf c ρ) st := rfl
@[simp] theorem e0z (ys : List PV) (st : Sto) : lcE ys st = if ys.length ≤ big then .ok (.lst ys) st else .bad := rfl
@[simp] theorem e10 (tg : Tg) (ow : List Nat) (c e : Ex) (ρ : Env') (xs : List PV) (st : Sto) : lcK G cf tg ow c e ρ xs st = (compR (lcB tg ow (lcT G cf c) (evE G cf e) ρ) xs st).bind lcE := rfl
@[simp] theorem e11 (dn : Bool) (x y : PV) (st : Sto) : lrgK2 dn x y st = R.lift (lrgV dn x y) st := rfl
@[simp] theorem e12 (dn : Bool) (b : Ex) (ρ : Env') (x : PV) (st : Sto) : lrgK1 G cf dn b ρ x st = (evE G cf b ρ st).bind (lrgK2 dn x) := rfl
@[simp] theorem e13 (x : PV) (xs : List PV) (st : Sto) : consK2 x xs st = .ok (x :: xs) st := rfl
@[simp] theorem e14 (as : Ex) (ρ : Env') (x : PV) (st : Sto) : consK1 G cf as ρ x st = (evA G cf as ρ st).bind (consK2 x) := rfl
@[simp] theorem e15 (j : Int) (st : Sto) : rng1K (.int j) st = if smallI j then .ok (rngL 0 j.toNat) st else .bad := rfl
@[simp] theorem e16 (i j : Int) (st : Sto) : rng2K2 (.int i) (.int j) st = if smallI i && smallI j then .ok (rngL i (j - i).toNat) st else .bad := rfl
@[simp] theorem e17 (b : Ex) (ρ : Env') (x : PV) (st : Sto) : rng2K1 G cf b ρ x st = (evE G cf b ρ st).bind (rng2K2 x) := rfl
@[simp] theorem e18 (xs ys : List PV) (st : Sto) : zipO (some xs) (some ys) st = .ok (zipL xs ys) st := rfl
@[simp] theorem e19 (x y : PV) (st : Sto) : zipK2 x y st = zipO (walkL x) (walkL y) st := rfl
@[simp] theorem e1a (b : Ex) (ρ : Env') (x : PV) (st : Sto) : zipK1 G cf b ρ x st = (evE G cf b ρ st).bind (zipK2 x) := rfl
@[simp] theorem e1b (x : PV) (st : Sto) : enuK x st = R.lift ((walkL x).map enuL) st := rfl
@[simp] theorem e1c (x : PV) (st : Sto) : sqK x st = R.lift (walkL x) st := rfl
@[simp] theorem e1d (i : Nat) (ρ : Env') (x : PV) (st : Sto) : setK i ρ x st = .ok (.nx (ρ.set i (some x))) st := rfl
@[simp] theorem e1e (t : Tg) (ρ : Env') (x : PV) (st : Sto) : setTK t ρ x st = R.lift ((setTg t x ρ).map .nx) st := rfl
@[simp] theorem e1f (ρ : Env') (x y z : PV) (st : Sto) : putK3 ρ x y z st = R.sto ρ (putV st y z x) := rfl
@[simp] theorem e1g (i : Ex) (ρ : Env') (x y : PV) (st : Sto) : putK2 G cf i ρ x y st = (evE G cf i ρ st).bind (putK3 ρ x y) := rfl
@[simp] theorem e1h (o i : Ex) (ρ : Env') (x : PV) (st : Sto) : putK1 G cf o i ρ x st = (evE G cf o ρ st).bind (putK2 G cf i ρ x) := rfl
@[simp] theorem e1i (ρ : Env') (n : Nat) (x : PV) (st : Sto) : appK2 ρ n x st = R.sto ρ (appV st (.cel n) x) := rfl
@[simp] theorem e1j (e : Ex) (ρ : Env') (n : Nat) (st : Sto) : appK1 G cf e ρ (.cel n) st = if (asL st (.cel n)).isSome then (evE G cf e ρ st).bind (appK2 ρ n) else .bad := rfl
@[simp] theorem e6i (n : Nat) (st : Sto) : asL st (.cel n) = match st[n]? with | some (.lst xs) => some xs | _ => none := rfl
@[simp] theorem e6j (xs : List PV) (st : Sto) : asL st (.lst xs) = some xs := rfl
@[simp] theorem e1k (ρ : Env') (x : PV) (st : Sto) : dropK ρ x st = .ok (.nx ρ) st := rfl
@[simp] theorem e1l (x : PV) (st : Sto) : retK x st = .ok (.rt x) st := rfl
@[simp] theorem e1m (a b : Sm) (ρ : Env') (st : Sto) : iteS G cf N a b ρ true st = evS G cf N a ρ st := rfl
@[simp] theorem e1n (a b : Sm) (ρ : Env') (st : Sto) : iteS G cf N a b ρ false st = evS G cf N b ρ st := rfl
@[simp] theorem e1o (t : Tg) (b : Sm) (ρ : Env') (xs : List PV) (st : Sto) : forK G cf N t b ρ xs st = forR (forB t (evS G cf N b)) xs ρ st := rfl
@[simp] theorem e4r (x : PV) (st : Sto) : dictK x st = R.lift (dctV st x) st := rfl
@[simp] theorem e4s (d b c : PV) (st : Sto) : getK3 d b c st = R.lift (getV d b c) st := rfl
@[simp] theorem e4t (x : Ex) (ρ : Env') (d b : PV) (st : Sto) : getK2 G cf x ρ d b st = (evE G cf x ρ st).bind (getK3 d b) := rfl
@[simp] theorem e4u (k x : Ex) (ρ : Env') (kvs : List (Key × V)) (st : Sto) : getK1 G cf k x ρ (.dct kvs) st = (evE G cf k ρ st).bind (getK2 G cf x ρ (.dct kvs)) := rfl
@[simp] theorem e4v (f np : Nat) (caps : List Nat) (body : Ex) (ρ : Env') (xs : List PV) (st : Sto) : lamK G cf f np caps body ρ xs st = cf.lam f xs (lamF G cf np caps body ρ) st := rfl
@[simp] theorem e4w (st : Sto) : cloK cf [] st = cf.clo [] st := rfl
@[simp] theorem e4x (as : Ex) (ρ : Env') (st : Sto) : calvK G cf as ρ st (some .clo) = (evA G cf as ρ st).bind (cloK cf) := rfl
@[simp] theorem e4y (m : CM) (as : Ex) (ρ : Env') (st : Sto) (x : Nat) : calgK G cf m as ρ st (some (.glo x)) = if cf.isF x then (evA G cf as ρ st).bind (calgK2 cf m x) else .bad := rfl
@[simp] theorem e4z (m : CM) (x : Nat) (xs : List PV) (st : Sto) : calgK2 cf m x xs st = callP cf m x xs st := rfl
@[simp] theorem e50 (tg : Tg) (ow : List Nat) (it2 : Ex) (tg2 : Tg) (e : Ex) (ρ : Env') (xs : List PV) (st : Sto) : lc2K G cf tg ow it2 tg2 e ρ xs st = (comp2R (lc2B tg ow (evI G cf it2) tg2 (evE G cf e) ρ) xs st).bind lcE := rfl
theorem forCK_d {t : Tg} {enu : Bool} {b : Sm} {ρ : Env'} {n : Nat} {ys : List PV} {st : Sto} (h : st[n]? = some (.lst ys)) : forCK G cf N t enu b ρ (.cel n) st = forC (forB t (evS G cf N b)) n ys.length enu ys.length ρ st := by
  unfold forCK; dsimp only; rw [h]
@[simp] theorem e51 (S : SubF) (h : Hn) (ρ : Env') (f : Fl) (st : Sto) : tryK S h ρ (.ok f st) = .ok f st := rfl
@[simp] theorem e52 (S : SubF) (h : Hn) (ρ : Env') (c : Nat) (st : Sto) : tryK S h ρ (.ex c st) = evH S c ρ st h := rfl
@[simp] theorem e1p (y : PV) (st : Sto) : turnK2 y st = .ok (some y) st := rfl
@[simp] theorem e1q (e : Env' → Sto → R PV) (ρ : Env') (st : Sto) : turnK1 e ρ true st = (e ρ st).bind turnK2 := rfl
@[simp] theorem e1r (e : Env' → Sto → R PV) (ρ : Env') (st : Sto) : turnK1 e ρ false st = .ok none st := rfl
@[simp] theorem e1s (c : Env' → Sto → R Bool) (f : Env' → Sto → R Fl) (n : Nat) (ρ : Env') (st : Sto) : whK c f n ρ true st = (f ρ st).bind (seqK (whR c f n)) := rfl
@[simp] theorem e1t (c : Env' → Sto → R Bool) (f : Env' → Sto → R Fl) (n : Nat) (ρ : Env') (st : Sto) : whK c f n ρ false st = .ok (.nx ρ) st := rfl
end
@[simp] theorem e1u (i : Nat) (ow : List Nat) (c : Env' → Sto → R Bool) (e : Env' → Sto → R PV) (ρ : Env') (x : PV) (st : Sto) :
    lcB (.nm i) ow c e ρ x st = R.noEx ((c ((wipeP ρ ow).set i (some x)) st).bind (turnK1 e ((wipeP ρ ow).set i (some x)))) := rfl
@[simp] theorem e1v (i j : Nat) (ow : List Nat) (c : Env' → Sto → R Bool) (e : Env' → Sto → R PV) (ρ : Env') (x y : PV) (st : Sto) :
    lcB (.cons (.nm i) (.cons (.nm j) .nil)) ow c e ρ (.tup [x, y]) st = R.noEx ((c (((wipeP ρ ow).set i (some x)).set j (some y)) st).bind (turnK1 e (((wipeP ρ ow).set i (some x)).set j (some y)))) := rfl
section
variable {G : GlobF} {cf : CallF} {ρ : Env'} {st : Sto} {N : Nat}
@[simp] theorem e1w (i : Nat) : evE G cf (.var i) ρ st = R.lift ((ρ[i]?).bind id) st := rfl
@[simp] theorem e1x : evE G cf .non ρ st = .ok .non st := rfl
@[simp] theorem e1y (b : Bool) : evE G cf (.bl b) ρ st = .ok (.bl b) st := rfl
@[simp] theorem e1z (i : Int) : evE G cf (.int i) ρ st = .ok (.int i) st := rfl
@[simp] theorem e20 (s : Str) : evE G cf (.str s) ρ st = .ok (.str s) st := rfl
@[simp] theorem e21 (x : Nat) : evE G cf (.gl x) ρ st = R.lift (G x) st := rfl
@[simp] theorem e22 (n : String) : evE G cf (.bty n) ρ st = .ok (.ty n) st := rfl
@[simp] theorem e23 (o : Operator) (a b : Ex) : evE G cf (.bin o a b) ρ st = (evE G cf a ρ st).bind (binK1 G cf o b ρ) := rfl
@[simp] theorem e24 (a : Ex) : evE G cf (.neg a) ρ st = (evE G cf a ρ st).bind negK := rfl
@[simp] theorem e25 (a : Ex) : evE G cf (.not a) ρ st = (tstK G cf a ρ st).bind notK := rfl
@[simp] theorem e26 (a b : Ex) : evE G cf (.and a b) ρ st = (evE G cf a ρ st).bind (andK (evE G cf b ρ)) := rfl
@[simp] theorem e27 (a b : Ex) : evE G cf (.or a b) ρ st = (evE G cf a ρ st).bind (orK (evE G cf b ρ)) := rfl
@[simp] theorem e28 (o : CmpOp) (a b : Ex) : evE G cf (.cmp o a b) ρ st = (evE G cf a ρ st).bind (cmpK1 G cf o b ρ) := rfl
@[simp] theorem e29 (o o' : CmpOp) (a b c : Ex) : evE G cf (.chn o o' a b c) ρ st = (evE G cf a ρ st).bind (chnK1 G cf o o' b c ρ) := rfl
@[simp] theorem e2a (c a b : Ex) : evE G cf (.ite c a b) ρ st = (tstK G cf c ρ st).bind (iteK G cf a b ρ) := rfl
@[simp] theorem e2b (as : Ex) : evE G cf (.tup as) ρ st = (evA G cf as ρ st).bind tupK := rfl
@[simp] theorem e2c (as : Ex) : evE G cf (.lst as) ρ st = (evA G cf as ρ st).bind lstK := rfl
@[simp] theorem e2d (e : Ex) : evE G cf (.cell e) ρ st = (evE G cf e ρ st).bind cellK := rfl
@[simp] theorem e2e (m : CM) (f : Nat) (as : Ex) : evE G cf (.call m f as) ρ st = (evA G cf as ρ st).bind (callK cf m f) := rfl
@[simp] theorem e2f (f : Nat) (as : List PV) : callP cf .sto f as st = cf f as st := rfl
@[simp] theorem e2g (b : Bi) (as : Ex) : evE G cf (.bi b as) ρ st = (evA G cf as ρ st).bind (biK b) := rfl
@[simp] theorem e2h (a b : Ex) : evE G cf (.idx a b) ρ st = (evE G cf a ρ st).bind (idxK1 G cf b ρ) := rfl
@[simp] theorem e2i (a lo hi : Ex) : evE G cf (.sli a lo hi) ρ st = (evE G cf a ρ st).bind (sliK1 G cf lo hi ρ) := rfl
@[simp] theorem e2j (tg : Tg) (ow : List Nat) (it c e : Ex) : evE G cf (.comp tg ow it c e) ρ st = (evI G cf it ρ st).bind (lcK G cf tg ow c e ρ) := rfl
@[simp] theorem e2k (a b : Ex) : evE G cf (.lrg a b) ρ st = (evE G cf a ρ st).bind (lrgK1 G cf false b ρ) := rfl
@[simp] theorem e2l (a b : Ex) : evE G cf (.lrd a b) ρ st = (evE G cf a ρ st).bind (lrgK1 G cf true b ρ) := rfl
@[simp] theorem e53 (a : Ex) : evE G cf (.dict a) ρ st = (evE G cf a ρ st).bind dictK := rfl
@[simp] theorem e54 (d k x : Ex) : evE G cf (.get d k x) ρ st = (evE G cf d ρ st).bind (getK1 G cf k x ρ) := rfl
@[simp] theorem e55 (f np : Nat) (as body : Ex) (caps : List Nat) : evE G cf (.callL f as np caps body) ρ st = (evA G cf as ρ st).bind (lamK G cf f np caps body ρ) := rfl
@[simp] theorem e56 (i : Nat) (as : Ex) : evE G cf (.calv i as) ρ st = calvK G cf as ρ st ((ρ[i]?).bind id) := rfl
@[simp] theorem e57 (m : CM) (i : Nat) (as : Ex) : evE G cf (.calg m i as) ρ st = calgK G cf m as ρ st ((ρ[i]?).bind id) := rfl
@[simp] theorem e58 (tg tg2 : Tg) (ow : List Nat) (it it2 e : Ex) : evE G cf (.comp2 tg ow it tg2 it2 e) ρ st = (evI G cf it ρ st).bind (lc2K G cf tg ow it2 tg2 e ρ) := rfl
@[simp] theorem e6k (c : Nat) (x : Str) (e : Ex) : evE G cf (.fld c x e) ρ st = (evE G cf e ρ st).bind (fldK c x) := rfl
@[simp] theorem e6l (c f : Nat) (e : Ex) : evE G cf (.prop c f e) ρ st = (evE G cf e ρ st).bind (propK cf c f) := rfl
@[simp] theorem e6m (c f : Nat) (e as : Ex) : evE G cf (.meth c f e as) ρ st = (evE G cf e ρ st).bind (methK G cf (G.mn f) c f as ρ) := rfl
@[simp] theorem e6n (c f : Nat) (a b : Ex) : evE G cf (.item c f a b) ρ st = (evE G cf a ρ st).bind (itemK G cf c f b ρ) := rfl
@[simp] theorem e6o (c f : Nat) (e as : Ex) : evE G cf (.ocall c f e as) ρ st = (evE G cf e ρ st).bind (ocallK G cf c f as ρ) := rfl
@[simp] theorem e6p (c f : Nat) (e : Ex) : evE G cf (.ostr c f e) ρ st = (evE G cf e ρ st).bind (ostrK cf c f) := rfl
@[simp] theorem e6q (c f : Nat) (e : Ex) : evE G cf (.olen c f e) ρ st = (evE G cf e ρ st).bind (olenK cf c f) := rfl
@[simp] theorem e6r (c f : Nat) (e : Ex) : evE G cf (.obool c f e) ρ st = (evE G cf e ρ st).bind (oblK cf c f) := rfl
@[simp] theorem e6s (o : Operator) (c f : Nat) (a b : Ex) : evE G cf (.obin o c f a b) ρ st = (evE G cf a ρ st).bind (obinK G cf c f b ρ) := rfl
@[simp] theorem e6t (c f : Nat) (e : Ex) : evE G cf (.oinv c f e) ρ st = (evE G cf e ρ st).bind (oinvK cf c f) := rfl
@[simp] theorem e6u (c f : Nat) (a b : Ex) : evE G cf (.ceq c f a b) ρ st = (evE G cf a ρ st).bind (ceqK G cf c f b ρ) := rfl
@[simp] theorem e6v (neg : Bool) (c f : Nat) (a e : Ex) : evE G cf (.isin neg c f a e) ρ st = (evE G cf a ρ st).bind (inK G cf neg c f e ρ) := rfl
@[simp] theorem e6w (c f : Nat) (as : Ex) : evE G cf (.mk c f as) ρ st = (evA G cf as ρ st).bind (mkK cf c f) := rfl
@[simp] theorem e6x (v : Option Nat) (c f : Nat) (as e : Ex) : evE G cf (.mks v c f as e) ρ st = if mksC ρ c v then (evA G cf as ρ st).bind (mksK G cf c f e ρ) else .bad := rfl
@[simp] theorem e6y (c f : Nat) (as : Ex) : evE G cf (.cm c f as) ρ st = (evA G cf as ρ st).bind (cmK cf c f) := rfl
@[simp] theorem e6z (c : Nat) (e : Ex) : evE G cf (.isc c e) ρ st = (evE G cf e ρ st).bind (iscK c) := rfl
@[simp] theorem e70 (a b : Ex) : evE G cf (.join a b) ρ st = (evE G cf a ρ st).bind (joinK G cf b ρ) := rfl
@[simp] theorem e71 (a b : Ex) : evE G cf (.spl a b) ρ st = (evE G cf a ρ st).bind (splK G cf b ρ) := rfl
@[simp] theorem e72 (e : Ex) : evE G cf (.fmt e) ρ st = (evE G cf e ρ st).bind fmtK := rfl
@[simp] theorem e73 (as : Ex) : evE G cf (.fs as) ρ st = evJ G cf as Str.empty ρ st := rfl
@[simp] theorem e74 (acc : Str) : evJ G cf .nil acc ρ st = .ok (.str acc) st := rfl
@[simp] theorem e75 (a as : Ex) (acc : Str) : evJ G cf (.cons a as) acc ρ st = (evE G cf a ρ st).bind (fsK G cf as acc ρ) := rfl
@[simp] theorem e76 (c : Nat) (x : Str) (o e : Ex) : evS G cf N (.fput c x o e) ρ st = (evE G cf e ρ st).bind (fputK G cf c x o ρ) := rfl
@[simp] theorem e77 (o : Operator) (c f i : Nat) (e : Ex) : evS G cf N (.aug o c f i e) ρ st = (R.lift ((ρ[i]?).bind id) st).bind (augK G cf c f i e ρ) := rfl
@[simp] theorem e59 (t : Tg) (enu : Bool) (o : Ex) (b : Sm) : evS G cf N (.forC t enu o b) ρ st = (evE G cf o ρ st).bind (forCK G cf N t enu b ρ) := rfl
@[simp] theorem e5a (b : Sm) (h : Hn) : evS G cf N (.tryH b h) ρ st = tryK G.S h (wipeP ρ b.asg) (evS G cf N b ρ st) := rfl
@[simp] theorem e2m : evA G cf .nil ρ st = .ok [] st := rfl
@[simp] theorem e2n (a as : Ex) : evA G cf (.cons a as) ρ st = (evE G cf a ρ st).bind (consK1 G cf as ρ) := rfl
@[simp] theorem e2o (a : Ex) : evI G cf (.rng1 a) ρ st = (evE G cf a ρ st).bind rng1K := rfl
@[simp] theorem e2p (a b : Ex) : evI G cf (.rng2 a b) ρ st = (evE G cf a ρ st).bind (rng2K1 G cf b ρ) := rfl
@[simp] theorem e2q (a b : Ex) : evI G cf (.zip a b) ρ st = (evE G cf a ρ st).bind (zipK1 G cf b ρ) := rfl
@[simp] theorem e2r (a : Ex) : evI G cf (.enu a) ρ st = (evE G cf a ρ st).bind enuK := rfl
@[simp] theorem e2s (a : Ex) : evI G cf (.sq a) ρ st = (evE G cf a ρ st).bind sqK := rfl
@[simp] theorem e2t (e : Ex) : tstR false (evE G cf e ρ) st = tstK G cf e ρ st := rfl
@[simp] theorem e2u (f : Sto → R PV) : tstR true f st = .ok true st := rfl
@[simp] theorem e2v (f : Sto → R PV) : optR false f st = (f st).bind oIntK := rfl
@[simp] theorem e2w (f : Sto → R PV) : optR true f st = .ok none st := rfl
@[simp] theorem e2x (i : Int) : oInt (.int i) = some (some i) := rfl
@[simp] theorem e2y : Ex.isOmit .omit = true := rfl
@[simp] theorem e2z : evS G cf N .skip ρ st = .ok (.nx ρ) st := rfl
@[simp] theorem e30 (a b : Sm) : evS G cf N (.seq a b) ρ st = (evS G cf N a ρ st).bind (seqK (evS G cf N b)) := rfl
@[simp] theorem e31 (i : Nat) (e : Ex) : evS G cf N (.set i e) ρ st = (evE G cf e ρ st).bind (setK i ρ) := rfl
@[simp] theorem e32 (t : Tg) (e : Ex) : evS G cf N (.setT t e) ρ st = (evE G cf e ρ st).bind (setTK t ρ) := rfl
@[simp] theorem e33 (o i e : Ex) : evS G cf N (.put o i e) ρ st = (evE G cf e ρ st).bind (putK1 G cf o i ρ) := rfl
@[simp] theorem e34 (o e : Ex) : evS G cf N (.app o e) ρ st = (evE G cf o ρ st).bind (appK1 G cf e ρ) := rfl
@[simp] theorem e35 (e : Ex) : evS G cf N (.drop e) ρ st = (evE G cf e ρ st).bind (dropK ρ) := rfl
@[simp] theorem e36 (e : Ex) : evS G cf N (.ret e) ρ st = (evE G cf e ρ st).bind retK := rfl
@[simp] theorem e37 (c : Ex) (a b : Sm) : evS G cf N (.ite c a b) ρ st = (tstK G cf c ρ st).bind (iteS G cf N a b ρ) := rfl
@[simp] theorem e38 (t : Tg) (it : Ex) (b : Sm) : evS G cf N (.for t it b) ρ st = (evI G cf it ρ st).bind (forK G cf N t b ρ) := rfl
@[simp] theorem e39 (c : Ex) (b : Sm) : evS G cf N (.while c b) ρ st = whR (tstK G cf c) (evS G cf N b) N ρ st := rfl
@[simp] theorem e3a (c : Nat) (m : Str) : evS G cf N (.raise c m) ρ st = .ex c st := rfl
@[simp] theorem e3b (st' : Sto) : R.sto ρ (some st') = .ok (.nx ρ) st' := rfl
@[simp] theorem e3c : R.sto ρ none = .bad := rfl
@[simp] theorem e3d : Fl.val (.nx ρ) st = .ok .non st := rfl
@[simp] theorem e3e (v : PV) : Fl.val (.rt v) st = .ok v st := rfl
@[simp] theorem e3f (i : Nat) (v : PV) : setTg (.nm i) v ρ = some (ρ.set i (some v)) := rfl
@[simp] theorem e3g : setTg .nil (.tup []) ρ = some ρ := rfl
@[simp] theorem e3h (t ts : Tg) (v : PV) (vs : List PV) : setTg (.cons t ts) (.tup (v :: vs)) ρ = (setTg t v ρ).bind fun ρ' => setTg ts (.tup vs) ρ' := rfl
@[simp] theorem e3i : wipeP ρ [] = ρ := rfl
@[simp] theorem e3j (v : Nat) (vs : List Nat) : wipeP ρ (v :: vs) = (wipeP ρ vs).set v none := rfl
@[simp] theorem e3k (f : PV → Env' → Sto → R Fl) : forR f [] ρ st = .ok (.nx ρ) st := rfl
theorem forR_cons (f : PV → Env' → Sto → R Fl) (x : PV) (xs : List PV) : forR f (x :: xs) ρ st = (f x ρ st).bind (seqK (forR f xs)) := rfl
theorem whR_succ (c : Env' → Sto → R Bool) (f : Env' → Sto → R Fl) (n : Nat) : whR c f (n + 1) ρ st = (c ρ st).bind (whK c f n ρ) := rfl
@[simp] theorem e3l (b : Bool) : truV st (.bl b) = some b := rfl
@[simp] theorem e3m : truV st .non = some false := rfl
@[simp] theorem e3n (i : Int) : truV st (.int i) = some (i != 0) := rfl
@[simp] theorem e3o (i j : Int) : binV st .Add (.int i) (.int j) = some (.int (i + j)) := rfl
@[simp] theorem e3p (i j : Int) : binV st .Sub (.int i) (.int j) = some (.int (i - j)) := rfl
@[simp] theorem e3q (i j : Int) : cmpV st .Lt (.int i) (.int j) = some (decide (i < j)) := rfl
@[simp] theorem e3r (i j : Int) : cmpV st .LtE (.int i) (.int j) = some (decide (i ≤ j)) := rfl
@[simp] theorem e3s (i j : Int) : cmpV st .Gt (.int i) (.int j) = some (decide (j < i)) := rfl
@[simp] theorem e3t (i j : Int) : cmpV st .GtE (.int i) (.int j) = some (decide (j ≤ i)) := rfl
@[simp] theorem e3u (v : PV) : cmpV st .Is v .non = some (isN v) := by cases v <;> rfl
@[simp] theorem e3v (v : PV) : cmpV st .IsNot v .non = some (!isN v) := by cases v <;> rfl
@[simp] theorem e5b (a b : Bool) : cmpV st .Is (.bl a) (.bl b) = some (a == b) := rfl
@[simp] theorem e5c (b : Bool) : cmpV st .Is .non (.bl b) = some false := rfl
@[simp] theorem e5d (a b : Bool) : cmpV st .IsNot (.bl a) (.bl b) = some (!(a == b)) := rfl
@[simp] theorem e5e (b : Bool) : cmpV st .IsNot .non (.bl b) = some true := rfl
@[simp] theorem e3w : isN .non = true := rfl
@[simp] theorem e3x (i : Int) : isN (.int i) = false := rfl
@[simp] theorem e3y (i : List PV) : isN (.tup i) = false := rfl
@[simp] theorem e3z (i : Bool) : isN (.bl i) = false := rfl
@[simp] theorem e40 (i : Str) : isN (.str i) = false := rfl
@[simp] theorem e41 (i j : Int) : cmpV st .Eq (.int i) (.int j) = some (i == j) := rfl
@[simp] theorem e42 (i j : Int) : cmpV st .NotEq (.int i) (.int j) = some (!(i == j)) := rfl
@[simp] theorem e43 (i j : Str) : cmpV st .Eq (.str i) (.str j) = some (i == j) := rfl
@[simp] theorem e44 (i j : Str) : cmpV st .NotEq (.str i) (.str j) = some (!(i == j)) := rfl
@[simp] theorem e45 (i : Int) : negV (.int i) = some (.int (-i)) := rfl
theorem mul_ii {i j : Int} (h : mulOk i j = true) : binV st .Mult (.int i) (.int j) = some (.int (i * j)) := by
  show (if mulOk i j then _ else _) = _
  rw [if_pos h]
theorem mulOk_r {i j : Int} (h1 : -(2 ^ 64) < j) (h2 : j < 2 ^ 64) : mulOk i j = true := by
  unfold mulOk
  rw [decide_eq_true h1, decide_eq_true h2]; simp
theorem mulOk_l {i j : Int} (h1 : -(2 ^ 64) < i) (h2 : i < 2 ^ 64) : mulOk i j = true := by
  unfold mulOk
  rw [decide_eq_true h1, decide_eq_true h2]; rfl
theorem mod_ii {i j : Int} (h : 0 < j) : binV st .Mod (.int i) (.int j) = some (.int (i % j)) := by
  show (if decide (0 < j) then _ else _) = _
  rw [decide_eq_true h]; rfl
theorem mulOk_w {i j : Int} (h1 : i.natAbs < mulCap) (h2 : j.natAbs < mulCap) : mulOk i j = true := by
  unfold mulOk
  rw [decide_eq_true h1, decide_eq_true h2]; simp
theorem div_ii {i j : Int} (h : 0 < j) (h2 : j < divCap) : binV st .FloorDiv (.int i) (.int j) = some (.int (i / j)) := by
  show (if decide (0 < j) && decide (j < divCap) then _ else _) = _
  rw [decide_eq_true h, decide_eq_true h2]; rfl
theorem lt_divCap {j : Int} (h : j < 2 ^ 200) : j < divCap := by
  have h2 : ((2 ^ 200 : Nat) : Int) ≤ divCap := Int.ofNat_le.mpr (Nat.pow_le_pow_right (by decide) (by decide))
  have h3 : (2 : Int) ^ 200 = ((2 ^ 200 : Nat) : Int) := by decide
  omega
theorem addT {xs ys : List PV} (h : xs.length + ys.length ≤ big) : binV st .Add (.tup xs) (.tup ys) = some (.tup (xs ++ ys)) := by
  show (if _ then _ else _) = _
  rw [if_pos h]
theorem addL {xs ys : List PV} (h : xs.length + ys.length ≤ big) : binV st .Add (.lst xs) (.lst ys) = some (.lst (xs ++ ys)) := by
  show (if _ then _ else _) = _
  rw [if_pos h]
theorem mulT {xs : List PV} {k : Int} (h1 : 2 ≤ k) (h2 : k ≤ 1000) (h3 : xs.length ≤ 1000) (h4 : xs ≠ []) : binV st .Mult (.tup xs) (.int k) = some (.tup (List.replicate k.toNat xs).flatten) := by
  show (if decide (2 ≤ k) && (decide (k ≤ 1000) && (decide (xs.length ≤ 1000) && !xs.isEmpty)) then _ else _) = _
  rw [decide_eq_true h1, decide_eq_true h2, decide_eq_true h3]
  cases xs with
  | nil => exact absurd rfl h4
  | cons _ _ => rfl
theorem mulL {xs : List PV} {k : Int} (h1 : 0 ≤ k) (h2 : k ≤ 1000) (h3 : xs.length ≤ 1000) : binV st .Mult (.lst xs) (.int k) = some (.lst (List.replicate k.toNat xs).flatten) := by
  show (if decide (0 ≤ k) && (decide (k ≤ 1000) && decide (xs.length ≤ 1000)) then _ else _) = _
  rw [decide_eq_true h1, decide_eq_true h2, decide_eq_true h3]; rfl
@[simp] theorem e46 (xs : List PV) : walkL (.lst xs) = some xs := rfl
@[simp] theorem e47 (xs : List PV) : walkL (.tup xs) = some xs := rfl
@[simp] theorem e48 (xs : List PV) : walkL (.scr xs) = some xs := rfl
@[simp] theorem e49 (xs : List PV) : biV st .len [.tup xs] = some (.int xs.length) := rfl
@[simp] theorem e4a (xs : List PV) : biV st .len [.lst xs] = some (.int xs.length) := rfl
@[simp] theorem e4b (xs : List PV) : biV st .len [.scr xs] = some (.int xs.length) := rfl
theorem len_cel {n : Nat} {xs : List PV} (h : st[n]? = some (.lst xs)) : biV st .len [.cel n] = some (.int xs.length) := by
  show (asS st (.cel n)).map _ = _
  show ((match st[n]? with | some (.lst xs) => some xs | _ => none : Option (List PV))).map _ = _
  rw [h]; rfl
@[simp] theorem e4c (xs : List PV) : biV st .tuple [.lst xs] = some (.tup xs) := rfl
@[simp] theorem e4d (xs : List PV) : biV st .tuple [.tup xs] = some (.tup xs) := rfl
@[simp] theorem e4e (xs : List PV) : biV st .list [.tup xs] = some (.lst xs) := rfl
@[simp] theorem e4f (xs : List PV) : biV st .list [.lst xs] = some (.lst xs) := rfl
theorem tuple_cel {n : Nat} {xs : List PV} (h : st[n]? = some (.lst xs)) : biV st .tuple [.cel n] = some (.tup xs) := by
  show ((match st[n]? with | some (.lst xs) => some xs | _ => none : Option (List PV))).map _ = _
  rw [h]; rfl
@[simp] theorem e4g (i : Int) : biV st .int [.int i] = some (.int i) := rfl
@[simp] theorem e4h (b : Bool) : biV st .int [.bl b] = some (.int (b2i b)) := rfl
@[simp] theorem e4i (i : Int) : biV st .abs [.int i] = some (.int (if i < 0 then -i else i)) := rfl
@[simp] theorem e4j (i j : Int) : biV st .min2 [.int i, .int j] = some (.int (if j < i then j else i)) := rfl
@[simp] theorem e4k (i j : Int) : biV st .max2 [.int i, .int j] = some (.int (if j > i then j else i)) := rfl
@[simp] theorem e4l (v : PV) (n : String) : biV st .isi [v, .ty n] = (isiV v n).map .bl := by cases v <;> rfl
@[simp] theorem e4m (xs : List PV) : biV st .sum [.lst xs] = (ints? xs).map fun ns => .int ns.sum := rfl
@[simp] theorem e4n (xs : List PV) : biV st .all [.lst xs] = (bools? xs).map fun bs => .bl (bs.all id) := rfl
@[simp] theorem e4o (xs : List PV) : biV st .any [.lst xs] = (bools? xs).map fun bs => .bl (bs.any id) := rfl
@[simp] theorem e4p (ns : List Int) : ints? (ns.map .int) = some ns := by
  induction ns with
  | nil => rfl
  | cons n ns ih => show (ints? (ns.map .int)).map _ = _; rw [ih]; rfl
@[simp] theorem e4q (ns : List Bool) : bools? (ns.map .bl) = some ns := by
  induction ns with
  | nil => rfl
  | cons n ns ih => show (bools? (ns.map .bl)).map _ = _; rw [ih]; rfl
theorem ix_tup (xs : List PV) (i : Int) : ixV st (.tup xs) (.int i) = atI xs i := rfl
theorem ix_lst (xs : List PV) (i : Int) : ixV st (.lst xs) (.int i) = atI xs i := rfl
theorem ix_scr (xs : List PV) (i : Int) : ixV st (.scr xs) (.int i) = atI xs i := rfl
theorem ix_cel {n : Nat} {xs : List PV} (h : st[n]? = some (.lst xs)) (i : Int) : ixV st (.cel n) (.int i) = atI xs i := by
  show ((match st[n]? with | some (.lst xs) => some xs | _ => none : Option (List PV)).bind fun xs => atI xs i) = _
  rw [h]; rfl
theorem atI_nat {α : Type} (xs : List α) (k : Nat) (h : k < xs.length) : atI xs (k : Int) = xs[k]? := by
  unfold atI ixN
  have h1 : ((0 : Int) ≤ k ∧ (k : Int) < xs.length) := by omega
  simp [h1, h]
end
/-! ### a result, told by a word -/
def Ok {α : Type} (r : R α) (P : α → Sto → Prop) : Prop := ∃ a st, r = .ok a st ∧ P a st
section
variable {α β : Type} {r : R α} {P Q : α → Sto → Prop}
theorem Ok.bind {f : α → Sto → R β} {Q : β → Sto → Prop} (h : Ok r P) (g : ∀ a st, P a st → Ok (f a st) Q) : Ok (r.bind f) Q := by
  obtain ⟨a, st, rfl, p⟩ := h
  exact g a st p
theorem Ok.imp (h : Ok r P) (g : ∀ a st, P a st → Q a st) : Ok r Q := by
  obtain ⟨a, st, e, p⟩ := h
  exact ⟨a, st, e, g a st p⟩
theorem Ok.ok {a : α} {st : Sto} (h : P a st) : Ok (.ok a st) P := ⟨a, st, rfl, h⟩
theorem Ok.eq {a : α} {st : Sto} (e : r = .ok a st) (h : P a st) : Ok r P := ⟨a, st, e, h⟩
theorem Ok.for_ {f : PV → Env' → Sto → R Fl} {Pf : Fl → Sto → Prop} (I : List PV → Env' → Sto → Prop) (step : ∀ x xs ρ st, I (x :: xs) ρ st → Ok (f x ρ st) fun fl st1 => match fl with
    | .nx ρ' => I xs ρ' st1
    | .rt v => Pf (.rt v) st1) (fin : ∀ ρ st, I [] ρ st → Pf (.nx ρ) st) : ∀ xs ρ st, I xs ρ st → Ok (forR f xs ρ st) Pf
  | [], ρ, st, h => .ok (fin ρ st h)
  | x :: xs, ρ, st, h => by
    rw [forR_cons]
    refine (step x xs ρ st h).bind fun fl st1 p => ?_
    cases fl with
    | nx ρ' => exact Ok.for_ I step fin xs ρ' st1 p
    | rt v => exact .ok p
end

theorem match_some {α β : Type} (a : α) (f : α → β) (g : β) : (match some a with | some x => f x | none => g) = f a := rfl
/-! what stands behind is left alone till its turn comes -/
end Mi

end

section
set_option linter.all false
set_option maxRecDepth 100000
/-! Mi, part O: what every law's text begins with: the source of numbers. -/
namespace Mi
open PySem L2

/-- cell n is a source: two numbers -/
def SrcAt (n : Nat) (st : Sto) : Prop := ∃ a b : Int, st[n]? = some (.lst [.int a, .int b]) ∧ 0 ≤ a ∧ 0 ≤ b ∧ b < 2147483647
/-- cell n alone was changed, and is a source -/
def UpdS (n : Nat) (st st' : Sto) : Prop := ∃ a b : Int, st' = st.set n (.lst [.int a, .int b]) ∧ 0 ≤ a ∧ 0 ≤ b ∧ b < 2147483647
theorem SrcAt.lt {n : Nat} {st : Sto} (h : SrcAt n st) : n < st.length := by
  obtain ⟨a, b, h, _⟩ := h
  exact (List.getElem?_eq_some_iff.mp h).1
theorem UpdS.src {n : Nat} {st st' : Sto} (u : UpdS n st st') (h : SrcAt n st) : SrcAt n st' := by
  obtain ⟨a, b, rfl, h1, h2, h3⟩ := u
  exact ⟨a, b, List.getElem?_set_self h.lt, h1, h2, h3⟩
theorem UpdS.trans {n : Nat} {st st1 st2 : Sto} (u : UpdS n st st1) (v : UpdS n st1 st2) : UpdS n st st2 := by
  obtain ⟨a, b, rfl, h1, h2, h3⟩ := u
  obtain ⟨c, d, rfl, h4, h5, h6⟩ := v
  exact ⟨c, d, by rw [List.set_set], h4, h5, h6⟩
theorem UpdS.refl {n : Nat} {st : Sto} (h : SrcAt n st) : UpdS n st st := by
  obtain ⟨a, b, h, h1, h2, h3⟩ := h
  refine ⟨a, b, ?_, h1, h2, h3⟩
  obtain ⟨hl, e⟩ := List.getElem?_eq_some_iff.mp h
  rw [← e, List.set_getElem_self]
theorem put_cel {st : Sto} {n j : Nat} {xs : List PV} {k : Int} {v : PV} (h : st[n]? = some (.lst xs)) (hk : ixN xs.length k = some j) (hv : v.noCel = true) : putV st (.cel n) (.int k) v = some (st.set n (.lst (xs.set j v))) := by
  show (match st[n]? with
    | some (.lst xs) => if v.noCel then (ixN xs.length k).map fun j => st.set n (.lst (xs.set j v)) else none
    | _ => none) = _
  rw [h]
  show (if v.noCel then (ixN xs.length k).map fun j => st.set n (.lst (xs.set j v)) else none) = _
  rw [if_pos hv, hk]
  rfl
theorem app_cel {st : Sto} {n : Nat} {xs : List PV} {v : PV} (h : st[n]? = some (.lst xs)) (hv : v.noCel = true) (hl : xs.length < big) : appV st (.cel n) v = some (st.set n (.lst (xs ++ [v]))) := by
  show (match st[n]? with
    | some (.lst xs) => if v.noCel && decide (xs.length < big) then some (st.set n (.lst (xs ++ [v]))) else none
    | _ => none) = _
  rw [h]
  show (if v.noCel && decide (xs.length < big) then some (st.set n (.lst (xs ++ [v]))) else none) = _
  rw [hv, decide_eq_true hl]
  rfl
section
variable {G : GlobF} {cf : CallF} {N : Nat}
def drawB : Sm := (.seq (.ite (.cmp .Gt (.idx (.var 0) (.int 0)) (.int 0)) (.seq (.set 2 (.bin .Mod (.bi .int (.cons (.idx (.var 0) (.int 0)) .nil)) (.var 1))) (.seq (.put (.var 0) (.int 0) (.bin .FloorDiv (.idx (.var 0) (.int 0)) (.var 1))) (.seq (.ret (.var 2)) .skip))) .skip) (.seq (.put (.var 0) (.int 1) (.bin .Mod (.bi .int (.cons (.bin .Mult (.idx (.var 0) (.int 1)) (.int 48271)) .nil)) (.int 2147483647))) (.seq (.ret (.bin .Mod (.bi .int (.cons (.bin .FloorDiv (.bin .Mod (.bi .int (.cons (.bin .Mult (.idx (.var 0) (.int 1)) (.idx (.var 0) (.int 1))) .nil)) (.int 2147483629)) (.int 64)) .nil)) (.var 1))) .skip)))
theorem draw_ok {n : Nat} {m : Int} {st : Sto} (h : SrcAt n st) (h1 : 0 < m) (h2 : m < divCap) :
    Ok (evS G cf N drawB [some (.cel n), some (.int m), none] st) fun fl st' => ∃ r : Int, fl = .rt (.int r) ∧ 0 ≤ r ∧ r < m ∧ UpdS n st st' := by
  have hn := h.lt
  obtain ⟨a, b, e, ha, hb, hb2⟩ := h
  have i0 : ∀ {st : Sto} {x y : PV}, st[n]? = some (.lst [x, y]) → ixV st (.cel n) (.int 0) = some x := fun h => by rw [ix_cel h]; rfl
  have i1 : ∀ {st : Sto} {x y : PV}, st[n]? = some (.lst [x, y]) → ixV st (.cel n) (.int 1) = some y := fun h => by rw [ix_cel h]; rfl
  by_cases hp : 0 < a
  · refine ⟨.rt (.int (a % m)), st.set n (.lst [.int (a / m), .int b]), ?_, a % m, rfl, Int.emod_nonneg _ (by omega), Int.emod_lt_of_pos _ h1, a / m, b, rfl, Int.ediv_nonneg ha (by omega), hb, hb2⟩
    simp [drawB, i0 e, hp, mod_ii h1, div_ii h1 h2]
    rw [put_cel (j := 0) e rfl rfl]
    rfl
  · have e2 : (st.set n (.lst [.int a, .int (b * 48271 % 2147483647)]))[n]? = some (.lst [.int a, .int (b * 48271 % 2147483647)]) := List.getElem?_set_self hn
    have b0 : 0 ≤ b * 48271 % 2147483647 := Int.emod_nonneg _ (by decide)
    have b1 : b * 48271 % 2147483647 < 2147483647 := Int.emod_lt_of_pos _ (by decide)
    have mm : mulOk (b * 48271 % 2147483647) (b * 48271 % 2147483647) = true := mulOk_l (by omega) (by omega)
    refine ⟨.rt (.int ((b * 48271 % 2147483647) * (b * 48271 % 2147483647) % 2147483629 / 64 % m)), st.set n (.lst [.int a, .int (b * 48271 % 2147483647)]), ?_, _, rfl, Int.emod_nonneg _ (by omega), Int.emod_lt_of_pos _ h1, a, _, rfl, ha, b0, b1⟩
    have m1 : mulOk b 48271 = true := mulOk_r (by decide) (by decide)
    simp [drawB, i0 e, i1 e, hp, mul_ii m1, mod_ii]
    rw [put_cel (j := 1) e rfl rfl]
    simp [i1 e2, mul_ii mm, mod_ii, mod_ii h1, div_ii (i := _) (j := 64) (by decide) (lt_divCap (by decide))]
end
end Mi

end

section
set_option linter.all false
set_option maxRecDepth 100000
/-! Mi, part P: small plain facts that the walks use. -/
namespace Mi
open PySem L2
theorem cut_take {α : Type} (xs : List α) (k : Nat) (h : k ≤ xs.length) : cutG xs none (some (k : Int)) = xs.take k := by
  unfold cutG
  rw [HT.sIx_none, HT.sIx_nat, Nat.min_eq_left h]
  simp
theorem cut_drop {α : Type} (xs : List α) (k : Nat) (h : k ≤ xs.length) : cutG xs (some (k : Int)) none = xs.drop k := by
  unfold cutG
  rw [HT.sIx_none, HT.sIx_nat, Nat.min_eq_left h]
  rw [List.take_of_length_le (by simp)]
theorem set_eq {α : Type} (xs : List α) (k : Nat) (x : α) (h : k < xs.length) : xs.take k ++ [x] ++ xs.drop (k + 1) = xs.set k x := by
  rw [List.append_assoc, List.set_eq_take_append_cons_drop, if_pos h]
  rfl
theorem big_lt : 1000 ≤ big := by decide
theorem compR_map {α : Type} {f : PV → Sto → R (Option PV)} {st : Sto} (l : List α) (e : α → PV) (g : α → PV) (h : ∀ a ∈ l, f (e a) st = .ok (some (g a)) st) : compR f (l.map e) st = .ok (l.map g) st := by
  induction l with
  | nil => rfl
  | cons a l ih =>
    show (f (e a) st).bind (fun o st1 => (compR f (l.map e) st1).bind fun ys st2 => .ok (match o with
      | some y => y :: ys
      | none => ys) st2) = _
    rw [h a List.mem_cons_self, R.bind_ok, ih fun b hb => h b (List.mem_cons_of_mem _ hb)]
    rfl
def dotZ (xs ys : List Int) : Int := ((xs.zip ys).map fun p => p.1 * p.2).sum
theorem zip_ints (xs ys : List Int) : zipL (xs.map .int) (ys.map .int) = (xs.zip ys).map fun p => PV.tup [.int p.1, .int p.2] := by
  unfold zipL
  rw [List.zip_map, List.map_map]
  rfl
theorem rngL_nat (n : Nat) : rngL 0 n = (List.range n).map fun t => PV.int (t : Nat) := by
  unfold rngL
  simp
theorem small_nat {n : Nat} (h : n < 2 ^ 60) : smallI (n : Int) = true := by
  unfold smallI
  rw [decide_eq_true (by omega), decide_eq_true (by omega)]
  rfl
/-- the line of one tile's reach to another -/
def reachL (many a b : Nat) : List Int := ((List.range many).map fun t => if t = a then 1 else 0) ++ (List.range (many - 1)).map fun t => if min a b ≤ t ∧ t < max a b then -1 else 0

/-! ### tiles that fall -/
structure Sd where
  sts : List Str
  hd : List Bool
  sy : List (Nat × Str)
def tY (sy : List (Nat × Str)) : List PV := sy.map fun p => .tup [.int (p.1 : Nat), .str p.2]
def Sd.v (s : Sd) : PV := .tup [.tup (s.sts.map .str), .tup (s.hd.map .bl), .tup (tY s.sy)]
def oN : Option Nat → PV
  | none => .non
  | some n => .int (n : Nat)
def upJs (n t : Nat) (way : Str) : List Nat := if way = "right" then List.range' (t + 1) (n - (t + 1)) else (List.range t).reverse
def nextUp (sts : List Str) (t : Nat) (way : Str) : Option Nat := (upJs sts.length t way).find? fun j => sts[j]? == some ("up" : Str)
def hitB (sizes : List Int) (many a b : Nat) : Bool := decide (0 < dotZ (reachL many a b) sizes)
def nextHit (sizes : List Int) (many : Nat) (sts : List Str) (t : Nat) (way : Str) : Option Nat := match nextUp sts t way with
  | none => none
  | some o => if hitB sizes many t o then some o else none
def Sd.up (s : Sd) (t : Nat) : Bool := s.sts[t]? == some ("up" : Str) && s.hd[t]? == some false
def Sd.fall (s : Sd) (t : Nat) (way : Str) : Sd := ⟨s.sts.set t way, s.hd, s.sy ++ [(t, way)]⟩
def pushF (sizes : List Int) (many : Nat) (way : Str) : Nat → Sd → Option Nat → Sd
  | 0, s, _ => s
  | _ + 1, s, none => s
  | n + 1, s, some t => if s.up t then pushF sizes many way n (s.fall t way) (nextHit sizes many (s.fall t way).sts t way) else s
def deedF (sizes : List Int) (many : Nat) (s : Sd) (d : Str × Nat) : Sd :=
  if d.1 = "left" ∨ d.1 = "right" then pushF sizes many d.1 (s.sts.length + 1) s (some d.2)
  else if d.1 = "take" ∨ d.1 = "stand" then { s with sts := s.sts.set d.2 (if d.1 = "take" then "away" else "up") }
  else { s with hd := s.hd.set d.2 (decide (d.1 = "hold")) }
def runD (sizes : List Int) (many : Nat) (ds : List (Str × Nat)) : Sd := ds.foldl (deedF sizes many) ⟨List.replicate many "up", List.replicate many false, []⟩
theorem upJs_lt {n t : Nat} {way : Str} (h : t < n) : ∀ j ∈ upJs n t way, j < n := by
  intro j hj
  unfold upJs at hj
  split at hj
  · rw [List.mem_range'] at hj
    obtain ⟨i, hi, rfl⟩ := hj
    omega
  · rw [List.mem_reverse, List.mem_range] at hj
    omega
theorem nextUp_lt {sts : List Str} {t o : Nat} {way : Str} (h : t < sts.length) (e : nextUp sts t way = some o) : o < sts.length :=
  upJs_lt h o (List.mem_of_find?_eq_some e)
theorem nextHit_lt {sizes : List Int} {many : Nat} {sts : List Str} {t o : Nat} {way : Str} (h : t < sts.length) (e : nextHit sizes many sts t way = some o) : o < sts.length := by
  unfold nextHit at e
  split at e
  · cases e
  · rename_i o' q
    split at e
    · cases e; exact nextUp_lt h q
    · cases e
theorem rngL_upJs {n t : Nat} (h : t < n) : rngL ((t : Int) + 1) ((n : Int) - ((t : Int) + 1)).toNat = (upJs n t "right").map fun j => PV.int (j : Nat) := by
  unfold rngL upJs
  rw [if_pos rfl]
  have e : ((n : Int) - ((t : Int) + 1)).toNat = n - (t + 1) := by omega
  rw [e, List.range'_eq_map_range, List.map_map]
  refine List.map_congr_left fun i _ => ?_
  show PV.int ((t : Int) + 1 + i) = PV.int ((t + 1 + i : Nat) : Int)
  congr 1
theorem rngD_upJs {n t : Nat} {way : Str} (hw : way ≠ "right") : rngD ((t : Int) - 1) ((t : Int) - 1 - (-1)).toNat = (upJs n t way).map fun j => PV.int (j : Nat) := by
  unfold rngD upJs
  rw [if_neg hw]
  have e : ((t : Int) - 1 - (-1)).toNat = t := by omega
  rw [e]
  refine List.ext_getElem (by simp) fun i h1 h2 => ?_
  simp only [List.length_map, List.length_range] at h1
  simp only [List.getElem_map, List.getElem_range, List.getElem_reverse, List.length_range]
  congr 1
  omega
def ups (sts : List Str) : Nat := List.count ("up" : Str) sts
theorem count_set {sts : List Str} {t : Nat} {w : Str} (h : sts[t]? = some ("up" : Str)) (hw : w ≠ ("up" : Str)) : ups (sts.set t w) + 1 = ups sts := by
  obtain ⟨hl, e⟩ := List.getElem?_eq_some_iff.mp h
  unfold ups
  rw [List.count_set hl]
  have e1 : (sts[t] == ("up" : Str)) = true := by rw [e]; exact beq_self_eq_true _
  have e2 : (w == ("up" : Str)) = false := by rw [beq_eq_false_iff_ne]; exact hw
  have hp : 0 < List.count ("up" : Str) sts := List.count_pos_iff.mpr (by rw [← e]; exact List.getElem_mem hl)
  rw [e1, e2]
  simp
  omega
theorem ups_le (sts : List Str) : ups sts ≤ sts.length := List.count_le_length
theorem tY_snoc (sy : List (Nat × Str)) (t : Nat) (w : Str) : tY (sy ++ [(t, w)]) = tY sy ++ [.tup [.int (t : Nat), .str w]] := by
  unfold tY
  rw [List.map_append]; rfl
theorem at_map {α : Type} (f : α → PV) (xs : List α) (k : Nat) (h : k < xs.length) : atI (xs.map f) (k : Int) = some (f xs[k]) := by
  rw [atI_nat _ _ (by simpa using h), List.getElem?_map, List.getElem?_eq_getElem h]; rfl
/-- a standing of many tiles, its story of at most L -/
structure Sd.Ok (s : Sd) (many L : Nat) : Prop where
  st : s.sts.length = many
  hd : s.hd.length = many
  sy : s.sy.length + ups s.sts ≤ L
theorem Sd.Ok.fall {s : Sd} {many L t : Nat} {w : Str} (h : s.Ok many L) (hu : s.up t = true) (hw : w ≠ ("up" : Str)) : (s.fall t w).Ok many L := by
  have hu : s.sts[t]? = some ("up" : Str) := by
    obtain ⟨h1, _⟩ := Bool.and_eq_true_iff.mp hu
    exact eq_of_beq h1
  have hc := count_set hu hw
  refine ⟨by show (s.sts.set t w).length = many; rw [List.length_set]; exact h.st, h.hd, ?_⟩
  show (s.sy ++ [(t, w)]).length + ups (s.sts.set t w) ≤ L
  have := h.sy
  rw [List.length_append, List.length_singleton]
  omega
theorem pushF_ok {sizes : List Int} {many L : Nat} {w : Str} (hw : w ≠ ("up" : Str)) : ∀ (n : Nat) (s : Sd) (o : Option Nat), s.Ok many L → (pushF sizes many w n s o).Ok many L
  | 0, s, o, h => h
  | n + 1, s, none, h => h
  | n + 1, s, some t, h => by
    unfold pushF
    split
    · rename_i hu
      exact pushF_ok hw n _ _ (h.fall hu hw)
    · exact h
theorem reachL_len (many a b : Nat) : (reachL many a b).length = many + (many - 1) := by
  unfold reachL; rw [List.length_append, List.length_map, List.length_map, List.length_range, List.length_range]
theorem reachL_small (many a b : Nat) : ∀ x ∈ reachL many a b, -(2 ^ 64) < x ∧ x < 2 ^ 64 := by
  intro x hx
  unfold reachL at hx
  rcases List.mem_append.mp hx with h | h
  · obtain ⟨t, _, rfl⟩ := List.mem_map.mp h
    split <;> decide
  · obtain ⟨t, _, rfl⟩ := List.mem_map.mp h
    split <;> decide
/-- after i deeds -/
structure Sd.W (s : Sd) (many i : Nat) : Prop where
  st : s.sts.length = many
  hd : s.hd.length = many
  sy : s.sy.length ≤ i * many
def words : List Str := ["left", "right", "take", "stand", "hold", "free"]
def deedOk (many : Nat) (x : Str × Nat) : Prop := x.1 ∈ words ∧ x.2 < many
def dV (x : Str × Nat) : PV := .tup [.str x.1, .int (x.2 : Nat)]
theorem Sd.W.ok {s : Sd} {many i : Nat} (h : s.W many i) : s.Ok many (i * many + many) := ⟨h.st, h.hd, by have := ups_le s.sts; have := h.st; have := h.sy; omega⟩
theorem deedF_W {sizes : List Int} {many i : Nat} {s : Sd} {x : Str × Nat} (h : s.W many i) (hx : deedOk many x) : (deedF sizes many s x).W many (i + 1) := by
  have e : (i + 1) * many = i * many + many := Nat.succ_mul i many
  unfold deedF
  split
  · rename_i hw
    have hn : x.1 ≠ ("up" : Str) := by rcases hw with q | q <;> (rw [q]; decide)
    have := pushF_ok (sizes := sizes) hn (s.sts.length + 1) s (some x.2) h.ok
    exact ⟨this.st, this.hd, by rw [e]; have := this.sy; omega⟩
  · split
    · exact ⟨by show (s.sts.set _ _).length = many; rw [List.length_set]; exact h.st, h.hd, by rw [e]; exact Nat.le_trans h.sy (Nat.le_add_right _ _)⟩
    · exact ⟨h.st, by show (s.hd.set _ _).length = many; rw [List.length_set]; exact h.hd, by rw [e]; exact Nat.le_trans h.sy (Nat.le_add_right _ _)⟩
theorem in2 {st : Sto} (w a b : Str) : cmpV st .In (.str w) (.tup [.str a, .str b]) = some ((a == w) || (b == w)) := by
  show some ((a == w) || ((b == w) || false)) = _
  rw [Bool.or_false]
theorem rep_map {α : Type} (f : α → PV) (n : Nat) (x : α) : (List.replicate n [f x]).flatten = (List.replicate n x).map f := by
  induction n with
  | zero => rfl
  | succ n ih => rw [List.replicate_succ, List.flatten_cons, ih, List.replicate_succ, List.map_cons]; rfl
def start (many : Nat) : Sd := ⟨List.replicate many "up", List.replicate many false, []⟩
theorem start_W (many : Nat) : (start many).W many 0 := ⟨List.length_replicate, List.length_replicate, by simp [start]⟩
theorem foldl_W {sizes : List Int} {many : Nat} : ∀ (ds : List (Str × Nat)) (s : Sd) (i : Nat), s.W many i → (∀ x ∈ ds, deedOk many x) → (ds.foldl (deedF sizes many) s).W many (i + ds.length)
  | [], s, i, h, _ => h
  | x :: ds, s, i, h, hd => by
    have := foldl_W (sizes := sizes) ds (deedF sizes many s x) (i + 1) (deedF_W h (hd x List.mem_cons_self)) fun y hy => hd y (List.mem_cons_of_mem _ hy)
    rw [List.foldl_cons, List.length_cons, Nat.add_comm ds.length 1, ← Nat.add_assoc]
    exact this
/-- good sizes -/
structure SzOk (many : Nat) (sizes : List Int) : Prop where
  len : sizes.length = 2 * many - 1
  lo : ∀ x ∈ sizes, 1 ≤ x ∧ x ≤ 1000000000000
theorem all_map {α : Type} (l : List α) (p : α → Bool) (h : ∀ a ∈ l, p a = true) : ((l.map p).all id) = true := by
  rw [List.all_eq_true]
  intro b hb
  obtain ⟨a, ha, rfl⟩ := List.mem_map.mp hb
  exact h a ha
theorem dats_str (ws : List Str) : dats (ws.map .str) = true := by
  induction ws with
  | nil => rfl
  | cons w ws ih => show (true && dats (ws.map .str)) = true; rw [ih]; rfl
theorem deps_str (ws : List Str) : deps (ws.map .str) = 0 := by
  induction ws with
  | nil => rfl
  | cons w ws ih => show max 0 (deps (ws.map .str)) = 0; rw [ih]; rfl
theorem any_str (w : Str) (ws : List Str) : ((ws.map PV.str).any fun z => z.eqv (.str w)) = ws.any (· == w) := by
  induction ws with
  | nil => rfl
  | cons v ws ih => rw [List.map_cons, List.any_cons, List.any_cons, ih]; rfl
theorem in_strs {st : Sto} (w : Str) (ws : List Str) : cmpV st .In (.str w) (.tup (ws.map .str)) = some (ws.any (· == w)) := by
  show (if true && (dats (ws.map .str) && decide (deps (ws.map .str) ≤ 60)) then some ((ws.map PV.str).any fun z => z.eqv (.str w)) else none) = _
  rw [dats_str, deps_str, any_str]
  rfl
theorem word_in {w : Str} (h : w ∈ words) : (words.any (· == w)) = true := List.any_eq_true.mpr ⟨w, h, beq_self_eq_true _⟩
mutual
theorem frz_no {st : Sto} : ∀ v : PV, v.noCel = true → frz st v = some v
  | .non, _ => rfl
  | .bl _, _ => rfl
  | .int _, _ => rfl
  | .str _, _ => rfl
  | .glo _, _ => rfl
  | .ty _, _ => rfl
  | .cel _, h => by cases h
  | .clo, h => by cases h
  | .dct _, _ => rfl
  | .tup xs, h => by
    show (frzs st xs).map PV.tup = _
    rw [frzs_no xs h]; rfl
  | .lst xs, h => if_pos h
  | .scr xs, h => if_pos h
theorem frzs_no {st : Sto} : ∀ xs : List PV, noCels xs = true → frzs st xs = some xs
  | [], _ => rfl
  | x :: xs, h => by
    obtain ⟨h1, h2⟩ := Bool.and_eq_true_iff.mp (show (x.noCel && noCels xs) = true from h)
    show (frz st x).bind (fun y => (frzs st xs).map (y :: ·)) = _
    rw [frz_no x h1, frzs_no xs h2]; rfl
end
theorem noCels_map {α : Type} (f : α → PV) (l : List α) (h : ∀ a, (f a).noCel = true) : noCels (l.map f) = true := by
  induction l with
  | nil => rfl
  | cons a l ih => show ((f a).noCel && noCels (l.map f)) = true; rw [h a, ih]; rfl
theorem noCels_int (l : List Int) : noCels (l.map .int) = true := noCels_map _ _ fun _ => rfl
theorem noCels_str (l : List Str) : noCels (l.map .str) = true := noCels_map _ _ fun _ => rfl
theorem noCels_bl (l : List Bool) : noCels (l.map .bl) = true := noCels_map _ _ fun _ => rfl
theorem noCels_tY (l : List (Nat × Str)) : noCels (tY l) = true := noCels_map _ _ fun _ => rfl
theorem noCels_dV (l : List (Str × Nat)) : noCels (l.map dV) = true := noCels_map _ _ fun _ => rfl
theorem frz_cel {st : Sto} {n : Nat} {xs : List PV} (h : st[n]? = some (.lst xs)) (hn : noCels xs = true) : frz st (.cel n) = some (.lst xs) := by
  show (match st[n]? with
    | some (CC.lst xs) => if noCels xs then some (PV.lst xs) else none
    | _ => none) = some (PV.lst xs)
  rw [h]
  exact if_pos hn
theorem pure_ok {cf : CallF} {f : Nat} {as : List PV} {st st' : Sto} {v w : PV} (h : noCels as = true) (e : cf f as [] = .ok v st') (hf : frz st' v = some w) : callP cf .pure f as st = .ok w st := by
  show (if noCels as then (match cf f as [] with
    | .ok v st' => R.lift (frz st' v) st
    | .ex c _ => .ex c st
    | .bad => .bad) else .bad) = _
  rw [if_pos h, e]
  show R.lift (frz st' v) st = _
  rw [hf]
  rfl
theorem at_last {α : Type} (xs : List α) (x : α) : atI (xs ++ [x]) (-1) = some x := by
  unfold atI ixN
  have h1 : ¬ ((0 : Int) ≤ -1) := by decide
  rw [if_neg h1, List.length_append, List.length_singleton]
  rw [if_pos (by omega)]
  have e : ((-1 : Int) + ((xs.length + 1 : Nat) : Int)).toNat = xs.length := by omega
  show (xs ++ [x])[((-1 : Int) + ((xs.length + 1 : Nat) : Int)).toNat]? = _
  rw [e]; simp
theorem ixN_nat {n k : Nat} (h : k < n) : ixN n (k : Int) = some k := by
  unfold ixN
  rw [if_pos (by omega), if_pos (by omega), Int.toNat_natCast]
mutual
theorem eqv_refl : ∀ v : PV, v.dat = true → v.eqv v = true
  | .non, _ => rfl
  | .bl b, _ => by show (b == b) = true; simp
  | .int b, _ => by show (b == b) = true; simp
  | .str b, _ => by show (b == b) = true; simp
  | .glo _, h => by cases h
  | .ty _, h => by cases h
  | .cel _, h => by cases h
  | .scr _, h => by cases h
  | .dct _, h => by cases h
  | .clo, h => by cases h
  | .tup xs, h => eqvs_refl xs h
  | .lst xs, h => eqvs_refl xs h
theorem eqvs_refl : ∀ xs : List PV, dats xs = true → eqvs xs xs = true
  | [], _ => rfl
  | x :: xs, h => by
    obtain ⟨h1, h2⟩ := Bool.and_eq_true_iff.mp (show (x.dat && dats xs) = true from h)
    show (x.eqv x && eqvs xs xs) = true
    rw [eqv_refl x h1, eqvs_refl xs h2]; rfl
end
theorem dats_map {α : Type} (f : α → PV) (l : List α) (h : ∀ a, (f a).dat = true) : dats (l.map f) = true := by
  induction l with
  | nil => rfl
  | cons a l ih => show ((f a).dat && dats (l.map f)) = true; rw [h a, ih]; rfl
theorem deps_map {α : Type} (f : α → PV) (l : List α) (n : Nat) (h : ∀ a, (f a).dep ≤ n) : deps (l.map f) ≤ n := by
  induction l with
  | nil => exact Nat.zero_le _
  | cons a l ih => show max (f a).dep (deps (l.map f)) ≤ n; exact Nat.max_le.mpr ⟨h a, ih⟩
theorem ne_self {st : Sto} {xs : List PV} (h : dats xs = true) (hd : deps xs ≤ 50) : cmpV st .NotEq (.tup xs) (.tup xs) = some false := by
  show (eqV st (.tup xs) (.tup xs)).map (!·) = _
  have e : eqV st (.tup xs) (.tup xs) = some true := by
    show (if (PV.tup xs).dat && ((PV.tup xs).dat && (decide ((PV.tup xs).dep ≤ 60) || decide ((PV.tup xs).dep ≤ 60))) then some ((PV.tup xs).eqv (.tup xs)) else none) = _
    have h1 : (PV.tup xs).dat = true := h
    have h2 : (PV.tup xs).dep ≤ 60 := by show deps xs + 1 ≤ 60; omega
    rw [h1, decide_eq_true h2, eqv_refl _ h1]
    rfl
  rw [e]; rfl
theorem eq_self {st : Sto} {xs : List PV} (h : dats xs = true) (hd : deps xs ≤ 50) : cmpV st .Eq (.tup xs) (.tup xs) = some true := by
  show eqV st (.tup xs) (.tup xs) = _
  show (if (PV.tup xs).dat && ((PV.tup xs).dat && (decide ((PV.tup xs).dep ≤ 60) || decide ((PV.tup xs).dep ≤ 60))) then some ((PV.tup xs).eqv (.tup xs)) else none) = _
  have h1 : (PV.tup xs).dat = true := h
  have h2 : (PV.tup xs).dep ≤ 60 := by show deps xs + 1 ≤ 60; omega
  rw [h1, decide_eq_true h2, eqv_refl _ h1]
  rfl
theorem tY_dat (l : List (Nat × Str)) : dats (tY l) = true := dats_map _ _ fun _ => rfl
theorem tY_dep (l : List (Nat × Str)) : deps (tY l) ≤ 50 := deps_map _ _ _ fun a => by show max 0 (max 0 0) + 1 ≤ 50; decide
theorem str_dep (l : List Str) : deps (l.map .str) ≤ 50 := deps_map _ _ _ fun a => Nat.zero_le _
theorem wat {st : Sto} {n : Nat} {xs ys : List PV} (h : st[n]? = some (.lst xs)) : (st.set n (.lst ys))[n]? = some (.lst ys) := List.getElem?_set_self (List.getElem?_eq_some_iff.mp h).1
theorem up_eq {s : Sd} {t : Nat} (h1 : t < s.sts.length) (h2 : t < s.hd.length) : s.up t = (s.sts[t] == ("up" : Str) && !s.hd[t]) := by
  unfold Sd.up
  rw [List.getElem?_eq_getElem h1, List.getElem?_eq_getElem h2]
  show ((some s.sts[t] == some ("up" : Str)) && (some s.hd[t] == some false)) = _
  cases s.hd[t] <;> simp
theorem noCels_snocP {xs : List PV} {x : PV} (h : noCels xs = true) (hx : x.noCel = true) : noCels (xs ++ [x]) = true := by
  induction xs with
  | nil => show (x.noCel && true) = true; rw [hx]; rfl
  | cons y ys ih =>
    obtain ⟨h1, h2⟩ := Bool.and_eq_true_iff.mp (show (y.noCel && noCels ys) = true from h)
    show (y.noCel && noCels (ys ++ [x])) = true
    rw [h1, ih h2]; rfl
end Mi

end

section
set_option linter.all false
set_option maxRecDepth 100000
/-! Mi, part Q: values recognized, plainly. -/
namespace Mi
open PySem L2
def numB (v : PV) (a b : Int) : Bool := match v with
  | .int i => decide (a ≤ i) && decide (i ≤ b)
  | _ => false
def tupN (v : PV) (a b : Int) : Bool := match v with
  | .tup xs => decide (a ≤ xs.length) && decide ((xs.length : Int) ≤ b)
  | _ => false
def wordB (v : PV) (ws : List Str) : Bool := match v with
  | .str w => ws.any (· == w)
  | _ => false
def fwords : List Str := ["more", "atleast", "same"]
def ltB : PV → PV → Bool
  | .int i, .int j => decide (i < j)
  | _, _ => false
def incB (xs : List PV) : Bool := (xs.zip xs.tail).all fun p => ltB p.1 p.2
def lotB (many : Nat) (v : PV) : Bool := match v with
  | .tup xs => decide ((xs.length : Int) ≤ 2 * many - 1) && (xs.all (fun x => numB x 0 (2 * many - 2)) && incB xs)
  | _ => false
def lotL (many : Nat) (v : PV) : Bool := match v with
  | .tup xs => xs.all (fun x => numB x 0 (2 * many - 2)) && incB xs
  | _ => false
def factB (many : Nat) (v : PV) : Bool := match v with
  | .tup [a, b, c] => wordB a fwords && (lotB many b && lotB many c)
  | _ => false
def factsB (many : Nat) (v : PV) : Bool := match v with
  | .tup xs => decide (xs.length ≤ 6) && xs.all (factB many)
  | _ => false
def sizesB (many : Nat) (v : PV) : Bool := match v with
  | .tup xs => decide ((xs.length : Int) = 2 * many - 1) && xs.all (fun x => numB x 1 1000000000000)
  | _ => false
def deedB (many : Nat) (v : PV) : Bool := match v with
  | .tup [a, b] => wordB a words && numB b 0 (many - 1)
  | _ => false
def scriptB (many : Nat) (v : PV) : Bool := match v with
  | .tup xs => decide (xs.length ≤ 6) && xs.all (deedB many)
  | _ => false
/-- numbers, by a list -/
theorem nums_of {xs : List PV} {a b : Int} (h : (xs.all fun x => numB x a b) = true) : ∃ ns : List Int, xs = ns.map .int ∧ ∀ n ∈ ns, a ≤ n ∧ n ≤ b := by
  induction xs with
  | nil => exact ⟨[], rfl, by simp⟩
  | cons x xs ih =>
    rw [List.all_cons] at h
    obtain ⟨h1, h2⟩ := Bool.and_eq_true_iff.mp h
    obtain ⟨ns, e, hn⟩ := ih h2
    cases x <;> first | (cases h1; done) | skip
    rename_i i
    obtain ⟨h3, h4⟩ := Bool.and_eq_true_iff.mp (show (decide (a ≤ i) && decide (i ≤ b)) = true from h1)
    exact ⟨i :: ns, by rw [e]; rfl, fun n hm => by
      rcases List.mem_cons.mp hm with rfl | hm
      · exact ⟨of_decide_eq_true h3, of_decide_eq_true h4⟩
      · exact hn n hm⟩
theorem inc_bound : ∀ (ns : List Int) (lo hi : Int), (∀ n ∈ ns, lo ≤ n ∧ n ≤ hi) → incB (ns.map .int) = true → lo ≤ hi + 1 → (ns.length : Int) ≤ hi - lo + 1
  | [], lo, hi, _, _, hl => by simp; omega
  | [n], lo, hi, h, _, _ => by have := h n (by simp); simp; omega
  | n :: m :: ns, lo, hi, h, hi', hl => by
    have h1 : incB ((m :: ns).map .int) = true ∧ n < m := by
      have e : incB ((n :: m :: ns).map PV.int) = (decide (n < m) && incB ((m :: ns).map PV.int)) := rfl
      rw [e] at hi'
      obtain ⟨a, b⟩ := Bool.and_eq_true_iff.mp hi'
      exact ⟨b, of_decide_eq_true a⟩
    have hn := h n (by simp)
    have hm := h m (by simp)
    -- the rest lies above n
    have key : ∀ (ks : List Int) (k : Int), incB ((k :: ks).map PV.int) = true → ∀ x ∈ ks, k < x := by
      intro ks
      induction ks with
      | nil => intro k _ x hx; cases hx
      | cons y ks ih =>
        intro k hk x hx
        have e : incB ((k :: y :: ks).map PV.int) = (decide (k < y) && incB ((y :: ks).map PV.int)) := rfl
        rw [e] at hk
        obtain ⟨a, b⟩ := Bool.and_eq_true_iff.mp hk
        have a := of_decide_eq_true a
        rcases List.mem_cons.mp hx with rfl | hx
        · exact a
        · have := ih y b x hx; omega
    have k1 := key ns m h1.1
    have := inc_bound (m :: ns) (n + 1) hi (fun x hx => by
      have hx2 := h x (List.mem_cons_of_mem _ hx)
      rcases List.mem_cons.mp hx with rfl | hx
      · exact ⟨by omega, hx2.2⟩
      · exact ⟨by have := k1 x hx; omega, hx2.2⟩) h1.1 (by omega)
    simp only [List.length_cons] at this ⊢
    omega
theorem lot_eq (many : Nat) (h : 1 ≤ many) (v : PV) : lotB many v = lotL many v := by
  cases v <;> try rfl
  rename_i xs
  show (decide ((xs.length : Int) ≤ 2 * many - 1) && (xs.all (fun x => numB x 0 (2 * many - 2)) && incB xs)) = (xs.all (fun x => numB x 0 (2 * many - 2)) && incB xs)
  cases q : (xs.all (fun x => numB x 0 (2 * many - 2)) && incB xs) with
  | false => simp
  | true =>
    obtain ⟨h1, h2⟩ := Bool.and_eq_true_iff.mp q
    obtain ⟨ns, rfl, hn⟩ := nums_of h1
    have := inc_bound ns 0 (2 * many - 2) hn h2 (by omega)
    rw [decide_eq_true (by rw [List.length_map]; omega)]
    rfl
/-- plain values: what isinstance is asked of -/
def sh1 : PV → Bool
  | .non => true
  | .bl _ => true
  | .int _ => true
  | .str _ => true
  | .tup _ => true
  | .lst _ => true
  | _ => false
theorem isi_int {v : PV} (h : sh1 v = true) : isiV v "int" = some (match v with | .bl _ => true | .int _ => true | _ => false) := by cases v <;> first | rfl | cases h
theorem isi_bool {v : PV} (h : sh1 v = true) : isiV v "bool" = some (match v with | .bl _ => true | _ => false) := by cases v <;> first | rfl | cases h
theorem isi_str {v : PV} (h : sh1 v = true) : isiV v "str" = some (match v with | .str _ => true | _ => false) := by cases v <;> first | rfl | cases h
theorem isi_tup {v : PV} (h : sh1 v = true) : isiV v "tuple" = some (match v with | .tup _ => true | _ => false) := by cases v <;> first | rfl | cases h
theorem compR_filter {α : Type} {f : PV → Sto → R (Option PV)} {st : Sto} (l : List α) (e : α → PV) (p : α → Bool) (g : α → PV) (h : ∀ a ∈ l, f (e a) st = .ok (if p a then some (g a) else none) st) : compR f (l.map e) st = .ok ((l.filter p).map g) st := by
  induction l with
  | nil => rfl
  | cons a l ih =>
    show (f (e a) st).bind (fun o st1 => (compR f (l.map e) st1).bind fun ys st2 => .ok (match o with
      | some y => y :: ys
      | none => ys) st2) = _
    rw [h a List.mem_cons_self, R.bind_ok, ih fun b hb => h b (List.mem_cons_of_mem _ hb), List.filter_cons]
    cases p a <;> rfl
/-- nested values: dat, no longer than L, no deeper than n -/
def vB (L : Nat) : Nat → PV → Bool
  | _, .non => true
  | _, .bl _ => true
  | _, .int _ => true
  | _, .str _ => true
  | n + 1, .tup xs => decide (xs.length ≤ L) && xs.all (vB L n)
  | n + 1, .lst xs => decide (xs.length ≤ L) && xs.all (vB L n)
  | _, _ => false
theorem vB_sh {L : Nat} : ∀ {n : Nat} {v : PV}, vB L n v = true → sh1 v = true := by
  intro n v h
  cases v <;> first | rfl | (cases n <;> cases h)
theorem vB_dat {L : Nat} : ∀ {n : Nat} {v : PV}, vB L n v = true → v.dat = true := by
  intro n
  have lst : ∀ {m : Nat}, (∀ {v : PV}, vB L m v = true → v.dat = true) → ∀ xs : List PV, xs.all (vB L m) = true → dats xs = true := by
    intro m ih xs
    induction xs with
    | nil => intro _; rfl
    | cons x xs ihx =>
      intro h
      rw [List.all_cons] at h
      obtain ⟨h1, h2⟩ := Bool.and_eq_true_iff.mp h
      show (x.dat && dats xs) = true
      rw [ih h1, ihx h2]; rfl
  induction n with
  | zero => intro v h; cases v <;> first | rfl | cases h
  | succ n ih =>
    intro v h
    cases v <;> first | rfl | (cases h; done) | skip
    · rename_i xs; exact lst ih xs (Bool.and_eq_true_iff.mp (show (decide (xs.length ≤ L) && xs.all (vB L n)) = true from h)).2
    · rename_i xs; exact lst ih xs (Bool.and_eq_true_iff.mp (show (decide (xs.length ≤ L) && xs.all (vB L n)) = true from h)).2
theorem vB_mono {L L' : Nat} (hL : L ≤ L') : ∀ {n m : Nat} {v : PV}, n ≤ m → vB L n v = true → vB L' m v = true := by
  intro n
  induction n with
  | zero => intro m v _ h; cases v <;> first | (cases m <;> rfl) | cases h
  | succ n ih =>
    intro m v hm h
    obtain ⟨m, rfl⟩ : ∃ k, m = k + 1 := ⟨m - 1, by omega⟩
    have go : ∀ xs : List PV, (decide (xs.length ≤ L) && xs.all (vB L n)) = true → (decide (xs.length ≤ L') && xs.all (vB L' m)) = true := fun xs h => by
      obtain ⟨h1, h2⟩ := Bool.and_eq_true_iff.mp h
      rw [decide_eq_true (Nat.le_trans (of_decide_eq_true h1) hL), Bool.true_and]
      rw [List.all_eq_true] at h2 ⊢
      exact fun x hx => ih (by omega) (h2 x hx)
    cases v <;> first | rfl | (cases h; done) | skip
    · exact go _ h
    · exact go _ h
/-- a value of bounded lengths -/
def vW (v : PV) : Prop := ∃ n, vB 100 n v = true
theorem vW.sh {v : PV} (h : vW v) : sh1 v = true := let ⟨_, h⟩ := h; vB_sh h
theorem vW.dat {v : PV} (h : vW v) : v.dat = true := let ⟨_, h⟩ := h; vB_dat h
theorem vW.tup {xs : List PV} (h : vW (.tup xs)) : xs.length ≤ 100 ∧ ∀ x ∈ xs, vW x := by
  obtain ⟨n, h⟩ := h
  cases n with
  | zero => cases h
  | succ n =>
    obtain ⟨h1, h2⟩ := Bool.and_eq_true_iff.mp (show (decide (xs.length ≤ 100) && xs.all (vB 100 n)) = true from h)
    exact ⟨of_decide_eq_true h1, fun x hx => ⟨n, List.all_eq_true.mp h2 x hx⟩⟩
theorem cut_tail {α : Type} (xs : List α) : cutG xs (some 1) none = xs.tail := by
  cases xs with
  | nil => rfl
  | cons x xs => exact (cut_drop (x :: xs) 1 (by simp)).trans rfl
theorem mem_zip_int {ns : List Int} {p : PV × PV} (h : p ∈ (ns.map PV.int).zip (ns.map PV.int).tail) : ∃ i j, p = (.int i, .int j) := by
  obtain ⟨a, b⟩ := p
  have h1 := (List.of_mem_zip h).1
  have h2 := List.mem_of_mem_tail (List.of_mem_zip h).2
  obtain ⟨i, _, e1⟩ := List.mem_map.mp h1
  obtain ⟨j, _, e2⟩ := List.mem_map.mp h2
  exact ⟨i, j, by rw [← e1, ← e2]⟩
theorem zip_len {α : Type} (xs : List α) : (xs.zip xs.tail).length ≤ xs.length := by
  rw [List.length_zip]; exact Nat.min_le_left _ _
/-- a list compared with the empty one -/
theorem ne_nil {st : Sto} {xs : List PV} (h : dats xs = true) : cmpV st .NotEq (.lst xs) (.lst []) = some (!xs.isEmpty) := by
  show (eqV st (.lst xs) (.lst [])).map (!·) = _
  have e : eqV st (.lst xs) (.lst []) = some xs.isEmpty := by
    show (if (PV.lst xs).dat && (true && (decide ((PV.lst xs).dep ≤ 60) || decide ((PV.lst []).dep ≤ 60))) then some ((PV.lst xs).eqv (.lst [])) else none) = _
    have h1 : (PV.lst xs).dat = true := h
    rw [h1, decide_eq_true (show (PV.lst []).dep ≤ 60 by decide), Bool.or_true]
    cases xs <;> rfl
  rw [e]; rfl
theorem eq_nil {st : Sto} {xs : List PV} (h : dats xs = true) : cmpV st .Eq (.lst xs) (.lst []) = some xs.isEmpty := by
  show eqV st (.lst xs) (.lst []) = _
  show (if (PV.lst xs).dat && (true && (decide ((PV.lst xs).dep ≤ 60) || decide ((PV.lst []).dep ≤ 60))) then some ((PV.lst xs).eqv (.lst [])) else none) = _
  have h1 : (PV.lst xs).dat = true := h
  rw [h1, decide_eq_true (show (PV.lst []).dep ≤ 60 by decide), Bool.or_true]
  cases xs <;> rfl
theorem filter_empty {α : Type} (xs : List α) (p : α → Bool) : (xs.filter fun x => !p x).isEmpty = xs.all p := by
  induction xs with
  | nil => rfl
  | cons x xs ih => rw [List.filter_cons, List.all_cons]; cases p x <;> simp [ih]
theorem dats_of {xs : List PV} (h : ∀ x ∈ xs, x.dat = true) : dats xs = true := by
  induction xs with
  | nil => rfl
  | cons x xs ih => show (x.dat && dats xs) = true; rw [h x (by simp), ih fun y hy => h y (by simp [hy])]; rfl
def strQ : PV → Bool
  | .str _ => true
  | _ => false
def tupQ : PV → Bool
  | .tup _ => true
  | _ => false
theorem isi_strQ {v : PV} (h : sh1 v = true) : isiV v "str" = some (strQ v) := by cases v <;> first | rfl | cases h
theorem isi_tupQ {v : PV} (h : sh1 v = true) : isiV v "tuple" = some (tupQ v) := by cases v <;> first | rfl | cases h
end Mi

end

section
set_option linter.all false
set_option maxRecDepth 100000
/-! Mi, part R: facts and their lines, plainly. -/
namespace Mi
open PySem L2
theorem dats_int (l : List Int) : dats (l.map .int) = true := dats_map _ _ fun _ => rfl
theorem deps_int (l : List Int) : deps (l.map .int) = 0 := Nat.le_zero.mp (deps_map _ _ _ fun _ => Nat.le_refl 0)
theorem any_int (t : Int) (a : List Int) : ((a.map PV.int).any fun z => z.eqv (.int t)) = a.any (· == t) := by
  induction a with
  | nil => rfl
  | cons v a ih => rw [List.map_cons, List.any_cons, List.any_cons, ih]; rfl
theorem in_ints {st : Sto} (t : Int) (a : List Int) : cmpV st .In (.int t) (.tup (a.map .int)) = some (a.any (· == t)) := by
  show (if true && (dats (a.map .int) && decide (deps (a.map .int) ≤ 60)) then some ((a.map PV.int).any fun z => z.eqv (.int t)) else none) = _
  rw [dats_int, deps_int, any_int]
  rfl
def lineF (many : Nat) (a b : List Int) : List Int := (List.range (2 * many - 1)).map fun t => b2i (a.any (· == ((t : Nat) : Int))) - b2i (b.any (· == ((t : Nat) : Int)))
theorem lineF_small (many : Nat) (a b : List Int) : ∀ x ∈ lineF many a b, -(2 ^ 64) < x ∧ x < 2 ^ 64 := by
  intro x hx
  obtain ⟨t, _, rfl⟩ := List.mem_map.mp hx
  cases a.any (· == ((t : Nat) : Int)) <;> cases b.any (· == ((t : Nat) : Int)) <;> decide
theorem lineF_len (many : Nat) (a b : List Int) : (lineF many a b).length = 2 * many - 1 := by
  unfold lineF; rw [List.length_map, List.length_range]
def soB (w : Str) (far : Int) : Bool := if w = ("same" : Str) then far == 0 else if w = ("more" : Str) then decide (0 < far) else decide (0 ≤ far)
abbrev Fct := Str × List Int × List Int
def fV (x : Fct) : PV := .tup [.str x.1, .tup (x.2.1.map .int), .tup (x.2.2.map .int)]
structure FctOk (many : Nat) (x : Fct) : Prop where
  w : x.1 ∈ fwords
  a : lotB many (.tup (x.2.1.map .int)) = true
  b : lotB many (.tup (x.2.2.map .int)) = true
def keepsB (many : Nat) (fs : List Fct) (sizes : List Int) : Bool := fs.all fun x => soB x.1 (dotZ (lineF many x.2.1 x.2.2) sizes)
theorem inc_of : ∀ (ks : List Int), ks.Pairwise (· < ·) → incB (ks.map .int) = true
  | [], _ => rfl
  | [_], _ => rfl
  | a :: b :: ks, h => by
    have e : incB ((a :: b :: ks).map PV.int) = (decide (a < b) && incB ((b :: ks).map PV.int)) := rfl
    rw [e, inc_of (b :: ks) (List.Pairwise.of_cons h), decide_eq_true (List.rel_of_pairwise_cons h List.mem_cons_self)]; rfl
theorem lot_of (many : Nat) (hm : 1 ≤ many) (ks : List Int) (h : ks.Pairwise (· < ·)) (hr : ∀ k ∈ ks, 0 ≤ k ∧ k ≤ 2 * many - 2) : lotB many (.tup (ks.map .int)) = true := by
  rw [lot_eq many hm]
  show ((ks.map PV.int).all (fun x => numB x 0 (2 * many - 2)) && incB (ks.map .int)) = true
  rw [inc_of ks h, Bool.and_true, List.all_map, List.all_eq_true]
  intro k hk
  show (decide (0 ≤ k) && decide (k ≤ 2 * many - 2)) = true
  rw [decide_eq_true (hr k hk).1, decide_eq_true (hr k hk).2]; rfl
theorem lot_len {many : Nat} {ks : List Int} (h : lotB many (.tup (ks.map .int)) = true) : (ks.length : Int) ≤ 2 * many - 1 := by
  have h := (Bool.and_eq_true_iff.mp (show (decide (((ks.map PV.int).length : Int) ≤ 2 * many - 1) && _) = true from h)).1
  have h := of_decide_eq_true h
  rwa [List.length_map] at h
theorem lot_sub (many : Nat) (hm : 1 ≤ many) (ks : List Nat) (h : ks.Sublist (List.range (2 * many - 1))) : lotB many (.tup ((ks.map fun k : Nat => (k : Int)).map .int)) = true := by
  refine lot_of many hm _ ?_ ?_
  · rw [List.pairwise_map]
    refine (List.Pairwise.sublist h List.pairwise_lt_range).imp fun h => ?_
    omega
  · intro k hk
    obtain ⟨j, hj, rfl⟩ := List.mem_map.mp hk
    have := List.mem_range.mp (h.subset hj)
    omega
theorem lot_one (many : Nat) (hm : 1 ≤ many) (k : Int) (h : 0 ≤ k ∧ k ≤ 2 * many - 2) : lotB many (.tup [.int k]) = true :=
  lot_of many hm [k] (List.pairwise_singleton _ _) fun j hj => by rw [List.mem_singleton.mp hj]; exact h
theorem FctOk.good {many : Nat} {x : Fct} (h : FctOk many x) : factB many (fV x) = true := by
  show (wordB (.str x.1) fwords && (lotB many _ && lotB many _)) = true
  rw [h.a, h.b]
  have : wordB (.str x.1) fwords = true := List.any_eq_true.mpr ⟨_, h.w, beq_self_eq_true _⟩
  rw [this]; rfl
theorem vB_ints {L n : Nat} (l : List Int) (h : l.length ≤ L) : vB L (n + 1) (.tup (l.map .int)) = true := by
  show (decide ((l.map PV.int).length ≤ L) && (l.map PV.int).all (vB L n)) = true
  rw [List.length_map, decide_eq_true h, List.all_map, Bool.true_and, List.all_eq_true]
  intro x _
  cases n <;> rfl
theorem FctOk.vb {many : Nat} {x : Fct} (h : FctOk many x) (hm : many ≤ 4) : vB 7 2 (fV x) = true := by
  have l1 := lot_len h.a
  have l2 := lot_len h.b
  have e : vB 7 2 (fV x) = (true && (vB 7 1 (.str x.1) && (vB 7 1 (.tup (x.2.1.map .int)) && (vB 7 1 (.tup (x.2.2.map .int)) && true)))) := rfl
  rw [e, vB_ints (n := 0) _ (by omega), vB_ints (n := 0) _ (by omega)]
  rfl
theorem facts_good {many : Nat} {fs : List Fct} (hl : fs.length ≤ 6) (h : ∀ x ∈ fs, FctOk many x) : factsB many (.tup (fs.map fV)) = true := by
  show (decide ((fs.map fV).length ≤ 6) && (fs.map fV).all (factB many)) = true
  rw [List.length_map, decide_eq_true hl, Bool.true_and, List.all_map, List.all_eq_true]
  exact fun x hx => (h x hx).good
theorem vB_list {α : Type} {L n : Nat} (f : α → PV) (l : List α) (h : l.length ≤ L) (hf : ∀ a ∈ l, vB L n (f a) = true) : vB L (n + 1) (.tup (l.map f)) = true := by
  show (decide ((l.map f).length ≤ L) && (l.map f).all (vB L n)) = true
  rw [List.length_map, decide_eq_true h, List.all_map, Bool.true_and, List.all_eq_true]
  exact fun x hx => hf x hx
theorem facts_vb {many : Nat} {fs : List Fct} (hm : many ≤ 4) (hl : fs.length ≤ 6) (h : ∀ x ∈ fs, FctOk many x) : vB 7 3 (.tup (fs.map fV)) = true :=
  vB_list fV fs (by omega) fun x hx => (h x hx).vb hm
theorem sizes_vb {many : Nat} {l : List Int} (hm : many ≤ 4) (h : SzOk many l) : vB 7 3 (.tup (l.map .int)) = true := vB_ints (n := 2) l (by have := h.len; omega)
theorem script_vb {ds : List (Str × Nat)} (hl : ds.length ≤ 6) : vB 7 3 (.tup (ds.map dV)) = true :=
  vB_list dV ds (by omega) fun x _ => rfl
theorem sizes_good {many : Nat} {l : List Int} (h1 : 1 ≤ many) (h : SzOk many l) : sizesB many (.tup (l.map .int)) = true := by
  show (decide (((l.map PV.int).length : Int) = 2 * many - 1) && (l.map PV.int).all (fun x => numB x 1 1000000000000)) = true
  rw [List.length_map, h.len, decide_eq_true (by omega), Bool.true_and, List.all_map, List.all_eq_true]
  intro x hx
  show (decide (1 ≤ x) && decide (x ≤ 1000000000000)) = true
  rw [decide_eq_true (h.lo x hx).1, decide_eq_true (h.lo x hx).2]; rfl
/-! spoilt values -/
theorem vB_take {L n : Nat} {xs : List PV} (h : xs.all (vB L n) = true) (k : Nat) : (xs.take k).all (vB L n) = true := by
  rw [List.all_eq_true] at h ⊢
  exact fun x hx => h x (List.mem_of_mem_take hx)
theorem vB_drop {L n : Nat} {xs : List PV} (h : xs.all (vB L n) = true) (k : Nat) : (xs.drop k).all (vB L n) = true := by
  rw [List.all_eq_true] at h ⊢
  exact fun x hx => h x (List.mem_of_mem_drop hx)
theorem vB_tup {L n : Nat} {xs : List PV} (h1 : xs.length ≤ L) (h : xs.all (vB L n) = true) : vB L (n + 1) (.tup xs) = true := by
  show (decide (xs.length ≤ L) && xs.all (vB L n)) = true
  rw [decide_eq_true h1, h]; rfl
theorem vB_up {L n : Nat} {xs : List PV} (h : xs.all (vB L n) = true) : xs.all (vB (L + 1) (n + 1)) = true := by
  rw [List.all_eq_true] at h ⊢
  exact fun x hx => vB_mono (Nat.le_succ L) (Nat.le_succ n) (h x hx)
theorem enu_map {α : Type} (f : α → PV) (l : List α) : enuL (l.map f) = ((List.range l.length).zip l).map fun q => PV.tup [.int (q.1 : Nat), f q.2] := by
  unfold enuL
  rw [List.length_map, rngL_nat]
  unfold zipL
  rw [List.zip_map, List.map_map]; rfl
end Mi

end

section
set_option linter.all false
set_option maxRecDepth 100000
/-! Mi, part Tx: the texts of scripts, plainly. -/
namespace Mi
open PySem L2
def numS (t : Nat) : Str := Str.ofString (toString (t : Int))
def lineD (x : Str × Nat) : Str := (x.1 ++ (" " : Str)) ++ numS x.2
def lineM (many : Nat) : Str := ("tiles " : Str) ++ numS many
def linesD (many : Nat) (ds : List (Str × Nat)) : List Str := lineM many :: ds.map lineD
def textD (many : Nat) (ds : List (Str × Nat)) : Str := Txt.join ("\n" : Str) (linesD many ds)
def lws : List Str := ["tiles 2", "tiles 3", "tiles 4"]
def tws : List Str := ["0", "1", "2", "3"]
theorem line_all : ∀ w ∈ words, ∀ t < 4, Txt.split ((w ++ (" " : Str)) ++ numS t) (" " : Str) = [w, numS t] ∧ (lws.any (· == ((w ++ (" " : Str)) ++ numS t))) = false ∧ (TL.tl ((w ++ (" " : Str)) ++ numS t)).contains 10 = false ∧ ((w ++ (" " : Str)) ++ numS t).length ≤ 20 ∧ ((Str.empty ++ w) ++ (" " : Str)) ++ numS t = (w ++ (" " : Str)) ++ numS t ∧ w.length ≤ 10 ∧ (w ++ (" " : Str)).length ≤ 20 ∧ (Str.empty ++ w) = w := by decide +kernel
theorem num_all : ∀ t < 5, PySem.intText? (numS t) = some ((t : Nat) : Int) ∧ (numS t).length ≤ 20 ∧ (t < 4 → (tws.any (· == numS t)) = true) ∧ Nat.log2 t < 1920 := by decide +kernel
theorem many_all : ∀ t < 5, 2 ≤ t → (lws.any (· == lineM t)) = true ∧ (TL.tl (lineM t)).contains 10 = false ∧ (lineM t).length ≤ 20 ∧ (Str.empty ++ ("tiles " : Str)) ++ numS t = lineM t ∧ atI (lineM t).cps.toList (-1) = (numS t).cps.toList[0]? ∧ (numS t).cps.toList.length = 1 := by decide +kernel
structure LineOk (x : Str × Nat) : Prop where
  spl : Txt.split (lineD x) (" " : Str) = [x.1, numS x.2]
  notM : (lws.any (· == lineD x)) = false
  nl : 10 ∉ TL.tl (lineD x)
  len : (lineD x).length ≤ 20
  fs : ((Str.empty ++ x.1) ++ (" " : Str)) ++ numS x.2 = lineD x
  w : x.1.length ≤ 10
  w1 : (x.1 ++ (" " : Str)).length ≤ 20
  e0 : Str.empty ++ x.1 = x.1
  t : x.2 < 4
  num : PySem.intText? (numS x.2) = some ((x.2 : Nat) : Int)
  nlen : (numS x.2).length ≤ 20
  tw : (tws.any (· == numS x.2)) = true
  lg : ((x.2 : Nat) : Int).natAbs.log2 < 1920
theorem lineOk {many : Nat} (hm : many ≤ 4) {x : Str × Nat} (h : deedOk many x) : LineOk x := by
  have ht : x.2 < 4 := by have := h.2; omega
  obtain ⟨a1, a2, a3, a4, a5, a6, a7, a8⟩ := line_all x.1 h.1 x.2 ht
  have a3 : (TL.tl (lineD x)).contains 10 = false := a3
  obtain ⟨b1, b2, b3, b4⟩ := num_all x.2 (by omega)
  exact ⟨a1, a2, (fun z => by rw [show (TL.tl (lineD x)).contains 10 = true from List.contains_iff_mem.mpr z] at a3; cases a3), a4, a5, a6, a7, a8, ht, b1, b2, b3 ht, b4⟩
structure ManyOk (t : Nat) : Prop where
  inM : (lws.any (· == lineM t)) = true
  nl : 10 ∉ TL.tl (lineM t)
  len : (lineM t).length ≤ 20
  fs : (Str.empty ++ ("tiles " : Str)) ++ numS t = lineM t
  ix : ∀ st : Sto, ixV st (.str (lineM t)) (.int (-1)) = some (.str (numS t))
  num : PySem.intText? (numS t) = some ((t : Nat) : Int)
  nlen : (numS t).length ≤ 20
  lg : ((t : Nat) : Int).natAbs.log2 < 1920
theorem manyOk {t : Nat} (h : 2 ≤ t ∧ t ≤ 4) : ManyOk t := by
  obtain ⟨a1, a2, a3, a4, a5, a6⟩ := many_all t (by omega) h.1
  obtain ⟨b1, b2, b3, b4⟩ := num_all t (by omega)
  refine ⟨a1, (fun z => by rw [List.contains_iff_mem.mpr z] at a2; cases a2), a3, a4, fun st => ?_, b1, b2, b4⟩
  show (if (lineM t).length ≤ big then (atI (lineM t).cps.toList (-1)).map fun c => PV.str ⟨#[c]⟩ else none) = _
  have hb := big_lt
  rw [if_pos (by omega), a5]
  obtain ⟨c, hc⟩ : ∃ c, (numS t).cps.toList = [c] := by
    match h : (numS t).cps.toList, a6 with
    | [c], _ => exact ⟨c, rfl⟩
  rw [hc]
  show some (PV.str ⟨#[c]⟩) = some (.str (numS t))
  have : (⟨#[c]⟩ : Str) = numS t := TL.ext_tl (by show [c] = _; exact hc.symm)
  rw [this]
theorem joinL_len (S : List Nat) : ∀ parts : List (List Nat), (TL.joinL S parts).length ≤ (parts.map (·.length)).sum + parts.length * S.length
  | [] => Nat.zero_le _
  | [p] => by show p.length ≤ p.length + 0 + _; omega
  | p :: q :: r => by
    have ih := joinL_len S (q :: r)
    show (p ++ (S ++ TL.joinL S (q :: r))).length ≤ p.length + ((q :: r).map (·.length)).sum + ((q :: r).length + 1) * S.length
    rw [List.length_append, List.length_append, Nat.succ_mul]
    omega
theorem join_len (y : Str) (ps : List Str) : (Txt.join y ps).length ≤ (ps.map (·.length)).sum + ps.length * y.length := by
  have h := joinL_len (TL.tl y) (ps.map TL.tl)
  rw [TL.len_tl, TL.join_eq, TL.tl_join]
  rw [List.map_map, List.length_map, ← TL.len_tl] at h
  rw [show (ps.map (·.length)) = ps.map ((fun l : List Nat => l.length) ∘ TL.tl) from List.map_congr_left fun x _ => TL.len_tl x]
  exact h
theorem sum_le {α : Type} (f : α → Nat) (k : Nat) : ∀ l : List α, (∀ x ∈ l, f x ≤ k) → (l.map f).sum ≤ l.length * k
  | [], _ => Nat.zero_le _
  | x :: l, h => by
    have h1 := h x List.mem_cons_self
    have h2 := sum_le f k l fun y hy => h y (List.mem_cons_of_mem _ hy)
    rw [List.map_cons, List.sum_cons, List.length_cons, Nat.succ_mul]
    omega
section
variable {many : Nat} {ds : List (Str × Nat)} (hm : 2 ≤ many ∧ many ≤ 4) (hl : ds.length ≤ 6) (hd : ∀ x ∈ ds, deedOk many x)
include hm hl hd
theorem linesD_len : ∀ p ∈ linesD many ds, p.length ≤ 20 ∧ 10 ∉ TL.tl p := by
  intro p hp
  rcases List.mem_cons.mp hp with rfl | hp
  · exact ⟨(manyOk hm).len, (manyOk hm).nl⟩
  · obtain ⟨x, hx, rfl⟩ := List.mem_map.mp hp
    exact ⟨(lineOk hm.2 (hd x hx)).len, (lineOk hm.2 (hd x hx)).nl⟩
theorem linesD_sum : ((linesD many ds).map (·.length)).sum + (linesD many ds).length * ("\n" : Str).length ≤ 200 := by
  have h := sum_le (·.length) 20 (linesD many ds) fun p hp => (linesD_len hm hl hd p hp).1
  have e : (linesD many ds).length = ds.length + 1 := by unfold linesD; rw [List.length_cons, List.length_map]
  have e1 : ("\n" : Str).length = 1 := by decide +kernel
  rw [e1]
  rw [e] at h ⊢
  have := Nat.mul_le_mul_right 20 (show ds.length + 1 ≤ 7 by omega)
  omega
theorem textD_len : (textD many ds).length ≤ 200 := Nat.le_trans (join_len _ _) (linesD_sum hm hl hd)
theorem textD_split : Txt.split (textD many ds) ("\n" : Str) = linesD many ds :=
  TL.split_join (s := 10) (S := []) (by decide +kernel) (by decide +kernel) (by unfold linesD; simp) fun p hp => (linesD_len hm hl hd p hp).2
theorem join_text (st : Sto) : joinV st (.str ("\n" : Str)) (.lst ((linesD many ds).map .str)) = some (.str (textD many ds)) := by
  have hs : ∀ l : List Str, strs? (l.map PV.str) = some l := fun l => by
    induction l with
    | nil => rfl
    | cons x l ih => show (strs? (l.map PV.str)).map (x :: ·) = _; rw [ih]; rfl
  show ((some ((linesD many ds).map PV.str)).bind fun ys => (strs? ys).bind fun zs => if (zs.map (·.length)).sum + zs.length * ("\n" : Str).length ≤ big then some (PV.str (Txt.join ("\n" : Str) zs)) else none) = _
  rw [Option.bind_some, hs, Option.bind_some, if_pos (Nat.le_trans (linesD_sum hm hl hd) (by decide))]
  rfl
theorem split_text : splV (.str (textD many ds)) (.str ("\n" : Str)) = some (.lst ((linesD many ds).map .str)) := by
  have h := textD_len hm hl hd
  have hb := big_lt
  show (if (("\n" : Str).length == 0) = false ∧ (textD many ds).length + 2 ≤ big then some (PV.lst ((Txt.split (textD many ds) ("\n" : Str)).map PV.str)) else none) = _
  rw [if_pos ⟨by decide +kernel, by omega⟩, textD_split hm hl hd]
end
theorem LineOk.splV {x : Str × Nat} (h : LineOk x) : splV (.str (lineD x)) (.str (" " : Str)) = some (.lst [.str x.1, .str (numS x.2)]) := by
  have hb := big_lt
  have hl := h.len
  show (if ((" " : Str).length == 0) = false ∧ (lineD x).length + 2 ≤ big then some (PV.lst ((Txt.split (lineD x) (" " : Str)).map PV.str)) else none) = _
  rw [if_pos ⟨by decide +kernel, by omega⟩, h.spl]
  rfl
theorem int_num {st : Sto} {t : Nat} (h : PySem.intText? (numS t) = some ((t : Nat) : Int)) (hl : (numS t).length ≤ 20) : biV st .int [.str (numS t)] = some (.int (t : Nat)) := by
  show (if (numS t).length ≤ 640 then (PySem.intText? (numS t)).map PV.int else none) = _
  rw [if_pos (by omega), h]
  rfl
theorem str_num {st : Sto} {t : Nat} (h : ((t : Nat) : Int).natAbs.log2 < 1920) : biV st .str [.int (t : Nat)] = some (.str (numS t)) := by
  show (if ((t : Nat) : Int).natAbs.log2 < 1920 then some (PV.str (numS t)) else none) = _
  rw [if_pos h]
theorem fmt_num {t : Nat} (h : ((t : Nat) : Int).natAbs.log2 < 1920) : fmtV (.int (t : Nat)) = some (.str (numS t)) := by
  show (if ((t : Nat) : Int).natAbs.log2 < 1920 then some (PV.str (numS t)) else none) = _
  rw [if_pos h]
theorem fmt_str {x : Str} (h : x.length ≤ 1000) : fmtV (.str x) = some (.str x) := by
  show (if x.length ≤ big then some (PV.str x) else none) = _
  rw [if_pos (Nat.le_trans h (by decide))]
theorem add_strs {st : Sto} {x y : Str} (h : x.length + y.length ≤ 1000) : binV st .Add (.str x) (.str y) = some (.str (x ++ y)) := by
  show (if x.length + y.length ≤ big then some (PV.str (x ++ y)) else none) = _
  rw [if_pos (Nat.le_trans h (by decide))]
end Mi

end

section
set_option linter.all false
set_option maxRecDepth 100000
set_option maxHeartbeats 4000000
namespace K14
open PySem PySem.Spec PyProof.Rows L2 Mi
/-! the defs, in the little language (printed by gen.py) -/
def top (i : Nat) : Stmt := PySem.Challenge.pw_surefalls_k14_scripts_written.main.body.getD i (.Pass ⟨0, 0, 0, 0⟩)
/-- is_number -/
def b0 : Sm := (.seq (.ret (.and (.bi .isi (.cons (.var 0) (.cons (.bty "int") .nil))) (.and (.not (.bi .isi (.cons (.var 0) (.cons (.bty "bool") .nil)))) (.chn .LtE .LtE (.var 1) (.var 0) (.var 2))))) .skip)
def f0 : Fn := { ps := ["value", "least", "most"], ns := ["value", "least", "most"], body := b0 }
def d0 : Def := { x := "is_number", fn := f0, params := defArgs (top 22), body := defBody (top 22), scope := defScope (top 22) }
/-- is_tuple -/
def b1 : Sm := (.seq (.ret (.and (.bi .isi (.cons (.var 0) (.cons (.bty "tuple") .nil))) (.chn .LtE .LtE (.var 1) (.bi .len (.cons (.var 0) .nil)) (.var 2)))) .skip)
def f1 : Fn := { ps := ["value", "least", "most"], ns := ["value", "least", "most"], body := b1 }
def d1 : Def := { x := "is_tuple", fn := f1, params := defArgs (top 23), body := defBody (top 23), scope := defScope (top 23) }
/-- is_word -/
def b2 : Sm := (.seq (.ret (.and (.bi .isi (.cons (.var 0) (.cons (.bty "str") .nil))) (.cmp .In (.var 0) (.var 1)))) .skip)
def f2 : Fn := { ps := ["value", "some"], ns := ["value", "some"], body := b2 }
def d2 : Def := { x := "is_word", fn := f2, params := defArgs (top 24), body := defBody (top 24), scope := defScope (top 24) }
/-- is_deed -/
def b3 : Sm := (.seq (.ret (.and (.call .sto 1 (.cons (.var 1) (.cons (.int 2) (.cons (.int 2) .nil)))) (.and (.call .sto 2 (.cons (.idx (.var 1) (.int 0)) (.cons (.gl 32) .nil))) (.call .sto 0 (.cons (.idx (.var 1) (.int 1)) (.cons (.int 0) (.cons (.bin .Sub (.var 0) (.int 1)) .nil))))))) .skip)
def f3 : Fn := { ps := ["many", "value"], ns := ["many", "value"], body := b3 }
def d3 : Def := { x := "is_deed", fn := f3, params := defArgs (top 26), body := defBody (top 26), scope := defScope (top 26) }
/-- is_good_script -/
def b4 : Sm := (.seq (.ret (.and (.call .sto 1 (.cons (.var 1) (.cons (.int 0) (.cons (.int 6) .nil)))) (.bi .all (.cons (.comp (.nm 2) [2] (.sq (.var 1)) .omit (.call .sto 3 (.cons (.var 0) (.cons (.var 2) .nil)))) .nil)))) .skip)
def f4 : Fn := { ps := ["many", "value"], ns := ["many", "value", "deed"], body := b4 }
def d4 : Def := { x := "is_good_script", fn := f4, params := defArgs (top 27), body := defBody (top 27), scope := defScope (top 27) }
/-- need_many -/
def b5 : Sm := (.seq (.ite (.not (.call .sto 0 (.cons (.var 0) (.cons (.int 2) (.cons (.int 4) .nil))))) (.seq (.raise 25 ("not a number of tiles" : Str)) .skip) .skip) .skip)
def f5 : Fn := { ps := ["value"], ns := ["value"], body := b5 }
def d5 : Def := { x := "need_many", fn := f5, params := defArgs (top 35), body := defBody (top 35), scope := defScope (top 35) }
/-- need_script -/
def b6 : Sm := (.seq (.ite (.not (.call .sto 4 (.cons (.var 0) (.cons (.var 1) .nil)))) (.seq (.raise 27 ("not a script" : Str)) .skip) .skip) .skip)
def f6 : Fn := { ps := ["many", "value"], ns := ["many", "value"], body := b6 }
def d6 : Def := { x := "need_script", fn := f6, params := defArgs (top 37), body := defBody (top 37), scope := defScope (top 37) }
/-- lines_of -/
def b7 : Sm := (.seq (.ret (.bin .Add (.lst (.cons (.fs (.cons (.str ("tiles " : Str)) (.cons (.fmt (.var 0)) .nil))) .nil)) (.comp (.cons (.nm 2) (.cons (.nm 3) .nil)) [2, 3] (.sq (.var 1)) .omit (.fs (.cons (.fmt (.var 2)) (.cons (.str (" " : Str)) (.cons (.fmt (.var 3)) .nil))))))) .skip)
def f7 : Fn := { ps := ["many", "script"], ns := ["many", "script", "word", "tile"], body := b7 }
def d7 : Def := { x := "lines_of", fn := f7, params := defArgs (top 39), body := defBody (top 39), scope := defScope (top 39) }
/-- many_in -/
def b8 : Sm := (.seq (.ret (.ite (.cmp .In (.var 0) (.tup (.cons (.str ("tiles 2" : Str)) (.cons (.str ("tiles 3" : Str)) (.cons (.str ("tiles 4" : Str)) .nil))))) (.bi .int (.cons (.idx (.var 0) (.neg (.int 1))) .nil)) .non)) .skip)
def f8 : Fn := { ps := ["line"], ns := ["line"], body := b8 }
def d8 : Def := { x := "many_in", fn := f8, params := defArgs (top 40), body := defBody (top 40), scope := defScope (top 40) }
/-- deed_in -/
def b9 : Sm := (.seq (.set 1 (.spl (.var 0) (.str (" " : Str)))) (.seq (.ite (.or (.cmp .NotEq (.bi .len (.cons (.var 1) .nil)) (.int 2)) (.or (.cmp .NotIn (.idx (.var 1) (.int 0)) (.gl 32)) (.cmp .NotIn (.idx (.var 1) (.int 1)) (.tup (.cons (.str ("0" : Str)) (.cons (.str ("1" : Str)) (.cons (.str ("2" : Str)) (.cons (.str ("3" : Str)) .nil)))))))) (.seq (.ret .non) .skip) .skip) (.seq (.ret (.tup (.cons (.idx (.var 1) (.int 0)) (.cons (.bi .int (.cons (.idx (.var 1) (.int 1)) .nil)) .nil)))) .skip)))
def f9 : Fn := { ps := ["line"], ns := ["line", "words"], body := b9 }
def d9 : Def := { x := "deed_in", fn := f9, params := defArgs (top 41), body := defBody (top 41), scope := defScope (top 41) }
/-- script_in -/
def b10 : Sm := (.seq (.ite (.not (.bi .isi (.cons (.var 0) (.cons (.bty "str") .nil)))) (.seq (.bot) .skip) .skip) (.seq (.set 1 (.spl (.var 0) (.str ("\n" : Str)))) (.seq (.for (.cons (.nm 2) (.cons (.nm 3) .nil)) (.enu (.var 1)) (.seq (.ite (.and (.cmp .Is (.call .sto 8 (.cons (.var 3) .nil)) .non) (.cmp .Is (.call .sto 9 (.cons (.var 3) .nil)) .non)) (.seq (.bot) .skip) .skip) .skip)) (.seq (.setT (.cons (.nm 4) (.cons (.nm 5) .nil)) (.tup (.cons (.call .sto 8 (.cons (.idx (.var 1) (.int 0)) .nil)) (.cons (.bi .tuple (.cons (.comp (.nm 3) [3] (.sq (.sli (.var 1) (.int 1) .omit)) .omit (.call .sto 9 (.cons (.var 3) .nil))) .nil)) .nil)))) (.seq (.ite (.or (.cmp .Is (.var 4) .non) (.or (.cmp .In .non (.var 5)) (.not (.call .sto 4 (.cons (.var 4) (.cons (.var 5) .nil)))))) (.seq (.bot) .skip) .skip) (.seq (.ret (.tup (.cons (.var 4) (.cons (.var 5) .nil)))) .skip))))))
def f10 : Fn := { ps := ["value"], ns := ["value", "lines", "at", "line", "many", "script"], body := b10 }
def d10 : Def := { x := "script_in", fn := f10, params := defArgs (top 42), body := defBody (top 42), scope := defScope (top 42) }
/-- script_text -/
def b11 : Sm := (.seq (.drop (.call .sto 5 (.cons (.var 0) .nil))) (.seq (.drop (.call .sto 6 (.cons (.var 0) (.cons (.var 1) .nil)))) (.seq (.ret (.join (.str ("\n" : Str)) (.call .sto 7 (.cons (.var 0) (.cons (.var 1) .nil))))) .skip)))
def f11 : Fn := { ps := ["many", "script"], ns := ["many", "script"], body := b11 }
def d11 : Def := { x := "script_text", fn := f11, params := defArgs (top 43), body := defBody (top 43), scope := defScope (top 43) }
/-- read_script -/
def b12 : Sm := (.seq (.ret (.call .sto 10 (.cons (.var 0) .nil))) .skip)
def f12 : Fn := { ps := ["value"], ns := ["value"], body := b12 }
def d12 : Def := { x := "read_script", fn := f12, params := defArgs (top 44), body := defBody (top 44), scope := defScope (top 44) }
/-- _law_source -/
def b13 : Sm := (.seq (.set 2 (.int 0)) (.seq (.ite (.cmp .Lt (.var 1) (.bi .len (.cons (.var 0) .nil))) (.seq (.set 2 (.bi .abs (.cons (.bi .int (.cons (.idx (.var 0) (.var 1)) .nil)) .nil))) .skip) .skip) (.seq (.ite (.cmp .Lt (.var 2) (.bin .Pow (.int 10) (.int 18))) (.seq (.ret (.cell (.lst (.cons (.int 0) (.cons (.bin .Add (.int 1) (.bin .Mod (.bi .int (.cons (.bin .Add (.bin .Mult (.var 2) (.int 7919)) (.bin .Mult (.int 104729) (.var 1))) .nil)) (.int 2147483646))) .nil))))) .skip) .skip) (.seq (.ret (.cell (.lst (.cons (.var 2) (.cons (.bin .Add (.int 1) (.bin .Mod (.bi .int (.cons (.bin .Add (.var 2) (.var 1)) .nil)) (.int 2147483646))) .nil))))) .skip))))
def f13 : Fn := { ps := ["script", "k"], ns := ["script", "k", "cell"], body := b13 }
def d13 : Def := { x := "_law_source", fn := f13, params := defArgs (top 71), body := defBody (top 71), scope := defScope (top 71) }
/-- _law_draw -/
def b14 : Sm := (.seq (.ite (.cmp .Gt (.idx (.var 0) (.int 0)) (.int 0)) (.seq (.set 2 (.bin .Mod (.bi .int (.cons (.idx (.var 0) (.int 0)) .nil)) (.var 1))) (.seq (.put (.var 0) (.int 0) (.bin .FloorDiv (.idx (.var 0) (.int 0)) (.var 1))) (.seq (.ret (.var 2)) .skip))) .skip) (.seq (.put (.var 0) (.int 1) (.bin .Mod (.bi .int (.cons (.bin .Mult (.idx (.var 0) (.int 1)) (.int 48271)) .nil)) (.int 2147483647))) (.seq (.ret (.bin .Mod (.bi .int (.cons (.bin .FloorDiv (.bin .Mod (.bi .int (.cons (.bin .Mult (.idx (.var 0) (.int 1)) (.idx (.var 0) (.int 1))) .nil)) (.int 2147483629)) (.int 64)) .nil)) (.var 1))) .skip)))
def f14 : Fn := { ps := ["source", "many"], ns := ["source", "many", "found"], body := b14 }
def d14 : Def := { x := "_law_draw", fn := f14, params := defArgs (top 72), body := defBody (top 72), scope := defScope (top 72) }
/-- _law_of -/
def b15 : Sm := (.seq (.ret (.idx (.var 1) (.call .sto 14 (.cons (.var 0) (.cons (.bi .len (.cons (.var 1) .nil)) .nil))))) .skip)
def f15 : Fn := { ps := ["source", "items"], ns := ["source", "items"], body := b15 }
def d15 : Def := { x := "_law_of", fn := f15, params := defArgs (top 73), body := defBody (top 73), scope := defScope (top 73) }
/-- _law_script -/
def b16 : Sm := (.seq (.setT (.cons (.nm 4) (.cons (.nm 5) .nil)) (.tup (.cons (.tup .nil) (.cons (.lst (.cons (.str ("left" : Str)) (.cons (.str ("right" : Str)) (.cons (.str ("right" : Str)) (.cons (.str ("left" : Str)) (.cons (.str ("take" : Str)) (.cons (.str ("stand" : Str)) (.cons (.str ("hold" : Str)) (.cons (.str ("free" : Str)) .nil))))))))) .nil)))) (.seq (.for (.nm 3) (.rng1 (.call .sto 14 (.cons (.var 0) (.cons (.bin .Add (.var 2) (.int 1)) .nil)))) (.seq (.set 4 (.bin .Add (.var 4) (.tup (.cons (.tup (.cons (.call .sto 15 (.cons (.var 0) (.cons (.var 5) .nil))) (.cons (.call .sto 14 (.cons (.var 0) (.cons (.var 1) .nil))) .nil))) .nil)))) .skip)) (.seq (.ret (.var 4)) .skip)))
def f16 : Fn := { ps := ["source", "many", "most"], ns := ["source", "many", "most", "turn", "found", "words"], body := b16 }
def d16 : Def := { x := "_law_script", fn := f16, params := defArgs (top 74), body := defBody (top 74), scope := defScope (top 74) }
/-- _law_text -/
def b17 : Sm := (.seq (.ret (.join (.str ("\n" : Str)) (.bin .Add (.lst (.cons (.bin .Add (.str ("tiles " : Str)) (.bi .str (.cons (.var 0) .nil))) .nil)) (.comp (.cons (.nm 2) (.cons (.nm 3) .nil)) [2, 3] (.sq (.var 1)) .omit (.bin .Add (.bin .Add (.var 2) (.str (" " : Str))) (.bi .str (.cons (.var 3) .nil))))))) .skip)
def f17 : Fn := { ps := ["many", "deeds"], ns := ["many", "deeds", "word", "tile"], body := b17 }
def d17 : Def := { x := "_law_text", fn := f17, params := defArgs (top 75), body := defBody (top 75), scope := defScope (top 75) }
/-- law -/
def b18 : Sm := (.seq (.for (.nm 1) (.rng1 (.bin .Add (.int 1) (.bi .min2 (.cons (.bi .len (.cons (.var 0) .nil)) (.cons (.int 10) .nil))))) (.seq (.set 2 (.call .sto 13 (.cons (.var 0) (.cons (.var 1) .nil)))) (.seq (.for (.nm 3) (.rng1 (.int 4)) (.seq (.set 4 (.bin .Add (.int 2) (.call .sto 14 (.cons (.var 2) (.cons (.int 3) .nil))))) (.seq (.set 5 (.call .sto 16 (.cons (.var 2) (.cons (.var 4) (.cons (.int 6) .nil))))) (.seq (.set 6 (.call .sto 17 (.cons (.var 4) (.cons (.var 5) .nil)))) (.seq (.ite (.or (.cmp .NotEq (.call .sto 11 (.cons (.var 4) (.cons (.var 5) .nil))) (.var 6)) (.cmp .NotEq (.call .sto 12 (.cons (.var 6) .nil)) (.tup (.cons (.var 4) (.cons (.var 5) .nil))))) (.seq (.ret (.bl false)) .skip) .skip) (.seq (.set 7 (.cm 31 20 (.cons (.var 6) .nil))) (.seq (.ite (.or (.cmp .NotEq (.prop 31 22 (.var 7)) (.var 5)) (.or (.cmp .NotEq (.prop 31 21 (.var 7)) (.var 4)) (.cmp .NotEq (.ostr 31 23 (.var 7)) (.var 6)))) (.seq (.ret (.bl false)) .skip) .skip) .skip))))))) .skip))) (.seq (.ret (.cmp .Eq (.call .sto 12 (.cons (.str ("tiles 4\nhold 3\nfree 0" : Str)) .nil)) (.tup (.cons (.int 4) (.cons (.tup (.cons (.tup (.cons (.str ("hold" : Str)) (.cons (.int 3) .nil))) (.cons (.tup (.cons (.str ("free" : Str)) (.cons (.int 0) .nil))) .nil))) .nil))))) .skip))
def f18 : Fn := { ps := ["script"], ns := ["script", "k", "source", "turn", "many", "deeds", "text", "value"], body := b18 }
def d18 : Def := { x := "law", fn := f18, params := defArgs (top 76), body := defBody (top 76), scope := defScope (top 76) }
/-- Script.__init__ -/
def b19 : Sm := (.seq (.drop (.call .sto 5 (.cons (.var 1) .nil))) (.seq (.drop (.call .sto 6 (.cons (.var 1) (.cons (.var 2) .nil)))) (.seq (.fput 31 ("tiles" : Str) (.var 0) (.var 1)) (.seq (.fput 31 ("base" : Str) (.var 0) (.var 2)) .skip))))
def f19 : Fn := { ps := ["self", "many", "deeds"], ns := ["self", "many", "deeds"], body := b19, va := true, own := true }
def d19 : Def := { x := "__init__", fn := f19, params := defArgs (clsAt (top 69) 1), body := defBody (clsAt (top 69) 1), scope := defScope (clsAt (top 69) 1), qn := "Script.__init__", own := some (.init, 31) }
/-- Script.read -/
def b20 : Sm := (.seq (.setT (.cons (.nm 2) (.cons (.nm 3) .nil)) (.call .sto 10 (.cons (.var 1) .nil))) (.seq (.ret (.mks (some 0) 31 19 (.cons (.var 2) .nil) (.var 3))) .skip))
def f20 : Fn := { ps := ["cls", "value"], ns := ["cls", "value", "many", "deeds"], body := b20, own := true }
def d20 : Def := { x := "read", fn := f20, params := defArgs (clsAt (top 69) 2), body := defBody (clsAt (top 69) 2), scope := defScope (clsAt (top 69) 2), qn := "Script.read", own := some (.cm, 31) }
/-- Script.many -/
def b21 : Sm := (.seq (.ret (.fld 31 ("tiles" : Str) (.var 0))) .skip)
def f21 : Fn := { ps := ["self"], ns := ["self"], body := b21, own := true }
def d21 : Def := { x := "many", fn := f21, params := defArgs (clsAt (top 69) 3), body := defBody (clsAt (top 69) 3), scope := defScope (clsAt (top 69) 3), qn := "Script.many", own := some (.prop, 31) }
/-- Script.source -/
def b22 : Sm := (.seq (.ret (.fld 31 ("base" : Str) (.var 0))) .skip)
def f22 : Fn := { ps := ["self"], ns := ["self"], body := b22, own := true }
def d22 : Def := { x := "source", fn := f22, params := defArgs (clsAt (top 69) 4), body := defBody (clsAt (top 69) 4), scope := defScope (clsAt (top 69) 4), qn := "Script.source", own := some (.prop, 31) }
/-- Script.__str__ -/
def b23 : Sm := (.seq (.ret (.join (.str ("\n" : Str)) (.call .sto 7 (.cons (.fld 31 ("tiles" : Str) (.var 0)) (.cons (.fld 31 ("base" : Str) (.var 0)) .nil))))) .skip)
def f23 : Fn := { ps := ["self"], ns := ["self"], body := b23, own := true }
def d23 : Def := { x := "__str__", fn := f23, params := defArgs (clsAt (top 69) 18), body := defBody (clsAt (top 69) 18), scope := defScope (clsAt (top 69) 18), qn := "Script.__str__", own := some (.meth, 31) }
def defs : List Def := [d0, d1, d2, d3, d4, d5, d6, d7, d8, d9, d10, d11, d12, d13, d14, d15, d16, d17, d18, d19, d20, d21, d22, d23]
def loose : List Str := (["_wall", "divisor", "lowest", "neat", "table_of", "cleared", "leaving", "numbers_of", "greatest", "solution", "is_number", "is_tuple", "is_word", "are_good_sizes", "is_deed", "is_good_script"] : List Str) ++ (["fact_line", "opposite", "summed", "rows_of", "all_rows", "integers", "sizes_by", "need_many", "need_sizes", "need_script", "lines_of", "many_in", "deed_in", "script_in", "script_text", "read_script"] : List Str) ++ (["first_standing", "changed", "reach_line", "next_up", "fallen", "does_fall", "plain_deed", "pushed", "done", "standing_by", "split", "pushed_cases", "cases_of", "ordered", "ends_of", "all_lie"] : List Str) ++ (["good_script", "without_deed", "need_index", "mirrored", "_law_source", "_law_draw", "_law_of", "_law_script", "_law_text", "FallError", "InvalidRow", "InvalidSizes", "InvalidScript", "InvalidNumber", "Unlike", "InvalidText"] : List Str) ++ (["Script", "DEED_WORDS", "LARGEST"] : List Str)
def names : List Str := (["is_number", "is_tuple", "is_word", "is_deed", "is_good_script", "need_many", "need_script", "lines_of", "many_in", "deed_in", "script_in", "script_text", "read_script", "_law_source", "_law_draw", "_law_of"] : List Str) ++ (["_law_script", "_law_text", "law", "__init__", "read", "many", "source", "__str__", "FallError", "InvalidRow", "InvalidSizes", "InvalidScript", "InvalidNumber", "Unlike", "InvalidText", "Script"] : List Str) ++ (["DEED_WORDS", "LARGEST"] : List Str)
def txt : Txt := { defs := defs, names := names, cls := [25, 27], cons := [(32, (.tup [(.str ("left" : Str)), (.str ("right" : Str)), (.str ("take" : Str)), (.str ("stand" : Str)), (.str ("hold" : Str)), (.str ("free" : Str))])), (33, (.int 1000000000000))], lams := [], mks := [], subs := [], flds := [(31, "base"), (31, "tiles")], iscs := [] }
theorem bd0 : d0.Bd := ⟨fun _ _ _ _ _ _ _ us hl => match us, hl with | [_, _, _], _ => rfl, fun h => absurd h (by decide)⟩
theorem bd1 : d1.Bd := ⟨fun _ _ _ _ _ _ _ us hl => match us, hl with | [_, _, _], _ => rfl, fun h => absurd h (by decide)⟩
theorem bd2 : d2.Bd := ⟨fun _ _ _ _ _ _ _ us hl => match us, hl with | [_, _], _ => rfl, fun h => absurd h (by decide)⟩
theorem bd3 : d3.Bd := ⟨fun _ _ _ _ _ _ _ us hl => match us, hl with | [_, _], _ => rfl, fun h => absurd h (by decide)⟩
theorem bd4 : d4.Bd := ⟨fun _ _ _ _ _ _ _ us hl => match us, hl with | [_, _], _ => rfl, fun h => absurd h (by decide)⟩
theorem bd5 : d5.Bd := ⟨fun _ _ _ _ _ _ _ us hl => match us, hl with | [_], _ => rfl, fun h => absurd h (by decide)⟩
theorem bd6 : d6.Bd := ⟨fun _ _ _ _ _ _ _ us hl => match us, hl with | [_, _], _ => rfl, fun h => absurd h (by decide)⟩
theorem bd7 : d7.Bd := ⟨fun _ _ _ _ _ _ _ us hl => match us, hl with | [_, _], _ => rfl, fun h => absurd h (by decide)⟩
theorem bd8 : d8.Bd := ⟨fun _ _ _ _ _ _ _ us hl => match us, hl with | [_], _ => rfl, fun h => absurd h (by decide)⟩
theorem bd9 : d9.Bd := ⟨fun _ _ _ _ _ _ _ us hl => match us, hl with | [_], _ => rfl, fun h => absurd h (by decide)⟩
theorem bd10 : d10.Bd := ⟨fun _ _ _ _ _ _ _ us hl => match us, hl with | [_], _ => rfl, fun h => absurd h (by decide)⟩
theorem bd11 : d11.Bd := ⟨fun _ _ _ _ _ _ _ us hl => match us, hl with | [_, _], _ => rfl, fun h => absurd h (by decide)⟩
theorem bd12 : d12.Bd := ⟨fun _ _ _ _ _ _ _ us hl => match us, hl with | [_], _ => rfl, fun h => absurd h (by decide)⟩
theorem bd13 : d13.Bd := ⟨fun _ _ _ _ _ _ _ us hl => match us, hl with | [_, _], _ => rfl, fun h => absurd h (by decide)⟩
theorem bd14 : d14.Bd := ⟨fun _ _ _ _ _ _ _ us hl => match us, hl with | [_, _], _ => rfl, fun h => absurd h (by decide)⟩
theorem bd15 : d15.Bd := ⟨fun _ _ _ _ _ _ _ us hl => match us, hl with | [_, _], _ => rfl, fun h => absurd h (by decide)⟩
theorem bd16 : d16.Bd := ⟨fun _ _ _ _ _ _ _ us hl => match us, hl with | [_, _, _], _ => rfl, fun h => absurd h (by decide)⟩
theorem bd17 : d17.Bd := ⟨fun _ _ _ _ _ _ _ us hl => match us, hl with | [_, _], _ => rfl, fun h => absurd h (by decide)⟩
theorem bd18 : d18.Bd := ⟨fun _ _ _ _ _ _ _ us hl => match us, hl with | [_], _ => rfl, fun h => absurd h (by decide)⟩
theorem bd19 : d19.Bd := ⟨fun h => absurd h (by decide), fun _ => ⟨["self", "many"], "deeds", rfl, fun kV doc pm an cdv ct => StX.bind_star2 (B := fun us => bindArgs (PySem.W.fnOf d19.x d19.qn d19.params d19.body d19.scope .none kV doc pm an cdv ct) ⟨us, []⟩) (fun _ _ => rfl) (fun _ _ _ _ => rfl)⟩⟩
theorem bd20 : d20.Bd := ⟨fun _ _ _ _ _ _ _ us hl => match us, hl with | [_, _], _ => rfl, fun h => absurd h (by decide)⟩
theorem bd21 : d21.Bd := ⟨fun _ _ _ _ _ _ _ us hl => match us, hl with | [_], _ => rfl, fun h => absurd h (by decide)⟩
theorem bd22 : d22.Bd := ⟨fun _ _ _ _ _ _ _ us hl => match us, hl with | [_], _ => rfl, fun h => absurd h (by decide)⟩
theorem bd23 : d23.Bd := ⟨fun _ _ _ _ _ _ _ us hl => match us, hl with | [_], _ => rfl, fun h => absurd h (by decide)⟩
theorem u0 (N d : Nat) (v0 v1 v2 : PV) (st : Sto) : txt.mdl.run N (d + 1) 0 [v0, v1, v2] st = (evS txt.mdl.G (txt.mdl.run N d) N b0 [some v0, some v1, some v2] st).bind Fl.val := txt.mdl.run_at (fn := f0) rfl rfl
theorem u1 (N d : Nat) (v0 v1 v2 : PV) (st : Sto) : txt.mdl.run N (d + 1) 1 [v0, v1, v2] st = (evS txt.mdl.G (txt.mdl.run N d) N b1 [some v0, some v1, some v2] st).bind Fl.val := txt.mdl.run_at (fn := f1) rfl rfl
theorem u2 (N d : Nat) (v0 v1 : PV) (st : Sto) : txt.mdl.run N (d + 1) 2 [v0, v1] st = (evS txt.mdl.G (txt.mdl.run N d) N b2 [some v0, some v1] st).bind Fl.val := txt.mdl.run_at (fn := f2) rfl rfl
theorem u3 (N d : Nat) (v0 v1 : PV) (st : Sto) : txt.mdl.run N (d + 1) 3 [v0, v1] st = (evS txt.mdl.G (txt.mdl.run N d) N b3 [some v0, some v1] st).bind Fl.val := txt.mdl.run_at (fn := f3) rfl rfl
theorem u4 (N d : Nat) (v0 v1 : PV) (st : Sto) : txt.mdl.run N (d + 1) 4 [v0, v1] st = (evS txt.mdl.G (txt.mdl.run N d) N b4 [some v0, some v1, none] st).bind Fl.val := txt.mdl.run_at (fn := f4) rfl rfl
theorem u5 (N d : Nat) (v0 : PV) (st : Sto) : txt.mdl.run N (d + 1) 5 [v0] st = (evS txt.mdl.G (txt.mdl.run N d) N b5 [some v0] st).bind Fl.val := txt.mdl.run_at (fn := f5) rfl rfl
theorem u6 (N d : Nat) (v0 v1 : PV) (st : Sto) : txt.mdl.run N (d + 1) 6 [v0, v1] st = (evS txt.mdl.G (txt.mdl.run N d) N b6 [some v0, some v1] st).bind Fl.val := txt.mdl.run_at (fn := f6) rfl rfl
theorem u7 (N d : Nat) (v0 v1 : PV) (st : Sto) : txt.mdl.run N (d + 1) 7 [v0, v1] st = (evS txt.mdl.G (txt.mdl.run N d) N b7 [some v0, some v1, none, none] st).bind Fl.val := txt.mdl.run_at (fn := f7) rfl rfl
theorem u8 (N d : Nat) (v0 : PV) (st : Sto) : txt.mdl.run N (d + 1) 8 [v0] st = (evS txt.mdl.G (txt.mdl.run N d) N b8 [some v0] st).bind Fl.val := txt.mdl.run_at (fn := f8) rfl rfl
theorem u9 (N d : Nat) (v0 : PV) (st : Sto) : txt.mdl.run N (d + 1) 9 [v0] st = (evS txt.mdl.G (txt.mdl.run N d) N b9 [some v0, none] st).bind Fl.val := txt.mdl.run_at (fn := f9) rfl rfl
theorem u10 (N d : Nat) (v0 : PV) (st : Sto) : txt.mdl.run N (d + 1) 10 [v0] st = (evS txt.mdl.G (txt.mdl.run N d) N b10 [some v0, none, none, none, none, none] st).bind Fl.val := txt.mdl.run_at (fn := f10) rfl rfl
theorem u11 (N d : Nat) (v0 v1 : PV) (st : Sto) : txt.mdl.run N (d + 1) 11 [v0, v1] st = (evS txt.mdl.G (txt.mdl.run N d) N b11 [some v0, some v1] st).bind Fl.val := txt.mdl.run_at (fn := f11) rfl rfl
theorem u12 (N d : Nat) (v0 : PV) (st : Sto) : txt.mdl.run N (d + 1) 12 [v0] st = (evS txt.mdl.G (txt.mdl.run N d) N b12 [some v0] st).bind Fl.val := txt.mdl.run_at (fn := f12) rfl rfl
theorem u13 (N d : Nat) (v0 v1 : PV) (st : Sto) : txt.mdl.run N (d + 1) 13 [v0, v1] st = (evS txt.mdl.G (txt.mdl.run N d) N b13 [some v0, some v1, none] st).bind Fl.val := txt.mdl.run_at (fn := f13) rfl rfl
theorem u14 (N d : Nat) (v0 v1 : PV) (st : Sto) : txt.mdl.run N (d + 1) 14 [v0, v1] st = (evS txt.mdl.G (txt.mdl.run N d) N b14 [some v0, some v1, none] st).bind Fl.val := txt.mdl.run_at (fn := f14) rfl rfl
theorem u15 (N d : Nat) (v0 v1 : PV) (st : Sto) : txt.mdl.run N (d + 1) 15 [v0, v1] st = (evS txt.mdl.G (txt.mdl.run N d) N b15 [some v0, some v1] st).bind Fl.val := txt.mdl.run_at (fn := f15) rfl rfl
theorem u16 (N d : Nat) (v0 v1 v2 : PV) (st : Sto) : txt.mdl.run N (d + 1) 16 [v0, v1, v2] st = (evS txt.mdl.G (txt.mdl.run N d) N b16 [some v0, some v1, some v2, none, none, none] st).bind Fl.val := txt.mdl.run_at (fn := f16) rfl rfl
theorem u17 (N d : Nat) (v0 v1 : PV) (st : Sto) : txt.mdl.run N (d + 1) 17 [v0, v1] st = (evS txt.mdl.G (txt.mdl.run N d) N b17 [some v0, some v1, none, none] st).bind Fl.val := txt.mdl.run_at (fn := f17) rfl rfl
theorem u18 (N d : Nat) (v0 : PV) (st : Sto) : txt.mdl.run N (d + 1) 18 [v0] st = (evS txt.mdl.G (txt.mdl.run N d) N b18 [some v0, none, none, none, none, none, none, none] st).bind Fl.val := txt.mdl.run_at (fn := f18) rfl rfl
theorem u19 (N d : Nat) (v0 v1 : PV) (us : List PV) (h : us.length ≤ 1000) (st : Sto) : txt.mdl.run N (d + 1) 19 (v0 :: v1 :: us) st = (evS txt.mdl.G (txt.mdl.run N d) N b19 [some v0, some v1, some (.tup us)] st).bind Fl.val := txt.mdl.run_va (fn := f19) rfl (by show 3 ≤ us.length + 3; omega) (by show us.length + 2 ≤ 1000000; omega)
theorem u20 (N d : Nat) (v0 v1 : PV) (st : Sto) : txt.mdl.run N (d + 1) 20 [v0, v1] st = (evS txt.mdl.G (txt.mdl.run N d) N b20 [some v0, some v1, none, none] st).bind Fl.val := txt.mdl.run_at (fn := f20) rfl rfl
theorem u21 (N d : Nat) (v0 : PV) (st : Sto) : txt.mdl.run N (d + 1) 21 [v0] st = (evS txt.mdl.G (txt.mdl.run N d) N b21 [some v0] st).bind Fl.val := txt.mdl.run_at (fn := f21) rfl rfl
theorem u22 (N d : Nat) (v0 : PV) (st : Sto) : txt.mdl.run N (d + 1) 22 [v0] st = (evS txt.mdl.G (txt.mdl.run N d) N b22 [some v0] st).bind Fl.val := txt.mdl.run_at (fn := f22) rfl rfl
theorem u23 (N d : Nat) (v0 : PV) (st : Sto) : txt.mdl.run N (d + 1) 23 [v0] st = (evS txt.mdl.G (txt.mdl.run N d) N b23 [some v0] st).bind Fl.val := txt.mdl.run_at (fn := f23) rfl rfl
theorem bds : AllBd txt.defs := ⟨bd0, bd1, bd2, bd3, bd4, bd5, bd6, bd7, bd8, bd9, bd10, bd11, bd12, bd13, bd14, bd15, bd16, bd17, bd18, bd19, bd20, bd21, bd22, bd23, trivial⟩
end K14
namespace K14
open PySem PySem.Spec PyProof.Rows L2 Mi
theorem ok : txt.ok = true := by decide +kernel
end K14

end

section
set_option linter.all false
set_option maxRecDepth 100000
namespace K14
open PySem L2 Mi
abbrev G := txt.mdl.G
abbrev RU (N d : Nat) : CallF := txt.mdl.run N d
section
variable {N d : Nat} {st : Sto}

theorem draw {n : Nat} {m : Int} {st : Sto} (h : SrcAt n st) (h1 : 0 < m) (h2 : m < 2 ^ 200) : Ok (RU N (d + 1) 14 [.cel n, .int m] st) fun v st' => ∃ r : Int, v = .int r ∧ 0 ≤ r ∧ r < m ∧ UpdS n st st' := by
  rw [RU, u14]
  refine (draw_ok (G := G) (cf := RU N d) (N := N) h h1 (lt_divCap h2)).bind fun fl st1 ⟨r, e, p⟩ => ?_
  subst e
  exact .ok ⟨r, rfl, p⟩
theorem source (ns : List Int) (k : Nat) {st : Sto} : Ok (RU N (d + 1) 13 [.scr (ns.map .int), .int k] st) fun v st' => v = .cel st.length ∧ (∃ c, st' = st ++ [c]) ∧ SrcAt st.length st' := by
  rw [RU, u13]
  have fin : ∀ a b : Int, 0 ≤ a → (∃ c, st ++ [CC.lst [.int a, .int (1 + b % 2147483646)]] = st ++ [c]) ∧ SrcAt st.length (st ++ [CC.lst [.int a, .int (1 + b % 2147483646)]]) := fun a b ha => by
    have h0 := Int.emod_nonneg b (show (2147483646 : Int) ≠ 0 by decide)
    have h1 := Int.emod_lt_of_pos b (show (0 : Int) < 2147483646 by decide)
    exact ⟨⟨_, rfl⟩, a, 1 + b % 2147483646, by simp, ha, by omega, by omega⟩
  have tail : ∀ c : Int, 0 ≤ c → Ok ((evS G (RU N d) N (.seq (.ite (.cmp .Lt (.var 2) (.bin .Pow (.int 10) (.int 18))) (.seq (.ret (.cell (.lst (.cons (.int 0) (.cons (.bin .Add (.int 1) (.bin .Mod (.bi .int (.cons (.bin .Add (.bin .Mult (.var 2) (.int 7919)) (.bin .Mult (.int 104729) (.var 1))) .nil)) (.int 2147483646))) .nil))))) .skip) .skip) (.seq (.ret (.cell (.lst (.cons (.var 2) (.cons (.bin .Add (.int 1) (.bin .Mod (.bi .int (.cons (.bin .Add (.var 2) (.var 1)) .nil)) (.int 2147483646))) .nil))))) .skip))
      [some (.scr (ns.map .int)), some (.int k), some (.int c)] st).bind Fl.val) fun v st' => v = .cel st.length ∧ (∃ c, st' = st ++ [c]) ∧ SrcAt st.length st' := fun c hc => by
    have pw : binV st .Pow (.int 10) (.int 18) = some (.int (10 ^ 18)) := rfl
    have m1 : mulOk c 7919 = true := mulOk_r (by decide) (by decide)
    have m2 : mulOk 104729 (k : Int) = true := mulOk_l (by decide) (by decide)
    have nc : ∀ a b : Int, noCels [.int a, .int b] = true := fun _ _ => rfl
    by_cases q : c < 10 ^ 18
    · refine .eq (a := .cel st.length) (st := st ++ [.lst [.int 0, .int (1 + (c * 7919 + 104729 * k) % 2147483646)]]) ?_ ⟨rfl, fin 0 _ (by decide)⟩
      simp (implicitDefEqProofs := false) only [e00, e01, e02, e03, e04, e05, e06, e07, e08, e09, e0a, e0b, e0c, e0d, e0e, e0f, e0g, e0h, e0i, e0j, e0k, e0l, e0m, e0n, e0o, e0p, e0q, e0r, e0s, e0t, e0u, e0v, e0w, e0x, e0y, e0z, e10, e11, e12, e13, e14, e15, e16, e17, e18, e19, e1a, e1b, e1c, e1d, e1e, e1f, e1g, e1h, e1i, e1j, e1k, e1l, e1m, e1n, e1o, e1p, e1q, e1r, e1s, e1t, e1u, e1v, e1w, e1x, e1y, e1z, e20, e21, e22, e23, e24, e25, e26, e27, e28, e29, e2a, e2b, e2c, e2d, e2e, e2f, e2g, e2h, e2i, e2j, e2k, e2l, e2m, e2n, e2o, e2p, e2q, e2r, e2s, e2t, e2u, e2v, e2w, e2x, e2y, e2z, e30, e31, e32, e33, e34, e35, e36, e37, e38, e39, e3a, e3b, e3c, e3d, e3e, e3f, e3g, e3h, e3i, e3j, e3k, e3l, e3m, e3n, e3o, e3p, e3q, e3r, e3s, e3t, e3u, e3v, e3w, e3x, e3y, e3z, e40, e41, e42, e43, e44, e45, e46, e47, e48, e49, e4a, e4b, e4c, e4d, e4e, e4f, e4g, e4h, e4i, e4j, e4k, e4l, e4m, e4n, e4o, e4p, e4q, R.bind_ok, R.bind_ex, R.bind_bad, R.lift_some, R.noEx_ok, List.getElem?_cons_zero, List.getElem?_cons_succ, Option.bind_some, Option.map_some, Option.bind_eq_bind, id_eq, List.set_cons_zero, List.set_cons_succ, if_true, if_false, Bool.false_eq_true, reduceIte, Bool.not_true, Bool.not_false, Ex.isOmit, e4r, e4s, e4t, e4u, e4v, e4w, e4x, e4y, e4z, e50, e51, e52, e53, e54, e55, e56, e57, e58, e59, e5a, e5b, e5c, e5d, e5e, e5f, e5g, e5h, e5i, e5j, e5k, e5l, e5m, e5n, e5o, e5p, e5q, e5r, e5s, e5t, e5u, e5v, e5w, e5x, e5y, e5z, e60, e61, e62, e63, e64, e65, e66, e67, e68, e69, e6a, e6b, e6c, e6d, e6e, e6f, e6g, e6h, e6i, e6j, e6k, e6l, e6m, e6n, e6o, e6p, e6q, e6r, e6s, e6t, e6u, e6v, e6w, e6x, e6y, e6z, e70, e71, e72, e73, e74, e75, e76, e77, pw, decide_eq_true q, mul_ii m1, mul_ii m2, mod_ii (i := c * 7919 + 104729 * (k : Int)) (j := 2147483646) (by decide), nc]
    · refine .eq (a := .cel st.length) (st := st ++ [.lst [.int c, .int (1 + (c + k) % 2147483646)]]) ?_ ⟨rfl, fin c _ hc⟩
      simp (implicitDefEqProofs := false) only [e00, e01, e02, e03, e04, e05, e06, e07, e08, e09, e0a, e0b, e0c, e0d, e0e, e0f, e0g, e0h, e0i, e0j, e0k, e0l, e0m, e0n, e0o, e0p, e0q, e0r, e0s, e0t, e0u, e0v, e0w, e0x, e0y, e0z, e10, e11, e12, e13, e14, e15, e16, e17, e18, e19, e1a, e1b, e1c, e1d, e1e, e1f, e1g, e1h, e1i, e1j, e1k, e1l, e1m, e1n, e1o, e1p, e1q, e1r, e1s, e1t, e1u, e1v, e1w, e1x, e1y, e1z, e20, e21, e22, e23, e24, e25, e26, e27, e28, e29, e2a, e2b, e2c, e2d, e2e, e2f, e2g, e2h, e2i, e2j, e2k, e2l, e2m, e2n, e2o, e2p, e2q, e2r, e2s, e2t, e2u, e2v, e2w, e2x, e2y, e2z, e30, e31, e32, e33, e34, e35, e36, e37, e38, e39, e3a, e3b, e3c, e3d, e3e, e3f, e3g, e3h, e3i, e3j, e3k, e3l, e3m, e3n, e3o, e3p, e3q, e3r, e3s, e3t, e3u, e3v, e3w, e3x, e3y, e3z, e40, e41, e42, e43, e44, e45, e46, e47, e48, e49, e4a, e4b, e4c, e4d, e4e, e4f, e4g, e4h, e4i, e4j, e4k, e4l, e4m, e4n, e4o, e4p, e4q, R.bind_ok, R.bind_ex, R.bind_bad, R.lift_some, R.noEx_ok, List.getElem?_cons_zero, List.getElem?_cons_succ, Option.bind_some, Option.map_some, Option.bind_eq_bind, id_eq, List.set_cons_zero, List.set_cons_succ, if_true, if_false, Bool.false_eq_true, reduceIte, Bool.not_true, Bool.not_false, Ex.isOmit, e4r, e4s, e4t, e4u, e4v, e4w, e4x, e4y, e4z, e50, e51, e52, e53, e54, e55, e56, e57, e58, e59, e5a, e5b, e5c, e5d, e5e, e5f, e5g, e5h, e5i, e5j, e5k, e5l, e5m, e5n, e5o, e5p, e5q, e5r, e5s, e5t, e5u, e5v, e5w, e5x, e5y, e5z, e60, e61, e62, e63, e64, e65, e66, e67, e68, e69, e6a, e6b, e6c, e6d, e6e, e6f, e6g, e6h, e6i, e6j, e6k, e6l, e6m, e6n, e6o, e6p, e6q, e6r, e6s, e6t, e6u, e6v, e6w, e6x, e6y, e6z, e70, e71, e72, e73, e74, e75, e76, e77, pw, decide_eq_false q, mod_ii (i := c + (k : Int)) (j := 2147483646) (by decide), nc]
  have sh : b13 = .seq (.set 2 (.int 0)) (.seq (.ite (.cmp .Lt (.var 1) (.bi .len (.cons (.var 0) .nil))) (.seq (.set 2 (.bi .abs (.cons (.bi .int (.cons (.idx (.var 0) (.var 1)) .nil)) .nil))) .skip) .skip) (.seq (.ite (.cmp .Lt (.var 2) (.bin .Pow (.int 10) (.int 18))) (.seq (.ret (.cell (.lst (.cons (.int 0) (.cons (.bin .Add (.int 1) (.bin .Mod (.bi .int (.cons (.bin .Add (.bin .Mult (.var 2) (.int 7919)) (.bin .Mult (.int 104729) (.var 1))) .nil)) (.int 2147483646))) .nil))))) .skip) .skip) (.seq (.ret (.cell (.lst (.cons (.var 2) (.cons (.bin .Add (.int 1) (.bin .Mod (.bi .int (.cons (.bin .Add (.var 2) (.var 1)) .nil)) (.int 2147483646))) .nil))))) .skip))) := rfl
  rw [sh, e30, e31, e1z, R.bind_ok, e1d, R.bind_ok, e00, e30]
  by_cases q : k < ns.length
  · have e1 : ixV st (.scr (ns.map .int)) (.int (k : Nat)) = some (.int ns[k]) := by rw [Mi.ix_scr, at_map _ _ _ q]
    simp (implicitDefEqProofs := false) only [e00, e01, e02, e03, e04, e05, e06, e07, e08, e09, e0a, e0b, e0c, e0d, e0e, e0f, e0g, e0h, e0i, e0j, e0k, e0l, e0m, e0n, e0o, e0p, e0q, e0r, e0s, e0t, e0u, e0v, e0w, e0x, e0y, e0z, e10, e11, e12, e13, e14, e15, e16, e17, e18, e19, e1a, e1b, e1c, e1d, e1e, e1f, e1g, e1h, e1i, e1j, e1k, e1l, e1m, e1n, e1o, e1p, e1q, e1r, e1s, e1t, e1u, e1v, e1w, e1x, e1y, e1z, e20, e21, e22, e23, e24, e25, e26, e27, e28, e29, e2a, e2b, e2c, e2d, e2e, e2f, e2g, e2h, e2i, e2j, e2k, e2l, e2m, e2n, e2o, e2p, e2q, e2r, e2s, e2t, e2u, e2v, e2w, e2x, e2y, e2z, e30, e31, e32, e33, e34, e35, e36, e37, e38, e39, e3a, e3b, e3c, e3d, e3e, e3f, e3g, e3h, e3i, e3j, e3k, e3l, e3m, e3n, e3o, e3p, e3q, e3r, e3s, e3t, e3u, e3v, e3w, e3x, e3y, e3z, e40, e41, e42, e43, e44, e45, e46, e47, e48, e49, e4a, e4b, e4c, e4d, e4e, e4f, e4g, e4h, e4i, e4j, e4k, e4l, e4m, e4n, e4o, e4p, e4q, R.bind_ok, R.bind_ex, R.bind_bad, R.lift_some, R.noEx_ok, List.getElem?_cons_zero, List.getElem?_cons_succ, Option.bind_some, Option.map_some, Option.bind_eq_bind, id_eq, List.set_cons_zero, List.set_cons_succ, if_true, if_false, Bool.false_eq_true, reduceIte, Bool.not_true, Bool.not_false, Ex.isOmit, e4r, e4s, e4t, e4u, e4v, e4w, e4x, e4y, e4z, e50, e51, e52, e53, e54, e55, e56, e57, e58, e59, e5a, e5b, e5c, e5d, e5e, e5f, e5g, e5h, e5i, e5j, e5k, e5l, e5m, e5n, e5o, e5p, e5q, e5r, e5s, e5t, e5u, e5v, e5w, e5x, e5y, e5z, e60, e61, e62, e63, e64, e65, e66, e67, e68, e69, e6a, e6b, e6c, e6d, e6e, e6f, e6g, e6h, e6i, e6j, e6k, e6l, e6m, e6n, e6o, e6p, e6q, e6r, e6s, e6t, e6u, e6v, e6w, e6x, e6y, e6z, e70, e71, e72, e73, e74, e75, e76, e77, List.length_map, decide_eq_true (show (k : Int) < (ns.length : Int) by omega), e1]
    exact tail _ (by split <;> omega)
  · simp (implicitDefEqProofs := false) only [e00, e01, e02, e03, e04, e05, e06, e07, e08, e09, e0a, e0b, e0c, e0d, e0e, e0f, e0g, e0h, e0i, e0j, e0k, e0l, e0m, e0n, e0o, e0p, e0q, e0r, e0s, e0t, e0u, e0v, e0w, e0x, e0y, e0z, e10, e11, e12, e13, e14, e15, e16, e17, e18, e19, e1a, e1b, e1c, e1d, e1e, e1f, e1g, e1h, e1i, e1j, e1k, e1l, e1m, e1n, e1o, e1p, e1q, e1r, e1s, e1t, e1u, e1v, e1w, e1x, e1y, e1z, e20, e21, e22, e23, e24, e25, e26, e27, e28, e29, e2a, e2b, e2c, e2d, e2e, e2f, e2g, e2h, e2i, e2j, e2k, e2l, e2m, e2n, e2o, e2p, e2q, e2r, e2s, e2t, e2u, e2v, e2w, e2x, e2y, e2z, e30, e31, e32, e33, e34, e35, e36, e37, e38, e39, e3a, e3b, e3c, e3d, e3e, e3f, e3g, e3h, e3i, e3j, e3k, e3l, e3m, e3n, e3o, e3p, e3q, e3r, e3s, e3t, e3u, e3v, e3w, e3x, e3y, e3z, e40, e41, e42, e43, e44, e45, e46, e47, e48, e49, e4a, e4b, e4c, e4d, e4e, e4f, e4g, e4h, e4i, e4j, e4k, e4l, e4m, e4n, e4o, e4p, e4q, R.bind_ok, R.bind_ex, R.bind_bad, R.lift_some, R.noEx_ok, List.getElem?_cons_zero, List.getElem?_cons_succ, Option.bind_some, Option.map_some, Option.bind_eq_bind, id_eq, List.set_cons_zero, List.set_cons_succ, if_true, if_false, Bool.false_eq_true, reduceIte, Bool.not_true, Bool.not_false, Ex.isOmit, e4r, e4s, e4t, e4u, e4v, e4w, e4x, e4y, e4z, e50, e51, e52, e53, e54, e55, e56, e57, e58, e59, e5a, e5b, e5c, e5d, e5e, e5f, e5g, e5h, e5i, e5j, e5k, e5l, e5m, e5n, e5o, e5p, e5q, e5r, e5s, e5t, e5u, e5v, e5w, e5x, e5y, e5z, e60, e61, e62, e63, e64, e65, e66, e67, e68, e69, e6a, e6b, e6c, e6d, e6e, e6f, e6g, e6h, e6i, e6j, e6k, e6l, e6m, e6n, e6o, e6p, e6q, e6r, e6s, e6t, e6u, e6v, e6w, e6x, e6y, e6z, e70, e71, e72, e73, e74, e75, e76, e77, List.length_map, decide_eq_false (show ¬ (k : Int) < (ns.length : Int) by omega)]
    exact tail 0 (by decide)
theorem law_of {n : Nat} {xs : List PV} {st : Sto} (h : SrcAt n st) (h1 : xs ≠ []) (h2 : xs.length ≤ 1000) : Ok (RU N (d + 2) 15 [.cel n, .lst xs] st) fun v st' => v ∈ xs ∧ UpdS n st st' := by
  rw [RU, u15]
  have hp : 0 < xs.length := List.length_pos_iff.mpr h1
  obtain ⟨_, st1, e1, r, rfl, r0, r1, up⟩ := draw (N := N) (d := d) h (m := (xs.length : Int)) (by omega) (by omega)
  obtain ⟨k, rfl⟩ : ∃ k : Nat, r = (k : Int) := ⟨r.toNat, by omega⟩
  have hk : k < xs.length := by omega
  refine .eq (a := xs[k]) (st := st1) ?_ ⟨List.getElem_mem hk, up⟩
  simp (implicitDefEqProofs := false) only [e00, e01, e02, e03, e04, e05, e06, e07, e08, e09, e0a, e0b, e0c, e0d, e0e, e0f, e0g, e0h, e0i, e0j, e0k, e0l, e0m, e0n, e0o, e0p, e0q, e0r, e0s, e0t, e0u, e0v, e0w, e0x, e0y, e0z, e10, e11, e12, e13, e14, e15, e16, e17, e18, e19, e1a, e1b, e1c, e1d, e1e, e1f, e1g, e1h, e1i, e1j, e1k, e1l, e1m, e1n, e1o, e1p, e1q, e1r, e1s, e1t, e1u, e1v, e1w, e1x, e1y, e1z, e20, e21, e22, e23, e24, e25, e26, e27, e28, e29, e2a, e2b, e2c, e2d, e2e, e2f, e2g, e2h, e2i, e2j, e2k, e2l, e2m, e2n, e2o, e2p, e2q, e2r, e2s, e2t, e2u, e2v, e2w, e2x, e2y, e2z, e30, e31, e32, e33, e34, e35, e36, e37, e38, e39, e3a, e3b, e3c, e3d, e3e, e3f, e3g, e3h, e3i, e3j, e3k, e3l, e3m, e3n, e3o, e3p, e3q, e3r, e3s, e3t, e3u, e3v, e3w, e3x, e3y, e3z, e40, e41, e42, e43, e44, e45, e46, e47, e48, e49, e4a, e4b, e4c, e4d, e4e, e4f, e4g, e4h, e4i, e4j, e4k, e4l, e4m, e4n, e4o, e4p, e4q, R.bind_ok, R.bind_ex, R.bind_bad, R.lift_some, R.noEx_ok, List.getElem?_cons_zero, List.getElem?_cons_succ, Option.bind_some, Option.map_some, Option.bind_eq_bind, id_eq, List.set_cons_zero, List.set_cons_succ, if_true, if_false, Bool.false_eq_true, reduceIte, Bool.not_true, Bool.not_false, Ex.isOmit, e4r, e4s, e4t, e4u, e4v, e4w, e4x, e4y, e4z, e50, e51, e52, e53, e54, e55, e56, e57, e58, e59, e5a, e5b, e5c, e5d, e5e, e5f, e5g, e5h, e5i, e5j, e5k, e5l, e5m, e5n, e5o, e5p, e5q, e5r, e5s, e5t, e5u, e5v, e5w, e5x, e5y, e5z, e60, e61, e62, e63, e64, e65, e66, e67, e68, e69, e6a, e6b, e6c, e6d, e6e, e6f, e6g, e6h, e6i, e6j, e6k, e6l, e6m, e6n, e6o, e6p, e6q, e6r, e6s, e6t, e6u, e6v, e6w, e6x, e6y, e6z, e70, e71, e72, e73, e74, e75, e76, e77, b15, e1, Mi.ix_lst, atI_nat _ _ hk, List.getElem?_eq_getElem hk]

theorem law_script {n : Nat} {st : Sto} (many most : Nat) (hm : 2 ≤ many ∧ many ≤ 4) (h1 : most ≤ 100) (h : SrcAt n st) : Ok (RU N (d + 3) 16 [.cel n, .int many, .int most] st) fun v st' => ∃ ds : List (Str × Nat), v = .tup (ds.map dV) ∧ ds.length ≤ most ∧ (∀ x ∈ ds, deedOk many x) ∧ UpdS n st st' := by
  have hb := big_lt
  rw [RU, u16]
  have key : ∀ (js : List Nat) (zs : List (Str × Nat)) (v : Option PV) (st : Sto), SrcAt n st → zs.length + js.length ≤ 100 → (∀ x ∈ zs, deedOk many x) →
      ∃ (zs' : List (Str × Nat)) (v' : Option PV) (st' : Sto), forR (forB (.nm 3) (evS G (RU N (d + 2)) N (.seq (.set 4 (.bin .Add (.var 4) (.tup (.cons (.tup (.cons (.call .sto 15 (.cons (.var 0) (.cons (.var 5) .nil))) (.cons (.call .sto 14 (.cons (.var 0) (.cons (.var 1) .nil))) .nil))) .nil)))) .skip)))
        (js.map fun j => PV.int (j : Nat)) [some (.cel n), some (.int many), some (.int most), v, some (.tup (zs.map dV)), some (.lst [.str ("left" : Str), .str ("right" : Str), .str ("right" : Str), .str ("left" : Str), .str ("take" : Str), .str ("stand" : Str), .str ("hold" : Str), .str ("free" : Str)])] st =
        .ok (.nx [some (.cel n), some (.int many), some (.int most), v', some (.tup (zs'.map dV)), some (.lst [.str ("left" : Str), .str ("right" : Str), .str ("right" : Str), .str ("left" : Str), .str ("take" : Str), .str ("stand" : Str), .str ("hold" : Str), .str ("free" : Str)])]) st' ∧
        zs'.length = zs.length + js.length ∧ (∀ x ∈ zs', deedOk many x) ∧ UpdS n st st' := by
    intro js
    induction js with
    | nil => intro zs v st hs hl hz; exact ⟨zs, v, st, rfl, rfl, hz, .refl hs⟩
    | cons j js ih =>
      intro zs v st hs hl hz
      rw [List.length_cons] at hl
      obtain ⟨w, st1, e1, hw, u1⟩ := law_of (N := N) (d := d) (xs := [.str ("left" : Str), .str ("right" : Str), .str ("right" : Str), .str ("left" : Str), .str ("take" : Str), .str ("stand" : Str), .str ("hold" : Str), .str ("free" : Str)]) hs (by simp) (by simp)
      have hs1 := u1.src hs
      obtain ⟨_, st2, e2, r, rfl, r0, r1, u2⟩ := draw (N := N) (d := d + 1) hs1 (m := (many : Int)) (by omega) (by omega)
      have hs2 := u2.src hs1
      obtain ⟨t, rfl⟩ : ∃ t : Nat, r = (t : Int) := ⟨r.toNat, by omega⟩
      obtain ⟨x, rfl, hx⟩ : ∃ x : Str, w = .str x ∧ x ∈ words := by
        simp only [List.mem_cons, List.not_mem_nil, or_false] at hw
        rcases hw with rfl | rfl | rfl | rfl | rfl | rfl | rfl | rfl <;> exact ⟨_, rfl, by decide⟩
      obtain ⟨zs', v', st', e, l', z', u'⟩ := ih (zs ++ [(x, t)]) (some (.int (j : Nat))) st2 hs2 (by rw [List.length_append, List.length_singleton]; omega) (fun y hy => by
        rcases List.mem_append.mp hy with q | q
        · exact hz y q
        · rw [List.mem_singleton.mp q]; exact ⟨hx, by show t < many; omega⟩)
      refine ⟨zs', v', st', ?_, by rw [l', List.length_append, List.length_singleton, List.length_cons]; omega, z', u1.trans (u2.trans u')⟩
      have ad : binV st2 .Add (.tup (zs.map dV)) (.tup [.tup [.str x, .int (t : Nat)]]) = some (.tup ((zs ++ [(x, t)]).map dV)) := by
        rw [addT (by rw [List.length_map, List.length_singleton]; omega), List.map_append]; rfl
      rw [List.map_cons, forR_cons]
      simp (implicitDefEqProofs := false) only [e00, e01, e02, e03, e04, e05, e06, e07, e08, e09, e0a, e0b, e0c, e0d, e0e, e0f, e0g, e0h, e0i, e0j, e0k, e0l, e0m, e0n, e0o, e0p, e0q, e0r, e0s, e0t, e0u, e0v, e0w, e0x, e0y, e0z, e10, e11, e12, e13, e14, e15, e16, e17, e18, e19, e1a, e1b, e1c, e1d, e1e, e1f, e1g, e1h, e1i, e1j, e1k, e1l, e1m, e1n, e1o, e1p, e1q, e1r, e1s, e1t, e1u, e1v, e1w, e1x, e1y, e1z, e20, e21, e22, e23, e24, e25, e26, e27, e28, e29, e2a, e2b, e2c, e2d, e2e, e2f, e2g, e2h, e2i, e2j, e2k, e2l, e2m, e2n, e2o, e2p, e2q, e2r, e2s, e2t, e2u, e2v, e2w, e2x, e2y, e2z, e30, e31, e32, e33, e34, e35, e36, e37, e38, e39, e3a, e3b, e3c, e3d, e3e, e3f, e3g, e3h, e3i, e3j, e3k, e3l, e3m, e3n, e3o, e3p, e3q, e3r, e3s, e3t, e3u, e3v, e3w, e3x, e3y, e3z, e40, e41, e42, e43, e44, e45, e46, e47, e48, e49, e4a, e4b, e4c, e4d, e4e, e4f, e4g, e4h, e4i, e4j, e4k, e4l, e4m, e4n, e4o, e4p, e4q, R.bind_ok, R.bind_ex, R.bind_bad, R.lift_some, R.noEx_ok, List.getElem?_cons_zero, List.getElem?_cons_succ, Option.bind_some, Option.map_some, Option.bind_eq_bind, id_eq, List.set_cons_zero, List.set_cons_succ, if_true, if_false, Bool.false_eq_true, reduceIte, Bool.not_true, Bool.not_false, Ex.isOmit, e4r, e4s, e4t, e4u, e4v, e4w, e4x, e4y, e4z, e50, e51, e52, e53, e54, e55, e56, e57, e58, e59, e5a, e5b, e5c, e5d, e5e, e5f, e5g, e5h, e5i, e5j, e5k, e5l, e5m, e5n, e5o, e5p, e5q, e5r, e5s, e5t, e5u, e5v, e5w, e5x, e5y, e5z, e60, e61, e62, e63, e64, e65, e66, e67, e68, e69, e6a, e6b, e6c, e6d, e6e, e6f, e6g, e6h, e6i, e6j, e6k, e6l, e6m, e6n, e6o, e6p, e6q, e6r, e6s, e6t, e6u, e6v, e6w, e6x, e6y, e6z, e70, e71, e72, e73, e74, e75, e76, e77, e1, e2, ad]
      exact e
  obtain ⟨_, st1, e1, r, rfl, r0, r1, u1⟩ := draw (N := N) (d := d + 1) h (m := (most : Int) + 1) (by omega) (by omega)
  obtain ⟨k, rfl⟩ : ∃ k : Nat, r = (k : Int) := ⟨r.toNat, by omega⟩
  have hs1 := u1.src h
  obtain ⟨zs, v', st', e, l', z', u'⟩ := key (List.range k) [] none st1 hs1 (by rw [List.length_range]; simp; omega) (by simp)
  refine .eq (a := .tup (zs.map dV)) (st := st') ?_ ⟨zs, rfl, by rw [l', List.length_range]; simp; omega, z', u1.trans u'⟩
  simp (implicitDefEqProofs := false) only [e00, e01, e02, e03, e04, e05, e06, e07, e08, e09, e0a, e0b, e0c, e0d, e0e, e0f, e0g, e0h, e0i, e0j, e0k, e0l, e0m, e0n, e0o, e0p, e0q, e0r, e0s, e0t, e0u, e0v, e0w, e0x, e0y, e0z, e10, e11, e12, e13, e14, e15, e16, e17, e18, e19, e1a, e1b, e1c, e1d, e1e, e1f, e1g, e1h, e1i, e1j, e1k, e1l, e1m, e1n, e1o, e1p, e1q, e1r, e1s, e1t, e1u, e1v, e1w, e1x, e1y, e1z, e20, e21, e22, e23, e24, e25, e26, e27, e28, e29, e2a, e2b, e2c, e2d, e2e, e2f, e2g, e2h, e2i, e2j, e2k, e2l, e2m, e2n, e2o, e2p, e2q, e2r, e2s, e2t, e2u, e2v, e2w, e2x, e2y, e2z, e30, e31, e32, e33, e34, e35, e36, e37, e38, e39, e3a, e3b, e3c, e3d, e3e, e3f, e3g, e3h, e3i, e3j, e3k, e3l, e3m, e3n, e3o, e3p, e3q, e3r, e3s, e3t, e3u, e3v, e3w, e3x, e3y, e3z, e40, e41, e42, e43, e44, e45, e46, e47, e48, e49, e4a, e4b, e4c, e4d, e4e, e4f, e4g, e4h, e4i, e4j, e4k, e4l, e4m, e4n, e4o, e4p, e4q, R.bind_ok, R.bind_ex, R.bind_bad, R.lift_some, R.noEx_ok, List.getElem?_cons_zero, List.getElem?_cons_succ, Option.bind_some, Option.map_some, Option.bind_eq_bind, id_eq, List.set_cons_zero, List.set_cons_succ, if_true, if_false, Bool.false_eq_true, reduceIte, Bool.not_true, Bool.not_false, Ex.isOmit, e4r, e4s, e4t, e4u, e4v, e4w, e4x, e4y, e4z, e50, e51, e52, e53, e54, e55, e56, e57, e58, e59, e5a, e5b, e5c, e5d, e5e, e5f, e5g, e5h, e5i, e5j, e5k, e5l, e5m, e5n, e5o, e5p, e5q, e5r, e5s, e5t, e5u, e5v, e5w, e5x, e5y, e5z, e60, e61, e62, e63, e64, e65, e66, e67, e68, e69, e6a, e6b, e6c, e6d, e6e, e6f, e6g, e6h, e6i, e6j, e6k, e6l, e6m, e6n, e6o, e6p, e6q, e6r, e6s, e6t, e6u, e6v, e6w, e6x, e6y, e6z, e70, e71, e72, e73, e74, e75, e76, e77, b16, e1, small_nat (n := k) (by omega), Int.toNat_natCast, rngL_nat]
  rw [show (PV.tup []) = PV.tup (([] : List (Str × Nat)).map dV) from rfl, e]
  simp (implicitDefEqProofs := false) only [e00, e01, e02, e03, e04, e05, e06, e07, e08, e09, e0a, e0b, e0c, e0d, e0e, e0f, e0g, e0h, e0i, e0j, e0k, e0l, e0m, e0n, e0o, e0p, e0q, e0r, e0s, e0t, e0u, e0v, e0w, e0x, e0y, e0z, e10, e11, e12, e13, e14, e15, e16, e17, e18, e19, e1a, e1b, e1c, e1d, e1e, e1f, e1g, e1h, e1i, e1j, e1k, e1l, e1m, e1n, e1o, e1p, e1q, e1r, e1s, e1t, e1u, e1v, e1w, e1x, e1y, e1z, e20, e21, e22, e23, e24, e25, e26, e27, e28, e29, e2a, e2b, e2c, e2d, e2e, e2f, e2g, e2h, e2i, e2j, e2k, e2l, e2m, e2n, e2o, e2p, e2q, e2r, e2s, e2t, e2u, e2v, e2w, e2x, e2y, e2z, e30, e31, e32, e33, e34, e35, e36, e37, e38, e39, e3a, e3b, e3c, e3d, e3e, e3f, e3g, e3h, e3i, e3j, e3k, e3l, e3m, e3n, e3o, e3p, e3q, e3r, e3s, e3t, e3u, e3v, e3w, e3x, e3y, e3z, e40, e41, e42, e43, e44, e45, e46, e47, e48, e49, e4a, e4b, e4c, e4d, e4e, e4f, e4g, e4h, e4i, e4j, e4k, e4l, e4m, e4n, e4o, e4p, e4q, R.bind_ok, R.bind_ex, R.bind_bad, R.lift_some, R.noEx_ok, List.getElem?_cons_zero, List.getElem?_cons_succ, Option.bind_some, Option.map_some, Option.bind_eq_bind, id_eq, List.set_cons_zero, List.set_cons_succ, if_true, if_false, Bool.false_eq_true, reduceIte, Bool.not_true, Bool.not_false, Ex.isOmit, e4r, e4s, e4t, e4u, e4v, e4w, e4x, e4y, e4z, e50, e51, e52, e53, e54, e55, e56, e57, e58, e59, e5a, e5b, e5c, e5d, e5e, e5f, e5g, e5h, e5i, e5j, e5k, e5l, e5m, e5n, e5o, e5p, e5q, e5r, e5s, e5t, e5u, e5v, e5w, e5x, e5y, e5z, e60, e61, e62, e63, e64, e65, e66, e67, e68, e69, e6a, e6b, e6c, e6d, e6e, e6f, e6g, e6h, e6i, e6j, e6k, e6l, e6m, e6n, e6o, e6p, e6q, e6r, e6s, e6t, e6u, e6v, e6w, e6x, e6y, e6z, e70, e71, e72, e73, e74, e75, e76, e77]

theorem is_number (i a b : Int) : RU N (d + 1) 0 [.int i, .int a, .int b] st = .ok (.bl (decide (a ≤ i) && decide (i ≤ b))) st := by
  rw [RU, u0]
  simp (implicitDefEqProofs := false) only [e00, e01, e02, e03, e04, e05, e06, e07, e08, e09, e0a, e0b, e0c, e0d, e0e, e0f, e0g, e0h, e0i, e0j, e0k, e0l, e0m, e0n, e0o, e0p, e0q, e0r, e0s, e0t, e0u, e0v, e0w, e0x, e0y, e0z, e10, e11, e12, e13, e14, e15, e16, e17, e18, e19, e1a, e1b, e1c, e1d, e1e, e1f, e1g, e1h, e1i, e1j, e1k, e1l, e1m, e1n, e1o, e1p, e1q, e1r, e1s, e1t, e1u, e1v, e1w, e1x, e1y, e1z, e20, e21, e22, e23, e24, e25, e26, e27, e28, e29, e2a, e2b, e2c, e2d, e2e, e2f, e2g, e2h, e2i, e2j, e2k, e2l, e2m, e2n, e2o, e2p, e2q, e2r, e2s, e2t, e2u, e2v, e2w, e2x, e2y, e2z, e30, e31, e32, e33, e34, e35, e36, e37, e38, e39, e3a, e3b, e3c, e3d, e3e, e3f, e3g, e3h, e3i, e3j, e3k, e3l, e3m, e3n, e3o, e3p, e3q, e3r, e3s, e3t, e3u, e3v, e3w, e3x, e3y, e3z, e40, e41, e42, e43, e44, e45, e46, e47, e48, e49, e4a, e4b, e4c, e4d, e4e, e4f, e4g, e4h, e4i, e4j, e4k, e4l, e4m, e4n, e4o, e4p, e4q, R.bind_ok, R.bind_ex, R.bind_bad, R.lift_some, R.noEx_ok, List.getElem?_cons_zero, List.getElem?_cons_succ, Option.bind_some, Option.map_some, Option.bind_eq_bind, id_eq, List.set_cons_zero, List.set_cons_succ, if_true, if_false, Bool.false_eq_true, reduceIte, Bool.not_true, Bool.not_false, Ex.isOmit, e4r, e4s, e4t, e4u, e4v, e4w, e4x, e4y, e4z, e50, e51, e52, e53, e54, e55, e56, e57, e58, e59, e5a, e5b, e5c, e5d, e5e, e5f, e5g, e5h, e5i, e5j, e5k, e5l, e5m, e5n, e5o, e5p, e5q, e5r, e5s, e5t, e5u, e5v, e5w, e5x, e5y, e5z, e60, e61, e62, e63, e64, e65, e66, e67, e68, e69, e6a, e6b, e6c, e6d, e6e, e6f, e6g, e6h, e6i, e6j, e6k, e6l, e6m, e6n, e6o, e6p, e6q, e6r, e6s, e6t, e6u, e6v, e6w, e6x, e6y, e6z, e70, e71, e72, e73, e74, e75, e76, e77, b0, show isiV (.int i) "int" = some true from rfl, show isiV (.int i) "bool" = some false from rfl]
  cases decide (a ≤ i) <;> simp (implicitDefEqProofs := false) only [e00, e01, e02, e03, e04, e05, e06, e07, e08, e09, e0a, e0b, e0c, e0d, e0e, e0f, e0g, e0h, e0i, e0j, e0k, e0l, e0m, e0n, e0o, e0p, e0q, e0r, e0s, e0t, e0u, e0v, e0w, e0x, e0y, e0z, e10, e11, e12, e13, e14, e15, e16, e17, e18, e19, e1a, e1b, e1c, e1d, e1e, e1f, e1g, e1h, e1i, e1j, e1k, e1l, e1m, e1n, e1o, e1p, e1q, e1r, e1s, e1t, e1u, e1v, e1w, e1x, e1y, e1z, e20, e21, e22, e23, e24, e25, e26, e27, e28, e29, e2a, e2b, e2c, e2d, e2e, e2f, e2g, e2h, e2i, e2j, e2k, e2l, e2m, e2n, e2o, e2p, e2q, e2r, e2s, e2t, e2u, e2v, e2w, e2x, e2y, e2z, e30, e31, e32, e33, e34, e35, e36, e37, e38, e39, e3a, e3b, e3c, e3d, e3e, e3f, e3g, e3h, e3i, e3j, e3k, e3l, e3m, e3n, e3o, e3p, e3q, e3r, e3s, e3t, e3u, e3v, e3w, e3x, e3y, e3z, e40, e41, e42, e43, e44, e45, e46, e47, e48, e49, e4a, e4b, e4c, e4d, e4e, e4f, e4g, e4h, e4i, e4j, e4k, e4l, e4m, e4n, e4o, e4p, e4q, R.bind_ok, R.bind_ex, R.bind_bad, R.lift_some, R.noEx_ok, List.getElem?_cons_zero, List.getElem?_cons_succ, Option.bind_some, Option.map_some, Option.bind_eq_bind, id_eq, List.set_cons_zero, List.set_cons_succ, if_true, if_false, Bool.false_eq_true, reduceIte, Bool.not_true, Bool.not_false, Ex.isOmit, e4r, e4s, e4t, e4u, e4v, e4w, e4x, e4y, e4z, e50, e51, e52, e53, e54, e55, e56, e57, e58, e59, e5a, e5b, e5c, e5d, e5e, e5f, e5g, e5h, e5i, e5j, e5k, e5l, e5m, e5n, e5o, e5p, e5q, e5r, e5s, e5t, e5u, e5v, e5w, e5x, e5y, e5z, e60, e61, e62, e63, e64, e65, e66, e67, e68, e69, e6a, e6b, e6c, e6d, e6e, e6f, e6g, e6h, e6i, e6j, e6k, e6l, e6m, e6n, e6o, e6p, e6q, e6r, e6s, e6t, e6u, e6v, e6w, e6x, e6y, e6z, e70, e71, e72, e73, e74, e75, e76, e77, Bool.true_and, Bool.false_and]
theorem is_tuple (xs : List PV) (a b : Int) : RU N (d + 1) 1 [.tup xs, .int a, .int b] st = .ok (.bl (decide (a ≤ xs.length) && decide ((xs.length : Int) ≤ b))) st := by
  rw [RU, u1]
  simp (implicitDefEqProofs := false) only [e00, e01, e02, e03, e04, e05, e06, e07, e08, e09, e0a, e0b, e0c, e0d, e0e, e0f, e0g, e0h, e0i, e0j, e0k, e0l, e0m, e0n, e0o, e0p, e0q, e0r, e0s, e0t, e0u, e0v, e0w, e0x, e0y, e0z, e10, e11, e12, e13, e14, e15, e16, e17, e18, e19, e1a, e1b, e1c, e1d, e1e, e1f, e1g, e1h, e1i, e1j, e1k, e1l, e1m, e1n, e1o, e1p, e1q, e1r, e1s, e1t, e1u, e1v, e1w, e1x, e1y, e1z, e20, e21, e22, e23, e24, e25, e26, e27, e28, e29, e2a, e2b, e2c, e2d, e2e, e2f, e2g, e2h, e2i, e2j, e2k, e2l, e2m, e2n, e2o, e2p, e2q, e2r, e2s, e2t, e2u, e2v, e2w, e2x, e2y, e2z, e30, e31, e32, e33, e34, e35, e36, e37, e38, e39, e3a, e3b, e3c, e3d, e3e, e3f, e3g, e3h, e3i, e3j, e3k, e3l, e3m, e3n, e3o, e3p, e3q, e3r, e3s, e3t, e3u, e3v, e3w, e3x, e3y, e3z, e40, e41, e42, e43, e44, e45, e46, e47, e48, e49, e4a, e4b, e4c, e4d, e4e, e4f, e4g, e4h, e4i, e4j, e4k, e4l, e4m, e4n, e4o, e4p, e4q, R.bind_ok, R.bind_ex, R.bind_bad, R.lift_some, R.noEx_ok, List.getElem?_cons_zero, List.getElem?_cons_succ, Option.bind_some, Option.map_some, Option.bind_eq_bind, id_eq, List.set_cons_zero, List.set_cons_succ, if_true, if_false, Bool.false_eq_true, reduceIte, Bool.not_true, Bool.not_false, Ex.isOmit, e4r, e4s, e4t, e4u, e4v, e4w, e4x, e4y, e4z, e50, e51, e52, e53, e54, e55, e56, e57, e58, e59, e5a, e5b, e5c, e5d, e5e, e5f, e5g, e5h, e5i, e5j, e5k, e5l, e5m, e5n, e5o, e5p, e5q, e5r, e5s, e5t, e5u, e5v, e5w, e5x, e5y, e5z, e60, e61, e62, e63, e64, e65, e66, e67, e68, e69, e6a, e6b, e6c, e6d, e6e, e6f, e6g, e6h, e6i, e6j, e6k, e6l, e6m, e6n, e6o, e6p, e6q, e6r, e6s, e6t, e6u, e6v, e6w, e6x, e6y, e6z, e70, e71, e72, e73, e74, e75, e76, e77, b1, show isiV (.tup xs) "tuple" = some true from rfl]
  cases decide (a ≤ (xs.length : Int)) <;> simp (implicitDefEqProofs := false) only [e00, e01, e02, e03, e04, e05, e06, e07, e08, e09, e0a, e0b, e0c, e0d, e0e, e0f, e0g, e0h, e0i, e0j, e0k, e0l, e0m, e0n, e0o, e0p, e0q, e0r, e0s, e0t, e0u, e0v, e0w, e0x, e0y, e0z, e10, e11, e12, e13, e14, e15, e16, e17, e18, e19, e1a, e1b, e1c, e1d, e1e, e1f, e1g, e1h, e1i, e1j, e1k, e1l, e1m, e1n, e1o, e1p, e1q, e1r, e1s, e1t, e1u, e1v, e1w, e1x, e1y, e1z, e20, e21, e22, e23, e24, e25, e26, e27, e28, e29, e2a, e2b, e2c, e2d, e2e, e2f, e2g, e2h, e2i, e2j, e2k, e2l, e2m, e2n, e2o, e2p, e2q, e2r, e2s, e2t, e2u, e2v, e2w, e2x, e2y, e2z, e30, e31, e32, e33, e34, e35, e36, e37, e38, e39, e3a, e3b, e3c, e3d, e3e, e3f, e3g, e3h, e3i, e3j, e3k, e3l, e3m, e3n, e3o, e3p, e3q, e3r, e3s, e3t, e3u, e3v, e3w, e3x, e3y, e3z, e40, e41, e42, e43, e44, e45, e46, e47, e48, e49, e4a, e4b, e4c, e4d, e4e, e4f, e4g, e4h, e4i, e4j, e4k, e4l, e4m, e4n, e4o, e4p, e4q, R.bind_ok, R.bind_ex, R.bind_bad, R.lift_some, R.noEx_ok, List.getElem?_cons_zero, List.getElem?_cons_succ, Option.bind_some, Option.map_some, Option.bind_eq_bind, id_eq, List.set_cons_zero, List.set_cons_succ, if_true, if_false, Bool.false_eq_true, reduceIte, Bool.not_true, Bool.not_false, Ex.isOmit, e4r, e4s, e4t, e4u, e4v, e4w, e4x, e4y, e4z, e50, e51, e52, e53, e54, e55, e56, e57, e58, e59, e5a, e5b, e5c, e5d, e5e, e5f, e5g, e5h, e5i, e5j, e5k, e5l, e5m, e5n, e5o, e5p, e5q, e5r, e5s, e5t, e5u, e5v, e5w, e5x, e5y, e5z, e60, e61, e62, e63, e64, e65, e66, e67, e68, e69, e6a, e6b, e6c, e6d, e6e, e6f, e6g, e6h, e6i, e6j, e6k, e6l, e6m, e6n, e6o, e6p, e6q, e6r, e6s, e6t, e6u, e6v, e6w, e6x, e6y, e6z, e70, e71, e72, e73, e74, e75, e76, e77, Bool.true_and, Bool.false_and]
theorem need_many (many : Nat) (h : 2 ≤ many ∧ many ≤ 4) : RU N (d + 2) 5 [.int many] st = .ok .non st := by
  rw [RU, u5]
  simp (implicitDefEqProofs := false) only [e00, e01, e02, e03, e04, e05, e06, e07, e08, e09, e0a, e0b, e0c, e0d, e0e, e0f, e0g, e0h, e0i, e0j, e0k, e0l, e0m, e0n, e0o, e0p, e0q, e0r, e0s, e0t, e0u, e0v, e0w, e0x, e0y, e0z, e10, e11, e12, e13, e14, e15, e16, e17, e18, e19, e1a, e1b, e1c, e1d, e1e, e1f, e1g, e1h, e1i, e1j, e1k, e1l, e1m, e1n, e1o, e1p, e1q, e1r, e1s, e1t, e1u, e1v, e1w, e1x, e1y, e1z, e20, e21, e22, e23, e24, e25, e26, e27, e28, e29, e2a, e2b, e2c, e2d, e2e, e2f, e2g, e2h, e2i, e2j, e2k, e2l, e2m, e2n, e2o, e2p, e2q, e2r, e2s, e2t, e2u, e2v, e2w, e2x, e2y, e2z, e30, e31, e32, e33, e34, e35, e36, e37, e38, e39, e3a, e3b, e3c, e3d, e3e, e3f, e3g, e3h, e3i, e3j, e3k, e3l, e3m, e3n, e3o, e3p, e3q, e3r, e3s, e3t, e3u, e3v, e3w, e3x, e3y, e3z, e40, e41, e42, e43, e44, e45, e46, e47, e48, e49, e4a, e4b, e4c, e4d, e4e, e4f, e4g, e4h, e4i, e4j, e4k, e4l, e4m, e4n, e4o, e4p, e4q, R.bind_ok, R.bind_ex, R.bind_bad, R.lift_some, R.noEx_ok, List.getElem?_cons_zero, List.getElem?_cons_succ, Option.bind_some, Option.map_some, Option.bind_eq_bind, id_eq, List.set_cons_zero, List.set_cons_succ, if_true, if_false, Bool.false_eq_true, reduceIte, Bool.not_true, Bool.not_false, Ex.isOmit, e4r, e4s, e4t, e4u, e4v, e4w, e4x, e4y, e4z, e50, e51, e52, e53, e54, e55, e56, e57, e58, e59, e5a, e5b, e5c, e5d, e5e, e5f, e5g, e5h, e5i, e5j, e5k, e5l, e5m, e5n, e5o, e5p, e5q, e5r, e5s, e5t, e5u, e5v, e5w, e5x, e5y, e5z, e60, e61, e62, e63, e64, e65, e66, e67, e68, e69, e6a, e6b, e6c, e6d, e6e, e6f, e6g, e6h, e6i, e6j, e6k, e6l, e6m, e6n, e6o, e6p, e6q, e6r, e6s, e6t, e6u, e6v, e6w, e6x, e6y, e6z, e70, e71, e72, e73, e74, e75, e76, e77, b5, is_number, decide_eq_true (show (2 : Int) ≤ many by omega), decide_eq_true (show (many : Int) ≤ 4 by omega), Bool.and_self]

theorem gWORDS : txt.mdl.G 32 = some (.tup (words.map .str)) := rfl
theorem is_deed (many : Nat) (x : Str × Nat) (hx : deedOk many x) : RU N (d + 2) 3 [.int many, dV x] st = .ok (.bl true) st := by
  rw [RU, u3]
  have ht := hx.2
  have a0 : ixV st (.tup [.str x.1, .int (x.2 : Nat)]) (.int 0) = some (.str x.1) := rfl
  have a1 : ixV st (.tup [.str x.1, .int (x.2 : Nat)]) (.int 1) = some (.int (x.2 : Nat)) := rfl
  have w1 : RU N (d + 1) 2 [.str x.1, .tup (words.map .str)] st = .ok (.bl true) st := by
    rw [RU, u2]
    simp (implicitDefEqProofs := false) only [e00, e01, e02, e03, e04, e05, e06, e07, e08, e09, e0a, e0b, e0c, e0d, e0e, e0f, e0g, e0h, e0i, e0j, e0k, e0l, e0m, e0n, e0o, e0p, e0q, e0r, e0s, e0t, e0u, e0v, e0w, e0x, e0y, e0z, e10, e11, e12, e13, e14, e15, e16, e17, e18, e19, e1a, e1b, e1c, e1d, e1e, e1f, e1g, e1h, e1i, e1j, e1k, e1l, e1m, e1n, e1o, e1p, e1q, e1r, e1s, e1t, e1u, e1v, e1w, e1x, e1y, e1z, e20, e21, e22, e23, e24, e25, e26, e27, e28, e29, e2a, e2b, e2c, e2d, e2e, e2f, e2g, e2h, e2i, e2j, e2k, e2l, e2m, e2n, e2o, e2p, e2q, e2r, e2s, e2t, e2u, e2v, e2w, e2x, e2y, e2z, e30, e31, e32, e33, e34, e35, e36, e37, e38, e39, e3a, e3b, e3c, e3d, e3e, e3f, e3g, e3h, e3i, e3j, e3k, e3l, e3m, e3n, e3o, e3p, e3q, e3r, e3s, e3t, e3u, e3v, e3w, e3x, e3y, e3z, e40, e41, e42, e43, e44, e45, e46, e47, e48, e49, e4a, e4b, e4c, e4d, e4e, e4f, e4g, e4h, e4i, e4j, e4k, e4l, e4m, e4n, e4o, e4p, e4q, R.bind_ok, R.bind_ex, R.bind_bad, R.lift_some, R.noEx_ok, List.getElem?_cons_zero, List.getElem?_cons_succ, Option.bind_some, Option.map_some, Option.bind_eq_bind, id_eq, List.set_cons_zero, List.set_cons_succ, if_true, if_false, Bool.false_eq_true, reduceIte, Bool.not_true, Bool.not_false, Ex.isOmit, e4r, e4s, e4t, e4u, e4v, e4w, e4x, e4y, e4z, e50, e51, e52, e53, e54, e55, e56, e57, e58, e59, e5a, e5b, e5c, e5d, e5e, e5f, e5g, e5h, e5i, e5j, e5k, e5l, e5m, e5n, e5o, e5p, e5q, e5r, e5s, e5t, e5u, e5v, e5w, e5x, e5y, e5z, e60, e61, e62, e63, e64, e65, e66, e67, e68, e69, e6a, e6b, e6c, e6d, e6e, e6f, e6g, e6h, e6i, e6j, e6k, e6l, e6m, e6n, e6o, e6p, e6q, e6r, e6s, e6t, e6u, e6v, e6w, e6x, e6y, e6z, e70, e71, e72, e73, e74, e75, e76, e77, b2, show isiV (.str x.1) "str" = some true from rfl, in_strs, word_in hx.1]
  have c : (decide ((2 : Int) ≤ (([PV.str x.1, .int (x.2 : Nat)] : List PV).length : Nat)) && decide ((([PV.str x.1, .int (x.2 : Nat)] : List PV).length : Int) ≤ 2)) = true := rfl
  simp (implicitDefEqProofs := false) only [e00, e01, e02, e03, e04, e05, e06, e07, e08, e09, e0a, e0b, e0c, e0d, e0e, e0f, e0g, e0h, e0i, e0j, e0k, e0l, e0m, e0n, e0o, e0p, e0q, e0r, e0s, e0t, e0u, e0v, e0w, e0x, e0y, e0z, e10, e11, e12, e13, e14, e15, e16, e17, e18, e19, e1a, e1b, e1c, e1d, e1e, e1f, e1g, e1h, e1i, e1j, e1k, e1l, e1m, e1n, e1o, e1p, e1q, e1r, e1s, e1t, e1u, e1v, e1w, e1x, e1y, e1z, e20, e21, e22, e23, e24, e25, e26, e27, e28, e29, e2a, e2b, e2c, e2d, e2e, e2f, e2g, e2h, e2i, e2j, e2k, e2l, e2m, e2n, e2o, e2p, e2q, e2r, e2s, e2t, e2u, e2v, e2w, e2x, e2y, e2z, e30, e31, e32, e33, e34, e35, e36, e37, e38, e39, e3a, e3b, e3c, e3d, e3e, e3f, e3g, e3h, e3i, e3j, e3k, e3l, e3m, e3n, e3o, e3p, e3q, e3r, e3s, e3t, e3u, e3v, e3w, e3x, e3y, e3z, e40, e41, e42, e43, e44, e45, e46, e47, e48, e49, e4a, e4b, e4c, e4d, e4e, e4f, e4g, e4h, e4i, e4j, e4k, e4l, e4m, e4n, e4o, e4p, e4q, R.bind_ok, R.bind_ex, R.bind_bad, R.lift_some, R.noEx_ok, List.getElem?_cons_zero, List.getElem?_cons_succ, Option.bind_some, Option.map_some, Option.bind_eq_bind, id_eq, List.set_cons_zero, List.set_cons_succ, if_true, if_false, Bool.false_eq_true, reduceIte, Bool.not_true, Bool.not_false, Ex.isOmit, e4r, e4s, e4t, e4u, e4v, e4w, e4x, e4y, e4z, e50, e51, e52, e53, e54, e55, e56, e57, e58, e59, e5a, e5b, e5c, e5d, e5e, e5f, e5g, e5h, e5i, e5j, e5k, e5l, e5m, e5n, e5o, e5p, e5q, e5r, e5s, e5t, e5u, e5v, e5w, e5x, e5y, e5z, e60, e61, e62, e63, e64, e65, e66, e67, e68, e69, e6a, e6b, e6c, e6d, e6e, e6f, e6g, e6h, e6i, e6j, e6k, e6l, e6m, e6n, e6o, e6p, e6q, e6r, e6s, e6t, e6u, e6v, e6w, e6x, e6y, e6z, e70, e71, e72, e73, e74, e75, e76, e77, b3, dV, is_tuple, c, a0, a1, gWORDS, w1, is_number, decide_eq_true (show (0 : Int) ≤ ((x.2 : Nat) : Int) by omega), decide_eq_true (show ((x.2 : Nat) : Int) ≤ (many : Int) - 1 by omega), Bool.and_self]
theorem is_good_script (many : Nat) (ds : List (Str × Nat)) (hl : ds.length ≤ 6) (hd : ∀ x ∈ ds, deedOk many x) : RU N (d + 3) 4 [.int many, .tup (ds.map dV)] st = .ok (.bl true) st := by
  have hb := big_lt
  rw [RU, u4]
  have c : (decide ((0 : Int) ≤ ((ds.map dV).length : Nat)) && decide (((ds.map dV).length : Int) ≤ 6)) = true := by
    rw [List.length_map, decide_eq_true (by omega), decide_eq_true (by omega)]; rfl
  simp (implicitDefEqProofs := false) only [e00, e01, e02, e03, e04, e05, e06, e07, e08, e09, e0a, e0b, e0c, e0d, e0e, e0f, e0g, e0h, e0i, e0j, e0k, e0l, e0m, e0n, e0o, e0p, e0q, e0r, e0s, e0t, e0u, e0v, e0w, e0x, e0y, e0z, e10, e11, e12, e13, e14, e15, e16, e17, e18, e19, e1a, e1b, e1c, e1d, e1e, e1f, e1g, e1h, e1i, e1j, e1k, e1l, e1m, e1n, e1o, e1p, e1q, e1r, e1s, e1t, e1u, e1v, e1w, e1x, e1y, e1z, e20, e21, e22, e23, e24, e25, e26, e27, e28, e29, e2a, e2b, e2c, e2d, e2e, e2f, e2g, e2h, e2i, e2j, e2k, e2l, e2m, e2n, e2o, e2p, e2q, e2r, e2s, e2t, e2u, e2v, e2w, e2x, e2y, e2z, e30, e31, e32, e33, e34, e35, e36, e37, e38, e39, e3a, e3b, e3c, e3d, e3e, e3f, e3g, e3h, e3i, e3j, e3k, e3l, e3m, e3n, e3o, e3p, e3q, e3r, e3s, e3t, e3u, e3v, e3w, e3x, e3y, e3z, e40, e41, e42, e43, e44, e45, e46, e47, e48, e49, e4a, e4b, e4c, e4d, e4e, e4f, e4g, e4h, e4i, e4j, e4k, e4l, e4m, e4n, e4o, e4p, e4q, R.bind_ok, R.bind_ex, R.bind_bad, R.lift_some, R.noEx_ok, List.getElem?_cons_zero, List.getElem?_cons_succ, Option.bind_some, Option.map_some, Option.bind_eq_bind, id_eq, List.set_cons_zero, List.set_cons_succ, if_true, if_false, Bool.false_eq_true, reduceIte, Bool.not_true, Bool.not_false, Ex.isOmit, e4r, e4s, e4t, e4u, e4v, e4w, e4x, e4y, e4z, e50, e51, e52, e53, e54, e55, e56, e57, e58, e59, e5a, e5b, e5c, e5d, e5e, e5f, e5g, e5h, e5i, e5j, e5k, e5l, e5m, e5n, e5o, e5p, e5q, e5r, e5s, e5t, e5u, e5v, e5w, e5x, e5y, e5z, e60, e61, e62, e63, e64, e65, e66, e67, e68, e69, e6a, e6b, e6c, e6d, e6e, e6f, e6g, e6h, e6i, e6j, e6k, e6l, e6m, e6n, e6o, e6p, e6q, e6r, e6s, e6t, e6u, e6v, e6w, e6x, e6y, e6z, e70, e71, e72, e73, e74, e75, e76, e77, b4, is_tuple, c]
  rw [compR_map ds dV (fun _ => PV.bl true)]
  · have l1 : (ds.map fun _ => PV.bl true).length ≤ big := by rw [List.length_map]; omega
    simp (implicitDefEqProofs := false) only [e00, e01, e02, e03, e04, e05, e06, e07, e08, e09, e0a, e0b, e0c, e0d, e0e, e0f, e0g, e0h, e0i, e0j, e0k, e0l, e0m, e0n, e0o, e0p, e0q, e0r, e0s, e0t, e0u, e0v, e0w, e0x, e0y, e0z, e10, e11, e12, e13, e14, e15, e16, e17, e18, e19, e1a, e1b, e1c, e1d, e1e, e1f, e1g, e1h, e1i, e1j, e1k, e1l, e1m, e1n, e1o, e1p, e1q, e1r, e1s, e1t, e1u, e1v, e1w, e1x, e1y, e1z, e20, e21, e22, e23, e24, e25, e26, e27, e28, e29, e2a, e2b, e2c, e2d, e2e, e2f, e2g, e2h, e2i, e2j, e2k, e2l, e2m, e2n, e2o, e2p, e2q, e2r, e2s, e2t, e2u, e2v, e2w, e2x, e2y, e2z, e30, e31, e32, e33, e34, e35, e36, e37, e38, e39, e3a, e3b, e3c, e3d, e3e, e3f, e3g, e3h, e3i, e3j, e3k, e3l, e3m, e3n, e3o, e3p, e3q, e3r, e3s, e3t, e3u, e3v, e3w, e3x, e3y, e3z, e40, e41, e42, e43, e44, e45, e46, e47, e48, e49, e4a, e4b, e4c, e4d, e4e, e4f, e4g, e4h, e4i, e4j, e4k, e4l, e4m, e4n, e4o, e4p, e4q, R.bind_ok, R.bind_ex, R.bind_bad, R.lift_some, R.noEx_ok, List.getElem?_cons_zero, List.getElem?_cons_succ, Option.bind_some, Option.map_some, Option.bind_eq_bind, id_eq, List.set_cons_zero, List.set_cons_succ, if_true, if_false, Bool.false_eq_true, reduceIte, Bool.not_true, Bool.not_false, Ex.isOmit, e4r, e4s, e4t, e4u, e4v, e4w, e4x, e4y, e4z, e50, e51, e52, e53, e54, e55, e56, e57, e58, e59, e5a, e5b, e5c, e5d, e5e, e5f, e5g, e5h, e5i, e5j, e5k, e5l, e5m, e5n, e5o, e5p, e5q, e5r, e5s, e5t, e5u, e5v, e5w, e5x, e5y, e5z, e60, e61, e62, e63, e64, e65, e66, e67, e68, e69, e6a, e6b, e6c, e6d, e6e, e6f, e6g, e6h, e6i, e6j, e6k, e6l, e6m, e6n, e6o, e6p, e6q, e6r, e6s, e6t, e6u, e6v, e6w, e6x, e6y, e6z, e70, e71, e72, e73, e74, e75, e76, e77, l1]
    rw [show (ds.map fun _ => PV.bl true) = (ds.map fun _ => true).map PV.bl from by rw [List.map_map]; rfl]
    simp (implicitDefEqProofs := false) only [e00, e01, e02, e03, e04, e05, e06, e07, e08, e09, e0a, e0b, e0c, e0d, e0e, e0f, e0g, e0h, e0i, e0j, e0k, e0l, e0m, e0n, e0o, e0p, e0q, e0r, e0s, e0t, e0u, e0v, e0w, e0x, e0y, e0z, e10, e11, e12, e13, e14, e15, e16, e17, e18, e19, e1a, e1b, e1c, e1d, e1e, e1f, e1g, e1h, e1i, e1j, e1k, e1l, e1m, e1n, e1o, e1p, e1q, e1r, e1s, e1t, e1u, e1v, e1w, e1x, e1y, e1z, e20, e21, e22, e23, e24, e25, e26, e27, e28, e29, e2a, e2b, e2c, e2d, e2e, e2f, e2g, e2h, e2i, e2j, e2k, e2l, e2m, e2n, e2o, e2p, e2q, e2r, e2s, e2t, e2u, e2v, e2w, e2x, e2y, e2z, e30, e31, e32, e33, e34, e35, e36, e37, e38, e39, e3a, e3b, e3c, e3d, e3e, e3f, e3g, e3h, e3i, e3j, e3k, e3l, e3m, e3n, e3o, e3p, e3q, e3r, e3s, e3t, e3u, e3v, e3w, e3x, e3y, e3z, e40, e41, e42, e43, e44, e45, e46, e47, e48, e49, e4a, e4b, e4c, e4d, e4e, e4f, e4g, e4h, e4i, e4j, e4k, e4l, e4m, e4n, e4o, e4p, e4q, R.bind_ok, R.bind_ex, R.bind_bad, R.lift_some, R.noEx_ok, List.getElem?_cons_zero, List.getElem?_cons_succ, Option.bind_some, Option.map_some, Option.bind_eq_bind, id_eq, List.set_cons_zero, List.set_cons_succ, if_true, if_false, Bool.false_eq_true, reduceIte, Bool.not_true, Bool.not_false, Ex.isOmit, e4r, e4s, e4t, e4u, e4v, e4w, e4x, e4y, e4z, e50, e51, e52, e53, e54, e55, e56, e57, e58, e59, e5a, e5b, e5c, e5d, e5e, e5f, e5g, e5h, e5i, e5j, e5k, e5l, e5m, e5n, e5o, e5p, e5q, e5r, e5s, e5t, e5u, e5v, e5w, e5x, e5y, e5z, e60, e61, e62, e63, e64, e65, e66, e67, e68, e69, e6a, e6b, e6c, e6d, e6e, e6f, e6g, e6h, e6i, e6j, e6k, e6l, e6m, e6n, e6o, e6p, e6q, e6r, e6s, e6t, e6u, e6v, e6w, e6x, e6y, e6z, e70, e71, e72, e73, e74, e75, e76, e77, e4q, all_map ds (fun _ => true) (fun _ _ => rfl)]
  · intro a ha
    simp (implicitDefEqProofs := false) only [e00, e01, e02, e03, e04, e05, e06, e07, e08, e09, e0a, e0b, e0c, e0d, e0e, e0f, e0g, e0h, e0i, e0j, e0k, e0l, e0m, e0n, e0o, e0p, e0q, e0r, e0s, e0t, e0u, e0v, e0w, e0x, e0y, e0z, e10, e11, e12, e13, e14, e15, e16, e17, e18, e19, e1a, e1b, e1c, e1d, e1e, e1f, e1g, e1h, e1i, e1j, e1k, e1l, e1m, e1n, e1o, e1p, e1q, e1r, e1s, e1t, e1u, e1v, e1w, e1x, e1y, e1z, e20, e21, e22, e23, e24, e25, e26, e27, e28, e29, e2a, e2b, e2c, e2d, e2e, e2f, e2g, e2h, e2i, e2j, e2k, e2l, e2m, e2n, e2o, e2p, e2q, e2r, e2s, e2t, e2u, e2v, e2w, e2x, e2y, e2z, e30, e31, e32, e33, e34, e35, e36, e37, e38, e39, e3a, e3b, e3c, e3d, e3e, e3f, e3g, e3h, e3i, e3j, e3k, e3l, e3m, e3n, e3o, e3p, e3q, e3r, e3s, e3t, e3u, e3v, e3w, e3x, e3y, e3z, e40, e41, e42, e43, e44, e45, e46, e47, e48, e49, e4a, e4b, e4c, e4d, e4e, e4f, e4g, e4h, e4i, e4j, e4k, e4l, e4m, e4n, e4o, e4p, e4q, R.bind_ok, R.bind_ex, R.bind_bad, R.lift_some, R.noEx_ok, List.getElem?_cons_zero, List.getElem?_cons_succ, Option.bind_some, Option.map_some, Option.bind_eq_bind, id_eq, List.set_cons_zero, List.set_cons_succ, if_true, if_false, Bool.false_eq_true, reduceIte, Bool.not_true, Bool.not_false, Ex.isOmit, e4r, e4s, e4t, e4u, e4v, e4w, e4x, e4y, e4z, e50, e51, e52, e53, e54, e55, e56, e57, e58, e59, e5a, e5b, e5c, e5d, e5e, e5f, e5g, e5h, e5i, e5j, e5k, e5l, e5m, e5n, e5o, e5p, e5q, e5r, e5s, e5t, e5u, e5v, e5w, e5x, e5y, e5z, e60, e61, e62, e63, e64, e65, e66, e67, e68, e69, e6a, e6b, e6c, e6d, e6e, e6f, e6g, e6h, e6i, e6j, e6k, e6l, e6m, e6n, e6o, e6p, e6q, e6r, e6s, e6t, e6u, e6v, e6w, e6x, e6y, e6z, e70, e71, e72, e73, e74, e75, e76, e77, is_deed (N := N) (d := d) (st := st) many a (hd a ha)]
theorem need_script (many : Nat) (ds : List (Str × Nat)) (hl : ds.length ≤ 6) (hd : ∀ x ∈ ds, deedOk many x) : RU N (d + 4) 6 [.int many, .tup (ds.map dV)] st = .ok .non st := by
  rw [RU, u6]
  simp (implicitDefEqProofs := false) only [e00, e01, e02, e03, e04, e05, e06, e07, e08, e09, e0a, e0b, e0c, e0d, e0e, e0f, e0g, e0h, e0i, e0j, e0k, e0l, e0m, e0n, e0o, e0p, e0q, e0r, e0s, e0t, e0u, e0v, e0w, e0x, e0y, e0z, e10, e11, e12, e13, e14, e15, e16, e17, e18, e19, e1a, e1b, e1c, e1d, e1e, e1f, e1g, e1h, e1i, e1j, e1k, e1l, e1m, e1n, e1o, e1p, e1q, e1r, e1s, e1t, e1u, e1v, e1w, e1x, e1y, e1z, e20, e21, e22, e23, e24, e25, e26, e27, e28, e29, e2a, e2b, e2c, e2d, e2e, e2f, e2g, e2h, e2i, e2j, e2k, e2l, e2m, e2n, e2o, e2p, e2q, e2r, e2s, e2t, e2u, e2v, e2w, e2x, e2y, e2z, e30, e31, e32, e33, e34, e35, e36, e37, e38, e39, e3a, e3b, e3c, e3d, e3e, e3f, e3g, e3h, e3i, e3j, e3k, e3l, e3m, e3n, e3o, e3p, e3q, e3r, e3s, e3t, e3u, e3v, e3w, e3x, e3y, e3z, e40, e41, e42, e43, e44, e45, e46, e47, e48, e49, e4a, e4b, e4c, e4d, e4e, e4f, e4g, e4h, e4i, e4j, e4k, e4l, e4m, e4n, e4o, e4p, e4q, R.bind_ok, R.bind_ex, R.bind_bad, R.lift_some, R.noEx_ok, List.getElem?_cons_zero, List.getElem?_cons_succ, Option.bind_some, Option.map_some, Option.bind_eq_bind, id_eq, List.set_cons_zero, List.set_cons_succ, if_true, if_false, Bool.false_eq_true, reduceIte, Bool.not_true, Bool.not_false, Ex.isOmit, e4r, e4s, e4t, e4u, e4v, e4w, e4x, e4y, e4z, e50, e51, e52, e53, e54, e55, e56, e57, e58, e59, e5a, e5b, e5c, e5d, e5e, e5f, e5g, e5h, e5i, e5j, e5k, e5l, e5m, e5n, e5o, e5p, e5q, e5r, e5s, e5t, e5u, e5v, e5w, e5x, e5y, e5z, e60, e61, e62, e63, e64, e65, e66, e67, e68, e69, e6a, e6b, e6c, e6d, e6e, e6f, e6g, e6h, e6i, e6j, e6k, e6l, e6m, e6n, e6o, e6p, e6q, e6r, e6s, e6t, e6u, e6v, e6w, e6x, e6y, e6z, e70, e71, e72, e73, e74, e75, e76, e77, b6, is_good_script (N := N) (d := d) (st := st) many ds hl hd]

theorem lines_of (many : Nat) (ds : List (Str × Nat)) (hm : 2 ≤ many ∧ many ≤ 4) (hl : ds.length ≤ 6) (hd : ∀ x ∈ ds, deedOk many x) : RU N (d + 1) 7 [.int many, .tup (ds.map dV)] st = .ok (.lst ((linesD many ds).map .str)) st := by
  have hb := big_lt
  have mo := manyOk hm
  have z1 : (Str.empty ++ ("tiles " : Str)).length ≤ big := by decide +kernel
  have z2 : (lineM many).length ≤ big := by have := mo.len; omega
  rw [RU, u7]
  simp (implicitDefEqProofs := false) only [e00, e01, e02, e03, e04, e05, e06, e07, e08, e09, e0a, e0b, e0c, e0d, e0e, e0f, e0g, e0h, e0i, e0j, e0k, e0l, e0m, e0n, e0o, e0p, e0q, e0r, e0s, e0t, e0u, e0v, e0w, e0x, e0y, e0z, e10, e11, e12, e13, e14, e15, e16, e17, e18, e19, e1a, e1b, e1c, e1d, e1e, e1f, e1g, e1h, e1i, e1j, e1k, e1l, e1m, e1n, e1o, e1p, e1q, e1r, e1s, e1t, e1u, e1v, e1w, e1x, e1y, e1z, e20, e21, e22, e23, e24, e25, e26, e27, e28, e29, e2a, e2b, e2c, e2d, e2e, e2f, e2g, e2h, e2i, e2j, e2k, e2l, e2m, e2n, e2o, e2p, e2q, e2r, e2s, e2t, e2u, e2v, e2w, e2x, e2y, e2z, e30, e31, e32, e33, e34, e35, e36, e37, e38, e39, e3a, e3b, e3c, e3d, e3e, e3f, e3g, e3h, e3i, e3j, e3k, e3l, e3m, e3n, e3o, e3p, e3q, e3r, e3s, e3t, e3u, e3v, e3w, e3x, e3y, e3z, e40, e41, e42, e43, e44, e45, e46, e47, e48, e49, e4a, e4b, e4c, e4d, e4e, e4f, e4g, e4h, e4i, e4j, e4k, e4l, e4m, e4n, e4o, e4p, e4q, R.bind_ok, R.bind_ex, R.bind_bad, R.lift_some, R.noEx_ok, List.getElem?_cons_zero, List.getElem?_cons_succ, Option.bind_some, Option.map_some, Option.bind_eq_bind, id_eq, List.set_cons_zero, List.set_cons_succ, if_true, if_false, Bool.false_eq_true, reduceIte, Bool.not_true, Bool.not_false, Ex.isOmit, e4r, e4s, e4t, e4u, e4v, e4w, e4x, e4y, e4z, e50, e51, e52, e53, e54, e55, e56, e57, e58, e59, e5a, e5b, e5c, e5d, e5e, e5f, e5g, e5h, e5i, e5j, e5k, e5l, e5m, e5n, e5o, e5p, e5q, e5r, e5s, e5t, e5u, e5v, e5w, e5x, e5y, e5z, e60, e61, e62, e63, e64, e65, e66, e67, e68, e69, e6a, e6b, e6c, e6d, e6e, e6f, e6g, e6h, e6i, e6j, e6k, e6l, e6m, e6n, e6o, e6p, e6q, e6r, e6s, e6t, e6u, e6v, e6w, e6x, e6y, e6z, e70, e71, e72, e73, e74, e75, e76, e77, b7, z1, fmt_num mo.lg, z2, mo.fs]
  rw [compR_map ds dV (fun x => PV.str (lineD x))]
  · have l1 : (ds.map fun x => PV.str (lineD x)).length ≤ big := by rw [List.length_map]; omega
    simp (implicitDefEqProofs := false) only [e00, e01, e02, e03, e04, e05, e06, e07, e08, e09, e0a, e0b, e0c, e0d, e0e, e0f, e0g, e0h, e0i, e0j, e0k, e0l, e0m, e0n, e0o, e0p, e0q, e0r, e0s, e0t, e0u, e0v, e0w, e0x, e0y, e0z, e10, e11, e12, e13, e14, e15, e16, e17, e18, e19, e1a, e1b, e1c, e1d, e1e, e1f, e1g, e1h, e1i, e1j, e1k, e1l, e1m, e1n, e1o, e1p, e1q, e1r, e1s, e1t, e1u, e1v, e1w, e1x, e1y, e1z, e20, e21, e22, e23, e24, e25, e26, e27, e28, e29, e2a, e2b, e2c, e2d, e2e, e2f, e2g, e2h, e2i, e2j, e2k, e2l, e2m, e2n, e2o, e2p, e2q, e2r, e2s, e2t, e2u, e2v, e2w, e2x, e2y, e2z, e30, e31, e32, e33, e34, e35, e36, e37, e38, e39, e3a, e3b, e3c, e3d, e3e, e3f, e3g, e3h, e3i, e3j, e3k, e3l, e3m, e3n, e3o, e3p, e3q, e3r, e3s, e3t, e3u, e3v, e3w, e3x, e3y, e3z, e40, e41, e42, e43, e44, e45, e46, e47, e48, e49, e4a, e4b, e4c, e4d, e4e, e4f, e4g, e4h, e4i, e4j, e4k, e4l, e4m, e4n, e4o, e4p, e4q, R.bind_ok, R.bind_ex, R.bind_bad, R.lift_some, R.noEx_ok, List.getElem?_cons_zero, List.getElem?_cons_succ, Option.bind_some, Option.map_some, Option.bind_eq_bind, id_eq, List.set_cons_zero, List.set_cons_succ, if_true, if_false, Bool.false_eq_true, reduceIte, Bool.not_true, Bool.not_false, Ex.isOmit, e4r, e4s, e4t, e4u, e4v, e4w, e4x, e4y, e4z, e50, e51, e52, e53, e54, e55, e56, e57, e58, e59, e5a, e5b, e5c, e5d, e5e, e5f, e5g, e5h, e5i, e5j, e5k, e5l, e5m, e5n, e5o, e5p, e5q, e5r, e5s, e5t, e5u, e5v, e5w, e5x, e5y, e5z, e60, e61, e62, e63, e64, e65, e66, e67, e68, e69, e6a, e6b, e6c, e6d, e6e, e6f, e6g, e6h, e6i, e6j, e6k, e6l, e6m, e6n, e6o, e6p, e6q, e6r, e6s, e6t, e6u, e6v, e6w, e6x, e6y, e6z, e70, e71, e72, e73, e74, e75, e76, e77, l1]
    have ad : binV st .Add (.lst [.str (lineM many)]) (.lst (ds.map fun x => PV.str (lineD x))) = some (.lst ((linesD many ds).map .str)) := by
      show (if ([PV.str (lineM many)] : List PV).length + (ds.map fun x => PV.str (lineD x)).length ≤ big then some (PV.lst ([PV.str (lineM many)] ++ ds.map fun x => PV.str (lineD x))) else none) = _
      rw [List.length_map, if_pos (by show 1 + ds.length ≤ big; omega)]
      unfold linesD
      rw [List.map_cons, List.map_map]
      rfl
    simp (implicitDefEqProofs := false) only [e00, e01, e02, e03, e04, e05, e06, e07, e08, e09, e0a, e0b, e0c, e0d, e0e, e0f, e0g, e0h, e0i, e0j, e0k, e0l, e0m, e0n, e0o, e0p, e0q, e0r, e0s, e0t, e0u, e0v, e0w, e0x, e0y, e0z, e10, e11, e12, e13, e14, e15, e16, e17, e18, e19, e1a, e1b, e1c, e1d, e1e, e1f, e1g, e1h, e1i, e1j, e1k, e1l, e1m, e1n, e1o, e1p, e1q, e1r, e1s, e1t, e1u, e1v, e1w, e1x, e1y, e1z, e20, e21, e22, e23, e24, e25, e26, e27, e28, e29, e2a, e2b, e2c, e2d, e2e, e2f, e2g, e2h, e2i, e2j, e2k, e2l, e2m, e2n, e2o, e2p, e2q, e2r, e2s, e2t, e2u, e2v, e2w, e2x, e2y, e2z, e30, e31, e32, e33, e34, e35, e36, e37, e38, e39, e3a, e3b, e3c, e3d, e3e, e3f, e3g, e3h, e3i, e3j, e3k, e3l, e3m, e3n, e3o, e3p, e3q, e3r, e3s, e3t, e3u, e3v, e3w, e3x, e3y, e3z, e40, e41, e42, e43, e44, e45, e46, e47, e48, e49, e4a, e4b, e4c, e4d, e4e, e4f, e4g, e4h, e4i, e4j, e4k, e4l, e4m, e4n, e4o, e4p, e4q, R.bind_ok, R.bind_ex, R.bind_bad, R.lift_some, R.noEx_ok, List.getElem?_cons_zero, List.getElem?_cons_succ, Option.bind_some, Option.map_some, Option.bind_eq_bind, id_eq, List.set_cons_zero, List.set_cons_succ, if_true, if_false, Bool.false_eq_true, reduceIte, Bool.not_true, Bool.not_false, Ex.isOmit, e4r, e4s, e4t, e4u, e4v, e4w, e4x, e4y, e4z, e50, e51, e52, e53, e54, e55, e56, e57, e58, e59, e5a, e5b, e5c, e5d, e5e, e5f, e5g, e5h, e5i, e5j, e5k, e5l, e5m, e5n, e5o, e5p, e5q, e5r, e5s, e5t, e5u, e5v, e5w, e5x, e5y, e5z, e60, e61, e62, e63, e64, e65, e66, e67, e68, e69, e6a, e6b, e6c, e6d, e6e, e6f, e6g, e6h, e6i, e6j, e6k, e6l, e6m, e6n, e6o, e6p, e6q, e6r, e6s, e6t, e6u, e6v, e6w, e6x, e6y, e6z, e70, e71, e72, e73, e74, e75, e76, e77, ad]
  · intro x hx
    have lo := lineOk hm.2 (hd x hx)
    have y1 : x.1.length ≤ big := by have := lo.w; omega
    have y2 : (x.1 ++ (" " : Str)).length ≤ big := by have := lo.w1; omega
    have y3 : ((x.1 ++ (" " : Str)) ++ numS x.2).length ≤ big := by have : (lineD x).length ≤ 20 := lo.len; exact Nat.le_trans this (by decide)
    simp (implicitDefEqProofs := false) only [e00, e01, e02, e03, e04, e05, e06, e07, e08, e09, e0a, e0b, e0c, e0d, e0e, e0f, e0g, e0h, e0i, e0j, e0k, e0l, e0m, e0n, e0o, e0p, e0q, e0r, e0s, e0t, e0u, e0v, e0w, e0x, e0y, e0z, e10, e11, e12, e13, e14, e15, e16, e17, e18, e19, e1a, e1b, e1c, e1d, e1e, e1f, e1g, e1h, e1i, e1j, e1k, e1l, e1m, e1n, e1o, e1p, e1q, e1r, e1s, e1t, e1u, e1v, e1w, e1x, e1y, e1z, e20, e21, e22, e23, e24, e25, e26, e27, e28, e29, e2a, e2b, e2c, e2d, e2e, e2f, e2g, e2h, e2i, e2j, e2k, e2l, e2m, e2n, e2o, e2p, e2q, e2r, e2s, e2t, e2u, e2v, e2w, e2x, e2y, e2z, e30, e31, e32, e33, e34, e35, e36, e37, e38, e39, e3a, e3b, e3c, e3d, e3e, e3f, e3g, e3h, e3i, e3j, e3k, e3l, e3m, e3n, e3o, e3p, e3q, e3r, e3s, e3t, e3u, e3v, e3w, e3x, e3y, e3z, e40, e41, e42, e43, e44, e45, e46, e47, e48, e49, e4a, e4b, e4c, e4d, e4e, e4f, e4g, e4h, e4i, e4j, e4k, e4l, e4m, e4n, e4o, e4p, e4q, R.bind_ok, R.bind_ex, R.bind_bad, R.lift_some, R.noEx_ok, List.getElem?_cons_zero, List.getElem?_cons_succ, Option.bind_some, Option.map_some, Option.bind_eq_bind, id_eq, List.set_cons_zero, List.set_cons_succ, if_true, if_false, Bool.false_eq_true, reduceIte, Bool.not_true, Bool.not_false, Ex.isOmit, e4r, e4s, e4t, e4u, e4v, e4w, e4x, e4y, e4z, e50, e51, e52, e53, e54, e55, e56, e57, e58, e59, e5a, e5b, e5c, e5d, e5e, e5f, e5g, e5h, e5i, e5j, e5k, e5l, e5m, e5n, e5o, e5p, e5q, e5r, e5s, e5t, e5u, e5v, e5w, e5x, e5y, e5z, e60, e61, e62, e63, e64, e65, e66, e67, e68, e69, e6a, e6b, e6c, e6d, e6e, e6f, e6g, e6h, e6i, e6j, e6k, e6l, e6m, e6n, e6o, e6p, e6q, e6r, e6s, e6t, e6u, e6v, e6w, e6x, e6y, e6z, e70, e71, e72, e73, e74, e75, e76, e77, dV, fmt_str (Nat.le_trans lo.w (by decide)), lo.e0, y1, y2, fmt_num lo.lg, y3, lineD]
theorem gLWS : lws.map PV.str = [.str ("tiles 2" : Str), .str ("tiles 3" : Str), .str ("tiles 4" : Str)] := rfl
theorem gTWS : tws.map PV.str = [.str ("0" : Str), .str ("1" : Str), .str ("2" : Str), .str ("3" : Str)] := rfl
theorem many_in_m (many : Nat) (hm : 2 ≤ many ∧ many ≤ 4) : RU N (d + 1) 8 [.str (lineM many)] st = .ok (.int many) st := by
  have mo := manyOk hm
  have c : cmpV st .In (.str (lineM many)) (.tup [.str ("tiles 2" : Str), .str ("tiles 3" : Str), .str ("tiles 4" : Str)]) = some true := by rw [← gLWS, in_strs, mo.inM]
  rw [RU, u8]
  simp (implicitDefEqProofs := false) only [e00, e01, e02, e03, e04, e05, e06, e07, e08, e09, e0a, e0b, e0c, e0d, e0e, e0f, e0g, e0h, e0i, e0j, e0k, e0l, e0m, e0n, e0o, e0p, e0q, e0r, e0s, e0t, e0u, e0v, e0w, e0x, e0y, e0z, e10, e11, e12, e13, e14, e15, e16, e17, e18, e19, e1a, e1b, e1c, e1d, e1e, e1f, e1g, e1h, e1i, e1j, e1k, e1l, e1m, e1n, e1o, e1p, e1q, e1r, e1s, e1t, e1u, e1v, e1w, e1x, e1y, e1z, e20, e21, e22, e23, e24, e25, e26, e27, e28, e29, e2a, e2b, e2c, e2d, e2e, e2f, e2g, e2h, e2i, e2j, e2k, e2l, e2m, e2n, e2o, e2p, e2q, e2r, e2s, e2t, e2u, e2v, e2w, e2x, e2y, e2z, e30, e31, e32, e33, e34, e35, e36, e37, e38, e39, e3a, e3b, e3c, e3d, e3e, e3f, e3g, e3h, e3i, e3j, e3k, e3l, e3m, e3n, e3o, e3p, e3q, e3r, e3s, e3t, e3u, e3v, e3w, e3x, e3y, e3z, e40, e41, e42, e43, e44, e45, e46, e47, e48, e49, e4a, e4b, e4c, e4d, e4e, e4f, e4g, e4h, e4i, e4j, e4k, e4l, e4m, e4n, e4o, e4p, e4q, R.bind_ok, R.bind_ex, R.bind_bad, R.lift_some, R.noEx_ok, List.getElem?_cons_zero, List.getElem?_cons_succ, Option.bind_some, Option.map_some, Option.bind_eq_bind, id_eq, List.set_cons_zero, List.set_cons_succ, if_true, if_false, Bool.false_eq_true, reduceIte, Bool.not_true, Bool.not_false, Ex.isOmit, e4r, e4s, e4t, e4u, e4v, e4w, e4x, e4y, e4z, e50, e51, e52, e53, e54, e55, e56, e57, e58, e59, e5a, e5b, e5c, e5d, e5e, e5f, e5g, e5h, e5i, e5j, e5k, e5l, e5m, e5n, e5o, e5p, e5q, e5r, e5s, e5t, e5u, e5v, e5w, e5x, e5y, e5z, e60, e61, e62, e63, e64, e65, e66, e67, e68, e69, e6a, e6b, e6c, e6d, e6e, e6f, e6g, e6h, e6i, e6j, e6k, e6l, e6m, e6n, e6o, e6p, e6q, e6r, e6s, e6t, e6u, e6v, e6w, e6x, e6y, e6z, e70, e71, e72, e73, e74, e75, e76, e77, b8, c, mo.ix, int_num mo.num mo.nlen]
theorem many_in_d {many : Nat} (hm : many ≤ 4) (x : Str × Nat) (hx : deedOk many x) : RU N (d + 1) 8 [.str (lineD x)] st = .ok .non st := by
  have lo := lineOk hm hx
  have c : cmpV st .In (.str (lineD x)) (.tup [.str ("tiles 2" : Str), .str ("tiles 3" : Str), .str ("tiles 4" : Str)]) = some false := by rw [← gLWS, in_strs, lo.notM]
  rw [RU, u8]
  simp (implicitDefEqProofs := false) only [e00, e01, e02, e03, e04, e05, e06, e07, e08, e09, e0a, e0b, e0c, e0d, e0e, e0f, e0g, e0h, e0i, e0j, e0k, e0l, e0m, e0n, e0o, e0p, e0q, e0r, e0s, e0t, e0u, e0v, e0w, e0x, e0y, e0z, e10, e11, e12, e13, e14, e15, e16, e17, e18, e19, e1a, e1b, e1c, e1d, e1e, e1f, e1g, e1h, e1i, e1j, e1k, e1l, e1m, e1n, e1o, e1p, e1q, e1r, e1s, e1t, e1u, e1v, e1w, e1x, e1y, e1z, e20, e21, e22, e23, e24, e25, e26, e27, e28, e29, e2a, e2b, e2c, e2d, e2e, e2f, e2g, e2h, e2i, e2j, e2k, e2l, e2m, e2n, e2o, e2p, e2q, e2r, e2s, e2t, e2u, e2v, e2w, e2x, e2y, e2z, e30, e31, e32, e33, e34, e35, e36, e37, e38, e39, e3a, e3b, e3c, e3d, e3e, e3f, e3g, e3h, e3i, e3j, e3k, e3l, e3m, e3n, e3o, e3p, e3q, e3r, e3s, e3t, e3u, e3v, e3w, e3x, e3y, e3z, e40, e41, e42, e43, e44, e45, e46, e47, e48, e49, e4a, e4b, e4c, e4d, e4e, e4f, e4g, e4h, e4i, e4j, e4k, e4l, e4m, e4n, e4o, e4p, e4q, R.bind_ok, R.bind_ex, R.bind_bad, R.lift_some, R.noEx_ok, List.getElem?_cons_zero, List.getElem?_cons_succ, Option.bind_some, Option.map_some, Option.bind_eq_bind, id_eq, List.set_cons_zero, List.set_cons_succ, if_true, if_false, Bool.false_eq_true, reduceIte, Bool.not_true, Bool.not_false, Ex.isOmit, e4r, e4s, e4t, e4u, e4v, e4w, e4x, e4y, e4z, e50, e51, e52, e53, e54, e55, e56, e57, e58, e59, e5a, e5b, e5c, e5d, e5e, e5f, e5g, e5h, e5i, e5j, e5k, e5l, e5m, e5n, e5o, e5p, e5q, e5r, e5s, e5t, e5u, e5v, e5w, e5x, e5y, e5z, e60, e61, e62, e63, e64, e65, e66, e67, e68, e69, e6a, e6b, e6c, e6d, e6e, e6f, e6g, e6h, e6i, e6j, e6k, e6l, e6m, e6n, e6o, e6p, e6q, e6r, e6s, e6t, e6u, e6v, e6w, e6x, e6y, e6z, e70, e71, e72, e73, e74, e75, e76, e77, b8, c]
theorem notin_strs {st : Sto} (w : Str) (ws : List Str) : cmpV st .NotIn (.str w) (.tup (ws.map .str)) = some (!ws.any (· == w)) := by
  show (if true && (dats (ws.map .str) && decide (deps (ws.map .str) ≤ 60)) then some (!((ws.map PV.str).any fun z => z.eqv (.str w))) else none) = _
  rw [dats_str, deps_str, any_str]
  rfl
theorem deed_in_d {many : Nat} (hm : many ≤ 4) (x : Str × Nat) (hx : deedOk many x) : RU N (d + 1) 9 [.str (lineD x)] st = .ok (dV x) st := by
  have lo := lineOk hm hx
  have c1 : cmpV st .NotIn (.str x.1) (.tup (words.map .str)) = some false := by rw [notin_strs, word_in hx.1]; rfl
  have c2 : cmpV st .NotIn (.str (numS x.2)) (.tup [.str ("0" : Str), .str ("1" : Str), .str ("2" : Str), .str ("3" : Str)]) = some false := by rw [← gTWS, notin_strs, lo.tw]; rfl
  have i0 : ixV st (.lst [.str x.1, .str (numS x.2)]) (.int 0) = some (.str x.1) := rfl
  have i1 : ixV st (.lst [.str x.1, .str (numS x.2)]) (.int 1) = some (.str (numS x.2)) := rfl
  have c0 : cmpV st .NotEq (.int ((([.str x.1, .str (numS x.2)] : List PV).length : Nat) : Int)) (.int 2) = some false := rfl
  rw [RU, u9]
  simp (implicitDefEqProofs := false) only [e00, e01, e02, e03, e04, e05, e06, e07, e08, e09, e0a, e0b, e0c, e0d, e0e, e0f, e0g, e0h, e0i, e0j, e0k, e0l, e0m, e0n, e0o, e0p, e0q, e0r, e0s, e0t, e0u, e0v, e0w, e0x, e0y, e0z, e10, e11, e12, e13, e14, e15, e16, e17, e18, e19, e1a, e1b, e1c, e1d, e1e, e1f, e1g, e1h, e1i, e1j, e1k, e1l, e1m, e1n, e1o, e1p, e1q, e1r, e1s, e1t, e1u, e1v, e1w, e1x, e1y, e1z, e20, e21, e22, e23, e24, e25, e26, e27, e28, e29, e2a, e2b, e2c, e2d, e2e, e2f, e2g, e2h, e2i, e2j, e2k, e2l, e2m, e2n, e2o, e2p, e2q, e2r, e2s, e2t, e2u, e2v, e2w, e2x, e2y, e2z, e30, e31, e32, e33, e34, e35, e36, e37, e38, e39, e3a, e3b, e3c, e3d, e3e, e3f, e3g, e3h, e3i, e3j, e3k, e3l, e3m, e3n, e3o, e3p, e3q, e3r, e3s, e3t, e3u, e3v, e3w, e3x, e3y, e3z, e40, e41, e42, e43, e44, e45, e46, e47, e48, e49, e4a, e4b, e4c, e4d, e4e, e4f, e4g, e4h, e4i, e4j, e4k, e4l, e4m, e4n, e4o, e4p, e4q, R.bind_ok, R.bind_ex, R.bind_bad, R.lift_some, R.noEx_ok, List.getElem?_cons_zero, List.getElem?_cons_succ, Option.bind_some, Option.map_some, Option.bind_eq_bind, id_eq, List.set_cons_zero, List.set_cons_succ, if_true, if_false, Bool.false_eq_true, reduceIte, Bool.not_true, Bool.not_false, Ex.isOmit, e4r, e4s, e4t, e4u, e4v, e4w, e4x, e4y, e4z, e50, e51, e52, e53, e54, e55, e56, e57, e58, e59, e5a, e5b, e5c, e5d, e5e, e5f, e5g, e5h, e5i, e5j, e5k, e5l, e5m, e5n, e5o, e5p, e5q, e5r, e5s, e5t, e5u, e5v, e5w, e5x, e5y, e5z, e60, e61, e62, e63, e64, e65, e66, e67, e68, e69, e6a, e6b, e6c, e6d, e6e, e6f, e6g, e6h, e6i, e6j, e6k, e6l, e6m, e6n, e6o, e6p, e6q, e6r, e6s, e6t, e6u, e6v, e6w, e6x, e6y, e6z, e70, e71, e72, e73, e74, e75, e76, e77, b9, lo.splV, gWORDS, i0, i1, c0, c1, c2, int_num lo.num lo.nlen, dV]
theorem script_loop (many : Nat) (hm : 2 ≤ many ∧ many ≤ 4) (v0 v1 : Option PV) : ∀ (qs : List (Nat × Str)) (v2 v3 : Option PV), (∀ q ∈ qs, q.2 = lineM many ∨ ∃ x, deedOk many x ∧ q.2 = lineD x) → ∃ w2 w3 : Option PV,
    forR (forB (.cons (.nm 2) (.cons (.nm 3) .nil)) (evS G (RU N (d + 2)) N (.seq (.ite (.and (.cmp .Is (.call .sto 8 (.cons (.var 3) .nil)) .non) (.cmp .Is (.call .sto 9 (.cons (.var 3) .nil)) .non)) (.seq (.bot) .skip) .skip) .skip))) (qs.map fun q => PV.tup [.int (q.1 : Nat), .str q.2]) [v0, v1, v2, v3, none, none] st = .ok (.nx [v0, v1, w2, w3, none, none]) st
  | [], v2, v3, _ => ⟨v2, v3, rfl⟩
  | (k, l) :: qs, v2, v3, h => by
    obtain ⟨w2, w3, e⟩ := script_loop many hm v0 v1 qs (some (.int (k : Nat))) (some (.str l)) fun y hy => h y (List.mem_cons_of_mem _ hy)
    refine ⟨w2, w3, ?_⟩
    rw [List.map_cons, forR_cons]
    rcases h (k, l) List.mem_cons_self with q | ⟨x, hx, q⟩
    · have q : l = lineM many := q
      subst q
      simp (implicitDefEqProofs := false) only [e00, e01, e02, e03, e04, e05, e06, e07, e08, e09, e0a, e0b, e0c, e0d, e0e, e0f, e0g, e0h, e0i, e0j, e0k, e0l, e0m, e0n, e0o, e0p, e0q, e0r, e0s, e0t, e0u, e0v, e0w, e0x, e0y, e0z, e10, e11, e12, e13, e14, e15, e16, e17, e18, e19, e1a, e1b, e1c, e1d, e1e, e1f, e1g, e1h, e1i, e1j, e1k, e1l, e1m, e1n, e1o, e1p, e1q, e1r, e1s, e1t, e1u, e1v, e1w, e1x, e1y, e1z, e20, e21, e22, e23, e24, e25, e26, e27, e28, e29, e2a, e2b, e2c, e2d, e2e, e2f, e2g, e2h, e2i, e2j, e2k, e2l, e2m, e2n, e2o, e2p, e2q, e2r, e2s, e2t, e2u, e2v, e2w, e2x, e2y, e2z, e30, e31, e32, e33, e34, e35, e36, e37, e38, e39, e3a, e3b, e3c, e3d, e3e, e3f, e3g, e3h, e3i, e3j, e3k, e3l, e3m, e3n, e3o, e3p, e3q, e3r, e3s, e3t, e3u, e3v, e3w, e3x, e3y, e3z, e40, e41, e42, e43, e44, e45, e46, e47, e48, e49, e4a, e4b, e4c, e4d, e4e, e4f, e4g, e4h, e4i, e4j, e4k, e4l, e4m, e4n, e4o, e4p, e4q, R.bind_ok, R.bind_ex, R.bind_bad, R.lift_some, R.noEx_ok, List.getElem?_cons_zero, List.getElem?_cons_succ, Option.bind_some, Option.map_some, Option.bind_eq_bind, id_eq, List.set_cons_zero, List.set_cons_succ, if_true, if_false, Bool.false_eq_true, reduceIte, Bool.not_true, Bool.not_false, Ex.isOmit, e4r, e4s, e4t, e4u, e4v, e4w, e4x, e4y, e4z, e50, e51, e52, e53, e54, e55, e56, e57, e58, e59, e5a, e5b, e5c, e5d, e5e, e5f, e5g, e5h, e5i, e5j, e5k, e5l, e5m, e5n, e5o, e5p, e5q, e5r, e5s, e5t, e5u, e5v, e5w, e5x, e5y, e5z, e60, e61, e62, e63, e64, e65, e66, e67, e68, e69, e6a, e6b, e6c, e6d, e6e, e6f, e6g, e6h, e6i, e6j, e6k, e6l, e6m, e6n, e6o, e6p, e6q, e6r, e6s, e6t, e6u, e6v, e6w, e6x, e6y, e6z, e70, e71, e72, e73, e74, e75, e76, e77, many_in_m (N := N) (d := d + 1) (st := st) many hm]
      exact e
    · have q : l = lineD x := q
      subst q
      simp (implicitDefEqProofs := false) only [e00, e01, e02, e03, e04, e05, e06, e07, e08, e09, e0a, e0b, e0c, e0d, e0e, e0f, e0g, e0h, e0i, e0j, e0k, e0l, e0m, e0n, e0o, e0p, e0q, e0r, e0s, e0t, e0u, e0v, e0w, e0x, e0y, e0z, e10, e11, e12, e13, e14, e15, e16, e17, e18, e19, e1a, e1b, e1c, e1d, e1e, e1f, e1g, e1h, e1i, e1j, e1k, e1l, e1m, e1n, e1o, e1p, e1q, e1r, e1s, e1t, e1u, e1v, e1w, e1x, e1y, e1z, e20, e21, e22, e23, e24, e25, e26, e27, e28, e29, e2a, e2b, e2c, e2d, e2e, e2f, e2g, e2h, e2i, e2j, e2k, e2l, e2m, e2n, e2o, e2p, e2q, e2r, e2s, e2t, e2u, e2v, e2w, e2x, e2y, e2z, e30, e31, e32, e33, e34, e35, e36, e37, e38, e39, e3a, e3b, e3c, e3d, e3e, e3f, e3g, e3h, e3i, e3j, e3k, e3l, e3m, e3n, e3o, e3p, e3q, e3r, e3s, e3t, e3u, e3v, e3w, e3x, e3y, e3z, e40, e41, e42, e43, e44, e45, e46, e47, e48, e49, e4a, e4b, e4c, e4d, e4e, e4f, e4g, e4h, e4i, e4j, e4k, e4l, e4m, e4n, e4o, e4p, e4q, R.bind_ok, R.bind_ex, R.bind_bad, R.lift_some, R.noEx_ok, List.getElem?_cons_zero, List.getElem?_cons_succ, Option.bind_some, Option.map_some, Option.bind_eq_bind, id_eq, List.set_cons_zero, List.set_cons_succ, if_true, if_false, Bool.false_eq_true, reduceIte, Bool.not_true, Bool.not_false, Ex.isOmit, e4r, e4s, e4t, e4u, e4v, e4w, e4x, e4y, e4z, e50, e51, e52, e53, e54, e55, e56, e57, e58, e59, e5a, e5b, e5c, e5d, e5e, e5f, e5g, e5h, e5i, e5j, e5k, e5l, e5m, e5n, e5o, e5p, e5q, e5r, e5s, e5t, e5u, e5v, e5w, e5x, e5y, e5z, e60, e61, e62, e63, e64, e65, e66, e67, e68, e69, e6a, e6b, e6c, e6d, e6e, e6f, e6g, e6h, e6i, e6j, e6k, e6l, e6m, e6n, e6o, e6p, e6q, e6r, e6s, e6t, e6u, e6v, e6w, e6x, e6y, e6z, e70, e71, e72, e73, e74, e75, e76, e77, many_in_d (N := N) (d := d + 1) (st := st) hm.2 x hx, deed_in_d (N := N) (d := d + 1) (st := st) hm.2 x hx, dV]
      exact e
theorem none_in (many : Nat) (ds : List (Str × Nat)) : cmpV st .In .non (.tup (ds.map dV)) = some false := by
  have h1 : dats (ds.map dV) = true := dats_map _ _ fun _ => rfl
  have h2 : deps (ds.map dV) ≤ 60 := Nat.le_trans (deps_map _ _ 1 fun _ => Nat.le_refl _) (by decide)
  have h3 : ((ds.map dV).any fun z => z.eqv .non) = false := by
    rw [List.any_map, List.any_eq_false]
    intro x _
    show ¬ false = true
    decide
  show (if true && (dats (ds.map dV) && decide (deps (ds.map dV) ≤ 60)) then some ((ds.map dV).any fun z => z.eqv .non) else none) = _
  rw [h1, decide_eq_true h2, h3]
  rfl
theorem script_in (many : Nat) (ds : List (Str × Nat)) (hm : 2 ≤ many ∧ many ≤ 4) (hl : ds.length ≤ 6) (hd : ∀ x ∈ ds, deedOk many x) : RU N (d + 4) 10 [.str (textD many ds)] st = .ok (.tup [.int many, .tup (ds.map dV)]) st := by
  have hb := big_lt
  rw [RU, u10]
  have e0 : isiV (.str (textD many ds)) "str" = some true := rfl
  obtain ⟨w2, w3, el⟩ := script_loop (N := N) (d := d + 1) (st := st) many hm (some (.str (textD many ds))) (some (.lst ((linesD many ds).map .str))) ((List.range (linesD many ds).length).zip (linesD many ds)) none none fun q hq => by
    have h := (List.of_mem_zip hq).2
    rcases List.mem_cons.mp h with h | h
    · exact .inl h
    · obtain ⟨x, hx, e⟩ := List.mem_map.mp h
      exact .inr ⟨x, hd x hx, e.symm⟩
  have i0 : ixV st (.lst ((linesD many ds).map .str)) (.int 0) = some (.str (lineM many)) := by rw [Mi.ix_lst]; exact (atI_nat _ 0 (by unfold linesD; simp)).trans rfl
  have ct : cutG ((linesD many ds).map PV.str) (some 1) none = (ds.map lineD).map PV.str := by rw [cut_tail]; rfl
  simp (implicitDefEqProofs := false) only [e00, e01, e02, e03, e04, e05, e06, e07, e08, e09, e0a, e0b, e0c, e0d, e0e, e0f, e0g, e0h, e0i, e0j, e0k, e0l, e0m, e0n, e0o, e0p, e0q, e0r, e0s, e0t, e0u, e0v, e0w, e0x, e0y, e0z, e10, e11, e12, e13, e14, e15, e16, e17, e18, e19, e1a, e1b, e1c, e1d, e1e, e1f, e1g, e1h, e1i, e1j, e1k, e1l, e1m, e1n, e1o, e1p, e1q, e1r, e1s, e1t, e1u, e1v, e1w, e1x, e1y, e1z, e20, e21, e22, e23, e24, e25, e26, e27, e28, e29, e2a, e2b, e2c, e2d, e2e, e2f, e2g, e2h, e2i, e2j, e2k, e2l, e2m, e2n, e2o, e2p, e2q, e2r, e2s, e2t, e2u, e2v, e2w, e2x, e2y, e2z, e30, e31, e32, e33, e34, e35, e36, e37, e38, e39, e3a, e3b, e3c, e3d, e3e, e3f, e3g, e3h, e3i, e3j, e3k, e3l, e3m, e3n, e3o, e3p, e3q, e3r, e3s, e3t, e3u, e3v, e3w, e3x, e3y, e3z, e40, e41, e42, e43, e44, e45, e46, e47, e48, e49, e4a, e4b, e4c, e4d, e4e, e4f, e4g, e4h, e4i, e4j, e4k, e4l, e4m, e4n, e4o, e4p, e4q, R.bind_ok, R.bind_ex, R.bind_bad, R.lift_some, R.noEx_ok, List.getElem?_cons_zero, List.getElem?_cons_succ, Option.bind_some, Option.map_some, Option.bind_eq_bind, id_eq, List.set_cons_zero, List.set_cons_succ, if_true, if_false, Bool.false_eq_true, reduceIte, Bool.not_true, Bool.not_false, Ex.isOmit, e4r, e4s, e4t, e4u, e4v, e4w, e4x, e4y, e4z, e50, e51, e52, e53, e54, e55, e56, e57, e58, e59, e5a, e5b, e5c, e5d, e5e, e5f, e5g, e5h, e5i, e5j, e5k, e5l, e5m, e5n, e5o, e5p, e5q, e5r, e5s, e5t, e5u, e5v, e5w, e5x, e5y, e5z, e60, e61, e62, e63, e64, e65, e66, e67, e68, e69, e6a, e6b, e6c, e6d, e6e, e6f, e6g, e6h, e6i, e6j, e6k, e6l, e6m, e6n, e6o, e6p, e6q, e6r, e6s, e6t, e6u, e6v, e6w, e6x, e6y, e6z, e70, e71, e72, e73, e74, e75, e76, e77, b10, e0, split_text hm hl hd, enu_map, i0]
  rw [el]
  simp (implicitDefEqProofs := false) only [e00, e01, e02, e03, e04, e05, e06, e07, e08, e09, e0a, e0b, e0c, e0d, e0e, e0f, e0g, e0h, e0i, e0j, e0k, e0l, e0m, e0n, e0o, e0p, e0q, e0r, e0s, e0t, e0u, e0v, e0w, e0x, e0y, e0z, e10, e11, e12, e13, e14, e15, e16, e17, e18, e19, e1a, e1b, e1c, e1d, e1e, e1f, e1g, e1h, e1i, e1j, e1k, e1l, e1m, e1n, e1o, e1p, e1q, e1r, e1s, e1t, e1u, e1v, e1w, e1x, e1y, e1z, e20, e21, e22, e23, e24, e25, e26, e27, e28, e29, e2a, e2b, e2c, e2d, e2e, e2f, e2g, e2h, e2i, e2j, e2k, e2l, e2m, e2n, e2o, e2p, e2q, e2r, e2s, e2t, e2u, e2v, e2w, e2x, e2y, e2z, e30, e31, e32, e33, e34, e35, e36, e37, e38, e39, e3a, e3b, e3c, e3d, e3e, e3f, e3g, e3h, e3i, e3j, e3k, e3l, e3m, e3n, e3o, e3p, e3q, e3r, e3s, e3t, e3u, e3v, e3w, e3x, e3y, e3z, e40, e41, e42, e43, e44, e45, e46, e47, e48, e49, e4a, e4b, e4c, e4d, e4e, e4f, e4g, e4h, e4i, e4j, e4k, e4l, e4m, e4n, e4o, e4p, e4q, R.bind_ok, R.bind_ex, R.bind_bad, R.lift_some, R.noEx_ok, List.getElem?_cons_zero, List.getElem?_cons_succ, Option.bind_some, Option.map_some, Option.bind_eq_bind, id_eq, List.set_cons_zero, List.set_cons_succ, if_true, if_false, Bool.false_eq_true, reduceIte, Bool.not_true, Bool.not_false, Ex.isOmit, e4r, e4s, e4t, e4u, e4v, e4w, e4x, e4y, e4z, e50, e51, e52, e53, e54, e55, e56, e57, e58, e59, e5a, e5b, e5c, e5d, e5e, e5f, e5g, e5h, e5i, e5j, e5k, e5l, e5m, e5n, e5o, e5p, e5q, e5r, e5s, e5t, e5u, e5v, e5w, e5x, e5y, e5z, e60, e61, e62, e63, e64, e65, e66, e67, e68, e69, e6a, e6b, e6c, e6d, e6e, e6f, e6g, e6h, e6i, e6j, e6k, e6l, e6m, e6n, e6o, e6p, e6q, e6r, e6s, e6t, e6u, e6v, e6w, e6x, e6y, e6z, e70, e71, e72, e73, e74, e75, e76, e77, many_in_m (N := N) (d := d + 2) (st := st) many hm, i0, ct]
  rw [show (ds.map lineD).map PV.str = ds.map (fun x => PV.str (lineD x)) from by rw [List.map_map]; rfl, compR_map ds (fun x => PV.str (lineD x)) dV]
  · have l1 : (ds.map dV).length ≤ big := by rw [List.length_map]; omega
    simp (implicitDefEqProofs := false) only [e00, e01, e02, e03, e04, e05, e06, e07, e08, e09, e0a, e0b, e0c, e0d, e0e, e0f, e0g, e0h, e0i, e0j, e0k, e0l, e0m, e0n, e0o, e0p, e0q, e0r, e0s, e0t, e0u, e0v, e0w, e0x, e0y, e0z, e10, e11, e12, e13, e14, e15, e16, e17, e18, e19, e1a, e1b, e1c, e1d, e1e, e1f, e1g, e1h, e1i, e1j, e1k, e1l, e1m, e1n, e1o, e1p, e1q, e1r, e1s, e1t, e1u, e1v, e1w, e1x, e1y, e1z, e20, e21, e22, e23, e24, e25, e26, e27, e28, e29, e2a, e2b, e2c, e2d, e2e, e2f, e2g, e2h, e2i, e2j, e2k, e2l, e2m, e2n, e2o, e2p, e2q, e2r, e2s, e2t, e2u, e2v, e2w, e2x, e2y, e2z, e30, e31, e32, e33, e34, e35, e36, e37, e38, e39, e3a, e3b, e3c, e3d, e3e, e3f, e3g, e3h, e3i, e3j, e3k, e3l, e3m, e3n, e3o, e3p, e3q, e3r, e3s, e3t, e3u, e3v, e3w, e3x, e3y, e3z, e40, e41, e42, e43, e44, e45, e46, e47, e48, e49, e4a, e4b, e4c, e4d, e4e, e4f, e4g, e4h, e4i, e4j, e4k, e4l, e4m, e4n, e4o, e4p, e4q, R.bind_ok, R.bind_ex, R.bind_bad, R.lift_some, R.noEx_ok, List.getElem?_cons_zero, List.getElem?_cons_succ, Option.bind_some, Option.map_some, Option.bind_eq_bind, id_eq, List.set_cons_zero, List.set_cons_succ, if_true, if_false, Bool.false_eq_true, reduceIte, Bool.not_true, Bool.not_false, Ex.isOmit, e4r, e4s, e4t, e4u, e4v, e4w, e4x, e4y, e4z, e50, e51, e52, e53, e54, e55, e56, e57, e58, e59, e5a, e5b, e5c, e5d, e5e, e5f, e5g, e5h, e5i, e5j, e5k, e5l, e5m, e5n, e5o, e5p, e5q, e5r, e5s, e5t, e5u, e5v, e5w, e5x, e5y, e5z, e60, e61, e62, e63, e64, e65, e66, e67, e68, e69, e6a, e6b, e6c, e6d, e6e, e6f, e6g, e6h, e6i, e6j, e6k, e6l, e6m, e6n, e6o, e6p, e6q, e6r, e6s, e6t, e6u, e6v, e6w, e6x, e6y, e6z, e70, e71, e72, e73, e74, e75, e76, e77, l1, none_in many ds, is_good_script (N := N) (d := d) (st := st) many ds hl hd]
  · intro x hx
    simp (implicitDefEqProofs := false) only [e00, e01, e02, e03, e04, e05, e06, e07, e08, e09, e0a, e0b, e0c, e0d, e0e, e0f, e0g, e0h, e0i, e0j, e0k, e0l, e0m, e0n, e0o, e0p, e0q, e0r, e0s, e0t, e0u, e0v, e0w, e0x, e0y, e0z, e10, e11, e12, e13, e14, e15, e16, e17, e18, e19, e1a, e1b, e1c, e1d, e1e, e1f, e1g, e1h, e1i, e1j, e1k, e1l, e1m, e1n, e1o, e1p, e1q, e1r, e1s, e1t, e1u, e1v, e1w, e1x, e1y, e1z, e20, e21, e22, e23, e24, e25, e26, e27, e28, e29, e2a, e2b, e2c, e2d, e2e, e2f, e2g, e2h, e2i, e2j, e2k, e2l, e2m, e2n, e2o, e2p, e2q, e2r, e2s, e2t, e2u, e2v, e2w, e2x, e2y, e2z, e30, e31, e32, e33, e34, e35, e36, e37, e38, e39, e3a, e3b, e3c, e3d, e3e, e3f, e3g, e3h, e3i, e3j, e3k, e3l, e3m, e3n, e3o, e3p, e3q, e3r, e3s, e3t, e3u, e3v, e3w, e3x, e3y, e3z, e40, e41, e42, e43, e44, e45, e46, e47, e48, e49, e4a, e4b, e4c, e4d, e4e, e4f, e4g, e4h, e4i, e4j, e4k, e4l, e4m, e4n, e4o, e4p, e4q, R.bind_ok, R.bind_ex, R.bind_bad, R.lift_some, R.noEx_ok, List.getElem?_cons_zero, List.getElem?_cons_succ, Option.bind_some, Option.map_some, Option.bind_eq_bind, id_eq, List.set_cons_zero, List.set_cons_succ, if_true, if_false, Bool.false_eq_true, reduceIte, Bool.not_true, Bool.not_false, Ex.isOmit, e4r, e4s, e4t, e4u, e4v, e4w, e4x, e4y, e4z, e50, e51, e52, e53, e54, e55, e56, e57, e58, e59, e5a, e5b, e5c, e5d, e5e, e5f, e5g, e5h, e5i, e5j, e5k, e5l, e5m, e5n, e5o, e5p, e5q, e5r, e5s, e5t, e5u, e5v, e5w, e5x, e5y, e5z, e60, e61, e62, e63, e64, e65, e66, e67, e68, e69, e6a, e6b, e6c, e6d, e6e, e6f, e6g, e6h, e6i, e6j, e6k, e6l, e6m, e6n, e6o, e6p, e6q, e6r, e6s, e6t, e6u, e6v, e6w, e6x, e6y, e6z, e70, e71, e72, e73, e74, e75, e76, e77, deed_in_d (N := N) (d := d + 2) (st := st) hm.2 x (hd x hx)]
theorem script_text (many : Nat) (ds : List (Str × Nat)) (hm : 2 ≤ many ∧ many ≤ 4) (hl : ds.length ≤ 6) (hd : ∀ x ∈ ds, deedOk many x) : RU N (d + 5) 11 [.int many, .tup (ds.map dV)] st = .ok (.str (textD many ds)) st := by
  rw [RU, u11]
  simp (implicitDefEqProofs := false) only [e00, e01, e02, e03, e04, e05, e06, e07, e08, e09, e0a, e0b, e0c, e0d, e0e, e0f, e0g, e0h, e0i, e0j, e0k, e0l, e0m, e0n, e0o, e0p, e0q, e0r, e0s, e0t, e0u, e0v, e0w, e0x, e0y, e0z, e10, e11, e12, e13, e14, e15, e16, e17, e18, e19, e1a, e1b, e1c, e1d, e1e, e1f, e1g, e1h, e1i, e1j, e1k, e1l, e1m, e1n, e1o, e1p, e1q, e1r, e1s, e1t, e1u, e1v, e1w, e1x, e1y, e1z, e20, e21, e22, e23, e24, e25, e26, e27, e28, e29, e2a, e2b, e2c, e2d, e2e, e2f, e2g, e2h, e2i, e2j, e2k, e2l, e2m, e2n, e2o, e2p, e2q, e2r, e2s, e2t, e2u, e2v, e2w, e2x, e2y, e2z, e30, e31, e32, e33, e34, e35, e36, e37, e38, e39, e3a, e3b, e3c, e3d, e3e, e3f, e3g, e3h, e3i, e3j, e3k, e3l, e3m, e3n, e3o, e3p, e3q, e3r, e3s, e3t, e3u, e3v, e3w, e3x, e3y, e3z, e40, e41, e42, e43, e44, e45, e46, e47, e48, e49, e4a, e4b, e4c, e4d, e4e, e4f, e4g, e4h, e4i, e4j, e4k, e4l, e4m, e4n, e4o, e4p, e4q, R.bind_ok, R.bind_ex, R.bind_bad, R.lift_some, R.noEx_ok, List.getElem?_cons_zero, List.getElem?_cons_succ, Option.bind_some, Option.map_some, Option.bind_eq_bind, id_eq, List.set_cons_zero, List.set_cons_succ, if_true, if_false, Bool.false_eq_true, reduceIte, Bool.not_true, Bool.not_false, Ex.isOmit, e4r, e4s, e4t, e4u, e4v, e4w, e4x, e4y, e4z, e50, e51, e52, e53, e54, e55, e56, e57, e58, e59, e5a, e5b, e5c, e5d, e5e, e5f, e5g, e5h, e5i, e5j, e5k, e5l, e5m, e5n, e5o, e5p, e5q, e5r, e5s, e5t, e5u, e5v, e5w, e5x, e5y, e5z, e60, e61, e62, e63, e64, e65, e66, e67, e68, e69, e6a, e6b, e6c, e6d, e6e, e6f, e6g, e6h, e6i, e6j, e6k, e6l, e6m, e6n, e6o, e6p, e6q, e6r, e6s, e6t, e6u, e6v, e6w, e6x, e6y, e6z, e70, e71, e72, e73, e74, e75, e76, e77, b11, need_many (N := N) (d := d + 2) (st := st) many hm, need_script (N := N) (d := d) (st := st) many ds hl hd, lines_of (N := N) (d := d + 3) (st := st) many ds hm hl hd, join_text hm hl hd]
theorem read_script (many : Nat) (ds : List (Str × Nat)) (hm : 2 ≤ many ∧ many ≤ 4) (hl : ds.length ≤ 6) (hd : ∀ x ∈ ds, deedOk many x) : RU N (d + 5) 12 [.str (textD many ds)] st = .ok (.tup [.int many, .tup (ds.map dV)]) st := by
  rw [RU, u12]
  simp (implicitDefEqProofs := false) only [e00, e01, e02, e03, e04, e05, e06, e07, e08, e09, e0a, e0b, e0c, e0d, e0e, e0f, e0g, e0h, e0i, e0j, e0k, e0l, e0m, e0n, e0o, e0p, e0q, e0r, e0s, e0t, e0u, e0v, e0w, e0x, e0y, e0z, e10, e11, e12, e13, e14, e15, e16, e17, e18, e19, e1a, e1b, e1c, e1d, e1e, e1f, e1g, e1h, e1i, e1j, e1k, e1l, e1m, e1n, e1o, e1p, e1q, e1r, e1s, e1t, e1u, e1v, e1w, e1x, e1y, e1z, e20, e21, e22, e23, e24, e25, e26, e27, e28, e29, e2a, e2b, e2c, e2d, e2e, e2f, e2g, e2h, e2i, e2j, e2k, e2l, e2m, e2n, e2o, e2p, e2q, e2r, e2s, e2t, e2u, e2v, e2w, e2x, e2y, e2z, e30, e31, e32, e33, e34, e35, e36, e37, e38, e39, e3a, e3b, e3c, e3d, e3e, e3f, e3g, e3h, e3i, e3j, e3k, e3l, e3m, e3n, e3o, e3p, e3q, e3r, e3s, e3t, e3u, e3v, e3w, e3x, e3y, e3z, e40, e41, e42, e43, e44, e45, e46, e47, e48, e49, e4a, e4b, e4c, e4d, e4e, e4f, e4g, e4h, e4i, e4j, e4k, e4l, e4m, e4n, e4o, e4p, e4q, R.bind_ok, R.bind_ex, R.bind_bad, R.lift_some, R.noEx_ok, List.getElem?_cons_zero, List.getElem?_cons_succ, Option.bind_some, Option.map_some, Option.bind_eq_bind, id_eq, List.set_cons_zero, List.set_cons_succ, if_true, if_false, Bool.false_eq_true, reduceIte, Bool.not_true, Bool.not_false, Ex.isOmit, e4r, e4s, e4t, e4u, e4v, e4w, e4x, e4y, e4z, e50, e51, e52, e53, e54, e55, e56, e57, e58, e59, e5a, e5b, e5c, e5d, e5e, e5f, e5g, e5h, e5i, e5j, e5k, e5l, e5m, e5n, e5o, e5p, e5q, e5r, e5s, e5t, e5u, e5v, e5w, e5x, e5y, e5z, e60, e61, e62, e63, e64, e65, e66, e67, e68, e69, e6a, e6b, e6c, e6d, e6e, e6f, e6g, e6h, e6i, e6j, e6k, e6l, e6m, e6n, e6o, e6p, e6q, e6r, e6s, e6t, e6u, e6v, e6w, e6x, e6y, e6z, e70, e71, e72, e73, e74, e75, e76, e77, b12, script_in (N := N) (d := d) (st := st) many ds hm hl hd]
theorem law_text (many : Nat) (ds : List (Str × Nat)) (hm : 2 ≤ many ∧ many ≤ 4) (hl : ds.length ≤ 6) (hd : ∀ x ∈ ds, deedOk many x) : RU N (d + 1) 17 [.int many, .tup (ds.map dV)] st = .ok (.str (textD many ds)) st := by
  have hb := big_lt
  have mo := manyOk hm
  have z1 : ("tiles " : Str).length + (numS many).length ≤ 1000 := by have := mo.nlen; have : ("tiles " : Str).length = 6 := (by decide +kernel); omega
  rw [RU, u17]
  simp (implicitDefEqProofs := false) only [e00, e01, e02, e03, e04, e05, e06, e07, e08, e09, e0a, e0b, e0c, e0d, e0e, e0f, e0g, e0h, e0i, e0j, e0k, e0l, e0m, e0n, e0o, e0p, e0q, e0r, e0s, e0t, e0u, e0v, e0w, e0x, e0y, e0z, e10, e11, e12, e13, e14, e15, e16, e17, e18, e19, e1a, e1b, e1c, e1d, e1e, e1f, e1g, e1h, e1i, e1j, e1k, e1l, e1m, e1n, e1o, e1p, e1q, e1r, e1s, e1t, e1u, e1v, e1w, e1x, e1y, e1z, e20, e21, e22, e23, e24, e25, e26, e27, e28, e29, e2a, e2b, e2c, e2d, e2e, e2f, e2g, e2h, e2i, e2j, e2k, e2l, e2m, e2n, e2o, e2p, e2q, e2r, e2s, e2t, e2u, e2v, e2w, e2x, e2y, e2z, e30, e31, e32, e33, e34, e35, e36, e37, e38, e39, e3a, e3b, e3c, e3d, e3e, e3f, e3g, e3h, e3i, e3j, e3k, e3l, e3m, e3n, e3o, e3p, e3q, e3r, e3s, e3t, e3u, e3v, e3w, e3x, e3y, e3z, e40, e41, e42, e43, e44, e45, e46, e47, e48, e49, e4a, e4b, e4c, e4d, e4e, e4f, e4g, e4h, e4i, e4j, e4k, e4l, e4m, e4n, e4o, e4p, e4q, R.bind_ok, R.bind_ex, R.bind_bad, R.lift_some, R.noEx_ok, List.getElem?_cons_zero, List.getElem?_cons_succ, Option.bind_some, Option.map_some, Option.bind_eq_bind, id_eq, List.set_cons_zero, List.set_cons_succ, if_true, if_false, Bool.false_eq_true, reduceIte, Bool.not_true, Bool.not_false, Ex.isOmit, e4r, e4s, e4t, e4u, e4v, e4w, e4x, e4y, e4z, e50, e51, e52, e53, e54, e55, e56, e57, e58, e59, e5a, e5b, e5c, e5d, e5e, e5f, e5g, e5h, e5i, e5j, e5k, e5l, e5m, e5n, e5o, e5p, e5q, e5r, e5s, e5t, e5u, e5v, e5w, e5x, e5y, e5z, e60, e61, e62, e63, e64, e65, e66, e67, e68, e69, e6a, e6b, e6c, e6d, e6e, e6f, e6g, e6h, e6i, e6j, e6k, e6l, e6m, e6n, e6o, e6p, e6q, e6r, e6s, e6t, e6u, e6v, e6w, e6x, e6y, e6z, e70, e71, e72, e73, e74, e75, e76, e77, b17, str_num mo.lg, add_strs z1]
  rw [compR_map ds dV (fun x => PV.str (lineD x))]
  · have l1 : (ds.map fun x => PV.str (lineD x)).length ≤ big := by rw [List.length_map]; omega
    simp (implicitDefEqProofs := false) only [e00, e01, e02, e03, e04, e05, e06, e07, e08, e09, e0a, e0b, e0c, e0d, e0e, e0f, e0g, e0h, e0i, e0j, e0k, e0l, e0m, e0n, e0o, e0p, e0q, e0r, e0s, e0t, e0u, e0v, e0w, e0x, e0y, e0z, e10, e11, e12, e13, e14, e15, e16, e17, e18, e19, e1a, e1b, e1c, e1d, e1e, e1f, e1g, e1h, e1i, e1j, e1k, e1l, e1m, e1n, e1o, e1p, e1q, e1r, e1s, e1t, e1u, e1v, e1w, e1x, e1y, e1z, e20, e21, e22, e23, e24, e25, e26, e27, e28, e29, e2a, e2b, e2c, e2d, e2e, e2f, e2g, e2h, e2i, e2j, e2k, e2l, e2m, e2n, e2o, e2p, e2q, e2r, e2s, e2t, e2u, e2v, e2w, e2x, e2y, e2z, e30, e31, e32, e33, e34, e35, e36, e37, e38, e39, e3a, e3b, e3c, e3d, e3e, e3f, e3g, e3h, e3i, e3j, e3k, e3l, e3m, e3n, e3o, e3p, e3q, e3r, e3s, e3t, e3u, e3v, e3w, e3x, e3y, e3z, e40, e41, e42, e43, e44, e45, e46, e47, e48, e49, e4a, e4b, e4c, e4d, e4e, e4f, e4g, e4h, e4i, e4j, e4k, e4l, e4m, e4n, e4o, e4p, e4q, R.bind_ok, R.bind_ex, R.bind_bad, R.lift_some, R.noEx_ok, List.getElem?_cons_zero, List.getElem?_cons_succ, Option.bind_some, Option.map_some, Option.bind_eq_bind, id_eq, List.set_cons_zero, List.set_cons_succ, if_true, if_false, Bool.false_eq_true, reduceIte, Bool.not_true, Bool.not_false, Ex.isOmit, e4r, e4s, e4t, e4u, e4v, e4w, e4x, e4y, e4z, e50, e51, e52, e53, e54, e55, e56, e57, e58, e59, e5a, e5b, e5c, e5d, e5e, e5f, e5g, e5h, e5i, e5j, e5k, e5l, e5m, e5n, e5o, e5p, e5q, e5r, e5s, e5t, e5u, e5v, e5w, e5x, e5y, e5z, e60, e61, e62, e63, e64, e65, e66, e67, e68, e69, e6a, e6b, e6c, e6d, e6e, e6f, e6g, e6h, e6i, e6j, e6k, e6l, e6m, e6n, e6o, e6p, e6q, e6r, e6s, e6t, e6u, e6v, e6w, e6x, e6y, e6z, e70, e71, e72, e73, e74, e75, e76, e77, l1]
    have ad : binV st .Add (.lst [.str (("tiles " : Str) ++ numS many)]) (.lst (ds.map fun x => PV.str (lineD x))) = some (.lst ((linesD many ds).map .str)) := by
      show (if ([PV.str (("tiles " : Str) ++ numS many)] : List PV).length + (ds.map fun x => PV.str (lineD x)).length ≤ big then some (PV.lst ([PV.str (("tiles " : Str) ++ numS many)] ++ ds.map fun x => PV.str (lineD x))) else none) = _
      rw [List.length_map, if_pos (by show 1 + ds.length ≤ big; omega)]
      unfold linesD
      rw [List.map_cons, List.map_map]
      rfl
    simp (implicitDefEqProofs := false) only [e00, e01, e02, e03, e04, e05, e06, e07, e08, e09, e0a, e0b, e0c, e0d, e0e, e0f, e0g, e0h, e0i, e0j, e0k, e0l, e0m, e0n, e0o, e0p, e0q, e0r, e0s, e0t, e0u, e0v, e0w, e0x, e0y, e0z, e10, e11, e12, e13, e14, e15, e16, e17, e18, e19, e1a, e1b, e1c, e1d, e1e, e1f, e1g, e1h, e1i, e1j, e1k, e1l, e1m, e1n, e1o, e1p, e1q, e1r, e1s, e1t, e1u, e1v, e1w, e1x, e1y, e1z, e20, e21, e22, e23, e24, e25, e26, e27, e28, e29, e2a, e2b, e2c, e2d, e2e, e2f, e2g, e2h, e2i, e2j, e2k, e2l, e2m, e2n, e2o, e2p, e2q, e2r, e2s, e2t, e2u, e2v, e2w, e2x, e2y, e2z, e30, e31, e32, e33, e34, e35, e36, e37, e38, e39, e3a, e3b, e3c, e3d, e3e, e3f, e3g, e3h, e3i, e3j, e3k, e3l, e3m, e3n, e3o, e3p, e3q, e3r, e3s, e3t, e3u, e3v, e3w, e3x, e3y, e3z, e40, e41, e42, e43, e44, e45, e46, e47, e48, e49, e4a, e4b, e4c, e4d, e4e, e4f, e4g, e4h, e4i, e4j, e4k, e4l, e4m, e4n, e4o, e4p, e4q, R.bind_ok, R.bind_ex, R.bind_bad, R.lift_some, R.noEx_ok, List.getElem?_cons_zero, List.getElem?_cons_succ, Option.bind_some, Option.map_some, Option.bind_eq_bind, id_eq, List.set_cons_zero, List.set_cons_succ, if_true, if_false, Bool.false_eq_true, reduceIte, Bool.not_true, Bool.not_false, Ex.isOmit, e4r, e4s, e4t, e4u, e4v, e4w, e4x, e4y, e4z, e50, e51, e52, e53, e54, e55, e56, e57, e58, e59, e5a, e5b, e5c, e5d, e5e, e5f, e5g, e5h, e5i, e5j, e5k, e5l, e5m, e5n, e5o, e5p, e5q, e5r, e5s, e5t, e5u, e5v, e5w, e5x, e5y, e5z, e60, e61, e62, e63, e64, e65, e66, e67, e68, e69, e6a, e6b, e6c, e6d, e6e, e6f, e6g, e6h, e6i, e6j, e6k, e6l, e6m, e6n, e6o, e6p, e6q, e6r, e6s, e6t, e6u, e6v, e6w, e6x, e6y, e6z, e70, e71, e72, e73, e74, e75, e76, e77, ad, join_text hm hl hd]
  · intro x hx
    have lo := lineOk hm.2 (hd x hx)
    have y1 : x.1.length + (" " : Str).length ≤ 1000 := by have := lo.w; have : (" " : Str).length = 1 := (by decide +kernel); omega
    have y2 : (x.1 ++ (" " : Str)).length + (numS x.2).length ≤ 1000 := by have := lo.w1; have := lo.nlen; omega
    simp (implicitDefEqProofs := false) only [e00, e01, e02, e03, e04, e05, e06, e07, e08, e09, e0a, e0b, e0c, e0d, e0e, e0f, e0g, e0h, e0i, e0j, e0k, e0l, e0m, e0n, e0o, e0p, e0q, e0r, e0s, e0t, e0u, e0v, e0w, e0x, e0y, e0z, e10, e11, e12, e13, e14, e15, e16, e17, e18, e19, e1a, e1b, e1c, e1d, e1e, e1f, e1g, e1h, e1i, e1j, e1k, e1l, e1m, e1n, e1o, e1p, e1q, e1r, e1s, e1t, e1u, e1v, e1w, e1x, e1y, e1z, e20, e21, e22, e23, e24, e25, e26, e27, e28, e29, e2a, e2b, e2c, e2d, e2e, e2f, e2g, e2h, e2i, e2j, e2k, e2l, e2m, e2n, e2o, e2p, e2q, e2r, e2s, e2t, e2u, e2v, e2w, e2x, e2y, e2z, e30, e31, e32, e33, e34, e35, e36, e37, e38, e39, e3a, e3b, e3c, e3d, e3e, e3f, e3g, e3h, e3i, e3j, e3k, e3l, e3m, e3n, e3o, e3p, e3q, e3r, e3s, e3t, e3u, e3v, e3w, e3x, e3y, e3z, e40, e41, e42, e43, e44, e45, e46, e47, e48, e49, e4a, e4b, e4c, e4d, e4e, e4f, e4g, e4h, e4i, e4j, e4k, e4l, e4m, e4n, e4o, e4p, e4q, R.bind_ok, R.bind_ex, R.bind_bad, R.lift_some, R.noEx_ok, List.getElem?_cons_zero, List.getElem?_cons_succ, Option.bind_some, Option.map_some, Option.bind_eq_bind, id_eq, List.set_cons_zero, List.set_cons_succ, if_true, if_false, Bool.false_eq_true, reduceIte, Bool.not_true, Bool.not_false, Ex.isOmit, e4r, e4s, e4t, e4u, e4v, e4w, e4x, e4y, e4z, e50, e51, e52, e53, e54, e55, e56, e57, e58, e59, e5a, e5b, e5c, e5d, e5e, e5f, e5g, e5h, e5i, e5j, e5k, e5l, e5m, e5n, e5o, e5p, e5q, e5r, e5s, e5t, e5u, e5v, e5w, e5x, e5y, e5z, e60, e61, e62, e63, e64, e65, e66, e67, e68, e69, e6a, e6b, e6c, e6d, e6e, e6f, e6g, e6h, e6i, e6j, e6k, e6l, e6m, e6n, e6o, e6p, e6q, e6r, e6s, e6t, e6u, e6v, e6w, e6x, e6y, e6z, e70, e71, e72, e73, e74, e75, e76, e77, dV, add_strs y1, str_num lo.lg, add_strs y2, lineD]

def insS (many : Nat) (ds : List (Str × Nat)) : CC := .ins 31 [(("tiles" : Str), .int (many : Nat)), (("base" : Str), .tup (ds.map dV))]
theorem clo_ds : ∀ ds : List (Str × Nat), noClos (ds.map dV) = true
  | [] => rfl
  | x :: ds => by
    show ((dV x).noClo && noClos (ds.map dV)) = true
    rw [clo_ds ds]; rfl
theorem fput_ins {st : Sto} {n c : Nat} {f : Str} {fs : List (Str × PV)} {v : PV} (h : st[n]? = some (.ins c fs)) (hv : v.noClo = true) (hl : fs.length < 900) : fputV st c f (.cel n) v = some (st.set n (.ins c (putP f v fs))) := by
  show (match st[n]? with
    | some (.ins d fs) => if d = c ∧ v.noClo = true ∧ fs.length < 900 then some (st.set n (.ins d (putP f v fs))) else none
    | _ => none) = _
  rw [h]
  exact if_pos ⟨rfl, hv, hl⟩
theorem is_ins {st : Sto} {n c : Nat} {fs : List (Str × PV)} (h : st[n]? = some (.ins c fs)) : isIns st c (.cel n) = true := by
  show (match st[n]? with
    | some (.ins d _) => decide (d = c)
    | _ => false) = true
  rw [h]
  exact decide_eq_true rfl
theorem fld_ins {st : Sto} {n c : Nat} {f : Str} {fs : List (Str × PV)} (h : st[n]? = some (.ins c fs)) : fldV st c f (.cel n) = fs.lookup f := by
  show (match st[n]? with
    | some (.ins d fs) => if d = c then fs.lookup f else none
    | _ => none) = _
  rw [h]
  exact if_pos rfl
theorem init_ok (many : Nat) (ds : List (Str × Nat)) (hm : 2 ≤ many ∧ many ≤ 4) (hl : ds.length ≤ 6) (hd : ∀ x ∈ ds, deedOk many x) {n : Nat} {st : Sto} (h : st[n]? = some (.ins 31 [])) : RU N (d + 5) 19 (.cel n :: .int many :: ds.map dV) st = .ok .non (st.set n (insS many ds)) := by
  have hn : n < st.length := (List.getElem?_eq_some_iff.mp h).1
  have h1 : fputV st 31 ("tiles" : Str) (.cel n) (.int (many : Nat)) = some (st.set n (.ins 31 [(("tiles" : Str), .int (many : Nat))])) := fput_ins h rfl (by decide)
  have h2 : (st.set n (.ins 31 [(("tiles" : Str), PV.int (many : Nat))]))[n]? = some (.ins 31 [(("tiles" : Str), .int (many : Nat))]) := List.getElem?_set_self hn
  have h3 : fputV (st.set n (.ins 31 [(("tiles" : Str), PV.int (many : Nat))])) 31 ("base" : Str) (.cel n) (.tup (ds.map dV)) = some (st.set n (insS many ds)) := by
    rw [fput_ins (v := .tup (ds.map dV)) h2 (clo_ds ds) (by show 1 < 900; decide), List.set_set]
    rfl
  rw [RU, u19 _ _ _ _ _ (by rw [List.length_map]; omega)]
  simp (implicitDefEqProofs := false) only [e00, e01, e02, e03, e04, e05, e06, e07, e08, e09, e0a, e0b, e0c, e0d, e0e, e0f, e0g, e0h, e0i, e0j, e0k, e0l, e0m, e0n, e0o, e0p, e0q, e0r, e0s, e0t, e0u, e0v, e0w, e0x, e0y, e0z, e10, e11, e12, e13, e14, e15, e16, e17, e18, e19, e1a, e1b, e1c, e1d, e1e, e1f, e1g, e1h, e1i, e1j, e1k, e1l, e1m, e1n, e1o, e1p, e1q, e1r, e1s, e1t, e1u, e1v, e1w, e1x, e1y, e1z, e20, e21, e22, e23, e24, e25, e26, e27, e28, e29, e2a, e2b, e2c, e2d, e2e, e2f, e2g, e2h, e2i, e2j, e2k, e2l, e2m, e2n, e2o, e2p, e2q, e2r, e2s, e2t, e2u, e2v, e2w, e2x, e2y, e2z, e30, e31, e32, e33, e34, e35, e36, e37, e38, e39, e3a, e3b, e3c, e3d, e3e, e3f, e3g, e3h, e3i, e3j, e3k, e3l, e3m, e3n, e3o, e3p, e3q, e3r, e3s, e3t, e3u, e3v, e3w, e3x, e3y, e3z, e40, e41, e42, e43, e44, e45, e46, e47, e48, e49, e4a, e4b, e4c, e4d, e4e, e4f, e4g, e4h, e4i, e4j, e4k, e4l, e4m, e4n, e4o, e4p, e4q, R.bind_ok, R.bind_ex, R.bind_bad, R.lift_some, R.noEx_ok, List.getElem?_cons_zero, List.getElem?_cons_succ, Option.bind_some, Option.map_some, Option.bind_eq_bind, id_eq, List.set_cons_zero, List.set_cons_succ, if_true, if_false, Bool.false_eq_true, reduceIte, Bool.not_true, Bool.not_false, Ex.isOmit, e4r, e4s, e4t, e4u, e4v, e4w, e4x, e4y, e4z, e50, e51, e52, e53, e54, e55, e56, e57, e58, e59, e5a, e5b, e5c, e5d, e5e, e5f, e5g, e5h, e5i, e5j, e5k, e5l, e5m, e5n, e5o, e5p, e5q, e5r, e5s, e5t, e5u, e5v, e5w, e5x, e5y, e5z, e60, e61, e62, e63, e64, e65, e66, e67, e68, e69, e6a, e6b, e6c, e6d, e6e, e6f, e6g, e6h, e6i, e6j, e6k, e6l, e6m, e6n, e6o, e6p, e6q, e6r, e6s, e6t, e6u, e6v, e6w, e6x, e6y, e6z, e70, e71, e72, e73, e74, e75, e76, e77, b19, need_many (N := N) (d := d + 2) (st := st) many hm, need_script (N := N) (d := d) (st := st) many ds hl hd, h1, h3]
theorem read_ok (many : Nat) (ds : List (Str × Nat)) (hm : 2 ≤ many ∧ many ≤ 4) (hl : ds.length ≤ 6) (hd : ∀ x ∈ ds, deedOk many x) : RU N (d + 6) 20 [.glo 31, .str (textD many ds)] st = .ok (.cel st.length) (st ++ [insS many ds]) := by
  have h : (st ++ [CC.ins 31 []])[st.length]? = some (.ins 31 []) := by simp
  have e : (st ++ [CC.ins 31 []]).set st.length (insS many ds) = st ++ [insS many ds] := by simp
  have i := init_ok (N := N) (d := d) many ds hm hl hd h
  rw [e] at i
  have i : RU N (d + 5) 19 (.cel st.length :: ([.int (many : Nat)] ++ ds.map dV)) (st ++ [CC.ins 31 []]) = .ok .non (st ++ [insS many ds]) := i
  have mc : mksC [some (PV.glo 31), some (.str (textD many ds)), some (.int (many : Nat)), some (.tup (ds.map dV))] 31 (some 0) = true := rfl
  rw [RU, u20]
  simp (implicitDefEqProofs := false) only [e00, e01, e02, e03, e04, e05, e06, e07, e08, e09, e0a, e0b, e0c, e0d, e0e, e0f, e0g, e0h, e0i, e0j, e0k, e0l, e0m, e0n, e0o, e0p, e0q, e0r, e0s, e0t, e0u, e0v, e0w, e0x, e0y, e0z, e10, e11, e12, e13, e14, e15, e16, e17, e18, e19, e1a, e1b, e1c, e1d, e1e, e1f, e1g, e1h, e1i, e1j, e1k, e1l, e1m, e1n, e1o, e1p, e1q, e1r, e1s, e1t, e1u, e1v, e1w, e1x, e1y, e1z, e20, e21, e22, e23, e24, e25, e26, e27, e28, e29, e2a, e2b, e2c, e2d, e2e, e2f, e2g, e2h, e2i, e2j, e2k, e2l, e2m, e2n, e2o, e2p, e2q, e2r, e2s, e2t, e2u, e2v, e2w, e2x, e2y, e2z, e30, e31, e32, e33, e34, e35, e36, e37, e38, e39, e3a, e3b, e3c, e3d, e3e, e3f, e3g, e3h, e3i, e3j, e3k, e3l, e3m, e3n, e3o, e3p, e3q, e3r, e3s, e3t, e3u, e3v, e3w, e3x, e3y, e3z, e40, e41, e42, e43, e44, e45, e46, e47, e48, e49, e4a, e4b, e4c, e4d, e4e, e4f, e4g, e4h, e4i, e4j, e4k, e4l, e4m, e4n, e4o, e4p, e4q, R.bind_ok, R.bind_ex, R.bind_bad, R.lift_some, R.noEx_ok, List.getElem?_cons_zero, List.getElem?_cons_succ, Option.bind_some, Option.map_some, Option.bind_eq_bind, id_eq, List.set_cons_zero, List.set_cons_succ, if_true, if_false, Bool.false_eq_true, reduceIte, Bool.not_true, Bool.not_false, Ex.isOmit, e4r, e4s, e4t, e4u, e4v, e4w, e4x, e4y, e4z, e50, e51, e52, e53, e54, e55, e56, e57, e58, e59, e5a, e5b, e5c, e5d, e5e, e5f, e5g, e5h, e5i, e5j, e5k, e5l, e5m, e5n, e5o, e5p, e5q, e5r, e5s, e5t, e5u, e5v, e5w, e5x, e5y, e5z, e60, e61, e62, e63, e64, e65, e66, e67, e68, e69, e6a, e6b, e6c, e6d, e6e, e6f, e6g, e6h, e6i, e6j, e6k, e6l, e6m, e6n, e6o, e6p, e6q, e6r, e6s, e6t, e6u, e6v, e6w, e6x, e6y, e6z, e70, e71, e72, e73, e74, e75, e76, e77, b20, script_in (N := N) (d := d + 1) (st := st) many ds hm hl hd, mc]
  rw [i]
  simp (implicitDefEqProofs := false) only [e00, e01, e02, e03, e04, e05, e06, e07, e08, e09, e0a, e0b, e0c, e0d, e0e, e0f, e0g, e0h, e0i, e0j, e0k, e0l, e0m, e0n, e0o, e0p, e0q, e0r, e0s, e0t, e0u, e0v, e0w, e0x, e0y, e0z, e10, e11, e12, e13, e14, e15, e16, e17, e18, e19, e1a, e1b, e1c, e1d, e1e, e1f, e1g, e1h, e1i, e1j, e1k, e1l, e1m, e1n, e1o, e1p, e1q, e1r, e1s, e1t, e1u, e1v, e1w, e1x, e1y, e1z, e20, e21, e22, e23, e24, e25, e26, e27, e28, e29, e2a, e2b, e2c, e2d, e2e, e2f, e2g, e2h, e2i, e2j, e2k, e2l, e2m, e2n, e2o, e2p, e2q, e2r, e2s, e2t, e2u, e2v, e2w, e2x, e2y, e2z, e30, e31, e32, e33, e34, e35, e36, e37, e38, e39, e3a, e3b, e3c, e3d, e3e, e3f, e3g, e3h, e3i, e3j, e3k, e3l, e3m, e3n, e3o, e3p, e3q, e3r, e3s, e3t, e3u, e3v, e3w, e3x, e3y, e3z, e40, e41, e42, e43, e44, e45, e46, e47, e48, e49, e4a, e4b, e4c, e4d, e4e, e4f, e4g, e4h, e4i, e4j, e4k, e4l, e4m, e4n, e4o, e4p, e4q, R.bind_ok, R.bind_ex, R.bind_bad, R.lift_some, R.noEx_ok, List.getElem?_cons_zero, List.getElem?_cons_succ, Option.bind_some, Option.map_some, Option.bind_eq_bind, id_eq, List.set_cons_zero, List.set_cons_succ, if_true, if_false, Bool.false_eq_true, reduceIte, Bool.not_true, Bool.not_false, Ex.isOmit, e4r, e4s, e4t, e4u, e4v, e4w, e4x, e4y, e4z, e50, e51, e52, e53, e54, e55, e56, e57, e58, e59, e5a, e5b, e5c, e5d, e5e, e5f, e5g, e5h, e5i, e5j, e5k, e5l, e5m, e5n, e5o, e5p, e5q, e5r, e5s, e5t, e5u, e5v, e5w, e5x, e5y, e5z, e60, e61, e62, e63, e64, e65, e66, e67, e68, e69, e6a, e6b, e6c, e6d, e6e, e6f, e6g, e6h, e6i, e6j, e6k, e6l, e6m, e6n, e6o, e6p, e6q, e6r, e6s, e6t, e6u, e6v, e6w, e6x, e6y, e6z, e70, e71, e72, e73, e74, e75, e76, e77]
section
variable {many n : Nat} {ds : List (Str × Nat)} (h : st[n]? = some (insS many ds))
include h
theorem ins_is : isIns st 31 (.cel n) = true := is_ins h
theorem p_many : RU N (d + 1) 21 [.cel n] st = .ok (.int many) st := by
  rw [RU, u21]
  have e : fldV st 31 ("tiles" : Str) (.cel n) = some (.int (many : Nat)) := fld_ins h
  simp (implicitDefEqProofs := false) only [e00, e01, e02, e03, e04, e05, e06, e07, e08, e09, e0a, e0b, e0c, e0d, e0e, e0f, e0g, e0h, e0i, e0j, e0k, e0l, e0m, e0n, e0o, e0p, e0q, e0r, e0s, e0t, e0u, e0v, e0w, e0x, e0y, e0z, e10, e11, e12, e13, e14, e15, e16, e17, e18, e19, e1a, e1b, e1c, e1d, e1e, e1f, e1g, e1h, e1i, e1j, e1k, e1l, e1m, e1n, e1o, e1p, e1q, e1r, e1s, e1t, e1u, e1v, e1w, e1x, e1y, e1z, e20, e21, e22, e23, e24, e25, e26, e27, e28, e29, e2a, e2b, e2c, e2d, e2e, e2f, e2g, e2h, e2i, e2j, e2k, e2l, e2m, e2n, e2o, e2p, e2q, e2r, e2s, e2t, e2u, e2v, e2w, e2x, e2y, e2z, e30, e31, e32, e33, e34, e35, e36, e37, e38, e39, e3a, e3b, e3c, e3d, e3e, e3f, e3g, e3h, e3i, e3j, e3k, e3l, e3m, e3n, e3o, e3p, e3q, e3r, e3s, e3t, e3u, e3v, e3w, e3x, e3y, e3z, e40, e41, e42, e43, e44, e45, e46, e47, e48, e49, e4a, e4b, e4c, e4d, e4e, e4f, e4g, e4h, e4i, e4j, e4k, e4l, e4m, e4n, e4o, e4p, e4q, R.bind_ok, R.bind_ex, R.bind_bad, R.lift_some, R.noEx_ok, List.getElem?_cons_zero, List.getElem?_cons_succ, Option.bind_some, Option.map_some, Option.bind_eq_bind, id_eq, List.set_cons_zero, List.set_cons_succ, if_true, if_false, Bool.false_eq_true, reduceIte, Bool.not_true, Bool.not_false, Ex.isOmit, e4r, e4s, e4t, e4u, e4v, e4w, e4x, e4y, e4z, e50, e51, e52, e53, e54, e55, e56, e57, e58, e59, e5a, e5b, e5c, e5d, e5e, e5f, e5g, e5h, e5i, e5j, e5k, e5l, e5m, e5n, e5o, e5p, e5q, e5r, e5s, e5t, e5u, e5v, e5w, e5x, e5y, e5z, e60, e61, e62, e63, e64, e65, e66, e67, e68, e69, e6a, e6b, e6c, e6d, e6e, e6f, e6g, e6h, e6i, e6j, e6k, e6l, e6m, e6n, e6o, e6p, e6q, e6r, e6s, e6t, e6u, e6v, e6w, e6x, e6y, e6z, e70, e71, e72, e73, e74, e75, e76, e77, b21, e]
theorem p_source : RU N (d + 1) 22 [.cel n] st = .ok (.tup (ds.map dV)) st := by
  rw [RU, u22]
  have e : fldV st 31 ("base" : Str) (.cel n) = some (.tup (ds.map dV)) := fld_ins h
  simp (implicitDefEqProofs := false) only [e00, e01, e02, e03, e04, e05, e06, e07, e08, e09, e0a, e0b, e0c, e0d, e0e, e0f, e0g, e0h, e0i, e0j, e0k, e0l, e0m, e0n, e0o, e0p, e0q, e0r, e0s, e0t, e0u, e0v, e0w, e0x, e0y, e0z, e10, e11, e12, e13, e14, e15, e16, e17, e18, e19, e1a, e1b, e1c, e1d, e1e, e1f, e1g, e1h, e1i, e1j, e1k, e1l, e1m, e1n, e1o, e1p, e1q, e1r, e1s, e1t, e1u, e1v, e1w, e1x, e1y, e1z, e20, e21, e22, e23, e24, e25, e26, e27, e28, e29, e2a, e2b, e2c, e2d, e2e, e2f, e2g, e2h, e2i, e2j, e2k, e2l, e2m, e2n, e2o, e2p, e2q, e2r, e2s, e2t, e2u, e2v, e2w, e2x, e2y, e2z, e30, e31, e32, e33, e34, e35, e36, e37, e38, e39, e3a, e3b, e3c, e3d, e3e, e3f, e3g, e3h, e3i, e3j, e3k, e3l, e3m, e3n, e3o, e3p, e3q, e3r, e3s, e3t, e3u, e3v, e3w, e3x, e3y, e3z, e40, e41, e42, e43, e44, e45, e46, e47, e48, e49, e4a, e4b, e4c, e4d, e4e, e4f, e4g, e4h, e4i, e4j, e4k, e4l, e4m, e4n, e4o, e4p, e4q, R.bind_ok, R.bind_ex, R.bind_bad, R.lift_some, R.noEx_ok, List.getElem?_cons_zero, List.getElem?_cons_succ, Option.bind_some, Option.map_some, Option.bind_eq_bind, id_eq, List.set_cons_zero, List.set_cons_succ, if_true, if_false, Bool.false_eq_true, reduceIte, Bool.not_true, Bool.not_false, Ex.isOmit, e4r, e4s, e4t, e4u, e4v, e4w, e4x, e4y, e4z, e50, e51, e52, e53, e54, e55, e56, e57, e58, e59, e5a, e5b, e5c, e5d, e5e, e5f, e5g, e5h, e5i, e5j, e5k, e5l, e5m, e5n, e5o, e5p, e5q, e5r, e5s, e5t, e5u, e5v, e5w, e5x, e5y, e5z, e60, e61, e62, e63, e64, e65, e66, e67, e68, e69, e6a, e6b, e6c, e6d, e6e, e6f, e6g, e6h, e6i, e6j, e6k, e6l, e6m, e6n, e6o, e6p, e6q, e6r, e6s, e6t, e6u, e6v, e6w, e6x, e6y, e6z, e70, e71, e72, e73, e74, e75, e76, e77, b22, e]
theorem m_str (hm : 2 ≤ many ∧ many ≤ 4) (hl : ds.length ≤ 6) (hd : ∀ x ∈ ds, deedOk many x) : RU N (d + 2) 23 [.cel n] st = .ok (.str (textD many ds)) st := by
  rw [RU, u23]
  have e : fldV st 31 ("base" : Str) (.cel n) = some (.tup (ds.map dV)) := fld_ins h
  have e2 : fldV st 31 ("tiles" : Str) (.cel n) = some (.int (many : Nat)) := fld_ins h
  simp (implicitDefEqProofs := false) only [e00, e01, e02, e03, e04, e05, e06, e07, e08, e09, e0a, e0b, e0c, e0d, e0e, e0f, e0g, e0h, e0i, e0j, e0k, e0l, e0m, e0n, e0o, e0p, e0q, e0r, e0s, e0t, e0u, e0v, e0w, e0x, e0y, e0z, e10, e11, e12, e13, e14, e15, e16, e17, e18, e19, e1a, e1b, e1c, e1d, e1e, e1f, e1g, e1h, e1i, e1j, e1k, e1l, e1m, e1n, e1o, e1p, e1q, e1r, e1s, e1t, e1u, e1v, e1w, e1x, e1y, e1z, e20, e21, e22, e23, e24, e25, e26, e27, e28, e29, e2a, e2b, e2c, e2d, e2e, e2f, e2g, e2h, e2i, e2j, e2k, e2l, e2m, e2n, e2o, e2p, e2q, e2r, e2s, e2t, e2u, e2v, e2w, e2x, e2y, e2z, e30, e31, e32, e33, e34, e35, e36, e37, e38, e39, e3a, e3b, e3c, e3d, e3e, e3f, e3g, e3h, e3i, e3j, e3k, e3l, e3m, e3n, e3o, e3p, e3q, e3r, e3s, e3t, e3u, e3v, e3w, e3x, e3y, e3z, e40, e41, e42, e43, e44, e45, e46, e47, e48, e49, e4a, e4b, e4c, e4d, e4e, e4f, e4g, e4h, e4i, e4j, e4k, e4l, e4m, e4n, e4o, e4p, e4q, R.bind_ok, R.bind_ex, R.bind_bad, R.lift_some, R.noEx_ok, List.getElem?_cons_zero, List.getElem?_cons_succ, Option.bind_some, Option.map_some, Option.bind_eq_bind, id_eq, List.set_cons_zero, List.set_cons_succ, if_true, if_false, Bool.false_eq_true, reduceIte, Bool.not_true, Bool.not_false, Ex.isOmit, e4r, e4s, e4t, e4u, e4v, e4w, e4x, e4y, e4z, e50, e51, e52, e53, e54, e55, e56, e57, e58, e59, e5a, e5b, e5c, e5d, e5e, e5f, e5g, e5h, e5i, e5j, e5k, e5l, e5m, e5n, e5o, e5p, e5q, e5r, e5s, e5t, e5u, e5v, e5w, e5x, e5y, e5z, e60, e61, e62, e63, e64, e65, e66, e67, e68, e69, e6a, e6b, e6c, e6d, e6e, e6f, e6g, e6h, e6i, e6j, e6k, e6l, e6m, e6n, e6o, e6p, e6q, e6r, e6s, e6t, e6u, e6v, e6w, e6x, e6y, e6z, e70, e71, e72, e73, e74, e75, e76, e77, b23, e, e2, lines_of (N := N) (d := d) (st := st) many ds hm hl hd, join_text hm hl hd]
end
theorem deps_ds (ds : List (Str × Nat)) : deps (ds.map dV) ≤ 1 := deps_map _ _ 1 fun _ => Nat.le_refl _
theorem dats_ds (ds : List (Str × Nat)) : dats (ds.map dV) = true := dats_map _ _ fun _ => rfl
def turnB : Sm := match b18 with
  | .seq (.for _ _ (.seq _ (.seq (.for _ _ b) _))) _ => b
  | _ => .skip
def caseB : Sm := match b18 with
  | .seq (.for _ _ b) _ => b
  | _ => .skip
def lastB : Sm := match b18 with
  | .seq _ r => r
  | _ => .skip
theorem turns {n : Nat} (v0 v1 : Option PV) : ∀ (js : List PV) (v3 v4 v5 v6 v7 : Option PV) (st : Sto), SrcAt n st → ∃ (w3 w4 w5 w6 w7 : Option PV) (st' : Sto),
    forR (forB (.nm 3) (evS G (RU N (d + 20)) N turnB)) js [v0, v1, some (.cel n), v3, v4, v5, v6, v7] st = .ok (.nx [v0, v1, some (.cel n), w3, w4, w5, w6, w7]) st'
  | [], v3, v4, v5, v6, v7, st, _ => ⟨v3, v4, v5, v6, v7, st, rfl⟩
  | j :: js, v3, v4, v5, v6, v7, st, hs => by
    obtain ⟨_, st2, e2, r, rfl, r0, r1, u2⟩ := draw (N := N) (d := d + 19) hs (m := 3) (by decide) (by decide)
    have s2 := u2.src hs
    obtain ⟨many, hmm⟩ : ∃ many : Nat, 2 + r = (many : Int) := ⟨(2 + r).toNat, by omega⟩
    have hm : 2 ≤ many ∧ many ≤ 4 := by omega
    obtain ⟨_, st3, e3, ds, rfl, hl, hd, u3⟩ := law_script (N := N) (d := d + 17) many 6 hm (by decide) s2
    have s3 := u3.src s2
    have e4 := law_text (N := N) (d := d + 19) (st := st3) many ds hm hl hd
    have e5 := script_text (N := N) (d := d + 15) (st := st3) many ds hm hl hd
    have e6 := read_script (N := N) (d := d + 15) (st := st3) many ds hm hl hd
    have e7 := read_ok (N := N) (d := d + 14) (st := st3) many ds hm hl hd
    have hi : (st3 ++ [insS many ds])[st3.length]? = some (insS many ds) := by simp
    have q0 := ins_is hi
    have q1 := p_many (N := N) (d := d + 19) hi
    have q2 := p_source (N := N) (d := d + 19) hi
    have q3 := m_str (N := N) (d := d + 18) hi hm hl hd
    have n1 : ∀ st : Sto, cmpV st .NotEq (.tup [.int (many : Nat), .tup (ds.map dV)]) (.tup [.int (many : Nat), .tup (ds.map dV)]) = some false := fun st => ne_self (by show (true && (dats (ds.map dV) && true)) = true; rw [dats_ds]; rfl) (by show max 0 (max (deps (ds.map dV) + 1) 0) ≤ 50; have := deps_ds ds; omega)
    have n2 : ∀ st : Sto, cmpV st .NotEq (.tup (ds.map dV)) (.tup (ds.map dV)) = some false := fun st => ne_self (dats_ds ds) (Nat.le_trans (deps_ds ds) (by decide))
    have e3 : RU N (d + 20) 16 [.cel n, .int (many : Nat), .int 6] st2 = .ok (.tup (ds.map dV)) st3 := e3
    have s4 : SrcAt n (st3 ++ [insS many ds]) := by
      obtain ⟨a, b, h, h1⟩ := s3
      exact ⟨a, b, by rw [List.getElem?_append_left (List.getElem?_eq_some_iff.mp h).1]; exact h, h1⟩
    obtain ⟨w3, w4, w5, w6, w7, st', e9⟩ := turns v0 v1 js (some j) (some (.int (many : Nat))) (some (.tup (ds.map dV))) (some (.str (textD many ds))) (some (.cel st3.length)) (st3 ++ [insS many ds]) s4
    refine ⟨w3, w4, w5, w6, w7, st', ?_⟩
    rw [forR_cons]
    simp (implicitDefEqProofs := false) only [e00, e01, e02, e03, e04, e05, e06, e07, e08, e09, e0a, e0b, e0c, e0d, e0e, e0f, e0g, e0h, e0i, e0j, e0k, e0l, e0m, e0n, e0o, e0p, e0q, e0r, e0s, e0t, e0u, e0v, e0w, e0x, e0y, e0z, e10, e11, e12, e13, e14, e15, e16, e17, e18, e19, e1a, e1b, e1c, e1d, e1e, e1f, e1g, e1h, e1i, e1j, e1k, e1l, e1m, e1n, e1o, e1p, e1q, e1r, e1s, e1t, e1u, e1v, e1w, e1x, e1y, e1z, e20, e21, e22, e23, e24, e25, e26, e27, e28, e29, e2a, e2b, e2c, e2d, e2e, e2f, e2g, e2h, e2i, e2j, e2k, e2l, e2m, e2n, e2o, e2p, e2q, e2r, e2s, e2t, e2u, e2v, e2w, e2x, e2y, e2z, e30, e31, e32, e33, e34, e35, e36, e37, e38, e39, e3a, e3b, e3c, e3d, e3e, e3f, e3g, e3h, e3i, e3j, e3k, e3l, e3m, e3n, e3o, e3p, e3q, e3r, e3s, e3t, e3u, e3v, e3w, e3x, e3y, e3z, e40, e41, e42, e43, e44, e45, e46, e47, e48, e49, e4a, e4b, e4c, e4d, e4e, e4f, e4g, e4h, e4i, e4j, e4k, e4l, e4m, e4n, e4o, e4p, e4q, R.bind_ok, R.bind_ex, R.bind_bad, R.lift_some, R.noEx_ok, List.getElem?_cons_zero, List.getElem?_cons_succ, Option.bind_some, Option.map_some, Option.bind_eq_bind, id_eq, List.set_cons_zero, List.set_cons_succ, if_true, if_false, Bool.false_eq_true, reduceIte, Bool.not_true, Bool.not_false, Ex.isOmit, e4r, e4s, e4t, e4u, e4v, e4w, e4x, e4y, e4z, e50, e51, e52, e53, e54, e55, e56, e57, e58, e59, e5a, e5b, e5c, e5d, e5e, e5f, e5g, e5h, e5i, e5j, e5k, e5l, e5m, e5n, e5o, e5p, e5q, e5r, e5s, e5t, e5u, e5v, e5w, e5x, e5y, e5z, e60, e61, e62, e63, e64, e65, e66, e67, e68, e69, e6a, e6b, e6c, e6d, e6e, e6f, e6g, e6h, e6i, e6j, e6k, e6l, e6m, e6n, e6o, e6p, e6q, e6r, e6s, e6t, e6u, e6v, e6w, e6x, e6y, e6z, e70, e71, e72, e73, e74, e75, e76, e77, turnB, b18, e2]
    rw [hmm]
    simp (implicitDefEqProofs := false) only [e00, e01, e02, e03, e04, e05, e06, e07, e08, e09, e0a, e0b, e0c, e0d, e0e, e0f, e0g, e0h, e0i, e0j, e0k, e0l, e0m, e0n, e0o, e0p, e0q, e0r, e0s, e0t, e0u, e0v, e0w, e0x, e0y, e0z, e10, e11, e12, e13, e14, e15, e16, e17, e18, e19, e1a, e1b, e1c, e1d, e1e, e1f, e1g, e1h, e1i, e1j, e1k, e1l, e1m, e1n, e1o, e1p, e1q, e1r, e1s, e1t, e1u, e1v, e1w, e1x, e1y, e1z, e20, e21, e22, e23, e24, e25, e26, e27, e28, e29, e2a, e2b, e2c, e2d, e2e, e2f, e2g, e2h, e2i, e2j, e2k, e2l, e2m, e2n, e2o, e2p, e2q, e2r, e2s, e2t, e2u, e2v, e2w, e2x, e2y, e2z, e30, e31, e32, e33, e34, e35, e36, e37, e38, e39, e3a, e3b, e3c, e3d, e3e, e3f, e3g, e3h, e3i, e3j, e3k, e3l, e3m, e3n, e3o, e3p, e3q, e3r, e3s, e3t, e3u, e3v, e3w, e3x, e3y, e3z, e40, e41, e42, e43, e44, e45, e46, e47, e48, e49, e4a, e4b, e4c, e4d, e4e, e4f, e4g, e4h, e4i, e4j, e4k, e4l, e4m, e4n, e4o, e4p, e4q, R.bind_ok, R.bind_ex, R.bind_bad, R.lift_some, R.noEx_ok, List.getElem?_cons_zero, List.getElem?_cons_succ, Option.bind_some, Option.map_some, Option.bind_eq_bind, id_eq, List.set_cons_zero, List.set_cons_succ, if_true, if_false, Bool.false_eq_true, reduceIte, Bool.not_true, Bool.not_false, Ex.isOmit, e4r, e4s, e4t, e4u, e4v, e4w, e4x, e4y, e4z, e50, e51, e52, e53, e54, e55, e56, e57, e58, e59, e5a, e5b, e5c, e5d, e5e, e5f, e5g, e5h, e5i, e5j, e5k, e5l, e5m, e5n, e5o, e5p, e5q, e5r, e5s, e5t, e5u, e5v, e5w, e5x, e5y, e5z, e60, e61, e62, e63, e64, e65, e66, e67, e68, e69, e6a, e6b, e6c, e6d, e6e, e6f, e6g, e6h, e6i, e6j, e6k, e6l, e6m, e6n, e6o, e6p, e6q, e6r, e6s, e6t, e6u, e6v, e6w, e6x, e6y, e6z, e70, e71, e72, e73, e74, e75, e76, e77, e3, e4, e5, e6, e7, n1, beq_self_eq_true, q0, q1, q2, q3, n2]
    exact e9
theorem law_cases (ns : List Int) : ∀ (js : List Nat) (v1 v2 v3 v4 v5 v6 v7 : Option PV) (st : Sto), ∃ (w1 w2 w3 w4 w5 w6 w7 : Option PV) (st' : Sto),
    forR (forB (.nm 1) (evS G (RU N (d + 20)) N caseB)) (js.map fun j => PV.int (j : Nat)) [some (.scr (ns.map .int)), v1, v2, v3, v4, v5, v6, v7] st =
    .ok (.nx [some (.scr (ns.map .int)), w1, w2, w3, w4, w5, w6, w7]) st'
  | [], v1, v2, v3, v4, v5, v6, v7, st => ⟨v1, v2, v3, v4, v5, v6, v7, st, rfl⟩
  | j :: js, v1, v2, v3, v4, v5, v6, v7, st => by
    obtain ⟨_, st1, e1, rfl, ⟨c, hc⟩, s1⟩ := source (N := N) (d := d + 19) (st := st) ns j
    obtain ⟨x3, x4, x5, x6, x7, st2, e2⟩ := turns (N := N) (d := d) (some (.scr (ns.map .int))) (some (.int (j : Nat))) (rngL 0 (4 : Int).toNat) v3 v4 v5 v6 v7 st1 s1
    obtain ⟨w1, w2, w3, w4, w5, w6, w7, st', e9⟩ := law_cases ns js (some (.int (j : Nat))) (some (.cel st.length)) x3 x4 x5 x6 x7 st2
    refine ⟨w1, w2, w3, w4, w5, w6, w7, st', ?_⟩
    rw [List.map_cons, forR_cons]
    simp (implicitDefEqProofs := false) only [e00, e01, e02, e03, e04, e05, e06, e07, e08, e09, e0a, e0b, e0c, e0d, e0e, e0f, e0g, e0h, e0i, e0j, e0k, e0l, e0m, e0n, e0o, e0p, e0q, e0r, e0s, e0t, e0u, e0v, e0w, e0x, e0y, e0z, e10, e11, e12, e13, e14, e15, e16, e17, e18, e19, e1a, e1b, e1c, e1d, e1e, e1f, e1g, e1h, e1i, e1j, e1k, e1l, e1m, e1n, e1o, e1p, e1q, e1r, e1s, e1t, e1u, e1v, e1w, e1x, e1y, e1z, e20, e21, e22, e23, e24, e25, e26, e27, e28, e29, e2a, e2b, e2c, e2d, e2e, e2f, e2g, e2h, e2i, e2j, e2k, e2l, e2m, e2n, e2o, e2p, e2q, e2r, e2s, e2t, e2u, e2v, e2w, e2x, e2y, e2z, e30, e31, e32, e33, e34, e35, e36, e37, e38, e39, e3a, e3b, e3c, e3d, e3e, e3f, e3g, e3h, e3i, e3j, e3k, e3l, e3m, e3n, e3o, e3p, e3q, e3r, e3s, e3t, e3u, e3v, e3w, e3x, e3y, e3z, e40, e41, e42, e43, e44, e45, e46, e47, e48, e49, e4a, e4b, e4c, e4d, e4e, e4f, e4g, e4h, e4i, e4j, e4k, e4l, e4m, e4n, e4o, e4p, e4q, R.bind_ok, R.bind_ex, R.bind_bad, R.lift_some, R.noEx_ok, List.getElem?_cons_zero, List.getElem?_cons_succ, Option.bind_some, Option.map_some, Option.bind_eq_bind, id_eq, List.set_cons_zero, List.set_cons_succ, if_true, if_false, Bool.false_eq_true, reduceIte, Bool.not_true, Bool.not_false, Ex.isOmit, e4r, e4s, e4t, e4u, e4v, e4w, e4x, e4y, e4z, e50, e51, e52, e53, e54, e55, e56, e57, e58, e59, e5a, e5b, e5c, e5d, e5e, e5f, e5g, e5h, e5i, e5j, e5k, e5l, e5m, e5n, e5o, e5p, e5q, e5r, e5s, e5t, e5u, e5v, e5w, e5x, e5y, e5z, e60, e61, e62, e63, e64, e65, e66, e67, e68, e69, e6a, e6b, e6c, e6d, e6e, e6f, e6g, e6h, e6i, e6j, e6k, e6l, e6m, e6n, e6o, e6p, e6q, e6r, e6s, e6t, e6u, e6v, e6w, e6x, e6y, e6z, e70, e71, e72, e73, e74, e75, e76, e77, caseB, b18, e1, show smallI 4 = true from rfl]
    refine (congrArg (fun r : R Fl => (((r.bind (seqK (evS txt.mdl.G (runF txt.mdl.G (txt.mdl.at_ false) (txt.mdl.at_ true) N (d + 20)) N .skip))))).bind (seqK (forR (forB (.nm 1) (evS G (RU N (d + 20)) N caseB)) (js.map fun j => PV.int (j : Nat))))) e2).trans ?_
    simp (implicitDefEqProofs := false) only [e00, e01, e02, e03, e04, e05, e06, e07, e08, e09, e0a, e0b, e0c, e0d, e0e, e0f, e0g, e0h, e0i, e0j, e0k, e0l, e0m, e0n, e0o, e0p, e0q, e0r, e0s, e0t, e0u, e0v, e0w, e0x, e0y, e0z, e10, e11, e12, e13, e14, e15, e16, e17, e18, e19, e1a, e1b, e1c, e1d, e1e, e1f, e1g, e1h, e1i, e1j, e1k, e1l, e1m, e1n, e1o, e1p, e1q, e1r, e1s, e1t, e1u, e1v, e1w, e1x, e1y, e1z, e20, e21, e22, e23, e24, e25, e26, e27, e28, e29, e2a, e2b, e2c, e2d, e2e, e2f, e2g, e2h, e2i, e2j, e2k, e2l, e2m, e2n, e2o, e2p, e2q, e2r, e2s, e2t, e2u, e2v, e2w, e2x, e2y, e2z, e30, e31, e32, e33, e34, e35, e36, e37, e38, e39, e3a, e3b, e3c, e3d, e3e, e3f, e3g, e3h, e3i, e3j, e3k, e3l, e3m, e3n, e3o, e3p, e3q, e3r, e3s, e3t, e3u, e3v, e3w, e3x, e3y, e3z, e40, e41, e42, e43, e44, e45, e46, e47, e48, e49, e4a, e4b, e4c, e4d, e4e, e4f, e4g, e4h, e4i, e4j, e4k, e4l, e4m, e4n, e4o, e4p, e4q, R.bind_ok, R.bind_ex, R.bind_bad, R.lift_some, R.noEx_ok, List.getElem?_cons_zero, List.getElem?_cons_succ, Option.bind_some, Option.map_some, Option.bind_eq_bind, id_eq, List.set_cons_zero, List.set_cons_succ, if_true, if_false, Bool.false_eq_true, reduceIte, Bool.not_true, Bool.not_false, Ex.isOmit, e4r, e4s, e4t, e4u, e4v, e4w, e4x, e4y, e4z, e50, e51, e52, e53, e54, e55, e56, e57, e58, e59, e5a, e5b, e5c, e5d, e5e, e5f, e5g, e5h, e5i, e5j, e5k, e5l, e5m, e5n, e5o, e5p, e5q, e5r, e5s, e5t, e5u, e5v, e5w, e5x, e5y, e5z, e60, e61, e62, e63, e64, e65, e66, e67, e68, e69, e6a, e6b, e6c, e6d, e6e, e6f, e6g, e6h, e6i, e6j, e6k, e6l, e6m, e6n, e6o, e6p, e6q, e6r, e6s, e6t, e6u, e6v, e6w, e6x, e6y, e6z, e70, e71, e72, e73, e74, e75, e76, e77]
    exact e9
theorem law_ok (ns : List Int) : ∃ st', RU N (d + 21) 18 [.scr (ns.map .int)] [] = .ok (.bl true) st' := by
  rw [RU, u18]
  have mn : (if (10 : Int) < ((ns.map PV.int).length : Nat) then (10 : Int) else ((ns.map PV.int).length : Nat)) = ((min ns.length 10 : Nat) : Int) := by rw [List.length_map]; split <;> omega
  have e0 : (1 : Int) + ((min ns.length 10 : Nat) : Int) = ((1 + min ns.length 10 : Nat) : Int) := by omega
  obtain ⟨w1, w2, w3, w4, w5, w6, w7, st1, e1⟩ := law_cases (N := N) (d := d) ns (List.range (1 + min ns.length 10)) none none none none none none none []
  have hd : ∀ x ∈ ([(("hold" : Str), 3), (("free" : Str), 0)] : List (Str × Nat)), deedOk 4 x := by
    intro x hx
    simp only [List.mem_cons, List.not_mem_nil, or_false] at hx
    rcases hx with rfl | rfl <;> exact ⟨by decide, by decide⟩
  have k1 := read_script (N := N) (d := d + 15) (st := st1) 4 [(("hold" : Str), 3), (("free" : Str), 0)] (by decide) (by decide) hd
  rw [show textD 4 [(("hold" : Str), 3), (("free" : Str), 0)] = ("tiles 4\nhold 3\nfree 0" : Str) from by decide +kernel] at k1
  have k1 : RU N (d + 20) 12 [.str ("tiles 4\nhold 3\nfree 0" : Str)] st1 = .ok (.tup [.int 4, .tup [.tup [.str ("hold" : Str), .int 3], .tup [.str ("free" : Str), .int 0]]]) st1 := k1
  have k2 : cmpV st1 .Eq (.tup [.int 4, .tup [.tup [.str ("hold" : Str), .int 3], .tup [.str ("free" : Str), .int 0]]]) (.tup [.int 4, .tup [.tup [.str ("hold" : Str), .int 3], .tup [.str ("free" : Str), .int 0]]]) = some true := eq_self (by rfl) (by decide)
  refine ⟨st1, ?_⟩
  rw [show b18 = .seq (.for (.nm 1) (.rng1 (.bin .Add (.int 1) (.bi .min2 (.cons (.bi .len (.cons (.var 0) .nil)) (.cons (.int 10) .nil))))) caseB) lastB from rfl, e30]
  simp (implicitDefEqProofs := false) only [e00, e01, e02, e03, e04, e05, e06, e07, e08, e09, e0a, e0b, e0c, e0d, e0e, e0f, e0g, e0h, e0i, e0j, e0k, e0l, e0m, e0n, e0o, e0p, e0q, e0r, e0s, e0t, e0u, e0v, e0w, e0x, e0y, e0z, e10, e11, e12, e13, e14, e15, e16, e17, e18, e19, e1a, e1b, e1c, e1d, e1e, e1f, e1g, e1h, e1i, e1j, e1k, e1l, e1m, e1n, e1o, e1p, e1q, e1r, e1s, e1t, e1u, e1v, e1w, e1x, e1y, e1z, e20, e21, e22, e23, e24, e25, e26, e27, e28, e29, e2a, e2b, e2c, e2d, e2e, e2f, e2g, e2h, e2i, e2j, e2k, e2l, e2m, e2n, e2o, e2p, e2q, e2r, e2s, e2t, e2u, e2v, e2w, e2x, e2y, e2z, e30, e31, e32, e33, e34, e35, e36, e37, e38, e39, e3a, e3b, e3c, e3d, e3e, e3f, e3g, e3h, e3i, e3j, e3k, e3l, e3m, e3n, e3o, e3p, e3q, e3r, e3s, e3t, e3u, e3v, e3w, e3x, e3y, e3z, e40, e41, e42, e43, e44, e45, e46, e47, e48, e49, e4a, e4b, e4c, e4d, e4e, e4f, e4g, e4h, e4i, e4j, e4k, e4l, e4m, e4n, e4o, e4p, e4q, R.bind_ok, R.bind_ex, R.bind_bad, R.lift_some, R.noEx_ok, List.getElem?_cons_zero, List.getElem?_cons_succ, Option.bind_some, Option.map_some, Option.bind_eq_bind, id_eq, List.set_cons_zero, List.set_cons_succ, if_true, if_false, Bool.false_eq_true, reduceIte, Bool.not_true, Bool.not_false, Ex.isOmit, e4r, e4s, e4t, e4u, e4v, e4w, e4x, e4y, e4z, e50, e51, e52, e53, e54, e55, e56, e57, e58, e59, e5a, e5b, e5c, e5d, e5e, e5f, e5g, e5h, e5i, e5j, e5k, e5l, e5m, e5n, e5o, e5p, e5q, e5r, e5s, e5t, e5u, e5v, e5w, e5x, e5y, e5z, e60, e61, e62, e63, e64, e65, e66, e67, e68, e69, e6a, e6b, e6c, e6d, e6e, e6f, e6g, e6h, e6i, e6j, e6k, e6l, e6m, e6n, e6o, e6p, e6q, e6r, e6s, e6t, e6u, e6v, e6w, e6x, e6y, e6z, e70, e71, e72, e73, e74, e75, e76, e77]
  rw [mn, e0]
  simp (implicitDefEqProofs := false) only [e00, e01, e02, e03, e04, e05, e06, e07, e08, e09, e0a, e0b, e0c, e0d, e0e, e0f, e0g, e0h, e0i, e0j, e0k, e0l, e0m, e0n, e0o, e0p, e0q, e0r, e0s, e0t, e0u, e0v, e0w, e0x, e0y, e0z, e10, e11, e12, e13, e14, e15, e16, e17, e18, e19, e1a, e1b, e1c, e1d, e1e, e1f, e1g, e1h, e1i, e1j, e1k, e1l, e1m, e1n, e1o, e1p, e1q, e1r, e1s, e1t, e1u, e1v, e1w, e1x, e1y, e1z, e20, e21, e22, e23, e24, e25, e26, e27, e28, e29, e2a, e2b, e2c, e2d, e2e, e2f, e2g, e2h, e2i, e2j, e2k, e2l, e2m, e2n, e2o, e2p, e2q, e2r, e2s, e2t, e2u, e2v, e2w, e2x, e2y, e2z, e30, e31, e32, e33, e34, e35, e36, e37, e38, e39, e3a, e3b, e3c, e3d, e3e, e3f, e3g, e3h, e3i, e3j, e3k, e3l, e3m, e3n, e3o, e3p, e3q, e3r, e3s, e3t, e3u, e3v, e3w, e3x, e3y, e3z, e40, e41, e42, e43, e44, e45, e46, e47, e48, e49, e4a, e4b, e4c, e4d, e4e, e4f, e4g, e4h, e4i, e4j, e4k, e4l, e4m, e4n, e4o, e4p, e4q, R.bind_ok, R.bind_ex, R.bind_bad, R.lift_some, R.noEx_ok, List.getElem?_cons_zero, List.getElem?_cons_succ, Option.bind_some, Option.map_some, Option.bind_eq_bind, id_eq, List.set_cons_zero, List.set_cons_succ, if_true, if_false, Bool.false_eq_true, reduceIte, Bool.not_true, Bool.not_false, Ex.isOmit, e4r, e4s, e4t, e4u, e4v, e4w, e4x, e4y, e4z, e50, e51, e52, e53, e54, e55, e56, e57, e58, e59, e5a, e5b, e5c, e5d, e5e, e5f, e5g, e5h, e5i, e5j, e5k, e5l, e5m, e5n, e5o, e5p, e5q, e5r, e5s, e5t, e5u, e5v, e5w, e5x, e5y, e5z, e60, e61, e62, e63, e64, e65, e66, e67, e68, e69, e6a, e6b, e6c, e6d, e6e, e6f, e6g, e6h, e6i, e6j, e6k, e6l, e6m, e6n, e6o, e6p, e6q, e6r, e6s, e6t, e6u, e6v, e6w, e6x, e6y, e6z, e70, e71, e72, e73, e74, e75, e76, e77, small_nat (n := 1 + min ns.length 10) (by omega), Int.toNat_natCast, rngL_nat]
  rw [e1]
  simp (implicitDefEqProofs := false) only [e00, e01, e02, e03, e04, e05, e06, e07, e08, e09, e0a, e0b, e0c, e0d, e0e, e0f, e0g, e0h, e0i, e0j, e0k, e0l, e0m, e0n, e0o, e0p, e0q, e0r, e0s, e0t, e0u, e0v, e0w, e0x, e0y, e0z, e10, e11, e12, e13, e14, e15, e16, e17, e18, e19, e1a, e1b, e1c, e1d, e1e, e1f, e1g, e1h, e1i, e1j, e1k, e1l, e1m, e1n, e1o, e1p, e1q, e1r, e1s, e1t, e1u, e1v, e1w, e1x, e1y, e1z, e20, e21, e22, e23, e24, e25, e26, e27, e28, e29, e2a, e2b, e2c, e2d, e2e, e2f, e2g, e2h, e2i, e2j, e2k, e2l, e2m, e2n, e2o, e2p, e2q, e2r, e2s, e2t, e2u, e2v, e2w, e2x, e2y, e2z, e30, e31, e32, e33, e34, e35, e36, e37, e38, e39, e3a, e3b, e3c, e3d, e3e, e3f, e3g, e3h, e3i, e3j, e3k, e3l, e3m, e3n, e3o, e3p, e3q, e3r, e3s, e3t, e3u, e3v, e3w, e3x, e3y, e3z, e40, e41, e42, e43, e44, e45, e46, e47, e48, e49, e4a, e4b, e4c, e4d, e4e, e4f, e4g, e4h, e4i, e4j, e4k, e4l, e4m, e4n, e4o, e4p, e4q, R.bind_ok, R.bind_ex, R.bind_bad, R.lift_some, R.noEx_ok, List.getElem?_cons_zero, List.getElem?_cons_succ, Option.bind_some, Option.map_some, Option.bind_eq_bind, id_eq, List.set_cons_zero, List.set_cons_succ, if_true, if_false, Bool.false_eq_true, reduceIte, Bool.not_true, Bool.not_false, Ex.isOmit, e4r, e4s, e4t, e4u, e4v, e4w, e4x, e4y, e4z, e50, e51, e52, e53, e54, e55, e56, e57, e58, e59, e5a, e5b, e5c, e5d, e5e, e5f, e5g, e5h, e5i, e5j, e5k, e5l, e5m, e5n, e5o, e5p, e5q, e5r, e5s, e5t, e5u, e5v, e5w, e5x, e5y, e5z, e60, e61, e62, e63, e64, e65, e66, e67, e68, e69, e6a, e6b, e6c, e6d, e6e, e6f, e6g, e6h, e6i, e6j, e6k, e6l, e6m, e6n, e6o, e6p, e6q, e6r, e6s, e6t, e6u, e6v, e6w, e6x, e6y, e6z, e70, e71, e72, e73, e74, e75, e76, e77, lastB, b18, k1, k2]

end
end K14

end

section
set_option Elab.async false
set_option linter.all false
set_option maxRecDepth 100000
set_option maxHeartbeats 0
namespace K14
open PySem PySem.Spec PyProof.Rows L2 Mi
abbrev R : PySem.W.OpenRow := PySem.W.OpenLaw.row PySem.Challenge.rw_surefalls_k14_scripts_written
/-- what the facts look at -/
def ads : List Addr := mainGlobals :: PySem.cStatics :: ([174, 181, 188, 200, 205, 251, 265, 270, 277, 284, 289, 296, 303, 592, 599, 606, 613, 618, 625, 44, 68, 581, 167, 0] : List Nat) ++ ([173, 180, 187, 199, 204, 250, 264, 269, 276, 283, 288, 295, 302, 591, 598, 605, 612, 617, 624, 43, 31, 67, 580, 168] : List Nat) ++ ([169, 170, 171, 172, 175, 176, 177, 178, 179, 182, 183, 184, 185, 186, 194, 195, 196, 197, 198, 201, 202, 203, 245, 246] : List Nat) ++ ([247, 248, 249, 259, 260, 261, 262, 263, 266, 267, 268, 271, 272, 273, 274, 275, 278, 279, 280, 281, 282, 285, 286, 287] : List Nat) ++ ([290, 291, 292, 293, 294, 297, 298, 299, 300, 301, 586, 587, 588, 589, 590, 593, 594, 595, 596, 597, 600, 601, 602, 603] : List Nat) ++ ([604, 607, 608, 609, 610, 611, 614, 615, 616, 619, 620, 621, 622, 623, 42, 30, 66, 451, 460, 469, 477, 484, 491, 498] : List Nat) ++ ([503, 510, 517, 524, 531, 538, 545, 550, 557, 564, 571, 578, 579, 582, 583, 29, 32, 450, 458, 459, 468, 476, 483, 490] : List Nat) ++ ([497, 502, 509, 516, 523, 530, 537, 544, 549, 556, 563, 570, 577, 445, 446, 447, 448, 449, 457, 461, 467, 475, 478, 479] : List Nat) ++ ([480, 481, 482, 485, 486, 487, 488, 489, 492, 493, 494, 495, 496, 499, 500, 501, 504, 505, 506, 507, 508, 511, 512, 513] : List Nat) ++ ([514, 515, 518, 519, 520, 521, 522, 525, 526, 527, 528, 529, 532, 533, 534, 535, 536, 539, 540, 541, 542, 543, 546, 547] : List Nat) ++ ([548, 551, 552, 553, 554, 555, 558, 559, 560, 561, 562, 565, 566, 567, 568, 569, 572, 573, 574, 575, 576] : List Nat)
abbrev hk : PySem.W.Hook := txt.hook ads
def ob (s : PySem.W.SharedT) : Mi.AlM := Mi.obsM txt ads (HandSHeadRun.getT s)
theorem ob_eq (s : PySem.W.SharedT) : ob s = hk.obs s.abs := Mi.obsM_eq (HandSHeadRun.getT_eq s)
theorem run (w : World) : HandSHeadRun.RunEq R (PySem.W.view R.prog [76]) hk ob 8000 loose w := by
  intro os
  kernel_rfl
end K14

end

section
set_option Elab.async false
set_option linter.all false
set_option maxRecDepth 100000
set_option maxHeartbeats 0
namespace K14
open PySem PySem.Spec PyProof.Rows L2 Mi
theorem plain (ns : List Int) (h : ns.length ≤ 63) : ∃ N st, txt.mdl.run N 21 18 [.scr (ns.map PV.int)] [] = .ok (.bl true) st := ⟨0, law_ok (N := 0) (d := 0) ns⟩
end K14
open PySem PySem.W PySem.Calls PyProof.Rows
theorem PySem.Challenge.cw_surefalls_k14_scripts_written_holds : PySem.Challenge.rw_surefalls_k14_scripts_written.Holds := by
  w_on; o_law
  refine HandSHeadRun.head_any (r := OpenLaw.row PySem.Challenge.rw_surefalls_k14_scripts_written) (q := view (OpenLaw.row PySem.Challenge.rw_surefalls_k14_scripts_written).prog [76]) (H := K14.hk) (ob := K14.ob) (M := 8000) (loose := K14.loose) (d := HandSHeadRun.topDef (OpenLaw.row PySem.Challenge.rw_surefalls_k14_scripts_written).prog 76) (kwd := []) K14.ob_eq
    (by kernel_rfl) (fun s => by kernel_rfl) K14.run (by kernel_rfl) (by kernel_rfl) (by kernel_rfl) (by rfl) (by first | assumption | decide +kernel) (by decide +kernel) ⟨rfl, rfl, rfl, rfl, rfl, by decide +kernel⟩ ?hw ?hc
  case hw => w_witness2
  case hc =>
    refine LamX.walk_ofTsE (l := PySem.Challenge.rw_surefalls_k14_scripts_written) (n := 63) (k := 6 * 21) (x := "script") (CX := fun w => L2.CX PySem.Challenge.rw_surefalls_k14_scripts_written.prog w) rfl (by decide) (by kernel_rfl) ⟨rfl, by decide, by decide⟩ ?F Mi.cx_end
    intro w mg fa h Y G hmg0
    have hmg : mg ("law" : PySem.Str) = some (.ref fa) := by
      have e : (HandSHeadRun.topDef (OpenLaw.row PySem.Challenge.rw_surefalls_k14_scripts_written).prog 76).name = ("law" : PySem.Str) := by kernel_rfl
      rw [← e]
      exact hmg0
    exact Mi.law_end (t := K14.txt) (d := 21) (f := 18) (D := K14.d18) K14.ok K14.bds rfl rfl rfl rfl K14.plain Y G hmg

end
