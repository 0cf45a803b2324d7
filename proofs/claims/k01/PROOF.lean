import PyProof.Rows.All
import Wide.All
import OpenK.AllK
import Wide.FinOn
import PySem.Challenge.RW_surefalls_k01_values_recognized
import HandS.ForMost
import HandS.ForExc
import HandS.Walk
import HandS.Zip
import HandS.IsInst
import HandS.TupAny
import HandS.TupMul
import HandS.Wide
import KE.DataEq
import PyProof.Rows.IntBool
import KE.GoesEnum
import HandS.Style
import HandS.ExcOwn
import HandS.Conv
import HandS.Iter
import KE.KStateDown
import HandS.Exc
import HandS.Defaults
import HandS.HeadHook1
import HandS.HeadHook2
import HandS.HeadHook3
import HandS.HeadHook4
import HandS.HeadEnd
import HandS.Base
import HandS.Call
import HandS.Ends
import HandS.More
import HandS.Words
import HandS.WordsExc
import HandS.Head0
import HandS.Head1
import HandS.Head2
section
set_option linter.all false
/-! Mi, part A: pure values, the small language, its evaluator. -/
namespace Mi
open PySem L2

/-- pure values; cel n: the n-th mutable cell; scr: the script's own list; glo x: a def or class of the module -/
inductive PV where
  | non | bl (b : Bool) | int (i : Int) | str (x : Str)
  | tup (xs : List PV) | lst (xs : List PV) | cel (n : Nat) | scr (xs : List PV) | glo (x : Nat) | ty (n : String)

inductive CC where
  | lst (xs : List PV)
  | ins (c : Nat) (fs : List (Nat × PV))
abbrev Sto := List CC
abbrev Env' := List (Option PV)

inductive R (α : Type) where
  | ok (a : α) (st : Sto)
  | ex (c : Nat) (st : Sto)
  | bad

namespace R
variable {α β : Type}
def bind (r : R α) (f : α → Sto → R β) : R β := match r with
  | .ok a st => f a st
  | .ex c st => .ex c st
  | .bad => .bad
def lift (o : Option α) (st : Sto) : R α := match o with
  | some a => .ok a st
  | none => .bad
/-- no error may leave -/
def noEx (r : R α) : R α := match r with
  | .ok a st => .ok a st
  | _ => .bad
@[simp] theorem noEx_ok (a : α) (st : Sto) : (R.ok a st).noEx = .ok a st := rfl
@[simp] theorem bind_ok (a : α) (st : Sto) (f : α → Sto → R β) : (R.ok a st).bind f = f a st := rfl
@[simp] theorem bind_ex (c : Nat) (st : Sto) (f : α → Sto → R β) : (R.ex c st).bind f = .ex c st := rfl
@[simp] theorem bind_bad (f : α → Sto → R β) : (R.bad).bind f = .bad := rfl
@[simp] theorem lift_some (a : α) (st : Sto) : lift (some a) st = .ok a st := rfl
@[simp] theorem lift_none (st : Sto) : lift (none : Option α) st = .bad := rfl
end R

/-! ### values -/
abbrev big : Nat := 1000000
mutual
/-- no cell within -/
def PV.noCel : PV → Bool
  | .cel _ => false
  | .tup xs => noCels xs
  | .lst xs => noCels xs
  | .scr xs => noCels xs
  | _ => true
def noCels : List PV → Bool
  | [] => true
  | x :: xs => x.noCel && noCels xs
end
mutual
/-- no list within (nor cell) -/
def PV.noLst : PV → Bool
  | .cel _ => false
  | .lst _ => false
  | .scr _ => false
  | .tup xs => noLsts xs
  | _ => true
def noLsts : List PV → Bool
  | [] => true
  | x :: xs => x.noLst && noLsts xs
end
mutual
/-- plain data: none, bools, ints, texts, tuples, lists -/
def PV.dat : PV → Bool
  | .non | .bl _ | .int _ | .str _ => true
  | .tup xs => dats xs
  | .lst xs => dats xs
  | _ => false
def dats : List PV → Bool
  | [] => true
  | x :: xs => x.dat && dats xs
end
mutual
def PV.dep : PV → Nat
  | .tup xs => deps xs + 1
  | .lst xs => deps xs + 1
  | _ => 0
def deps : List PV → Nat
  | [] => 0
  | x :: xs => max x.dep (deps xs)
end
def b2i (b : Bool) : Int := if b then 1 else 0
mutual
/-- Python's == of data -/
def PV.eqv : PV → PV → Bool
  | .non, .non => true
  | .bl a, .bl b => a == b
  | .bl a, .int j => b2i a == j
  | .int i, .bl b => i == b2i b
  | .int i, .int j => i == j
  | .str x, .str y => x == y
  | .tup xs, .tup ys => eqvs xs ys
  | .lst xs, .lst ys => eqvs xs ys
  | _, _ => false
def eqvs : List PV → List PV → Bool
  | [], [] => true
  | x :: xs, y :: ys => x.eqv y && eqvs xs ys
  | _, _ => false
end

/-- a list's items: frozen, a cell's -/
def asL (st : Sto) : PV → Option (List PV)
  | .lst xs => some xs
  | .cel n => match st[n]? with
    | some (.lst xs) => some xs
    | _ => none
  | _ => none
/-- a cell read as a list -/
def snap (st : Sto) : PV → PV
  | .cel n => match st[n]? with
    | some (.lst xs) => .lst xs
    | _ => .cel n
  | v => v
/-- items of a list, a tuple -/
def asS (st : Sto) (v : PV) : Option (List PV) := match v with
  | .tup xs => some xs
  | .scr xs => some xs
  | v => asL st v
mutual
/-- cells of a pure def's end, frozen -/
def frz (st : Sto) : PV → Option PV
  | .cel n => match st[n]? with
    | some (.lst xs) => if noCels xs then some (.lst xs) else none
    | _ => none
  | .tup xs => (frzs st xs).map .tup
  | .lst xs => if noCels xs then some (.lst xs) else none
  | .scr xs => if noCels xs then some (.scr xs) else none
  | v => some v
def frzs (st : Sto) : List PV → Option (List PV)
  | [] => some []
  | x :: xs => (frz st x).bind fun y => (frzs st xs).map (y :: ·)
end
def cutG {α : Type} (xs : List α) (lo hi : Option Int) : List α := (xs.drop (HT.sIx xs.length 0 lo)).take (HT.sIx xs.length xs.length hi - HT.sIx xs.length 0 lo)

/-! ### operators by values -/
def mulOk (i j : Int) : Bool := (decide (-(2 ^ 64) < i) && decide (i < 2 ^ 64)) || (decide (-(2 ^ 64) < j) && decide (j < 2 ^ 64))
def binV (st : Sto) : Operator → PV → PV → Option PV
  | .Add, .int i, .int j => some (.int (i + j))
  | .Add, .int i, .bl b => some (.int (i + b2i b))
  | .Add, .bl b, .int j => some (.int (b2i b + j))
  | .Sub, .int i, .int j => some (.int (i - j))
  | .Mult, .int i, .int j => if mulOk i j then some (.int (i * j)) else none
  | .FloorDiv, .int i, .int j => if decide (0 < j) && decide (j < 2 ^ 200) then some (.int (i / j)) else none
  | .Mod, .int i, .int j => if decide (0 < j) then some (.int (i % j)) else none
  | .Pow, .int i, .int j => if decide (0 ≤ j) && (decide (j ≤ 64) && decide (i.natAbs < 2 ^ 32)) then some (.int (i ^ j.toNat)) else none
  | .Add, .str x, .str y => if x.length + y.length ≤ big then some (.str (x ++ y)) else none
  | .Add, .tup xs, .tup ys => if xs.length + ys.length ≤ big then some (.tup (xs ++ ys)) else none
  | .Mult, .tup xs, .int k => if decide (2 ≤ k) && (decide (k ≤ 1000) && (decide (xs.length ≤ 1000) && !xs.isEmpty)) then some (.tup (List.replicate k.toNat xs).flatten) else none
  | .Mult, .lst xs, .int k => if decide (0 ≤ k) && (decide (k ≤ 1000) && decide (xs.length ≤ 1000)) then some (.lst (List.replicate k.toNat xs).flatten) else none
  | .Add, x, y => match asL st x, asL st y with
    | some xs, some ys => if xs.length + ys.length ≤ big then some (.lst (xs ++ ys)) else none
    | _, _ => none
  | _, _, _ => none
def negV : PV → Option PV
  | .int i => some (.int (-i))
  | _ => none
def isN : PV → Bool
  | .non => true
  | _ => false
def eqV (st : Sto) (x y : PV) : Option Bool :=
  if (snap st x).dat && ((snap st y).dat && (decide ((snap st x).dep ≤ 60) || decide ((snap st y).dep ≤ 60))) then some ((snap st x).eqv (snap st y)) else none
def ints? : List PV → Option (List Int)
  | [] => some []
  | .int i :: r => (ints? r).map (i :: ·)
  | _ => none
def bools? : List PV → Option (List Bool)
  | [] => some []
  | .bl i :: r => (bools? r).map (i :: ·)
  | _ => none
def strs? : List PV → Option (List Str)
  | [] => some []
  | .str i :: r => (strs? r).map (i :: ·)
  | _ => none
def cmpV (st : Sto) : CmpOp → PV → PV → Option Bool
  | .Eq, x, y => eqV st x y
  | .NotEq, x, y => (eqV st x y).map (!·)
  | .Lt, .int i, .int j => some (decide (i < j))
  | .LtE, .int i, .int j => some (decide (i ≤ j))
  | .Gt, .int i, .int j => some (decide (j < i))
  | .GtE, .int i, .int j => some (decide (j ≤ i))
  | .Is, x, .non => some (isN x)
  | .IsNot, x, .non => some (!isN x)
  | .In, x, y => match asS st y with
    | some ys => if (snap st x).dat && (dats ys && decide (deps ys ≤ 60)) then some (ys.any fun z => z.eqv (snap st x)) else none
    | none => none
  | .NotIn, x, y => match asS st y with
    | some ys => if (snap st x).dat && (dats ys && decide (deps ys ≤ 60)) then some (!ys.any fun z => z.eqv (snap st x)) else none
    | none => none
  | _, _, _ => none
def truV (st : Sto) : PV → Option Bool
  | .non => some false
  | .bl b => some b
  | .int i => some (i != 0)
  | v => (asS st v).map fun xs => !xs.isEmpty
def ixV (st : Sto) (x y : PV) : Option PV := match y with
  | .int i => (match x with
    | .str z => if z.length ≤ big then (atI z.cps.toList i).map fun c => .str ⟨#[c]⟩ else none
    | x => (asS st x).bind fun xs => atI xs i)
  | _ => none
def isiV : PV → String → Option Bool
  | .non, "int" | .non, "bool" | .non, "str" | .non, "tuple" => some false
  | .bl _, "int" | .bl _, "bool" => some true
  | .bl _, "str" | .bl _, "tuple" => some false
  | .int _, "int" => some true
  | .int _, "bool" | .int _, "str" | .int _, "tuple" => some false
  | .str _, "str" => some true
  | .str _, "int" | .str _, "bool" | .str _, "tuple" => some false
  | .tup _, "tuple" => some true
  | .tup _, "int" | .tup _, "bool" | .tup _, "str" => some false
  | .lst _, "int" | .lst _, "bool" | .lst _, "str" | .lst _, "tuple" => some false
  | _, _ => none

inductive Bi where
  | len | abs | min2 | max2 | sum | all | any | tuple | list | int | bool | str | isi
  deriving DecidableEq
def biV (st : Sto) : Bi → List PV → Option PV
  | .len, [.str z] => if z.length ≤ big then some (.int z.length) else none
  | .len, [v] => (asS st v).map fun xs => .int xs.length
  | .abs, [.int i] => some (.int (if i < 0 then -i else i))
  | .min2, [.int i, .int j] => some (.int (if j < i then j else i))
  | .max2, [.int i, .int j] => some (.int (if j > i then j else i))
  | .sum, [v] => (asL st v).bind fun xs => (ints? xs).map fun ns => .int ns.sum
  | .all, [v] => (asL st v).bind fun xs => (bools? xs).map fun bs => .bl (bs.all id)
  | .any, [v] => (asL st v).bind fun xs => (bools? xs).map fun bs => .bl (bs.any id)
  | .tuple, [.tup xs] => some (.tup xs)
  | .tuple, [v] => (asL st v).map .tup
  | .list, [.tup xs] => some (.lst xs)
  | .list, [v] => (asL st v).map .lst
  | .int, [.int i] => some (.int i)
  | .int, [.bl b] => some (.int (b2i b))
  | .bool, [.bl b] => some (.bl b)
  | .isi, [v, .ty n] => (isiV v n).map .bl
  | _, _ => none

/-! ### the language -/
inductive Tg where
  | nm (i : Nat) | nil | cons (t ts : Tg)
inductive CM where
  | pure | snap | sto
inductive Ex where
  | var (i : Nat) | non | bl (b : Bool) | int (i : Int) | str (s : Str) | gl (x : Nat) | bty (n : String)
  | bin (o : Operator) (a b : Ex) | neg (a : Ex) | not (a : Ex) | and (a b : Ex) | or (a b : Ex)
  | cmp (o : CmpOp) (a b : Ex) | chn (o o' : CmpOp) (a b c : Ex) | ite (c a b : Ex)
  | nil | cons (a as : Ex)
  | tup (as : Ex) | lst (as : Ex) | cell (e : Ex)
  | call (m : CM) (f : Nat) (as : Ex) | bi (b : Bi) (as : Ex)
  | idx (a b : Ex) | sli (a lo hi : Ex) | omit
  | comp (tg : Tg) (ow : List Nat) (it c e : Ex)
  | lrg (a b : Ex) | lrd (a b : Ex)
  | rng1 (a : Ex) | rng2 (a b : Ex) | zip (a b : Ex) | enu (a : Ex) | sq (a : Ex)
inductive Sm where
  | skip | seq (a b : Sm)
  | set (i : Nat) (e : Ex) | setT (t : Tg) (e : Ex) | put (o i e : Ex) | app (o e : Ex)
  | ret (e : Ex) | ite (c : Ex) (a b : Sm) | for (t : Tg) (it : Ex) (b : Sm) | while (c : Ex) (b : Sm)
  | raise (c : Nat) (m : Str) | drop (e : Ex)

/-- a comprehension's own slots forgotten -/
def wipeP (ρ : Env') : List Nat → Env'
  | [] => ρ
  | v :: vs => (wipeP ρ vs).set v none
def setTg : Tg → PV → Env' → Option Env'
  | .nm i, v, ρ => some (ρ.set i (some v))
  | .nil, .tup [], ρ => some ρ
  | .cons t ts, .tup (v :: vs), ρ => (setTg t v ρ).bind fun ρ' => setTg ts (.tup vs) ρ'
  | _, _, _ => none

/-- how a def is called: its name, its arguments, the cells -/
abbrev CallF := Nat → List PV → Sto → R PV
/-- what the module's names hold -/
abbrev GlobF := Nat → Option PV

def callP (cf : CallF) (m : CM) (f : Nat) (as : List PV) (st : Sto) : R PV := match m with
  | .sto => cf f as st
  | .pure => if noCels as then (match cf f as [] with
    | .ok v st' => R.lift (frz st' v) st
    | .ex c _ => .ex c st
    | .bad => .bad) else .bad
  | .snap => if noCels (as.map (Mi.snap st)) then (match cf f (as.map (Mi.snap st)) [] with
    | .ok v _ => if v.noLst then .ok v st else .bad
    | .ex c _ => .ex c st
    | .bad => .bad) else .bad

/-- a comprehension's turns -/
def compR (f : PV → Sto → R (Option PV)) : List PV → Sto → R (List PV)
  | [], st => .ok [] st
  | x :: xs, st => (f x st).bind fun o st1 => (compR f xs st1).bind fun ys st2 => .ok (match o with
    | some y => y :: ys
    | none => ys) st2
def oInt (v : PV) : Option (Option Int) := match v with
  | .int i => some (some i)
  | _ => none
def rngL (lo : Int) (n : Nat) : List PV := (List.range n).map fun (i : Nat) => .int (lo + (i : Int))
def zipL (xs ys : List PV) : List PV := (xs.zip ys).map fun p => .tup [p.1, p.2]
def enuL (xs : List PV) : List PV := zipL (rngL 0 xs.length) xs
def rngD (lo : Int) (n : Nat) : List PV := (List.range n).map fun (i : Nat) => .int (lo - (i : Int))
def smallI (i : Int) : Bool := decide (-(2 ^ 60) ≤ i) && decide (i < 2 ^ 60)
/-- a range, listed -/
def lrgV (dn : Bool) (x y : PV) : Option PV := match x, y with
  | .int i, .int j => if smallI i && (smallI j && decide ((if dn then i - j else j - i).toNat ≤ big)) then some (.lst (if dn then rngD i (i - j).toNat else rngL i (j - i).toNat)) else none
  | _, _ => none
/-- what may be walked, as it stood -/
def walkL : PV → Option (List PV)
  | .lst xs => some xs
  | .tup xs => some xs
  | .scr xs => some xs
  | _ => none

def Ex.isOmit : Ex → Bool
  | .omit => true
  | _ => false
/-- a slice's end -/
def optR (o : Bool) (f : Sto → R PV) (st : Sto) : R (Option Int) := if o then .ok none st else (f st).bind fun x st1 => R.lift (oInt x) st1
/-- a comprehension's test -/
def tstR (o : Bool) (f : Sto → R PV) (st : Sto) : R Bool := if o then .ok true st else (f st).bind fun x st1 => R.lift (truV st1 x) st1

mutual
def evE (G : GlobF) (cf : CallF) : Ex → Env' → Sto → R PV
  | .var i, ρ, st => R.lift ((ρ[i]?).bind id) st
  | .non, _, st => .ok .non st
  | .bl b, _, st => .ok (.bl b) st
  | .int i, _, st => .ok (.int i) st
  | .str s, _, st => .ok (.str s) st
  | .gl x, _, st => R.lift (G x) st
  | .bty n, _, st => .ok (.ty n) st
  | .bin o a b, ρ, st => (evE G cf a ρ st).bind fun x st1 => (evE G cf b ρ st1).bind fun y st2 => R.lift (binV st2 o x y) st2
  | .neg a, ρ, st => (evE G cf a ρ st).bind fun x st1 => R.lift (negV x) st1
  | .not a, ρ, st => (tstR false (evE G cf a ρ) st).bind fun b st1 => .ok (.bl (!b)) st1
  | .and a b, ρ, st => (evE G cf a ρ st).bind fun x st1 => match x with
    | .bl true => evE G cf b ρ st1
    | .bl false => .ok (.bl false) st1
    | _ => .bad
  | .or a b, ρ, st => (evE G cf a ρ st).bind fun x st1 => match x with
    | .bl true => .ok (.bl true) st1
    | .bl false => evE G cf b ρ st1
    | _ => .bad
  | .cmp o a b, ρ, st => (evE G cf a ρ st).bind fun x st1 => (evE G cf b ρ st1).bind fun y st2 => R.lift ((cmpV st2 o x y).map .bl) st2
  | .chn o o' a b c, ρ, st => (evE G cf a ρ st).bind fun x st1 => (evE G cf b ρ st1).bind fun y st2 => match cmpV st2 o x y with
    | some true => (evE G cf c ρ st2).bind fun z st3 => R.lift ((cmpV st3 o' y z).map .bl) st3
    | some false => .ok (.bl false) st2
    | none => .bad
  | .ite c a b, ρ, st => (tstR false (evE G cf c ρ) st).bind fun d st1 => if d then evE G cf a ρ st1 else evE G cf b ρ st1
  | .tup as, ρ, st => (evA G cf as ρ st).bind fun xs st1 => .ok (.tup xs) st1
  | .lst as, ρ, st => (evA G cf as ρ st).bind fun xs st1 => .ok (.lst xs) st1
  | .cell e, ρ, st => (evE G cf e ρ st).bind fun x st1 => match x with
    | .lst xs => if noCels xs then .ok (.cel st1.length) (st1 ++ [.lst xs]) else .bad
    | _ => .bad
  | .call m f as, ρ, st => (evA G cf as ρ st).bind fun xs st1 => callP cf m f xs st1
  | .bi b as, ρ, st => (evA G cf as ρ st).bind fun xs st1 => R.lift (biV st1 b xs) st1
  | .idx a b, ρ, st => (evE G cf a ρ st).bind fun x st1 => (evE G cf b ρ st1).bind fun y st2 => R.lift (ixV st2 x y) st2
  | .sli a lo hi, ρ, st => (evE G cf a ρ st).bind fun x st1 => (optR lo.isOmit (evE G cf lo ρ) st1).bind fun l st2 => (optR hi.isOmit (evE G cf hi ρ) st2).bind fun h st3 => match x with
    | .tup xs => .ok (.tup (cutG xs l h)) st3
    | x => R.lift ((asL st3 x).map fun xs => .lst (cutG xs l h)) st3
  | .comp tg ow it c e, ρ, st => (evI G cf it ρ st).bind fun xs st1 => (compR (fun x st => R.noEx <| match setTg tg x (wipeP ρ ow) with
    | none => .bad
    | some ρ' => (tstR c.isOmit (evE G cf c ρ') st).bind fun b st => if b then (evE G cf e ρ' st).bind fun y st => .ok (some y) st else .ok none st) xs st1).bind fun ys st2 => if ys.length ≤ big then .ok (.lst ys) st2 else .bad
  | .lrg a b, ρ, st => (evE G cf a ρ st).bind fun x st1 => (evE G cf b ρ st1).bind fun y st2 => R.lift (lrgV false x y) st2
  | .lrd a b, ρ, st => (evE G cf a ρ st).bind fun x st1 => (evE G cf b ρ st1).bind fun y st2 => R.lift (lrgV true x y) st2
  | _, _, _ => .bad
/-- arguments -/
def evA (G : GlobF) (cf : CallF) : Ex → Env' → Sto → R (List PV)
  | .nil, _, st => .ok [] st
  | .cons a as, ρ, st => (evE G cf a ρ st).bind fun x st1 => (evA G cf as ρ st1).bind fun xs st2 => .ok (x :: xs) st2
  | _, _, _ => .bad
/-- what is walked -/
def evI (G : GlobF) (cf : CallF) : Ex → Env' → Sto → R (List PV)
  | .rng1 a, ρ, st => (evE G cf a ρ st).bind fun x st1 => match x with
    | .int j => if smallI j then .ok (rngL 0 j.toNat) st1 else .bad
    | _ => .bad
  | .rng2 a b, ρ, st => (evE G cf a ρ st).bind fun x st1 => (evE G cf b ρ st1).bind fun y st2 => match x, y with
    | .int i, .int j => if smallI i && smallI j then .ok (rngL i (j - i).toNat) st2 else .bad
    | _, _ => .bad
  | .zip a b, ρ, st => (evE G cf a ρ st).bind fun x st1 => (evE G cf b ρ st1).bind fun y st2 => match walkL x, walkL y with
    | some xs, some ys => .ok (zipL xs ys) st2
    | _, _ => .bad
  | .enu a, ρ, st => (evE G cf a ρ st).bind fun x st1 => R.lift ((walkL x).map enuL) st1
  | .sq a, ρ, st => (evE G cf a ρ st).bind fun x st1 => R.lift (walkL x) st1
  | _, _, _ => .bad
end

inductive Fl where
  | nx (ρ : Env') | rt (v : PV)
def forR (f : PV → Env' → Sto → R Fl) : List PV → Env' → Sto → R Fl
  | [], ρ, st => .ok (.nx ρ) st
  | x :: xs, ρ, st => (f x ρ st).bind fun fl st1 => match fl with
    | .nx ρ' => forR f xs ρ' st1
    | .rt v => .ok (.rt v) st1
def whR (c : Env' → Sto → R Bool) (f : Env' → Sto → R Fl) : Nat → Env' → Sto → R Fl
  | 0, _, _ => .bad
  | n + 1, ρ, st => (c ρ st).bind fun b st1 => if b then (f ρ st1).bind fun fl st2 => (match fl with
    | .nx ρ' => whR c f n ρ' st2
    | .rt v => .ok (.rt v) st2) else .ok (.nx ρ) st1
/-- a cell's item stored -/
def putV (st : Sto) (o i v : PV) : Option Sto := match o, i with
  | .cel n, .int k => (match st[n]? with
    | some (.lst xs) => if v.noCel then (ixN xs.length k).map fun j => st.set n (.lst (xs.set j v)) else none
    | _ => none)
  | _, _ => none
def appV (st : Sto) (o v : PV) : Option Sto := match o with
  | .cel n => (match st[n]? with
    | some (.lst xs) => if v.noCel && decide (xs.length < big) then some (st.set n (.lst (xs ++ [v]))) else none
    | _ => none)
  | _ => none
def R.sto (ρ : Env') (o : Option Sto) : R Fl := match o with
  | some st => .ok (.nx ρ) st
  | none => .bad
/-- N: the turns that a while may take -/
def evS (G : GlobF) (cf : CallF) (N : Nat) : Sm → Env' → Sto → R Fl
  | .skip, ρ, st => .ok (.nx ρ) st
  | .seq a b, ρ, st => (evS G cf N a ρ st).bind fun fl st1 => match fl with
    | .nx ρ' => evS G cf N b ρ' st1
    | .rt v => .ok (.rt v) st1
  | .set i e, ρ, st => (evE G cf e ρ st).bind fun x st1 => .ok (.nx (ρ.set i (some x))) st1
  | .setT t e, ρ, st => (evE G cf e ρ st).bind fun x st1 => R.lift ((setTg t x ρ).map .nx) st1
  | .put o i e, ρ, st => (evE G cf e ρ st).bind fun x st1 => (evE G cf o ρ st1).bind fun y st2 => (evE G cf i ρ st2).bind fun z st3 => R.sto ρ (putV st3 y z x)
  | .app o e, ρ, st => (evE G cf o ρ st).bind fun y st1 => match y with
    | .cel n => (evE G cf e ρ st1).bind fun x st2 => R.sto ρ (appV st2 (.cel n) x)
    | _ => .bad
  | .drop e, ρ, st => (evE G cf e ρ st).bind fun _ st1 => .ok (.nx ρ) st1
  | .ret e, ρ, st => (evE G cf e ρ st).bind fun x st1 => .ok (.rt x) st1
  | .ite c a b, ρ, st => (tstR false (evE G cf c ρ) st).bind fun d st1 => if d then evS G cf N a ρ st1 else evS G cf N b ρ st1
  | .for t it b, ρ, st => (evI G cf it ρ st).bind fun xs st1 => forR (fun x ρ st => match setTg t x ρ with
    | none => .bad
    | some ρ' => evS G cf N b ρ' st) xs ρ st1
  | .while c b, ρ, st => whR (fun ρ st => tstR false (evE G cf c ρ) st) (fun ρ st => evS G cf N b ρ st) N ρ st
  | .raise c _, _, st => .ex c st

/-- a def: its parameters, its names (parameters first), its body -/
structure Fn where
  ps : List Str
  ns : List Str
  body : Sm
def startE (fn : Fn) (as : List PV) : Env' := as.map some ++ List.replicate (fn.ns.length - as.length) none
def Fl.val (fl : Fl) (st : Sto) : R PV := match fl with
  | .nx _ => .ok .non st
  | .rt v => .ok v st
def runF (G : GlobF) (T : Nat → Option Fn) (N : Nat) : Nat → CallF
  | 0, _, _, _ => .bad
  | d + 1, f, as, st => match T f with
    | none => .bad
    | some fn => if as.length = fn.ps.length then (evS G (runF G T N d) N fn.body (startE fn as) st).bind Fl.val else .bad
end Mi

end

section
set_option linter.all false
set_option maxRecDepth 100000
/-! Mi, part B: pure values over the abstract heap. -/
namespace Mi
open PySem PySem.Spec PyProof.Rows L2

/-- what the relation leans on: the written part, the module's names, their table -/
structure Wd where
  K : PySem.W.Frag
  mg : Str → Option Value
  nm : Nat → Str
def TupK (K : PySem.W.Frag) (a : Addr) (vs : List V) : Prop :=
  ∃ (o : Obj) (its : Array Value) (n : Nat), K.lookup a = some o ∧ o.cls = .type "tuple" ∧ o.data = .seq its n ∧ its.size ≤ sizeLine ∧ Vals vs its.toList
def KLst (K : PySem.W.Frag) (a : Addr) (vs : List V) : Prop :=
  ∃ (o : Obj) (its : Array Value) (n : Nat), K.lookup a = some o ∧ o.cls = .type "list" ∧ o.dict = none ∧ o.data = .seq its n ∧ its.size ≤ sizeLine ∧ Vals vs its.toList
mutual
inductive Rel (w : Wd) (H : Hp) (M : List Addr) (B : Addr → Prop) : PV → V → Prop
  | non : Rel w H M B .non .non
  | bl (b : Bool) : Rel w H M B (.bl b) (.bl b)
  | int (i : Int) : Rel w H M B (.int i) (.int i)
  | str (x : Str) : Rel w H M B (.str x) (.str x)
  | ty (n : String) : Rel w H M B (.ty n) (.ty n)
  | glo {x : Nat} {a : Addr} : w.mg (w.nm x) = some (.ref a) → Rel w H M B (.glo x) (.ref a)
  | cel {n : Nat} {a : Addr} : M[n]? = some a → Rel w H M B (.cel n) (.ref a)
  | tup {a : Addr} {xs : List PV} {vs : List V} : H a = some (.tup vs) → a ∉ M → Rels w H M B xs vs → Rel w H M B (.tup xs) (.ref a)
  | ktup {a : Addr} {xs : List PV} {vs : List V} : TupK w.K a vs → Rels w H M B xs vs → Rel w H M B (.tup xs) (.ref a)
  | lst {a : Addr} {xs : List PV} {vs : List V} : H a = some (.lst vs) → a ∉ M → ¬ B a → Rels w H M B xs vs → Rel w H M B (.lst xs) (.ref a)
  | scr {a : Addr} {xs : List PV} {vs : List V} {o : Obj} : H a = some (.frz o (.lst vs)) → a ∉ M → Rels w H M B xs vs → Rel w H M B (.scr xs) (.ref a)
  | kscr {a : Addr} {xs : List PV} {vs : List V} : KLst w.K a vs → Rels w H M B xs vs → Rel w H M B (.scr xs) (.ref a)
inductive Rels (w : Wd) (H : Hp) (M : List Addr) (B : Addr → Prop) : List PV → List V → Prop
  | nil : Rels w H M B [] []
  | cons {x : PV} {v : V} {xs : List PV} {vs : List V} : Rel w H M B x v → Rels w H M B xs vs → Rels w H M B (x :: xs) (v :: vs)
end

/-- later: what was tracked and no cell stands, the cells are the same ones (and more) -/
structure Kp (H : Hp) (M : List Addr) (H' : Hp) (M' : List Addr) : Prop where
  h : ∀ a o, H a = some o → a ∉ M → H' a = some o ∧ a ∉ M'
  m : ∀ (n : Nat) (a : Addr), M[n]? = some a → M'[n]? = some a
  d : ∀ a, H' a = none → H a = none
theorem Kp.refl (H : Hp) (M : List Addr) : Kp H M H M := ⟨fun _ _ e n => ⟨e, n⟩, fun _ _ e => e, fun _ e => e⟩
theorem Kp.trans {H H1 H2 : Hp} {M M1 M2 : List Addr} (a : Kp H M H1 M1) (b : Kp H1 M1 H2 M2) : Kp H M H2 M2 :=
  ⟨fun x o e n => let ⟨e1, n1⟩ := a.h x o e n; b.h x o e1 n1, fun n x e => b.m n x (a.m n x e), fun x e => a.d x (b.d x e)⟩
section
variable {w : Wd} {H H' : Hp} {M M' : List Addr} {B : Addr → Prop}
mutual
theorem Rel.mono (k : Kp H M H' M') : ∀ {x : PV} {v : V}, Rel w H M B x v → Rel w H' M' B x v
  | _, _, .non => .non
  | _, _, .bl b => .bl b
  | _, _, .int i => .int i
  | _, _, .str i => .str i
  | _, _, .ty n => .ty n
  | _, _, .glo e => .glo e
  | _, _, .cel e => .cel (k.m _ _ e)
  | _, _, .tup e n r => .tup (k.h _ _ e n).1 (k.h _ _ e n).2 (Rels.mono k r)
  | _, _, .ktup e r => .ktup e (Rels.mono k r)
  | _, _, .lst e n b r => .lst (k.h _ _ e n).1 (k.h _ _ e n).2 b (Rels.mono k r)
  | _, _, .scr e n r => .scr (k.h _ _ e n).1 (k.h _ _ e n).2 (Rels.mono k r)
  | _, _, .kscr e r => .kscr e (Rels.mono k r)
theorem Rels.mono (k : Kp H M H' M') : ∀ {xs : List PV} {vs : List V}, Rels w H M B xs vs → Rels w H' M' B xs vs
  | _, _, .nil => .nil
  | _, _, .cons r t => .cons (Rel.mono k r) (Rels.mono k t)
end
theorem Rels.length : ∀ {xs : List PV} {vs : List V}, Rels w H M B xs vs → xs.length = vs.length
  | _, _, .nil => rfl
  | _, _, .cons _ t => by rw [List.length_cons, List.length_cons, Rels.length t]
theorem Rels.get : ∀ {xs : List PV} {vs : List V} {i : Nat} {x : PV}, Rels w H M B xs vs → xs[i]? = some x → ∃ v, vs[i]? = some v ∧ Rel w H M B x v
  | _, _, _, _, .nil, e => by simp at e
  | _, _, 0, _, .cons r _, e => by simp at e; subst e; exact ⟨_, rfl, r⟩
  | _, _, i + 1, _, .cons _ t, e => by
    obtain ⟨v, h1, h2⟩ := Rels.get (i := i) t (by simpa using e)
    exact ⟨v, by simpa using h1, h2⟩
theorem Rels.getV : ∀ {xs : List PV} {vs : List V} {i : Nat} {v : V}, Rels w H M B xs vs → vs[i]? = some v → ∃ x, xs[i]? = some x ∧ Rel w H M B x v
  | _, _, _, _, .nil, e => by simp at e
  | _, _, 0, _, .cons r _, e => by simp at e; subst e; exact ⟨_, rfl, r⟩
  | _, _, i + 1, _, .cons _ t, e => by
    obtain ⟨x, h1, h2⟩ := Rels.getV (i := i) t (by simpa using e)
    exact ⟨x, by simpa using h1, h2⟩
theorem Rels.append : ∀ {xs ys : List PV} {vs us : List V}, Rels w H M B xs vs → Rels w H M B ys us → Rels w H M B (xs ++ ys) (vs ++ us)
  | _, _, _, _, .nil, s => s
  | _, _, _, _, .cons r t, s => .cons r (Rels.append t s)
theorem Rels.take : ∀ {xs : List PV} {vs : List V} (n : Nat), Rels w H M B xs vs → Rels w H M B (xs.take n) (vs.take n)
  | _, _, 0, _ => .nil
  | _, _, _ + 1, .nil => .nil
  | _, _, n + 1, .cons r t => .cons r (Rels.take n t)
theorem Rels.drop : ∀ {xs : List PV} {vs : List V} (n : Nat), Rels w H M B xs vs → Rels w H M B (xs.drop n) (vs.drop n)
  | _, _, 0, r => r
  | _, _, _ + 1, .nil => .nil
  | _, _, n + 1, .cons _ t => Rels.drop n t
theorem Rels.set : ∀ {xs : List PV} {vs : List V} (n : Nat) {x : PV} {v : V}, Rels w H M B xs vs → Rel w H M B x v → Rels w H M B (xs.set n x) (vs.set n v)
  | _, _, _, _, _, .nil, _ => .nil
  | _, _, 0, _, _, .cons _ t, q => .cons q t
  | _, _, n + 1, _, _, .cons r t, q => .cons r (Rels.set n t q)
theorem Rels.cut {xs : List PV} {vs : List V} (lo hi : Option Int) (r : Rels w H M B xs vs) : Rels w H M B (cutG xs lo hi) (cutV vs lo hi) := by
  unfold cutG cutV
  rw [r.length]
  exact (r.drop _).take _
theorem Rels.rep {xs : List PV} {vs : List V} (r : Rels w H M B xs vs) : ∀ n : Nat, Rels w H M B (List.replicate n xs).flatten (List.replicate n vs).flatten
  | 0 => .nil
  | n + 1 => by
    rw [List.replicate_succ, List.replicate_succ, List.flatten_cons, List.flatten_cons]
    exact r.append (Rels.rep r n)
theorem atI_rel {xs : List PV} {vs : List V} {i : Int} {x : PV} (r : Rels w H M B xs vs) (e : atI xs i = some x) : ∃ v, atI vs i = some v ∧ Rel w H M B x v := by
  unfold atI at e ⊢
  rw [← r.length]
  cases q : ixN xs.length i with
  | none => rw [q] at e; cases e
  | some j =>
    rw [q] at e
    exact r.get e
theorem Rel.tupT {xs : List PV} {v : V} (r : Rel w H M B (.tup xs) v) : ∃ a vs, v = .ref a ∧ SqT w.K H a vs ∧ Rels w H M B xs vs := by
  cases r with
  | tup e n r => exact ⟨_, _, rfl, .inl (.inl e), r⟩
  | ktup e r => exact ⟨_, _, rfl, .inr e, r⟩
theorem Rel.lstL {xs : List PV} {v : V} (r : Rel w H M B (.lst xs) v) : ∃ a vs, v = .ref a ∧ H a = some (.lst vs) ∧ Rels w H M B xs vs := by
  cases r with
  | lst e n b r => exact ⟨_, _, rfl, e, r⟩

/-! ### cells -/
def CellIs (w : Wd) (H : Hp) (M : List Addr) (B : Addr → Prop) (a : Addr) : CC → Prop
  | .lst xs => ∃ vs, H a = some (.lst vs) ∧ Rels w H M B xs vs
  | .ins _ _ => False
structure Cels (w : Wd) (H : Hp) (M : List Addr) (B : Addr → Prop) (st : Sto) : Prop where
  len : M.length = st.length
  nd : M.Nodup
  nb : ∀ a, a ∈ M → ¬ B a
  bk : ∀ a, B a → H a ≠ none
  at_ : ∀ (n : Nat) a c, M[n]? = some a → st[n]? = some c → CellIs w H M B a c
theorem CellIs.mem {a : Addr} {c : CC} (h : CellIs w H M B a c) : H a ≠ none := by
  cases c with
  | lst xs => obtain ⟨vs, e, _⟩ := h; rw [e]; exact fun z => nomatch z
  | ins _ _ => exact h.elim
theorem Cels.mem {st : Sto} (s : Cels w H M B st) {a : Addr} (h : a ∈ M) : H a ≠ none := by
  obtain ⟨n, hn, e⟩ := List.getElem_of_mem h
  have h1 : M[n]? = some a := by rw [List.getElem?_eq_getElem hn, e]
  have h2 : n < st.length := by rw [← s.len]; exact hn
  exact (s.at_ n a st[n] h1 (List.getElem?_eq_getElem h2)).mem
theorem Cels.get {st : Sto} (s : Cels w H M B st) {n : Nat} {a : Addr} {xs : List PV} (h : M[n]? = some a) (e : st[n]? = some (.lst xs)) : ∃ vs, H a = some (.lst vs) ∧ Rels w H M B xs vs := s.at_ n a _ h e
/-- a fresh thing is laid -/
theorem Kp.new {p : Addr} {o : HO} (hp : H p = none) : Kp H M (upd H p o) M :=
  ⟨fun a o e n => ⟨by rw [upd_ne (ne_of_none e hp)]; exact e, n⟩, fun _ _ e => e, fun a e => by
    unfold upd at e
    by_cases q : a = p
    · rw [q]; exact hp
    · rw [if_neg q] at e; exact e⟩
theorem Cels.keep {st : Sto} (s : Cels w H M B st) (k : Kp H M H' M) (hc : ∀ a, a ∈ M → H' a = H a) : Cels w H' M B st where
  len := s.len
  nd := s.nd
  nb := s.nb
  bk := fun a b e => s.bk a b (k.d a e)
  at_ := fun n a c h e => by
    have q := s.at_ n a c h e
    have hm : a ∈ M := List.mem_of_getElem? h
    cases c with
    | lst xs =>
      obtain ⟨vs, e1, r⟩ := q
      exact ⟨vs, by rw [hc a hm]; exact e1, r.mono k⟩
    | ins _ _ => exact q.elim
theorem Cels.new {st : Sto} (s : Cels w H M B st) {p : Addr} {o : HO} (hp : H p = none) : Cels w (upd H p o) M B st :=
  s.keep (.new hp) fun a hm => upd_ne (fun e => s.mem hm (by rw [e]; exact hp))
/-- a fresh list: frozen -/
theorem Rel.newLst {st : Sto} (s : Cels w H M B st) {p : Addr} {xs : List PV} {vs : List V} (hp : H p = none) (r : Rels w H M B xs vs) : Rel w (upd H p (.lst vs)) M B (.lst xs) (.ref p) :=
  .lst upd_same (fun h => s.mem h hp) (fun b => s.bk p b hp) (r.mono (.new hp))
theorem Rel.newTup {st : Sto} (s : Cels w H M B st) {p : Addr} {xs : List PV} {vs : List V} (hp : H p = none) (r : Rels w H M B xs vs) : Rel w (upd H p (.tup vs)) M B (.tup xs) (.ref p) :=
  .tup upd_same (fun h => s.mem h hp) (r.mono (.new hp))
/-- a list at p that nothing before H₀ knew becomes a cell -/
theorem Kp.cell {H₀ : Hp} {M₀ : List Addr} {p : Addr} (k : Kp H₀ M₀ H M) (hp : H₀ p = none) : Kp H₀ M₀ H (M ++ [p]) :=
  { h := fun a o e n => by
      obtain ⟨h1, h2⟩ := k.h a o e n
      refine ⟨h1, fun hm => ?_⟩
      rcases List.mem_append.mp hm with z | z
      · exact h2 z
      · rw [List.mem_singleton.mp z, hp] at e
        cases e
    m := fun n a e => by
      have := k.m n a e
      rw [List.getElem?_append_left (List.getElem?_eq_some_iff.mp this).1]
      exact this
    d := k.d }
/-- B and one more -/
abbrev With (B : Addr → Prop) (p : Addr) : Addr → Prop := fun a => B a ∨ a = p
section
variable {B' : Addr → Prop}
mutual
theorem Rel.weak (hb : ∀ a, B a → B' a) : ∀ {x : PV} {v : V}, Rel w H M B' x v → Rel w H M B x v
  | _, _, .non => .non
  | _, _, .bl b => .bl b
  | _, _, .int i => .int i
  | _, _, .str i => .str i
  | _, _, .ty n => .ty n
  | _, _, .glo e => .glo e
  | _, _, .cel e => .cel e
  | _, _, .tup e n r => .tup e n (Rels.weak hb r)
  | _, _, .ktup e r => .ktup e (Rels.weak hb r)
  | _, _, .lst e n b r => .lst e n (fun z => b (hb _ z)) (Rels.weak hb r)
  | _, _, .scr e n r => .scr e n (Rels.weak hb r)
  | _, _, .kscr e r => .kscr e (Rels.weak hb r)
theorem Rels.weak (hb : ∀ a, B a → B' a) : ∀ {xs : List PV} {vs : List V}, Rels w H M B' xs vs → Rels w H M B xs vs
  | _, _, .nil => .nil
  | _, _, .cons r t => .cons (Rel.weak hb r) (Rels.weak hb t)
end
theorem Cels.weak {st : Sto} (hb : ∀ a, B a → B' a) (s : Cels w H M B' st) : Cels w H M B st where
  len := s.len
  nd := s.nd
  nb := fun a h b => s.nb a h (hb a b)
  bk := fun a b => s.bk a (hb a b)
  at_ := fun n a c h e => by
    have q := s.at_ n a c h e
    cases c with
    | lst xs =>
      obtain ⟨vs, e1, r⟩ := q
      exact ⟨vs, e1, r.weak hb⟩
    | ins _ _ => exact q.elim
end
/-- a list under B's own hand changes -/
def isL : HO → Prop
  | .lst _ => True
  | _ => False
theorem tup_notL {vs : List V} : ¬ isL (.tup vs) := fun h => h
section
variable {D : Addr} {o o' : HO}
mutual
theorem Rel.chg (hD : H D = some o) (ho : isL o) (hb : B D) : ∀ {x : PV} {v : V}, Rel w H M B x v → Rel w (upd H D o') M B x v
  | _, _, .non => .non
  | _, _, .bl b => .bl b
  | _, _, .int i => .int i
  | _, _, .str i => .str i
  | _, _, .ty n => .ty n
  | _, _, .glo e => .glo e
  | _, _, .cel e => .cel e
  | _, _, .tup (a := a) e n r => .tup (by rw [upd_ne (fun z => by rw [z, hD] at e; cases e; exact ho)]; exact e) n (Rels.chg hD ho hb r)
  | _, _, .ktup e r => .ktup e (Rels.chg hD ho hb r)
  | _, _, .lst e n b r => .lst (by rw [upd_ne (fun z => b (by rw [z]; exact hb))]; exact e) n b (Rels.chg hD ho hb r)
  | _, _, .scr e n r => .scr (by rw [upd_ne (fun z => by rw [z, hD] at e; cases e; exact ho)]; exact e) n (Rels.chg hD ho hb r)
  | _, _, .kscr e r => .kscr e (Rels.chg hD ho hb r)
theorem Rels.chg (hD : H D = some o) (ho : isL o) (hb : B D) : ∀ {xs : List PV} {vs : List V}, Rels w H M B xs vs → Rels w (upd H D o') M B xs vs
  | _, _, .nil => .nil
  | _, _, .cons r t => .cons (Rel.chg hD ho hb r) (Rels.chg hD ho hb t)
end
theorem Cels.chg {st : Sto} (hD : H D = some o) (ho : isL o) (hb : B D) (s : Cels w H M B st) : Cels w (upd H D o') M B st where
  len := s.len
  nd := s.nd
  nb := s.nb
  bk := fun a b e => by
    unfold upd at e
    by_cases q : a = D
    · rw [if_pos q] at e; cases e
    · rw [if_neg q] at e; exact s.bk a b e
  at_ := fun n a c h e => by
    have q := s.at_ n a c h e
    have hm : a ∈ M := List.mem_of_getElem? h
    cases c with
    | lst xs =>
      obtain ⟨vs, e1, r⟩ := q
      exact ⟨vs, by rw [upd_ne (fun z => s.nb a hm (by rw [z]; exact hb))]; exact e1, r.chg hD ho hb⟩
    | ins _ _ => exact q.elim
/-- a list under B's hand becomes a cell -/
theorem not_mem_snoc {a : Addr} (h1 : a ∉ M) (h2 : a ≠ D) : a ∉ M ++ [D] := fun hm => by
  rcases List.mem_append.mp hm with z | z
  · exact h1 z
  · exact h2 (List.mem_singleton.mp z)
mutual
theorem Rel.own (hD : H D = some o) (ho : isL o) : ∀ {x : PV} {v : V}, Rel w H M (With B D) x v → Rel w H (M ++ [D]) B x v
  | _, _, .non => .non
  | _, _, .bl b => .bl b
  | _, _, .int i => .int i
  | _, _, .str i => .str i
  | _, _, .ty n => .ty n
  | _, _, .glo e => .glo e
  | _, _, .cel e => .cel (by rw [List.getElem?_append_left (List.getElem?_eq_some_iff.mp e).1]; exact e)
  | _, _, .tup e n r => .tup e (not_mem_snoc n fun z => by rw [z, hD] at e; cases e; exact ho) (Rels.own hD ho r)
  | _, _, .ktup e r => .ktup e (Rels.own hD ho r)
  | _, _, .lst e n b r => .lst e (not_mem_snoc n fun z => b (.inr z)) (fun z => b (.inl z)) (Rels.own hD ho r)
  | _, _, .scr e n r => .scr e (not_mem_snoc n fun z => by rw [z, hD] at e; cases e; exact ho) (Rels.own hD ho r)
  | _, _, .kscr e r => .kscr e (Rels.own hD ho r)
theorem Rels.own (hD : H D = some o) (ho : isL o) : ∀ {xs : List PV} {vs : List V}, Rels w H M (With B D) xs vs → Rels w H (M ++ [D]) B xs vs
  | _, _, .nil => .nil
  | _, _, .cons r t => .cons (Rel.own hD ho r) (Rels.own hD ho t)
end
theorem Cels.own {st : Sto} {xs : List PV} {vs : List V} (hD : H D = some (.lst vs)) (hn : D ∉ M) (hb : ¬ B D) (r : Rels w H M (With B D) xs vs) (s : Cels w H M (With B D) st) : Cels w H (M ++ [D]) B (st ++ [.lst xs]) where
  len := by rw [List.length_append, List.length_append, s.len]; rfl
  nd := List.nodup_append.mpr ⟨s.nd, by simp, fun a ha b hb' z => hn (by rw [← List.mem_singleton.mp hb', ← z]; exact ha)⟩
  nb := fun a h b => by
    rcases List.mem_append.mp h with z | z
    · exact s.nb a z (.inl b)
    · rw [List.mem_singleton.mp z] at b; exact hb b
  bk := fun a b => s.bk a (.inl b)
  at_ := fun n a c h e => by
    by_cases hlt : n < M.length
    · rw [List.getElem?_append_left hlt] at h
      rw [List.getElem?_append_left (by rw [← s.len]; exact hlt)] at e
      have q := s.at_ n a c h e
      cases c with
      | lst ys =>
        obtain ⟨us, e1, r1⟩ := q
        exact ⟨us, e1, r1.own hD trivial⟩
      | ins _ _ => exact q.elim
    · have h0 : n = M.length := by
        have := (List.getElem?_eq_some_iff.mp h).1
        rw [List.length_append, List.length_singleton] at this
        omega
      subst h0
      have ea : D = a := by simpa using h
      rw [s.len] at e
      have ec : CC.lst xs = c := by simpa using e
      rw [← ea, ← ec]
      exact ⟨vs, hD, r.own hD trivial⟩
end
/-- a cell is written -/
theorem Kp.cset {a : Addr} {o : HO} (hm : a ∈ M) (ht : H a ≠ none) : Kp H M (upd H a o) M :=
  ⟨fun b u e n => ⟨by rw [upd_ne (fun z => n (by rw [z]; exact hm))]; exact e, n⟩, fun _ _ e => e, fun b e => by
    unfold upd at e
    by_cases q : b = a
    · rw [if_pos q] at e; cases e
    · rw [if_neg q] at e; exact e⟩
theorem Cels.cset {st : Sto} (s : Cels w H M B st) {n : Nat} {a : Addr} {xs : List PV} {vs : List V} (h : M[n]? = some a) (r : Rels w H M B xs vs) : Cels w (upd H a (.lst vs)) M B (st.set n (.lst xs)) := by
  have hm : a ∈ M := List.mem_of_getElem? h
  have k : Kp H M (upd H a (.lst vs)) M := .cset hm (s.mem hm)
  refine ⟨by rw [List.length_set]; exact s.len, s.nd, s.nb, fun b hb e => s.bk b hb (k.d b e), fun m b c h1 e1 => ?_⟩
  by_cases q : m = n
  · subst q
    rw [h] at h1
    cases h1
    have hl : m < st.length := by rw [← s.len]; exact (List.getElem?_eq_some_iff.mp h).1
    rw [List.getElem?_set_self hl] at e1
    cases e1
    exact ⟨vs, upd_same, r.mono k⟩
  · rw [List.getElem?_set_ne (Ne.symm q)] at e1
    have hne : b ≠ a := fun z => by
      subst z
      obtain ⟨l1, g1⟩ := List.getElem?_eq_some_iff.mp h1
      obtain ⟨l2, g2⟩ := List.getElem?_eq_some_iff.mp h
      exact q ((List.getElem_inj s.nd).mp (g1.trans g2.symm))
    have c1 := s.at_ m b c h1 e1
    cases c with
    | lst ys =>
      obtain ⟨us, e2, r2⟩ := c1
      exact ⟨us, by rw [upd_ne hne]; exact e2, r2.mono k⟩
    | ins _ _ => exact c1.elim

/-! ### a pure def's end -/
section
variable {Mc : List Addr} {B' : Addr → Prop}
mutual
theorem Rel.leave (hMc : ∀ a, a ∈ Mc → ∃ o, H a = some o ∧ isL o) (hb : ∀ a, (a ∈ Mc ∨ B a) → B' a) : ∀ {x : PV} {v : V}, x.noCel = true → Rel w H M B' x v → Rel w H Mc B x v
  | _, _, _, .non => .non
  | _, _, _, .bl b => .bl b
  | _, _, _, .int i => .int i
  | _, _, _, .str i => .str i
  | _, _, _, .ty n => .ty n
  | _, _, _, .glo e => .glo e
  | _, _, h, .cel e => by cases h
  | _, _, h, .tup e n r => .tup e (fun hm => by obtain ⟨o, e1, ho⟩ := hMc _ hm; rw [e] at e1; cases e1; exact ho) (Rels.leave hMc hb (by simpa [PV.noCel] using h) r)
  | _, _, h, .ktup e r => .ktup e (Rels.leave hMc hb (by simpa [PV.noCel] using h) r)
  | _, _, h, .lst e n b r => .lst e (fun z => b (hb _ (.inl z))) (fun z => b (hb _ (.inr z))) (Rels.leave hMc hb (by simpa [PV.noCel] using h) r)
  | .scr xs, _, h, .scr e n r => .scr e (fun hm => by obtain ⟨o, e1, ho⟩ := hMc _ hm; rw [e] at e1; cases e1; exact ho) (Rels.leave hMc hb (by simpa [PV.noCel] using h) r)
  | .scr xs, _, h, .kscr e r => .kscr e (Rels.leave hMc hb (by simpa [PV.noCel] using h) r)
theorem Rels.leave (hMc : ∀ a, a ∈ Mc → ∃ o, H a = some o ∧ isL o) (hb : ∀ a, (a ∈ Mc ∨ B a) → B' a) : ∀ {xs : List PV} {vs : List V}, noCels xs = true → Rels w H M B' xs vs → Rels w H Mc B xs vs
  | _, _, _, .nil => .nil
  | _, _, h, .cons r t => by
    obtain ⟨h1, h2⟩ := Bool.and_eq_true_iff.mp (show (_ && _) = true from h)
    exact .cons (Rel.leave hMc hb h1 r) (Rels.leave hMc hb h2 t)
end
end
end
end Mi

end

section
set_option linter.all false
set_option maxRecDepth 100000
/-! Mi, part C: operators, comparisons, builtins by values. -/
namespace Mi
open PySem PySem.Spec PyProof.Rows L2

/-! ### plain data -/
mutual
def toD : PV → PyData
  | .bl b => .bool b
  | .int i => .int i
  | .str x => .str x
  | .tup xs => .tuple (toDs xs)
  | .lst xs => .list (toDs xs)
  | _ => .none
def toDs : List PV → List PyData
  | [] => []
  | x :: xs => toD x :: toDs xs
end
mutual
theorem eqv_toD : ∀ x y : PV, x.dat = true → y.dat = true → PyData.eqv (toD x) (toD y) = x.eqv y
  | .non, y, _, h => by cases y <;> first | rfl | cases h
  | .bl a, y, _, h => by cases y <;> first | rfl | cases h
  | .int a, y, _, h => by cases y <;> first | rfl | cases h
  | .str a, y, _, h => by cases y <;> first | rfl | cases h
  | .tup xs, y, hx, h => by
    cases y with
    | tup ys => exact eqvs_toDs xs ys hx h
    | _ => first | rfl | cases h
  | .lst xs, y, hx, h => by
    cases y with
    | lst ys => exact eqvs_toDs xs ys hx h
    | _ => first | rfl | cases h
  | .cel _, _, h, _ => by cases h
  | .scr _, _, h, _ => by cases h
  | .glo _, _, h, _ => by cases h
  | .ty _, _, h, _ => by cases h
theorem eqvs_toDs : ∀ xs ys : List PV, dats xs = true → dats ys = true → PyData.eqvAll (toDs xs) (toDs ys) = eqvs xs ys
  | [], [], _, _ => rfl
  | [], _ :: _, _, _ => rfl
  | _ :: _, [], _, _ => rfl
  | x :: xs, y :: ys, hx, hy => by
    obtain ⟨h1, h2⟩ := Bool.and_eq_true_iff.mp (show (_ && _) = true from hx)
    obtain ⟨h3, h4⟩ := Bool.and_eq_true_iff.mp (show (_ && _) = true from hy)
    show (PyData.eqv (toD x) (toD y) && PyData.eqvAll (toDs xs) (toDs ys)) = (x.eqv y && eqvs xs ys)
    rw [eqv_toD x y h1 h3, eqvs_toDs xs ys h2 h4]
end
mutual
theorem plain_toD : ∀ x : PV, (toD x).plain = true
  | .non => rfl
  | .bl _ => rfl
  | .int _ => rfl
  | .str _ => rfl
  | .tup xs => plain_toDs xs
  | .lst xs => plain_toDs xs
  | .cel _ => rfl
  | .scr _ => rfl
  | .glo _ => rfl
  | .ty _ => rfl
theorem plain_toDs : ∀ xs : List PV, PyData.plainAll (toDs xs) = true
  | [] => rfl
  | x :: xs => by
    show ((toD x).plain && PyData.plainAll (toDs xs)) = true
    rw [plain_toD x, plain_toDs xs]; rfl
end
mutual
theorem depth_toD : ∀ x : PV, (toD x).depth = x.dep
  | .non => rfl
  | .bl _ => rfl
  | .int _ => rfl
  | .str _ => rfl
  | .tup xs => congrArg (· + 1) (depth_toDs xs)
  | .lst xs => congrArg (· + 1) (depth_toDs xs)
  | .cel _ => rfl
  | .scr _ => rfl
  | .glo _ => rfl
  | .ty _ => rfl
theorem depth_toDs : ∀ xs : List PV, PyData.depthAll (toDs xs) = deps xs
  | [] => rfl
  | x :: xs => by
    show max (toD x).depth (PyData.depthAll (toDs xs)) = max x.dep (deps xs)
    rw [depth_toD x, depth_toDs xs]
end
theorem any_toDs (d : PV) (hd : d.dat = true) : ∀ xs : List PV, dats xs = true → ((toDs xs).any fun z => PyData.eqv z (toD d)) = xs.any fun z => z.eqv d
  | [], _ => rfl
  | x :: xs, h => by
    obtain ⟨h1, h2⟩ := Bool.and_eq_true_iff.mp (show (_ && _) = true from h)
    show (PyData.eqv (toD x) (toD d) || (toDs xs).any fun z => PyData.eqv z (toD d)) = (x.eqv d || xs.any fun z => z.eqv d)
    rw [eqv_toD x d h1 hd, any_toDs d hd xs h2]
section
variable {w : Wd} {H H' : Hp} {M M' : List Addr} {B : Addr → Prop} {st : Sto}
mutual
theorem Rel.dp : ∀ (x : PV) (v : V), x.dat = true → Rel w H M B x v → Dp w.K H v (toD x)
  | .non, _, _, r => by cases r; exact .non
  | .bl b, _, _, r => by cases r; exact .bl b
  | .int b, _, _, r => by cases r; exact .int b
  | .str b, _, _, r => by cases r; exact .str b
  | .ty _, _, h, _ => by cases h
  | .glo _, _, h, _ => by cases h
  | .cel _, _, h, _ => by cases h
  | .scr _, _, h, _ => by cases h
  | .tup xs, _, h, r => by
    cases r with
    | tup e n r => exact .tup (.inl (.inl e)) (Rels.dp xs _ h r)
    | ktup e r => exact .tup (.inr e) (Rels.dp xs _ h r)
  | .lst xs, _, h, r => by
    cases r with
    | lst e n b r => exact .lst (.inl (.inl e)) (Rels.dp xs _ h r)
theorem Rels.dp : ∀ (xs : List PV) (vs : List V), dats xs = true → Rels w H M B xs vs → DpAll w.K H vs (toDs xs)
  | [], _, _, r => by cases r; exact .nil
  | x :: xs, _, h, r => by
    obtain ⟨h1, h2⟩ := Bool.and_eq_true_iff.mp (show (_ && _) = true from h)
    cases r with
    | cons r t => exact .cons (Rel.dp x _ h1 r) (Rels.dp xs _ h2 t)
end
theorem snap_dp (s : Cels w H M B st) {x : PV} {v : V} (r : Rel w H M B x v) (h : (snap st x).dat = true) : Dp w.K H v (toD (snap st x)) := by
  cases x with
  | cel n =>
    unfold snap at h ⊢
    cases r with
    | cel e =>
      cases q : st[n]? with
      | none => simp only [q] at h; cases h
      | some c =>
        cases c with
        | ins _ _ => simp only [q] at h; cases h
        | lst xs =>
          obtain ⟨vs, e1, r1⟩ := s.get e q
          simp only [q] at h ⊢
          exact .lst (.inl (.inl e1)) (Rels.dp _ _ h r1)
  | _ => exact Rel.dp _ _ h r
theorem asL_rel (s : Cels w H M B st) {x : PV} {v : V} {xs : List PV} (r : Rel w H M B x v) (h : asL st x = some xs) : ∃ a vs, v = .ref a ∧ H a = some (.lst vs) ∧ Rels w H M B xs vs := by
  cases x with
  | lst ys =>
    cases h
    exact r.lstL
  | cel n =>
    cases r with
    | cel e =>
      unfold asL at h
      cases q : st[n]? with
      | none => simp only [q] at h; cases h
      | some c =>
        cases c with
        | ins _ _ => simp only [q] at h; cases h
        | lst ys =>
          simp only [q] at h
          cases h
          obtain ⟨vs, e1, r1⟩ := s.get e q
          exact ⟨_, vs, rfl, e1, r1⟩
  | _ => cases h
theorem asS_rel (s : Cels w H M B st) {x : PV} {v : V} {xs : List PV} (r : Rel w H M B x v) (h : asS st x = some xs) : ∃ a vs, v = .ref a ∧ (SqL w.K H a vs ∨ SqT w.K H a vs) ∧ Rels w H M B xs vs := by
  cases x with
  | tup ys =>
    cases h
    obtain ⟨a, vs, e1, e2, e3⟩ := r.tupT
    exact ⟨a, vs, e1, .inr e2, e3⟩
  | scr ys =>
    cases h
    cases r with
    | scr e n r => exact ⟨_, _, rfl, .inl (.inl (.inr ⟨_, e⟩)), r⟩
    | kscr e r => exact ⟨_, _, rfl, .inl (.inr e), r⟩
  | lst ys =>
    obtain ⟨a, vs, e1, e2, e3⟩ := asL_rel s r h
    exact ⟨a, vs, e1, .inl (.inl (.inl e2)), e3⟩
  | cel n =>
    obtain ⟨a, vs, e1, e2, e3⟩ := asL_rel s r h
    exact ⟨a, vs, e1, .inl (.inl (.inl e2)), e3⟩
  | _ => cases h

/-! ### what a value's coming is told by -/
/-- the heap may have grown, the cells are the same, c stands for z -/
def Aft (w : Wd) (H : Hp) (M : List Addr) (B : Addr → Prop) (st : Sto) (c : PV) (Q : VK) : Prop :=
  ∀ z H', Kp H M H' M → Cels w H' M B st → Rel w H' M B c z → Q z H'
variable {Q : VK}
theorem Aft.now {c : PV} {z : V} (q : Aft w H M B st c Q) (s : Cels w H M B st) (r : Rel w H M B c z) : Q z H := q z H (.refl _ _) s r
theorem Aft.newL {xs : List PV} {vs : List V} (q : Aft w H M B st (.lst xs) Q) (s : Cels w H M B st) (r : Rels w H M B xs vs) {p : Addr} (hp : H p = none) : Q (.ref p) (upd H p (.lst vs)) :=
  q _ _ (.new hp) (s.new hp) (.newLst s hp r)
theorem Aft.newT {xs : List PV} {vs : List V} (q : Aft w H M B st (.tup xs) Q) (s : Cels w H M B st) (r : Rels w H M B xs vs) {p : Addr} (hp : H p = none) : Q (.ref p) (upd H p (.tup vs)) :=
  q _ _ (.new hp) (s.new hp) (.newTup s hp r)
end

/-! ### operators -/
abbrev wd (X : Cx) (nm : Nat → Str) : Wd := ⟨X.K, X.mg, nm⟩
def OpE (X : Cx) (f : Value → Value → Sem Value) (x y : V) (H : Hp) (Q : VK) : Prop :=
  ∀ (pins : List (Addr × Obj)) (s : Shared) (σ : L2.St) (v u : Value), Inv X pins σ H s → RelV x v → RelV y u → wpAny (model X.prog X.w) X.A (f v u) (EP X pins σ Q) X.xe s
theorem OpE.of {X : Cx} {f : Value → Value → Sem Value} {r : R2} {x y : V} {H : Hp} {Q : VK} (h : OpR X f r) (q : r x y H Q) : OpE X f x y H Q :=
  fun pins s σ v u I rx ry => h pins s σ H x y v u Q I rx ry q
theorem line_big : big ≤ sizeLine := by rw [sizeLine_eq]; decide
theorem mulOk_of {i j : Int} (h : mulOk i j = true) : CMul i j := by
  unfold mulOk at h
  rcases Bool.or_eq_true_iff.mp h with h | h
  · obtain ⟨h1, h2⟩ := Bool.and_eq_true_iff.mp h
    exact .inl ⟨of_decide_eq_true h1, of_decide_eq_true h2⟩
  · obtain ⟨h1, h2⟩ := Bool.and_eq_true_iff.mp h
    exact .inr ⟨of_decide_eq_true h1, of_decide_eq_true h2⟩
section
variable {X : Cx} {nm : Nat → Str} {H : Hp} {M : List Addr} {B : Addr → Prop} {st : Sto} {Q : VK}
theorem op_add_bi : OpR X (binaryOp .Add) (fun x y H Q => ∃ k j, x = .bl k ∧ y = .int j ∧ Q (.int (b2i k + j)) H) := by
  intro pins s σ H x y v u Q I rx ry h
  obtain ⟨k, j, rfl, rfl, q⟩ := h
  cases rx
  obtain ⟨t, rfl⟩ := ry
  exact PySem.IntBool.add_bool_int ⟨.int (b2i k + j), H, I.tok _, ⟨_, rfl⟩, q⟩
theorem pow_small {i j : Int} (h : (decide (0 ≤ j) && (decide (j ≤ 64) && decide (i.natAbs < 2 ^ 32))) = true) : CPow i j := by
  obtain ⟨h1, h2⟩ := Bool.and_eq_true_iff.mp h
  obtain ⟨h2, h3⟩ := Bool.and_eq_true_iff.mp h2
  have h1 := of_decide_eq_true h1
  have h2 := of_decide_eq_true h2
  have h3 := of_decide_eq_true h3
  exact ⟨h1, by omega, by omega⟩
theorem div_wide {j : Int} (i : Int) (h : (decide (0 < j) && decide (j < 2 ^ 200)) = true) : CDivW i j := by
  obtain ⟨h1, h2⟩ := Bool.and_eq_true_iff.mp h
  have h1 := of_decide_eq_true h1
  have h2 := of_decide_eq_true h2
  refine wide_div (b := 200) h1 ?_ (by decide) (by decide)
  have e : (j.natAbs : Int) = j := Int.natAbs_of_nonneg (by omega)
  have h3 : (j.natAbs : Int) < ((2 ^ 200 : Nat) : Int) := by
    rw [e]
    have : ((2 ^ 200 : Nat) : Int) = (2 : Int) ^ 200 := by rw [Int.natCast_pow]; rfl
    rw [this]; exact h2
  exact Int.ofNat_lt.mp h3
theorem bin_ok {o : Operator} {a b c : PV} {x y : V} (e : binV st o a b = some c) (s : Cels (wd X nm) H M B st) (ra : Rel (wd X nm) H M B a x) (rb : Rel (wd X nm) H M B b y)
    (q : Aft (wd X nm) H M B st c Q) : OpE X (binaryOp o) x y H Q := by
  have lb := line_big
  unfold binV at e
  split at e
  · cases e; cases ra; cases rb
    exact .of op_add ⟨_, _, rfl, rfl, q.now s (.int _)⟩
  · cases e; cases ra; cases rb
    exact .of op_add_ib ⟨_, _, rfl, rfl, q.now s (.int _)⟩
  · cases e; cases ra; cases rb
    exact .of op_add_bi ⟨_, _, rfl, rfl, q.now s (.int _)⟩
  · cases e; cases ra; cases rb
    exact .of op_sub ⟨_, _, rfl, rfl, q.now s (.int _)⟩
  · split at e
    · rename_i h
      cases e; cases ra; cases rb
      exact .of op_mul ⟨_, _, rfl, rfl, mulOk_of h, q.now s (.int _)⟩
    · cases e
  · split at e
    · rename_i h
      cases e; cases ra; cases rb
      exact .of op_fdivW ⟨_, _, rfl, rfl, div_wide _ h, q.now s (.int _)⟩
    · cases e
  · split at e
    · rename_i h
      cases e; cases ra; cases rb
      exact .of op_mod ⟨_, _, rfl, rfl, of_decide_eq_true h, q.now s (.int _)⟩
    · cases e
  · split at e
    · rename_i h
      cases e; cases ra; cases rb
      exact .of op_pow ⟨_, _, rfl, rfl, pow_small h, q.now s (.int _)⟩
    · cases e
  · split at e
    · rename_i h
      cases e; cases ra; cases rb
      exact .of op_add_str ⟨_, _, rfl, rfl, Nat.le_trans h lb, q.now s (.str _)⟩
    · cases e
  · split at e
    · rename_i xs ys h
      cases e
      obtain ⟨p1, vs, e1, s1, r1⟩ := ra.tupT
      obtain ⟨p2, us, e2, s2, r2⟩ := rb.tupT
      subst e1 e2
      refine .of op_catA ⟨_, _, vs, us, rfl, rfl, s1, s2, ?_, fun z => ?_, fun _ z => ?_, fun _ _ p hp => q.newT s (r1.append r2) hp⟩
      · rw [← r1.length, ← r2.length]; exact Nat.le_trans h lb
      · subst z
        have : xs = [] := List.eq_nil_of_length_eq_zero (by rw [r1.length]; rfl)
        subst this
        exact q.now s rb
      · subst z
        have : ys = [] := List.eq_nil_of_length_eq_zero (by rw [r2.length]; rfl)
        subst this
        rw [List.append_nil] at q
        exact q.now s ra
    · cases e
  · split at e
    · rename_i xs k h
      cases e
      cases rb
      obtain ⟨p1, vs, e1, s1, r1⟩ := ra.tupT
      subst e1
      obtain ⟨h1, h⟩ := Bool.and_eq_true_iff.mp h
      obtain ⟨h2, h⟩ := Bool.and_eq_true_iff.mp h
      obtain ⟨h3, h4⟩ := Bool.and_eq_true_iff.mp h
      refine .of op_repT ⟨_, _, vs, rfl, rfl, s1, fun z => ?_, of_decide_eq_true h1, of_decide_eq_true h2, by rw [← r1.length]; exact of_decide_eq_true h3, fun p hp => q.newT s (r1.rep _) hp⟩
      subst z
      have : xs = [] := List.eq_nil_of_length_eq_zero (by rw [r1.length]; rfl)
      subst this
      cases h4
    · cases e
  · split at e
    · rename_i xs k h
      cases e
      cases rb
      obtain ⟨p1, vs, e1, s1, r1⟩ := ra.lstL
      subst e1
      obtain ⟨h1, h⟩ := Bool.and_eq_true_iff.mp h
      obtain ⟨h2, h3⟩ := Bool.and_eq_true_iff.mp h
      have h1 := of_decide_eq_true h1
      have h2 := of_decide_eq_true h2
      have h3 := of_decide_eq_true h3
      refine .of op_rep ⟨_, _, vs, rfl, rfl, s1, by omega, by omega, ?_, fun p hp => q.newL s (r1.rep _) hp⟩
      rw [← r1.length]
      exact Nat.le_trans (Nat.mul_le_mul h3 (show k.toNat ≤ 1000 by omega)) (Nat.le_trans (by decide) lb)
    · cases e
  · split at e
    · rename_i xs ys e1 e2
      split at e
      · rename_i h
        cases e
        obtain ⟨p1, vs, q1, s1, r1⟩ := asL_rel s ra e1
        obtain ⟨p2, us, q2, s2, r2⟩ := asL_rel s rb e2
        subst q1 q2
        refine .of op_cat ⟨_, _, vs, us, rfl, rfl, s1, s2, ?_, fun p hp => q.newL s (r1.append r2) hp⟩
        rw [← r1.length, ← r2.length]; exact Nat.le_trans h lb
      · cases e
    · cases e
  · cases e

/-! ### comparisons -/
theorem reads2 {x y : V} {d e : PyData} {pins : List (Addr × Obj)} {σ : L2.St} {sh : Shared} {v u : Value} (I : Inv X pins σ H sh) (hx : Dp X.K H x d) (hy : Dp X.K H y e) (rx : RelV x v) (ry : RelV y u) :
    (∃ as, Reads sh.heap v d as) ∧ ∃ as, Reads sh.heap u e as := ⟨Dp.reads I d x v hx rx, Dp.reads I e y u hy ry⟩
theorem eq_ok {a b : PV} {c : Bool} {x y : V} (hu : X.A.units + 64 < cLine) (e : eqV st a b = some c) (s : Cels (wd X nm) H M B st) (ra : Rel (wd X nm) H M B a x) (rb : Rel (wd X nm) H M B b y)
    (q : Q (.bl c) H) : OpE X (compareOp .Eq) x y H Q := by
  intro pins sh σ v u I rx ry
  unfold eqV at e
  split at e
  · rename_i h
    cases e
    obtain ⟨h1, h⟩ := Bool.and_eq_true_iff.mp h
    obtain ⟨h2, h3⟩ := Bool.and_eq_true_iff.mp h
    obtain ⟨⟨as, r1⟩, bs, r2⟩ := reads2 I (snap_dp s ra h1) (snap_dp s rb h2) rx ry
    refine SeqAt.eq_plain r1 r2 (plain_toD _) (plain_toD _) ?_ ?_
    · rw [depth_toD, depth_toD]
      rcases Bool.or_eq_true_iff.mp h3 with z | z
      · have := of_decide_eq_true z; omega
      · have := of_decide_eq_true z; omega
    · rw [eqv_toD _ _ h1 h2]
      exact ⟨.bl _, H, I, rfl, q⟩
  · cases e
theorem ne_ok {a b : PV} {c : Bool} {x y : V} (hu : X.A.units + 64 < cLine) (e : eqV st a b = some c) (s : Cels (wd X nm) H M B st) (ra : Rel (wd X nm) H M B a x) (rb : Rel (wd X nm) H M B b y)
    (q : Q (.bl (!c)) H) : OpE X (compareOp .NotEq) x y H Q := by
  intro pins sh σ v u I rx ry
  unfold eqV at e
  split at e
  · rename_i h
    cases e
    obtain ⟨h1, h⟩ := Bool.and_eq_true_iff.mp h
    obtain ⟨h2, h3⟩ := Bool.and_eq_true_iff.mp h
    obtain ⟨⟨as, r1⟩, bs, r2⟩ := reads2 I (snap_dp s ra h1) (snap_dp s rb h2) rx ry
    refine SeqAt.ne_plain r1 r2 (plain_toD _) (plain_toD _) ?_ ?_
    · rw [depth_toD, depth_toD]
      rcases Bool.or_eq_true_iff.mp h3 with z | z
      · have := of_decide_eq_true z; omega
      · have := of_decide_eq_true z; omega
    · rw [eqv_toD _ _ h1 h2]
      exact ⟨.bl _, H, I, rfl, q⟩
  · cases e
theorem in_reads {b : PV} {ys : List PV} {y : V} {pins : List (Addr × Obj)} {σ : L2.St} {sh : Shared} {u : Value} (I : Inv X pins σ H sh) (s : Cels (wd X nm) H M B st) (rb : Rel (wd X nm) H M B b y) (e : asS st b = some ys)
    (hd : dats ys = true) (ry : RelV y u) : (∃ as, Reads sh.heap u (.list (toDs ys)) as) ∨ ∃ as, Reads sh.heap u (.tuple (toDs ys)) as := by
  obtain ⟨a, vs, rfl, h, r⟩ := asS_rel s rb e
  have hp := Rels.dp _ _ hd r
  rcases h with h | h
  · exact .inl (Dp.reads I _ _ u (.lst h hp) ry)
  · exact .inr (Dp.reads I _ _ u (.tup h hp) ry)
theorem in_ok {a b : PV} {ys : List PV} {x y : V} (hu : X.A.units + 65 < cLine) (e : asS st b = some ys) (hc : ((snap st a).dat && (dats ys && decide (deps ys ≤ 60))) = true) (s : Cels (wd X nm) H M B st) (ra : Rel (wd X nm) H M B a x) (rb : Rel (wd X nm) H M B b y)
    (q : Q (.bl (ys.any fun z => z.eqv (snap st a))) H) : OpE X (compareOp .In) x y H Q := by
  intro pins sh σ v u I rx ry
  obtain ⟨h1, h⟩ := Bool.and_eq_true_iff.mp hc
  obtain ⟨h2, h3⟩ := Bool.and_eq_true_iff.mp h
  have h3 := of_decide_eq_true h3
  obtain ⟨as, r1⟩ := Dp.reads I _ x v (snap_dp s ra h1) rx
  have hq : EP X pins σ Q (.bool ((toDs ys).any fun z => PyData.eqv z (toD (snap st a)))) sh := by
    rw [any_toDs _ h1 _ h2]
    exact ⟨.bl _, H, I, rfl, q⟩
  have hb : X.A.units + 1 + min (PyData.depthAll (toDs ys)) (toD (snap st a)).depth < cLine := by
    rw [depth_toDs]
    omega
  rcases in_reads I s rb e h2 ry with ⟨bs, r2⟩ | ⟨bs, r2⟩
  · exact SeqAt.in_list_data r2 r1 (plain_toDs _) (plain_toD _) hb hq
  · exact SeqAt.in_tuple_data r2 r1 (plain_toDs _) (plain_toD _) hb hq
theorem notIn_ok {a b : PV} {ys : List PV} {x y : V} (hu : X.A.units + 65 < cLine) (e : asS st b = some ys) (hc : ((snap st a).dat && (dats ys && decide (deps ys ≤ 60))) = true) (s : Cels (wd X nm) H M B st) (ra : Rel (wd X nm) H M B a x) (rb : Rel (wd X nm) H M B b y)
    (q : Q (.bl (!ys.any fun z => z.eqv (snap st a))) H) : OpE X (compareOp .NotIn) x y H Q := by
  intro pins sh σ v u I rx ry
  obtain ⟨h1, h⟩ := Bool.and_eq_true_iff.mp hc
  obtain ⟨h2, h3⟩ := Bool.and_eq_true_iff.mp h
  have h3 := of_decide_eq_true h3
  obtain ⟨as, r1⟩ := Dp.reads I _ x v (snap_dp s ra h1) rx
  have hq : EP X pins σ Q (.bool (!(toDs ys).any fun z => PyData.eqv z (toD (snap st a)))) sh := by
    rw [any_toDs _ h1 _ h2]
    exact ⟨.bl _, H, I, rfl, q⟩
  have hb : X.A.units + 1 + min (PyData.depthAll (toDs ys)) (toD (snap st a)).depth < cLine := by
    rw [depth_toDs]
    omega
  rcases in_reads I s rb e h2 ry with ⟨bs, r2⟩ | ⟨bs, r2⟩
  · exact SeqAt.notIn_list_data r2 r1 (plain_toDs _) (plain_toD _) hb hq
  · exact SeqAt.notIn_tuple_data r2 r1 (plain_toDs _) (plain_toD _) hb hq
theorem rel_isN {w : Wd} {a : PV} {x : V} (r : Rel w H M B a x) : isN a = decide (x = .non) := by
  cases r <;> rfl
theorem cmp_ok {o : CmpOp} {a b : PV} {c : Bool} {x y : V} (hu : X.A.units + 65 < cLine) (e : cmpV st o a b = some c) (s : Cels (wd X nm) H M B st) (ra : Rel (wd X nm) H M B a x) (rb : Rel (wd X nm) H M B b y)
    (q : Q (.bl c) H) : OpE X (compareOp o) x y H Q := by
  unfold cmpV at e
  split at e
  · exact eq_ok (by omega) e s ra rb q
  · obtain ⟨d, e1, e2⟩ := Option.map_eq_some_iff.mp e
    exact ne_ok (by omega) e1 s ra rb (by rw [e2]; exact q)
  · cases e; cases ra; cases rb; exact .of op_lt ⟨_, _, rfl, rfl, q⟩
  · cases e; cases ra; cases rb; exact .of op_le ⟨_, _, rfl, rfl, q⟩
  · cases e; cases ra; cases rb; exact .of op_gt ⟨_, _, rfl, rfl, q⟩
  · cases e; cases ra; cases rb; exact .of op_ge ⟨_, _, rfl, rfl, q⟩
  · cases e; cases rb; exact .of op_isN ⟨rfl, by rw [← rel_isN ra]; exact q⟩
  · cases e; cases rb; exact .of op_notN ⟨rfl, by rw [← rel_isN ra]; exact q⟩
  · split at e
    · rename_i ys h
      split at e
      · rename_i hc
        cases e
        exact in_ok hu h hc s ra rb q
      · cases e
    · cases e
  · split at e
    · rename_i ys h
      split at e
      · rename_i hc
        cases e
        exact notIn_ok hu h hc s ra rb q
      · cases e
    · cases e
  · cases e

/-! ### truth, subscripts -/
theorem isEmpty_rels {w : Wd} {xs : List PV} {vs : List V} (r : Rels w H M B xs vs) : xs.isEmpty = vs.isEmpty := by cases r <;> rfl
theorem tru_of {a : PV} {c : Bool} {x : V} (e : truV st a = some c) (s : Cels (wd X nm) H M B st) (ra : Rel (wd X nm) H M B a x) : TruV X.K x H c := by
  unfold truV at e
  split at e
  · cases e; cases ra; rfl
  · cases e; cases ra; rfl
  · cases e; cases ra; rfl
  · obtain ⟨xs, e1, e2⟩ := Option.map_eq_some_iff.mp e
    obtain ⟨p, vs, rfl, h, r⟩ := asS_rel s ra e1
    rw [isEmpty_rels r] at e2
    rcases h with h | h
    · exact .inl ⟨vs, h, e2.symm⟩
    · exact .inr (.inl ⟨vs, h, e2.symm⟩)
theorem ix_of {a b c : PV} {x y : V} (e : ixV st a b = some c) (s : Cels (wd X nm) H M B st) (ra : Rel (wd X nm) H M B a x) (rb : Rel (wd X nm) H M B b y)
    (q : Aft (wd X nm) H M B st c Q) : rIx X.K x y H Q := by
  have lb := line_big
  unfold ixV at e
  split at e
  · cases rb
    split at e
    · split at e
      · rename_i z h
        obtain ⟨d, e1, e2⟩ := Option.map_eq_some_iff.mp e
        subst e2
        cases ra
        exact .inr (.inr ⟨_, _, d, rfl, rfl, Nat.le_trans h lb, e1, q.now s (.str _)⟩)
      · cases e
    · obtain ⟨xs, e1, e2⟩ := Option.bind_eq_some_iff.mp e
      obtain ⟨p, vs, rfl, h, r⟩ := asS_rel s ra e1
      obtain ⟨v, e3, rv⟩ := atI_rel r e2
      rcases h with h | h
      · exact .inl ⟨_, _, _, v, rfl, rfl, h, e3, q.now s rv⟩
      · exact .inr (.inl ⟨_, _, _, v, rfl, rfl, h, e3, q.now s rv⟩)
  · cases e

/-! ### builtins -/
def CallE (X : Cx) (f : Value) (xs : List V) (H : Hp) (Q : VK) : Prop :=
  ∀ (pins : List (Addr × Obj)) (s : Shared) (σ : L2.St) (us : List Value), Inv X pins σ H s → Vals xs us → wpAny (model X.prog X.w) X.A (PySem.call f us) (EP X pins σ Q) X.xe s
theorem CallE.of {f : Value} {r : List V → Hp → VK → Prop} {xs : List V} (h : CallR X f r) (q : r xs H Q) : CallE X f xs H Q := fun pins s σ us I rv => h pins s σ H xs us Q I rv q
theorem ints_rel {w : Wd} : ∀ {xs : List PV} {vs : List V} {ns : List Int}, Rels w H M B xs vs → ints? xs = some ns → vs = ns.map V.int
  | [], _, _, r, e => by cases e; cases r; rfl
  | x :: xs, _, ns, r, e => by
    cases r with
    | cons r t =>
      cases x with
      | int i =>
        obtain ⟨ms, e1, e2⟩ := Option.map_eq_some_iff.mp (show (ints? xs).map (i :: ·) = some ns from e)
        subst e2
        cases r
        rw [ints_rel t e1]; rfl
      | _ => cases e
theorem bools_rel {w : Wd} : ∀ {xs : List PV} {vs : List V} {ns : List Bool}, Rels w H M B xs vs → bools? xs = some ns → vs = ns.map V.bl
  | [], _, _, r, e => by cases e; cases r; rfl
  | x :: xs, _, ns, r, e => by
    cases r with
    | cons r t =>
      cases x with
      | bl i =>
        obtain ⟨ms, e1, e2⟩ := Option.map_eq_some_iff.mp (show (bools? xs).map (i :: ·) = some ns from e)
        subst e2
        cases r
        rw [bools_rel t e1]; rfl
      | _ => cases e
end
end Mi

end

section
set_option linter.all false
set_option maxRecDepth 100000
/-! Mi, part D: builtins; expressions, judged at their values. -/
namespace Mi
open PySem PySem.Spec PyProof.Rows L2

def Bi.val : Bi → Value
  | .len => .builtin "len" | .abs => .builtin "abs" | .min2 => .builtin "min" | .max2 => .builtin "max"
  | .sum => .builtin "sum" | .all => .builtin "all" | .any => .builtin "any" | .isi => .builtin "isinstance"
  | .tuple => .type "tuple" | .list => .type "list" | .int => .type "int" | .bool => .type "bool" | .str => .type "str"
section
variable {X : Cx} {nm : Nat → Str} {H : Hp} {M : List Addr} {B : Addr → Prop} {st : Sto} {Q : VK}
theorem isi_of {a : PV} {n : String} {b : Bool} {x : V} (e : isiV a n = some b) (r : Rel (wd X nm) H M B a x) : ∃ t, TyX X.K H x (.type t) ∧ kitB t n = some b := by
  cases r with
  | non => exact ⟨_, .base .non, by unfold isiV at e; split at e <;> first | contradiction | (cases e; decide +kernel)⟩
  | bl k => exact ⟨_, .base (.bl k), by unfold isiV at e; split at e <;> first | contradiction | (cases e; decide +kernel)⟩
  | int k => exact ⟨_, .base (.int k), by unfold isiV at e; split at e <;> first | contradiction | (cases e; decide +kernel)⟩
  | str k => exact ⟨_, .base (.str k), by unfold isiV at e; split at e <;> first | contradiction | (cases e; decide +kernel)⟩
  | tup h _ _ => exact ⟨_, .base (.tup h), by unfold isiV at e; split at e <;> first | contradiction | (cases e; decide +kernel)⟩
  | ktup h _ =>
    obtain ⟨o, its, k, h1, h2, _⟩ := h
    exact ⟨_, .kTuple h1 h2, by unfold isiV at e; split at e <;> first | contradiction | (cases e; decide +kernel)⟩
  | lst h _ _ _ => exact ⟨_, .base (.lst h), by unfold isiV at e; split at e <;> first | contradiction | (cases e; decide +kernel)⟩
  | ty k => unfold isiV at e; split at e <;> first | contradiction | cases e
  | glo k => unfold isiV at e; split at e <;> first | contradiction | cases e
  | cel k => unfold isiV at e; split at e <;> first | contradiction | cases e
  | scr k _ _ => unfold isiV at e; split at e <;> first | contradiction | cases e
  | kscr k _ => unfold isiV at e; split at e <;> first | contradiction | cases e
theorem bi_ok {b : Bi} {as : List PV} {c : PV} {vs : List V} (hc : X.calm = true) (e : biV st b as = some c) (s : Cels (wd X nm) H M B st) (r : Rels (wd X nm) H M B as vs)
    (q : Aft (wd X nm) H M B st c Q) : CallE X b.val vs H Q := by
  have lb := line_big
  unfold biV at e
  split at e
  · split at e
    · rename_i h
      cases e
      cases r with | cons r t => cases t; cases r; exact .of call_len ⟨_, _, rfl, ⟨Nat.le_trans h lb, rfl⟩, q.now s (.int _)⟩
    · cases e
  · obtain ⟨xs, e1, e2⟩ := Option.map_eq_some_iff.mp e
    subst e2
    cases r with
    | cons r t =>
      cases t
      obtain ⟨p, us, rfl, h, rr⟩ := asS_rel s r e1
      rw [rr.length] at q
      exact .of call_len_seq ⟨_, _, rfl, h, q.now s (.int _)⟩
  · cases e
    cases r with | cons r t => cases t; cases r; exact .of call_abs ⟨_, rfl, q.now s (.int _)⟩
  · cases e
    cases r with | cons r t => cases t with | cons r2 t => cases t; cases r; cases r2; exact .of (call_min2 hc) ⟨_, _, rfl, q.now s (.int _)⟩
  · cases e
    cases r with | cons r t => cases t with | cons r2 t => cases t; cases r; cases r2; exact .of (call_max2 hc) ⟨_, _, rfl, q.now s (.int _)⟩
  · obtain ⟨xs, e1, e2⟩ := Option.bind_eq_some_iff.mp e
    obtain ⟨ns, e4, e3⟩ := Option.map_eq_some_iff.mp e2
    subst e3
    cases r with
    | cons r t =>
      cases t
      obtain ⟨p, us, rfl, h, rr⟩ := asL_rel s r e1
      rw [ints_rel rr e4] at h
      exact .of (cr_sum hc) ⟨_, ns, rfl, .inl (.inl h), q.now s (.int _)⟩
  · obtain ⟨xs, e1, e2⟩ := Option.bind_eq_some_iff.mp e
    obtain ⟨ns, e4, e3⟩ := Option.map_eq_some_iff.mp e2
    subst e3
    cases r with
    | cons r t =>
      cases t
      obtain ⟨p, us, rfl, h, rr⟩ := asL_rel s r e1
      rw [bools_rel rr e4] at h
      exact .of (cr_all hc) ⟨_, ns, rfl, .inl (.inl h), q.now s (.bl _)⟩
  · obtain ⟨xs, e1, e2⟩ := Option.bind_eq_some_iff.mp e
    obtain ⟨ns, e4, e3⟩ := Option.map_eq_some_iff.mp e2
    subst e3
    cases r with
    | cons r t =>
      cases t
      obtain ⟨p, us, rfl, h, rr⟩ := asL_rel s r e1
      rw [bools_rel rr e4] at h
      exact .of (cr_any hc) ⟨_, ns, rfl, .inl (.inl h), q.now s (.bl _)⟩
  · cases e
    cases r with
    | cons r t =>
      cases t
      have r' := r
      obtain ⟨p, us, rfl, h, rr⟩ := r.tupT
      exact .of call_tuple_of ⟨p, us, rfl, .inr ⟨h, q.now s r'⟩⟩
  · obtain ⟨xs, e1, e2⟩ := Option.map_eq_some_iff.mp e
    subst e2
    cases r with
    | cons r t =>
      cases t
      obtain ⟨p, us, rfl, h, rr⟩ := asL_rel s r e1
      exact .of call_tuple_of ⟨p, us, rfl, .inl ⟨.inl (.inl h), fun l hl => q.newT s rr hl⟩⟩
  · cases e
    cases r with
    | cons r t =>
      cases t
      obtain ⟨p, us, rfl, h, rr⟩ := r.tupT
      exact .of call_list_of ⟨p, us, rfl, .inr h, fun l hl => q.newL s rr hl⟩
  · obtain ⟨xs, e1, e2⟩ := Option.map_eq_some_iff.mp e
    subst e2
    cases r with
    | cons r t =>
      cases t
      obtain ⟨p, us, rfl, h, rr⟩ := asL_rel s r e1
      exact .of call_list_of ⟨p, us, rfl, .inl (.inl (.inl h)), fun l hl => q.newL s rr hl⟩
  · cases e
    cases r with | cons r t => cases t; cases r; exact .of call_int1 (.inl ⟨_, rfl, q.now s (.int _)⟩)
  · cases e
    cases r with | cons r t => cases t; cases r; exact .of call_int1 (.inr ⟨_, rfl, q.now s (.int _)⟩)
  · cases e
    cases r with | cons r t => cases t; cases r; exact .of call_bool1 (.inr ⟨_, rfl, q.now s (.bl _)⟩)
  · obtain ⟨d, e1, e2⟩ := Option.map_eq_some_iff.mp e
    subst e2
    cases r with
    | cons r t =>
      cases t with
      | cons r2 t =>
        cases t
        cases r2
        obtain ⟨t, h1, h2⟩ := isi_of e1 r
        exact .of call_isi ⟨_, _, _, _, _, rfl, .ty _, h1, kit_ty h2, q.now s (.bl _)⟩
  · cases e
end

end Mi

end

section
set_option linter.all false
set_option maxRecDepth 100000
set_option maxHeartbeats 1000000
/-! Mi, part Z: zip and enumerate over lists and tuples, in any mix. -/
namespace Mi
open PySem PySem.Spec PyProof.Rows L2

/-- t: a tuple; otherwise a list -/
def ItAt (t : Bool) (h : Heap) (it l : Addr) (k : Nat) : Prop := match t with
  | false => h.IsListIter it l k
  | true => h.IsTupleIter it l k
def ObAt (t : Bool) (h : Heap) (l : Addr) (xs : Array Value) : Prop := match t with
  | false => h.IsList l xs
  | true => h.IsTuple l xs
def itO (t : Bool) (l : Addr) : Obj := match t with
  | false => { cls := .type "list_iterator", data := .fields #[.ref l, .int 0 0] }
  | true => { cls := .type "tuple_iterator", data := .fields #[.ref l, .int 0 0] }
theorem ItAt.at_ {t : Bool} {h h' : Heap} {it l : Addr} {k : Nat} (x : ItAt t h it l k) (e : ∀ o, h.get? it = some o → h'.get? it = some o) : ItAt t h' it l k := by
  cases t with
  | false => exact Heap.IsListIter.at x e
  | true => exact Heap.IsTupleIter.at x e
theorem ItAt.obj {t : Bool} {h : Heap} {it l : Addr} {k : Nat} (x : ItAt t h it l k) : ∃ o, h.get? it = some o ∧ ∀ v, o.data ≠ .cell v := by
  cases t with
  | false => obtain ⟨o, e, _, d⟩ := x; exact ⟨o, e, fun v z => by rw [d] at z; cases z⟩
  | true => obtain ⟨o, e, _, d⟩ := x; exact ⟨o, e, fun v z => by rw [d] at z; cases z⟩
theorem begins_K (t : Bool) (l : Addr) (xs : Array Value) : Begins (.ref l) (itO t l) (fun h => ObAt t h l xs) := by
  cases t with
  | false => exact begins_list l xs
  | true => exact begins_tuple l xs
theorem itAt_new (t : Bool) {h : Heap} {it l : Addr} (e : h.get? it = some (itO t l)) : ItAt t h it l 0 := by
  cases t with
  | false => exact ⟨_, e, rfl, rfl⟩
  | true => exact ⟨_, e, rfl, rfl⟩
theorem draws_K {prog : Program} {w : World} {A : Around} (t : Bool) (hh : A.handled = none) (it l : Addr) (hne : l ≠ it) (xs : Array Value) :
    Draws prog w A it [it, l] xs.size (fun i v => xs[i]? = some v) (fun i h => ItAt t h it l i ∧ ObAt t h l xs) := by
  cases t with
  | false => exact Draws.list hh it l hne xs
  | true => exact Draws.tuple hh it l hne xs
/-- what is read at a -/
def SqB (t : Bool) (K : PySem.W.Frag) (H : Hp) (a : Addr) (xs : List V) : Prop := match t with
  | false => SqL K H a xs
  | true => SqT K H a xs
theorem sqB_get {X : Cx} {pins : List (Addr × Obj)} {σ : L2.St} {H : Hp} {s : Shared} {a : Addr} {xs : List V} {t : Bool} (I : Inv X pins σ H s) (h : SqB t X.K H a xs) : ∃ its : List Value, Vals xs its ∧ ObAt t s.heap a its.toArray := by
  cases t with
  | false => obtain ⟨its, r, p, _⟩ := I.list h; exact ⟨its, r, p.isList⟩
  | true => obtain ⟨its, r, p, _⟩ := I.tuple h; exact ⟨its, r, p⟩
theorem sqB_inj {X : Cx} {pins : List (Addr × Obj)} {σ : L2.St} {H : Hp} {s : Shared} {a : Addr} {xs ys : List V} {t : Bool} (I : Inv X pins σ H s) (h : SqB t X.K H a xs) (h' : SqB t X.K H a ys) : xs = ys := by
  cases t with
  | false => exact I.list_inj h h'
  | true => exact I.tuple_inj h h'
theorem obAt_lt {t : Bool} {h : Heap} {l : Addr} {xs : Array Value} (x : ObAt t h l xs) : l < h.objs.size := by
  cases t with
  | false => obtain ⟨o, e, _⟩ := x; exact Heap.lt_size e
  | true => obtain ⟨o, e, _⟩ := x; exact Heap.lt_size e

/-! ### zip -/
/-- two things walked side by side, the items in new pairs -/
def ItzG (t u : Bool) (K : PySem.W.Frag) (a b : Addr) : It :=
  ⟨fun i H => ∃ xs ys x y, SqB t K H a xs ∧ SqB u K H b ys ∧ xs[i]? = some x ∧ ys[i]? = some y,
   fun i H v H' => ∃ T x y, v = .ref T ∧ H T = none ∧ H' = upd H T (.tup [x, y]) ∧ (∀ xs, SqB t K H a xs → xs[i]? = some x) ∧ ∀ ys, SqB u K H b ys → ys[i]? = some y,
   fun i H => ∃ xs ys, SqB t K H a xs ∧ SqB u K H b ys ∧ i = min xs.length ys.length⟩
section
variable {P : Program} {w : World} {K : PySem.W.Frag} {elts : List Expr} {kk : Nat} {tpos : Pos}
theorem pair_new {X : Cx} {H : Hp} {h : Heap} {T : Addr} {x y : V} {v u : Value} (rv : RelV x v) (ru : RelV y u) (hT : h.IsTuple T #[v, u]) : ObjOk X.prog X.w (upd H T (.tup [x, y])) h T (.tup [x, y]) :=
  ⟨by show 2 ≤ sizeLine; decide, [v, u], .cons rv (.cons ru .nil), hT⟩
/-- the places: the two walked things' iterators, zip's own cells -/
structure ZipPl (z TI TO i1 i2 a b : Addr) : Prop where
  S : ZipSep2 z TI TO i1 i2 [i1, a] [i2, b]
  n1 : a ≠ i1
  n2 : b ≠ i2
theorem turn_zipG {t u : Bool} {a b z TI TO i1 i2 : Addr} (D : ZipPl z TI TO i1 i2 a b) :
    Turn P w K (.Tuple elts kk tpos) (ItzG t u K a b) [z, TI, TO, i1, i2] z
      (fun i h => IsZip h z TI TO .none ∧ IsTupOf2 h TI (.ref i1) (.ref i2) ∧ (∃ a1 a2, IsTupOf2 h TO a1 a2) ∧ ItAt t h i1 a i ∧ ItAt u h i2 b i) where
  mem := by simp
  obj := fun i h st c hc => by
    obtain ⟨hz, h1, ⟨_, _, h2⟩, h3, h4⟩ := st
    have e' : c = z ∨ c = TI ∨ c = TO ∨ c = i1 ∨ c = i2 := by simpa using hc
    rcases e' with rfl | rfl | rfl | rfl | rfl
    · exact ⟨_, hz, fun v q => nomatch q⟩
    · exact ⟨_, h1, fun v q => nomatch q⟩
    · exact ⟨_, h2, fun v q => nomatch q⟩
    · exact h3.obj
    · exact h4.obj
  keep := fun i h h' st k => by
    obtain ⟨hz, h1, ⟨x, y, h2⟩, h3, h4⟩ := st
    exact ⟨k z (by simp) _ hz, k TI (by simp) _ h1, ⟨x, y, k TO (by simp) _ h2⟩, h3.at_ fun o q => k i1 (by simp) o q, h4.at_ fun o q => k i2 (by simp) o q⟩
  item := by
    intro X hP hw hK hc i pins s σ H E I hf st hg
    subst hP hw hK
    obtain ⟨hz, h1, h2, h3, h4⟩ := st
    obtain ⟨xs, ys, x, y, hqx, hqy, hx, hy⟩ := hg
    obtain ⟨its, rv, p⟩ := sqB_get I hqx
    obtain ⟨jts, ru, q⟩ := sqB_get I hqy
    have W := WalksT.zipD2 (prog := X.prog) (w := X.w) (A := X.A) D.S (draws_K (A := X.A.in1) t (I.ok.hd hc) i1 a D.n1 its.toArray) (draws_K (A := X.A.in1) u (I.ok.hd hc) i2 b D.n2 jts.toArray)
    have lx : i < xs.length := (List.getElem?_eq_some_iff.mp hx).1
    have ly : i < ys.length := (List.getElem?_eq_some_iff.mp hy).1
    have l1 := rv.length
    have l2 := ru.length
    refine W.item i s _ _ (by simp only [List.size_toArray]; omega) ⟨hz, h1, h2, ⟨h3, p⟩, ⟨h4, q⟩⟩ fun T vals h' tk hPt hT hTt hMid hk => ?_
    obtain ⟨v1, v2, e1, e2, rfl⟩ := hPt
    refine ⟨_, rfl, W.go elts kk tpos i T { s with heap := h', toks := tk } _ _ hMid fun h'' st'' hk2 => ?_⟩
    have nT := W.apart _ _ _ hMid
    obtain ⟨v, hv, rx⟩ := rv.get hx
    obtain ⟨v', hv', ry⟩ := ru.get hy
    have ex : v = v1 := Option.some.inj (hv.symm.trans (by simpa using e1))
    have ey : v' = v2 := Option.some.inj (hv'.symm.trans (by simpa using e2))
    subst ex ey
    have hT2 : h''.IsTuple T #[v, v'] := Heap.IsTuple.at hTt fun o e => hk2 T o nT e
    have wr : ∀ c, c ∈ [z, TO, i1, i2] → c ∈ [z, TI, TO, i1, i2] := fun c hc' => by
      have e' : c = z ∨ c = TO ∨ c = i1 ∨ c = i2 := by simpa using hc'
      rcases e' with rfl | rfl | rfl | rfl <;> simp
    have I1 : Inv X pins σ (upd H T (.tup [x, y])) { s with heap := h'', toks := tk } :=
      I.turnedNew (ch := [z, TI, TO, i1, i2]) (fun c o hb e => hk2 c o (fun z' => hb (wr c z')) (hk c o (fun z' => hb (wr c z')) e)) hf hT (pair_new rx ry hT2)
    obtain ⟨g1, g2, g3, g4, g5⟩ := st''
    refine ⟨.ref T, _, I1, rfl, ⟨T, x, y, rfl, I.hok.fresh hT, rfl, fun l hl => by rw [sqB_inj I hl hqx]; exact hx, fun l hl => by rw [sqB_inj I hl hqy]; exact hy⟩, ⟨g1, g2, g3, g4.1, g5.1⟩, fun c hc' => ?_⟩
    have hlt : c < s.heap.objs.size := by
      have e' : c = z ∨ c = TI ∨ c = TO ∨ c = i1 ∨ c = i2 := by simpa using hc'
      obtain ⟨_, _, h2⟩ := h2
      rcases e' with rfl | rfl | rfl | rfl | rfl
      · exact Heap.lt_size hz
      · exact Heap.lt_size h1
      · exact Heap.lt_size h2
      · obtain ⟨_, e, _⟩ := h3.obj; exact Heap.lt_size e
      · obtain ⟨_, e, _⟩ := h4.obj; exact Heap.lt_size e
    rw [upd_ne (Nat.ne_of_lt (Nat.lt_of_lt_of_le hlt hT))]
    exact (hf c hc').1
  done := by
    intro X hP hw hK hc i pins s σ H E I hf st hg
    subst hP hw hK
    obtain ⟨hz, h1, h2, h3, h4⟩ := st
    obtain ⟨xs, ys, hqx, hqy, hend⟩ := hg
    obtain ⟨its, rv, p⟩ := sqB_get I hqx
    obtain ⟨jts, ru, q⟩ := sqB_get I hqy
    have W := WalksT.zipD2 (prog := X.prog) (w := X.w) (A := X.A) D.S (draws_K (A := X.A.in1) t (I.ok.hd hc) i1 a D.n1 its.toArray) (draws_K (A := X.A.in1) u (I.ok.hd hc) i2 b D.n2 jts.toArray)
    have l1 := rv.length
    have l2 := ru.length
    have e : i = min its.toArray.size jts.toArray.size := by simp only [List.size_toArray]; omega
    subst e
    refine W.done s _ _ ⟨hz, h1, h2, ⟨h3, p⟩, ⟨h4, q⟩⟩ fun h' tk hk => ⟨rfl, I.turnedL (ch := [z, TI, TO, i1, i2]) (fun c o hb e => hk c o (fun z' => hb ?_) e) hf⟩
    have e' : c = z ∨ c = TO ∨ c = i1 ∨ c = i2 := by simpa using z'
    rcases e' with rfl | rfl | rfl | rfl <;> simp
  self := fun A i s Q E st h => wpAny_pyIter_zip st.1 h
theorem zip_pl {N : Nat} {a b : Addr} (ha : a < N) (hb : b < N) : ZipPl (N + 4) (N + 2) (N + 3) N (N + 1) a b :=
  ⟨zip_sep2 (fp1 := [a]) (fp2 := [b]) (fun c hc => by rw [List.mem_singleton.mp hc]; exact ha) (fun c hc => by rw [List.mem_singleton.mp hc]; exact hb), Nat.ne_of_lt ha, Nat.ne_of_lt (Nat.lt_succ_of_lt hb)⟩
def iZipG (K : PySem.W.Frag) (ta : TA) : TI := fun σ H R => ta σ H fun vs H1 => ∃ a b t u xs ys, vs = [.ref a, .ref b] ∧ SqB t K H1 a xs ∧ SqB u K H1 b ys ∧ R (ItzG t u K a b) H1
theorem pi_zipG {X : Cx} {e e2 : Expr} {ta : TA} {p pos tpos : Pos} {elts : List Expr} {kk : Nat} (hg : Gl X "zip") (hm : X.mg "zip" = none) (ha : PA X [e, e2] ta)
    (hs : starEach [e, e2] X.env = (false, eval e X.env) :: starEach [e2] X.env) (hpl : (backTo pos (starEach [e2] X.env)).any (·.1) = false) :
    PI X (.Tuple elts kk tpos) (.Call (.Name "zip" p) [e, e2] [] pos) (iZipG X.K ta) := by
  refine ⟨fun pins s σ H R I h => ?_⟩
  refine Call_ (ld_blt I hg hm PyProof.Rows.boot_zip (PyProof.Rows.callWith_type1 (thn (ha.run pos pins s σ H _ I h) fun us s1 hh => ?_) hs hpl))
  obtain ⟨vs, H1, I1, r1, a, b, t, u, xs, ys, ex, hqx, hqy, q⟩ := hh
  subst ex
  obtain ⟨u1, u2, rfl, ra, rb⟩ := vals2 r1
  cases ra
  cases rb
  obtain ⟨its, rv, p1⟩ := sqB_get I1 hqx
  obtain ⟨jts, ru, p2⟩ := sqB_get I1 hqy
  refine zip_begins2 (begins_K t a its.toArray) (begins_K u b jts.toArray) p1 p2 fun h' hz hTI hTO h1 h2 hsz hk => wpAny_pyIter_zip hz ?_
  have I2 : Inv X pins σ H1 { s1 with heap := h' } := I1.kept (t' := s1.toks) hk
  refine ⟨s1.heap.objs.size + 4, [s1.heap.objs.size + 4, s1.heap.objs.size + 2, s1.heap.objs.size + 3, s1.heap.objs.size, s1.heap.objs.size + 1], _, _, H1, rfl, I2, turn_zipG (zip_pl (obAt_lt p1) (obAt_lt p2)),
    ⟨hz, hTI, ⟨_, _, hTO⟩, itAt_new t h1, itAt_new u h2⟩, fun c hc => ?_, q⟩
  have e' : c = s1.heap.objs.size + 4 ∨ c = s1.heap.objs.size + 2 ∨ c = s1.heap.objs.size + 3 ∨ c = s1.heap.objs.size ∨ c = s1.heap.objs.size + 1 := by simpa using hc
  have hle : s1.heap.objs.size ≤ c := by
    rcases e' with z | z | z | z | z <;> rw [z] <;> first | exact Nat.le_add_right _ _ | exact Nat.le_refl _
  exact I1.fpOk hle (I1.hok.fresh hle)

/-! ### enumerate -/
def IteG (t : Bool) (K : PySem.W.Frag) (a : Addr) : It :=
  ⟨fun i H => ∃ xs x, SqB t K H a xs ∧ xs[i]? = some x,
   fun i H v H' => ∃ T x, v = .ref T ∧ H T = none ∧ H' = upd H T (.tup [.int (i : Nat), x]) ∧ ∀ xs, SqB t K H a xs → xs[i]? = some x,
   fun i H => ∃ xs, SqB t K H a xs ∧ i = xs.length⟩
theorem turn_enumG {t : Bool} {a e it : Addr} (hne : e ≠ it) (hea : e ≠ a) (hai : a ≠ it) :
    Turn P w K (.Tuple elts kk tpos) (IteG t K a) [e, it] e (fun i h => (∃ old, IsEnum h e it ((0 : Int) + ((i : Nat) : Int)) old) ∧ ItAt t h it a i) where
  mem := by simp
  obj := fun i h st c hc => by
    obtain ⟨⟨_, h1⟩, h2⟩ := st
    have e' : c = e ∨ c = it := by simpa using hc
    rcases e' with rfl | rfl
    · exact ⟨_, h1, fun v q => nomatch q⟩
    · exact h2.obj
  keep := fun i h h' st k => by
    obtain ⟨⟨old, h1⟩, h2⟩ := st
    exact ⟨⟨old, k e (by simp) _ h1⟩, h2.at_ fun o q => k it (by simp) o q⟩
  item := by
    intro X hP hw hK hc i pins s σ H E I hf st hg
    subst hP hw hK
    obtain ⟨h1, h2⟩ := st
    obtain ⟨xs, x, hqx, hx⟩ := hg
    obtain ⟨its, rv, p⟩ := sqB_get I hqx
    have W := WalksT.enumFrom (prog := X.prog) (w := X.w) (A := X.A) 0 (draws_K (A := X.A.in1) t (I.ok.hd hc) it a hai its.toArray) e hne (fun z => by rcases List.mem_cons.mp z with z | z; exact hne z; exact hea (List.mem_singleton.mp z)) List.mem_cons_self
    have lx : i < xs.length := (List.getElem?_eq_some_iff.mp hx).1
    have l1 := rv.length
    refine W.item i s _ _ (by simp only [List.size_toArray]; omega) ⟨h1, ⟨h2, p⟩⟩ fun T vals h' tk hPt hT hTt hMid hk => ?_
    obtain ⟨tt, v1, e1, rfl⟩ := hPt
    refine ⟨_, rfl, W.go elts kk tpos i T { s with heap := h', toks := tk } _ _ hMid fun h'' st'' hk2 => ?_⟩
    have nT := W.apart _ _ _ hMid
    obtain ⟨v, hv, rx⟩ := rv.get hx
    have ex : v = v1 := Option.some.inj (hv.symm.trans (by simpa using e1))
    subst ex
    have hT2 : h''.IsTuple T #[.int ((0 : Int) + (i : Int)) tt, v] := Heap.IsTuple.at hTt fun o e => hk2 T o nT e
    have I1 : Inv X pins σ (upd H T (.tup [.int (i : Nat), x])) { s with heap := h'', toks := tk } :=
      I.turnedNew (ch := [e, it]) (fun c o hb q => hk2 c o hb (hk c o hb q)) hf hT (pair_new (x := .int (i : Nat)) ⟨tt, by rw [Int.zero_add]⟩ rx hT2)
    obtain ⟨g1, g2⟩ := st''
    refine ⟨.ref T, _, I1, rfl, ⟨T, x, rfl, I.hok.fresh hT, rfl, fun l hl => by rw [sqB_inj I hl hqx]; exact hx⟩, ⟨g1, g2.1⟩, fun c hc' => ?_⟩
    have hlt : c < s.heap.objs.size := by
      have e' : c = e ∨ c = it := by simpa using hc'
      obtain ⟨_, h1⟩ := h1
      rcases e' with rfl | rfl
      · exact Heap.lt_size h1
      · obtain ⟨_, e, _⟩ := h2.obj; exact Heap.lt_size e
    rw [upd_ne (Nat.ne_of_lt (Nat.lt_of_lt_of_le hlt hT))]
    exact (hf c hc').1
  done := by
    intro X hP hw hK hc i pins s σ H E I hf st hg
    subst hP hw hK
    obtain ⟨h1, h2⟩ := st
    obtain ⟨xs, hqx, hend⟩ := hg
    obtain ⟨its, rv, p⟩ := sqB_get I hqx
    have W := WalksT.enumFrom (prog := X.prog) (w := X.w) (A := X.A) 0 (draws_K (A := X.A.in1) t (I.ok.hd hc) it a hai its.toArray) e hne (fun z => by rcases List.mem_cons.mp z with z | z; exact hne z; exact hea (List.mem_singleton.mp z)) List.mem_cons_self
    have l1 := rv.length
    have e0 : i = its.toArray.size := by simp only [List.size_toArray]; omega
    subst e0
    exact W.done s _ _ ⟨h1, ⟨h2, p⟩⟩ fun h' tk hk => ⟨rfl, I.turnedL (ch := [e, it]) (fun c o hb q => hk c o hb q) hf⟩
  self := fun A i s Q E st h => let ⟨⟨_, h1⟩, _⟩ := st; wpAny_pyIter_enum h1 h
/-- enumerate(v) of one argument begins -/
theorem meets_enum1 {v : Value} {o : Obj} {Hh : Heap → Prop} (B : Begins v o Hh) (hv : ∃ l, v = .ref l) :
    Meets (Builtin.«enumerate.__new__» ⟨[.type "enumerate", v], []⟩) (fun _ R s => Hh s.heap ∧
      R (.ok (.ret (.ref (s.heap.push o).objs.size))) { s with heap := (s.heap.push o).push { cls := .type "enumerate", data := .fields #[.none, .bool false, .ref s.heap.objs.size, rawInt 0, .none, .none] } }) :=
  .of_wp fun prog w A R s h => by
    obtain ⟨l, rfl⟩ := hv
    obtain ⟨hp, g, d, tk, os⟩ := s
    obtain ⟨h1, h⟩ := h
    have hsub := sub_enumerate
    have q1 : ∀ {A' : Around} {E : Value → Shared → Prop} {Q : Value → Shared → Prop}, Q (.ref hp.objs.size) ⟨hp.push o, g, d, tk, os⟩ → wpAny (model prog w) A' (pyIter (.ref l)) Q E ⟨hp, g, d, tk, os⟩ :=
      fun q => B.iter prog w _ _ ⟨hp, g, d, tk, os⟩ _ h1 q
    wp_walk using q1
    refine wpAny_stack_any fun st => wpAny_pure ?_
    split
    · rename_i c _ _ _ _ _
      cases (c == Value.type "enumerate")
      · wp_walk using q1
        exact ⟨_, rfl, h⟩
      · wp_walk using q1
        exact ⟨_, rfl, h⟩
    · wp_walk using q1
      exact ⟨_, rfl, h⟩
theorem call_enum1 {prog : Program} {w : World} {A : Around} {E : Value → Shared → Prop} {s : Shared} {l : Addr} {o : Obj} {Hh : Heap → Prop} {Q : Value → Shared → Prop} (B : Begins (.ref l) o Hh) (h1 : Hh s.heap)
    (h : ∀ h', IsEnum h' (s.heap.objs.size + 1) s.heap.objs.size 0 .none → h'.get? s.heap.objs.size = some o → (∀ b ob, s.heap.get? b = some ob → h'.get? b = some ob) → Q (.ref (s.heap.objs.size + 1)) { s with heap := h' }) :
    wpAny (model prog w) A (PySem.call (.type "enumerate") [.ref l]) Q E s := by
  refine callType_new F.called_enumerate (by decide) (F.typeCall_enumerate_1 _) (F.newCall_enumerate_1 _) (fun obj => F.args_object_init_2 obj _) F.entry_enumerate_new (meets_enum1 B ⟨l, rfl⟩) ⟨h1, ?_⟩
  have hz : (s.heap.push o).objs.size = s.heap.objs.size + 1 := Heap.size_push ..
  show _ ∧ _
  rw [hz]
  have g := Heap.get?_push_size (s.heap.push o) (o := { cls := .type "enumerate", data := .fields #[.none, .bool false, .ref s.heap.objs.size, rawInt 0, .none, .none] }) rfl
  rw [hz] at g
  exact ⟨⟨_, g, rfl⟩, h _ g (Heap.get?_push_of_some _ (Heap.get?_push_size _ B.free)) fun b ob x => Heap.get?_push_of_some _ (Heap.get?_push_of_some _ x)⟩
def iEnumG (K : PySem.W.Frag) (ta : TA) : TI := fun σ H R => ta σ H fun vs H1 => ∃ a t xs, vs = [.ref a] ∧ SqB t K H1 a xs ∧ R (IteG t K a) H1
theorem pi_enumG {X : Cx} {e : Expr} {ta : TA} {p pos tpos : Pos} {elts : List Expr} {kk : Nat} (hg : Gl X "enumerate") (hm : X.mg "enumerate" = none) (ha : PA X [e] ta)
    (hs : starEach [e] X.env = [(false, eval e X.env)]) : PI X (.Tuple elts kk tpos) (.Call (.Name "enumerate" p) [e] [] pos) (iEnumG X.K ta) := by
  refine ⟨fun pins s σ H R I h => ?_⟩
  refine Call_ (ld_blt I hg hm boot_enumerate (PyProof.Rows.callWith_type1 (thn (ha.run pos pins s σ H _ I h) fun us s1 hh => ?_) hs rfl))
  obtain ⟨vs, H1, I1, r1, a, t, xs, ex, hqx, q⟩ := hh
  subst ex
  obtain ⟨u1, rfl, ra⟩ := vals1 r1
  cases ra
  obtain ⟨its, rv, p1⟩ := sqB_get I1 hqx
  refine call_enum1 (begins_K t a its.toArray) p1 fun h' hz h1 hk => wpAny_pyIter_enum hz ?_
  have I2 : Inv X pins σ H1 { s1 with heap := h' } := I1.kept (t' := s1.toks) hk
  have hlt := obAt_lt p1
  refine ⟨s1.heap.objs.size + 1, [s1.heap.objs.size + 1, s1.heap.objs.size], _, _, H1, rfl, I2, turn_enumG (t := t) (a := a) (e := s1.heap.objs.size + 1) (it := s1.heap.objs.size) (Nat.succ_ne_self _) (Nat.ne_of_gt (Nat.lt_succ_of_lt hlt)) (Nat.ne_of_lt hlt),
    ⟨⟨_, hz⟩, itAt_new t h1⟩, fun c hc => ?_, q⟩
  have e' : c = s1.heap.objs.size + 1 ∨ c = s1.heap.objs.size := by simpa using hc
  have hle : s1.heap.objs.size ≤ c := by
    rcases e' with z | z <;> rw [z] <;> first | exact Nat.le_add_right _ _ | exact Nat.le_refl _
  exact I1.fpOk hle (I1.hok.fresh hle)
end
end Mi

end

section
set_option linter.all false
set_option maxRecDepth 100000
/-! Mi, part E: the check of a text against the language; contexts; results. -/
namespace Mi
open PySem PySem.Spec PyProof.Rows L2

/-! ### the check -/
structure Info where
  N : List Str
  nm : Nat → Str
  F : Nat → Bool
  C : Nat → Bool
def visB (sc : Scope) (x : Str) : Bool := match sc.names.lookup x with
  | some .local => true
  | some .cell => true
  | some .free => true
  | _ => false
def locB (top : Bool) (sc : Scope) (x : Str) : Bool := match sc.names.lookup x with
  | some .local => true
  | some .cell => top
  | _ => false
def glB (sc : Scope) (x : Str) : Bool := match sc.names.lookup x with
  | some .globalImplicit => true
  | _ => false
def nodbg (x : Str) : Bool := !(x == ("__debug__" : Str))
def nameOk (I : Info) (sc : Scope) (i : Nat) (x : Str) : Bool := decide (I.N[i]? = some x) && (visB sc x && (nodbg x && !(x == ("__classdict__" : Str))))
def gOk (I : Info) (sc : Scope) (g : Nat) (x : Str) : Bool := decide (I.nm g = x) && (glB sc x && nodbg x)
def Bi.name : Bi → Str
  | .len => "len" | .abs => "abs" | .min2 => "min" | .max2 => "max" | .sum => "sum" | .all => "all" | .any => "any"
  | .tuple => "tuple" | .list => "list" | .int => "int" | .bool => "bool" | .str => "str" | .isi => "isinstance"
def tyNames : List (String × Str) := [("int", "int"), ("bool", "bool"), ("str", "str"), ("tuple", "tuple"), ("list", "list")]
/-- the builtin names that are used -/
def bnames : List Str := ["len", "abs", "min", "max", "sum", "all", "any", "tuple", "list", "int", "bool", "str", "isinstance", "range", "zip", "enumerate"]
def btyB (n : String) (x : Str) : Bool := tyNames.any fun p => decide (p.1 = n) && decide (p.2 = x)
mutual
/-- the slots of a target -/
def Tg.slots : Tg → List Nat
  | .nm i => [i]
  | .nil => []
  | .cons t ts => t.slots ++ ts.slots
end
mutual
def chkTg (I : Info) (top : Bool) (sc : Scope) : Tg → Expr → Bool
  | .nm i, .Name x _ => decide (I.N[i]? = some x) && locB top sc x
  | .nil, .Tuple es _ _ => es.isEmpty
  | .cons t ts, .Tuple es _ _ => chkTgs I top sc (.cons t ts) es
  | _, _ => false
def chkTgs (I : Info) (top : Bool) (sc : Scope) : Tg → List Expr → Bool
  | .nil, [] => true
  | .cons t ts, e :: es => chkTg I top sc t e && chkTgs I top sc ts es
  | _, _ => false
end
def freshE : Ex → Bool
  | .lst _ => true
  | .comp .. => true
  | .lrg .. => true
  | .lrd .. => true
  | .bi .list _ => true
  | .bin .Mult _ _ => true
  | _ => false
def ownOf (I : Info) (ow : List Nat) : List (Str × Nat) := ow.map fun i => (I.N.getD i "", i)
mutual
def chkE (I : Info) : Ex → Scope → Expr → Bool
  | .var i, sc, .Name x _ => nameOk I sc i x
  | .non, _, .Constant .none _ _ => true
  | .bl b, _, .Constant (.bool c) _ _ => b == c
  | .int i, _, .Constant (.int j) _ _ => i == j
  | .str s, _, .Constant (.str t) _ _ => decide (s = t)
  | .gl g, sc, .Name x _ => gOk I sc g x
  | .bty n, sc, .Name x _ => btyB n x && (glB sc x && nodbg x)
  | .bin o a b, sc, .BinOp l o' r _ => decide (o = o') && (chkE I a sc l && chkE I b sc r)
  | .neg a, sc, .UnaryOp .USub x _ => chkE I a sc x
  | .not a, sc, .UnaryOp .Not x _ => chkE I a sc x
  | .and a b, sc, .BoolOp .And (x :: y :: []) _ => chkE I a sc x && chkE I b sc y
  | .and a b, sc, .BoolOp .And (x :: y :: z :: r) p => chkE I a sc x && chkE I b sc (.BoolOp .And (y :: z :: r) p)
  | .or a b, sc, .BoolOp .Or (x :: y :: []) _ => chkE I a sc x && chkE I b sc y
  | .or a b, sc, .BoolOp .Or (x :: y :: z :: r) p => chkE I a sc x && chkE I b sc (.BoolOp .Or (y :: z :: r) p)
  | .cmp o a b, sc, .Compare l (o' :: []) (r :: []) _ => decide (o = o') && (chkE I a sc l && chkE I b sc r)
  | .chn o1 o2 a b c, sc, .Compare l (p1 :: p2 :: []) (m :: r :: []) _ => decide (o1 = p1) && (decide (o2 = p2) && (chkE I a sc l && (chkE I b sc m && chkE I c sc r)))
  | .ite c a b, sc, .IfExp t x y _ => chkE I c sc t && (chkE I a sc x && chkE I b sc y)
  | .tup as, sc, .Tuple es _ _ => decide (es.length ≤ 1000) && chkA I as sc es
  | .lst as, sc, .List es _ => decide (es.length ≤ 1000) && chkA I as sc es
  | .cell e, sc, x => freshE e && chkE I e sc x
  | .call _ f as, sc, .Call (.Name x _) (y :: ys) [] _ => I.F f && (gOk I sc f x && chkA I as sc (y :: ys))
  | .call _ f as, sc, .Call (.Name x _) [] [] _ => I.F f && (gOk I sc f x && chkA I as sc [])
  | .bi b as, sc, .Call (.Name x _) (y :: ys) [] _ => decide (b.name = x) && (glB sc x && chkA I as sc (y :: ys))
  | .idx a b, sc, .Subscript x y _ => chkE I a sc x && chkE I b sc y
  | .sli a lo hi, sc, .Subscript x (.Slice l h none _) _ => chkE I a sc x && ((match l with
    | none => lo.isOmit
    | some l => chkE I lo sc l) && (match h with
    | none => hi.isOmit
    | some h => chkE I hi sc h))
  | .comp tg ow it c e, sc, .ListComp elt (⟨t, iter, ifs, 0⟩ :: []) scope _ => blkC I.N sc scope (ownOf I ow) && (tg.slots.all (ow.contains ·) && (chkI I it sc t iter && (chkTg I false (relS scope sc) tg t && ((match ifs with
    | [] => c.isOmit
    | x :: [] => chkE I c (relS scope sc) x
    | _ => false) && chkE I e (relS scope sc) elt))))
  | .lrg a b, sc, .Call (.Name n _) (.Call (.Name r _) (y :: z :: []) [] _ :: []) [] _ => decide (n = ("list" : Str)) && (decide (r = ("range" : Str)) && (glB sc n && (glB sc r && (chkE I a sc y && chkE I b sc z))))
  | .lrd a b, sc, .Call (.Name n _) (.Call (.Name r _) (y :: z :: .UnaryOp .USub (.Constant (.int 1) _ _) _ :: []) [] _ :: []) [] _ => decide (n = ("list" : Str)) && (decide (r = ("range" : Str)) && (glB sc n && (glB sc r && (chkE I a sc y && chkE I b sc z))))
  | _, _, _ => false
def chkA (I : Info) : Ex → Scope → List Expr → Bool
  | .nil, _, [] => true
  | .cons a as, sc, x :: xs => chkE I a sc x && chkA I as sc xs
  | _, _, _ => false
def chkI (I : Info) : Ex → Scope → Expr → Expr → Bool
  | .rng1 a, sc, _, .Call (.Name x _) (y :: []) [] _ => decide (x = ("range" : Str)) && (glB sc x && chkE I a sc y)
  | .rng2 a b, sc, _, .Call (.Name x _) (y :: z :: []) [] _ => decide (x = ("range" : Str)) && (glB sc x && (chkE I a sc y && chkE I b sc z))
  | .zip a b, sc, .Tuple _ _ _, .Call (.Name x _) (y :: z :: []) [] _ => decide (x = ("zip" : Str)) && (glB sc x && (chkE I a sc y && chkE I b sc z))
  | .enu a, sc, .Tuple _ _ _, .Call (.Name x _) (y :: []) [] _ => decide (x = ("enumerate" : Str)) && (glB sc x && chkE I a sc y)
  | .sq a, sc, _, y => chkE I a sc y
  | _, _, _, _ => false
end
/-- an expression that no word of the language is for -/
def oddE : Expr → Bool
  | .Starred .. => true
  | .Slice .. => true
  | .Set .. => true
  | .SetComp .. => true
  | .DictComp .. => true
  | _ => false
theorem chk_odd {I : Info} : ∀ {e : Ex} {sc : Scope} {x : Expr}, chkE I e sc x = true → oddE x = false := by
  intro e sc x h
  cases x <;> first | rfl | (exfalso; revert h; induction e generalizing sc <;> intro h <;> simp_all [chkE])
end Mi

end

section
set_option linter.all false
set_option maxRecDepth 100000
/-! Mi, part F: results; judgements at a point; calls. -/
namespace Mi
open PySem PySem.Spec PyProof.Rows L2

section
variable {w : Wd} {H : Hp} {M : List Addr} {B B' : Addr → Prop}
mutual
theorem Rel.bchg (hb : ∀ a, B' a → B a ∨ H a = none) : ∀ {x : PV} {v : V}, Rel w H M B x v → Rel w H M B' x v
  | _, _, .non => .non
  | _, _, .bl b => .bl b
  | _, _, .int i => .int i
  | _, _, .str i => .str i
  | _, _, .ty n => .ty n
  | _, _, .glo e => .glo e
  | _, _, .cel e => .cel e
  | _, _, .tup e n r => .tup e n (Rels.bchg hb r)
  | _, _, .ktup e r => .ktup e (Rels.bchg hb r)
  | _, _, .lst e n b r => .lst e n (fun z => (hb _ z).elim b fun q => by rw [e] at q; cases q) (Rels.bchg hb r)
  | _, _, .scr e n r => .scr e n (Rels.bchg hb r)
  | _, _, .kscr e r => .kscr e (Rels.bchg hb r)
theorem Rels.bchg (hb : ∀ a, B' a → B a ∨ H a = none) : ∀ {xs : List PV} {vs : List V}, Rels w H M B xs vs → Rels w H M B' xs vs
  | _, _, .nil => .nil
  | _, _, .cons r t => .cons (Rel.bchg hb r) (Rels.bchg hb t)
end
mutual
theorem Rel.enter : ∀ {x : PV} {v : V}, x.noCel = true → Rel w H M B x v → Rel w H [] (fun a => a ∈ M ∨ B a) x v
  | _, _, _, .non => .non
  | _, _, _, .bl b => .bl b
  | _, _, _, .int i => .int i
  | _, _, _, .str i => .str i
  | _, _, _, .ty n => .ty n
  | _, _, _, .glo e => .glo e
  | _, _, h, .cel e => by cases h
  | _, _, h, .tup e n r => .tup e (by simp) (Rels.enter (by simpa [PV.noCel] using h) r)
  | _, _, h, .ktup e r => .ktup e (Rels.enter (by simpa [PV.noCel] using h) r)
  | _, _, h, .lst e n b r => .lst e (by simp) (fun z => z.elim n b) (Rels.enter (by simpa [PV.noCel] using h) r)
  | _, _, h, .scr e n r => .scr e (by simp) (Rels.enter (by simpa [PV.noCel] using h) r)
  | _, _, h, .kscr e r => .kscr e (Rels.enter (by simpa [PV.noCel] using h) r)
theorem Rels.enter : ∀ {xs : List PV} {vs : List V}, noCels xs = true → Rels w H M B xs vs → Rels w H [] (fun a => a ∈ M ∨ B a) xs vs
  | _, _, _, .nil => .nil
  | _, _, h, .cons r t => by
    obtain ⟨h1, h2⟩ := Bool.and_eq_true_iff.mp (show (_ && _) = true from h)
    exact .cons (Rel.enter h1 r) (Rels.enter h2 t)
end
mutual
theorem Rel.exitS {M' : List Addr} (hM : ∀ a, a ∈ M' → ∃ o, H a = some o ∧ isL o) : ∀ {x : PV} {v : V}, x.noLst = true → Rel w H M B x v → Rel w H M' B' x v
  | _, _, _, .non => .non
  | _, _, _, .bl b => .bl b
  | _, _, _, .int i => .int i
  | _, _, _, .str i => .str i
  | _, _, _, .ty n => .ty n
  | _, _, _, .glo e => .glo e
  | _, _, h, .cel e => by cases h
  | _, _, h, .tup e n r => .tup e (fun hm => by obtain ⟨o, e1, ho⟩ := hM _ hm; rw [e] at e1; cases e1; exact ho) (Rels.exitS hM (by simpa [PV.noLst] using h) r)
  | _, _, h, .ktup e r => .ktup e (Rels.exitS hM (by simpa [PV.noLst] using h) r)
  | _, _, h, .lst e n b r => by cases h
  | _, _, h, .scr e n r => by cases h
  | _, _, h, .kscr e r => by cases h
theorem Rels.exitS {M' : List Addr} (hM : ∀ a, a ∈ M' → ∃ o, H a = some o ∧ isL o) : ∀ {xs : List PV} {vs : List V}, noLsts xs = true → Rels w H M B xs vs → Rels w H M' B' xs vs
  | _, _, _, .nil => .nil
  | _, _, h, .cons r t => by
    obtain ⟨h1, h2⟩ := Bool.and_eq_true_iff.mp (show (_ && _) = true from h)
    exact .cons (Rel.exitS hM h1 r) (Rels.exitS hM h2 t)
end
theorem Cels.isL {st : Sto} (s : Cels w H M B st) {a : Addr} (h : a ∈ M) : ∃ o, H a = some o ∧ isL o := by
  obtain ⟨n, hn, e⟩ := List.getElem_of_mem h
  have h1 : M[n]? = some a := by rw [List.getElem?_eq_getElem hn, e]
  have h2 : n < st.length := by rw [← s.len]; exact hn
  have q := s.at_ n a st[n] h1 (List.getElem?_eq_getElem h2)
  cases c : st[n] with
  | lst xs => rw [c] at q; obtain ⟨vs, e, _⟩ := q; exact ⟨_, e, trivial⟩
  | ins _ _ => rw [c] at q; exact q.elim
mutual
/-- a pure def's result, frozen -/
theorem frz_rel {st : Sto} {M1 : List Addr} (s : Cels w H M (fun a => a ∈ M1 ∨ B a) st) (hM : ∀ a, a ∈ M1 → ∃ o, H a = some o ∧ Mi.isL o) : ∀ (x y : PV) (v : V), frz st x = some y → Rel w H M (fun a => a ∈ M1 ∨ B a) x v → Rel w H M1 B y v
  | .non, y, v, e, r => by cases e; exact r.leave hM (fun _ z => z) rfl
  | .bl b, y, v, e, r => by cases e; exact r.leave hM (fun _ z => z) rfl
  | .int b, y, v, e, r => by cases e; exact r.leave hM (fun _ z => z) rfl
  | .str b, y, v, e, r => by cases e; exact r.leave hM (fun _ z => z) rfl
  | .glo b, y, v, e, r => by cases e; exact r.leave hM (fun _ z => z) rfl
  | .ty b, y, v, e, r => by cases e; exact r.leave hM (fun _ z => z) rfl
  | .lst xs, y, v, e, r => by
    unfold frz at e
    split at e
    · rename_i h
      cases e
      exact r.leave hM (fun _ z => z) (by simpa [PV.noCel] using h)
    · cases e
  | .scr xs, y, v, e, r => by
    unfold frz at e
    split at e
    · rename_i h
      cases e
      exact r.leave hM (fun _ z => z) (by simpa [PV.noCel] using h)
    · cases e
  | .cel n, y, v, e, r => by
    unfold frz at e
    split at e
    · rename_i xs hx
      split at e
      · rename_i h
        cases e
        cases r with
        | cel e1 =>
          obtain ⟨vs, h1, h2⟩ := s.get e1 hx
          have hm := List.mem_of_getElem? e1
          exact .lst h1 (fun z => s.nb _ hm (.inl z)) (fun z => s.nb _ hm (.inr z)) (h2.leave hM (fun _ z => z) h)
      · cases e
    · cases e
  | .tup xs, y, v, e, r => by
    unfold frz at e
    obtain ⟨ys, e1, e2⟩ := Option.map_eq_some_iff.mp e
    subst e2
    cases r with
    | tup h n r => exact .tup h (fun hm => by obtain ⟨o, e1, ho⟩ := hM _ hm; rw [h] at e1; cases e1; exact ho) (frz_rels s hM xs ys _ e1 r)
    | ktup h r => exact .ktup h (frz_rels s hM xs ys _ e1 r)
theorem frz_rels {st : Sto} {M1 : List Addr} (s : Cels w H M (fun a => a ∈ M1 ∨ B a) st) (hM : ∀ a, a ∈ M1 → ∃ o, H a = some o ∧ Mi.isL o) : ∀ (xs ys : List PV) (vs : List V), frzs st xs = some ys → Rels w H M (fun a => a ∈ M1 ∨ B a) xs vs → Rels w H M1 B ys vs
  | [], ys, vs, e, r => by cases e; cases r; exact .nil
  | x :: xs, ys, vs, e, r => by
    unfold frzs at e
    obtain ⟨y, e1, e2⟩ := Option.bind_eq_some_iff.mp e
    obtain ⟨zs, e3, e4⟩ := Option.map_eq_some_iff.mp e2
    subst e4
    cases r with
    | cons r t => exact .cons (frz_rel s hM x y _ e1 r) (frz_rels s hM xs zs _ e3 t)
end
end

/-! ### results -/
section
variable {α β γ δ : Type}
abbrev Rl (α β : Type) := Hp → List Addr → α → β → Prop
abbrev WeT := Nat → Sto → Hp → List Addr → Prop
/-- what follows a result -/
def Res (w : Wd) (B : Addr → Prop) (rel : Rl α β) (We : WeT) (H : Hp) (M : List Addr) (r : R α) (Q : β → Hp → Prop) : Prop :=
  match r with
  | .ok a st => ∀ v H' M', Kp H M H' M' → Cels w H' M' B st → rel H' M' a v → Q v H'
  | .ex c st => ∀ H' M', Kp H M H' M' → Cels w H' M' B st → We c st H' M'
  | .bad => False
variable {w : Wd} {B : Addr → Prop} {rel : Rl α β} {rel2 : Rl γ δ} {We : WeT} {H H' : Hp} {M M' : List Addr} {Q Q' : β → Hp → Prop}
theorem Res.mono {r : R α} (h : Res w B rel We H M r Q) (k : Kp H M H' M') : Res w B rel We H' M' r Q := by
  cases r with
  | ok a st => exact fun v H2 M2 k2 s q => h v H2 M2 (k.trans k2) s q
  | ex c st => exact fun H2 M2 k2 s => h H2 M2 (k.trans k2) s
  | bad => exact h.elim
/-- the first of two -/
theorem Res.bind {r : R α} {f : α → Sto → R γ} {Q2 : δ → Hp → Prop} (h : Res w B rel2 We H M (r.bind f) Q2)
    (g : ∀ a st v H' M', Kp H M H' M' → Cels w H' M' B st → rel H' M' a v → Res w B rel2 We H' M' (f a st) Q2 → Q v H') : Res w B rel We H M r Q := by
  cases r with
  | ok a st => exact fun v H2 M2 k2 s q => g a st v H2 M2 k2 s q (Res.mono (show Res w B rel2 We H M (f a st) Q2 from h) k2)
  | ex c st => exact h
  | bad => exact h
theorem Res.bindE {r : R α} {f : α → Sto → R γ} {Q2 : δ → Hp → Prop} (h : Res w B rel2 We H M (r.bind f) Q2)
    (g : ∀ a st v H' M', r = .ok a st → Kp H M H' M' → Cels w H' M' B st → rel H' M' a v → Res w B rel2 We H' M' (f a st) Q2 → Q v H') : Res w B rel We H M r Q := by
  cases r with
  | ok a st => exact fun v H2 M2 k2 s q => g a st v H2 M2 rfl k2 s q (Res.mono (show Res w B rel2 We H M (f a st) Q2 from h) k2)
  | ex c st => exact h
  | bad => exact h
theorem Res.imp {r : R α} (h : Res w B rel We H M r Q) (g : ∀ a st v H' M', Kp H M H' M' → Cels w H' M' B st → rel H' M' a v → Q v H' → Q' v H') : Res w B rel We H M r Q' := by
  cases r with
  | ok a st => exact fun v H2 M2 k2 s q => g a st v H2 M2 k2 s q (h v H2 M2 k2 s q)
  | ex c st => exact h
  | bad => exact h
end
abbrev RelR (w : Wd) (B : Addr → Prop) : Rl PV V := fun H M a v => Rel w H M B a v
abbrev RelRs (w : Wd) (B : Addr → Prop) : Rl (List PV) (List V) := fun H M a v => Rels w H M B a v
abbrev RelB : Rl Bool Bool := fun _ _ a b => b = a
abbrev RelO : Rl (Option Int) (Option Int) := fun _ _ a b => b = a
section
variable {w : Wd} {B : Addr → Prop} {We : WeT} {H : Hp} {M : List Addr} {Q : VK} {st : Sto}
theorem Res.aft {c : PV} (h : Res w B (RelR w B) We H M (.ok c st) Q) : Aft w H M B st c Q := fun z H' k s r => h z H' M k s r
theorem Res.liftE {o : Option PV} (h : Res w B (RelR w B) We H M (R.lift o st) Q) : ∃ c, o = some c ∧ Aft w H M B st c Q := by
  cases o with
  | none => exact h.elim
  | some c => exact ⟨c, rfl, h.aft⟩
end

/-! ### at a point -/
section
variable (X : Cx)
def EvE (e : Expr) : TE := fun σ H Q => ∀ (pins : List (Addr × Obj)) (s : Shared), Inv X pins σ H s → wpAny (model X.prog X.w) X.A (eval e X.env) (EP X pins σ Q) X.xe s
def EvT (e : Expr) : TT := fun σ H Q => ∀ (pins : List (Addr × Obj)) (s : Shared), Inv X pins σ H s → wpAny (model X.prog X.w) X.A (isTrue e X.env (eval e X.env)) (TP X pins σ Q) X.xe s
def EvA (es : List Expr) : TA := fun σ H Q => ∀ (pos : Pos) (pins : List (Addr × Obj)) (s : Shared), Inv X pins σ H s → wpAny (model X.prog X.w) X.A (spliced (backTo pos (starEach es X.env))) (AP X pins σ Q) X.xe s
def EvI (tg e : Expr) : TI := fun σ H R => ∀ (pins : List (Addr × Obj)) (s : Shared), Inv X pins σ H s → wpAny (model X.prog X.w) X.A (eval e X.env) (fun v s1 => wpAny (model X.prog X.w) X.A (pyIter v) (PIE X pins σ tg R) X.xe s1) X.xe s
def EvP (ifs : List Expr) : TT := fun σ H Q => ∀ (pins : List (Addr × Obj)) (s : Shared), Inv X pins σ H s →
  wpAny (model X.prog X.w) X.A (forIn ifs true fun c r => if r = true then do let ok ← isTrue c X.env (eval c X.env); pure (ForInStep.yield ok) else pure (ForInStep.yield r)) (TP X pins σ Q) X.xe s
end
section
variable {X : Cx} {σ : L2.St} {H : Hp}
theorem pe_ev {e : Expr} : PE X e (EvE X e) := ⟨fun pins s _ _ _ I h => h pins s I⟩
theorem pt_ev {e : Expr} : PT X e (EvT X e) := ⟨fun pins s _ _ _ I h => h pins s I⟩
theorem pa_ev {e : List Expr} : PA X e (EvA X e) := ⟨fun pos pins s _ _ _ I h => h pos pins s I⟩
theorem pi_ev {tg e : Expr} : PI X tg e (EvI X tg e) := ⟨fun pins s _ _ _ I h => h pins s I⟩
theorem pp_ev {e : List Expr} : PTs X e (EvP X e) := ⟨fun pins s _ _ _ I h => h pins s I⟩
theorem evE_of {e : Expr} {t : TE} {Q : VK} (h : PE X e t) (q : t σ H Q) : EvE X e σ H Q := fun pins s I => h.run pins s σ H Q I q
theorem evT_of {e : Expr} {t : TT} {Q : Bool → Hp → Prop} (h : PT X e t) (q : t σ H Q) : EvT X e σ H Q := fun pins s I => h.run pins s σ H Q I q
theorem evA_of {e : List Expr} {t : TA} {Q : List V → Hp → Prop} (h : PA X e t) (q : t σ H Q) : EvA X e σ H Q := fun pos pins s I => h.run pos pins s σ H Q I q
theorem evI_of {tg e : Expr} {t : TI} {Q : It → Hp → Prop} (h : PI X tg e t) (q : t σ H Q) : EvI X tg e σ H Q := fun pins s I => h.run pins s σ H Q I q
theorem evP_of {e : List Expr} {t : TT} {Q : Bool → Hp → Prop} (h : PTs X e t) (q : t σ H Q) : EvP X e σ H Q := fun pins s I => h.run pins s σ H Q I q
theorem op_ev {f : Value → Value → Sem Value} : OpR X f (OpE X f) := fun pins s σ _ _ _ v u _ I rx ry q => q pins s σ v u I rx ry
theorem call_ev {f : Value} : CallR X f (CallE X f) := fun pins s σ _ _ us _ I r q => q pins s σ us I r
end

/-! ### slots -/
def EnvR (w : Wd) (H : Hp) (M : List Addr) (B : Addr → Prop) (ρ : Env') (σ : L2.St) : Prop :=
  ρ.length = σ.length ∧ ∀ (i : Nat) (v : PV), ρ[i]? = some (some v) → ∃ u, σ[i]? = some (some u) ∧ Rel w H M B v u
section
variable {w : Wd} {H H' : Hp} {M M' : List Addr} {B B' : Addr → Prop} {ρ : Env'} {σ : L2.St}
theorem EnvR.mono (e : EnvR w H M B ρ σ) (k : Kp H M H' M') : EnvR w H' M' B ρ σ := ⟨e.1, fun i v h => let ⟨u, h1, r⟩ := e.2 i v h; ⟨u, h1, r.mono k⟩⟩
theorem EnvR.bchg (e : EnvR w H M B ρ σ) (hb : ∀ a, B' a → B a ∨ H a = none) : EnvR w H M B' ρ σ := ⟨e.1, fun i v h => let ⟨u, h1, r⟩ := e.2 i v h; ⟨u, h1, r.bchg hb⟩⟩
theorem EnvR.set (e : EnvR w H M B ρ σ) {i : Nat} {v : PV} {u : V} (r : Rel w H M B v u) : EnvR w H M B (ρ.set i (some v)) (σ.set i (some u)) := by
  refine ⟨by rw [List.length_set, List.length_set]; exact e.1, fun j x h => ?_⟩
  by_cases q : i = j
  · subst q
    have hl : i < ρ.length := by
      have := (List.getElem?_eq_some_iff.mp h).1
      rwa [List.length_set] at this
    rw [List.getElem?_set_self hl] at h
    cases h
    exact ⟨u, List.getElem?_set_self (by rw [← e.1]; exact hl), r⟩
  · rw [List.getElem?_set_ne q] at h ⊢
    exact e.2 j x h
theorem EnvR.wipe (e : EnvR w H M B ρ σ) : ∀ vs : List Nat, EnvR w H M B (wipeP ρ vs) (L2.wipe σ vs)
  | [] => e
  | i :: vs => by
    have ih := EnvR.wipe e vs
    unfold wipeP L2.wipe
    refine ⟨by rw [List.length_set, List.length_set]; exact ih.1, fun j x h => ?_⟩
    by_cases q : i = j
    · subst q
      have hl : i < (wipeP ρ vs).length := by
        have := (List.getElem?_eq_some_iff.mp h).1
        rwa [List.length_set] at this
      rw [List.getElem?_set_self hl] at h
      cases h
    · rw [List.getElem?_set_ne q] at h ⊢
      exact ih.2 j x h
end

/-! ### exceptions, promises, contexts -/
abbrev WeS := L2.St → WeT
def Wof (X : Cx) (nm : Nat → Str) (We : WeS) : WX := fun cls d σ H => ∃ c st M a, cls = .ref a ∧ d = none ∧ X.mg (nm c) = some (.ref a) ∧ We σ c st H M
/-- what a def promises: what the evaluator says -/
def spOf (w : Wd) (f : CallF) (x : Nat) : Sp := fun vs H Q E => ∃ (as : List PV) (M : List Addr) (B : Addr → Prop) (st : Sto), Rels w H M B as vs ∧ Cels w H M B st ∧
  Res w B (RelR w B) (fun c _ H' _ => ∀ a, w.mg (w.nm c) = some (.ref a) → E (.ref a) none H') H M (f x as st) Q
structure Ctx (I : Info) (G : GlobF) (cf : CallF) (X : Cx) (top : Bool) (We : WeS) : Prop where
  calm : X.calm = true
  nd : X.N.Nodup
  N : X.N = I.N
  takes : Takes X (Wof X I.nm We)
  un : X.A.units + 65 < cLine
  fns : ∀ f, I.F f = true → ∃ k a fd ps, Room k X.A ∧ X.mg (I.nm f) = some (.ref a) ∧ PySem.W.keepIn X.K (.ref a) = true ∧ Binds X.K fd ps [] ∧
    FnOk X.prog X.w X.K X.mg X.base (L2.CX X.prog X.w) k a fd ps (spOf (wd X I.nm) cf f)
  glob : ∀ g v, G g = some v → ∃ u x, X.mg (I.nm g) = some u ∧ RelV x u ∧ ∀ H M B, Rel (wd X I.nm) H M B v x
  free : ∀ x, x ∈ bnames → X.mg x = none
  fn : top = true → ∀ x, X.fn x = true

/-! ### calls -/
section
variable {w : Wd} {H : Hp} {M : List Addr} {B : Addr → Prop} {st : Sto} {as : List PV} {vs : List V} {f : CallF} {x : Nat} {Q : VK} {We : WeT} {E : XK}
theorem kp_callee {H' : Hp} {M' : List Addr} (k : Kp H [] H' M') : Kp H M H' M := ⟨fun a o e n => ⟨(k.h a o e (by simp)).1, n⟩, fun _ _ e => e, k.d⟩
theorem Cels.callee (s : Cels w H M B st) {H' : Hp} {M' : List Addr} (k : Kp H [] H' M') : Cels w H' M B st := s.keep (kp_callee k) fun a hm => by
  obtain ⟨o, e, _⟩ := s.isL hm
  rw [e, (k.h a o e (by simp)).1]
theorem snaps_rel (s : Cels w H M B st) : ∀ {as : List PV} {vs : List V}, noCels (as.map (Mi.snap st)) = true → Rels w H M B as vs → Rels w H [] (fun _ => False) (as.map (Mi.snap st)) vs
  | _, _, _, .nil => .nil
  | a :: as, _, h, .cons r t => by
    obtain ⟨h1, h2⟩ := Bool.and_eq_true_iff.mp (show ((Mi.snap st a).noCel && noCels (as.map (Mi.snap st))) = true from h)
    refine .cons ?_ (snaps_rel s h2 t)
    have plain : ∀ {y : PV} {v : V}, y.noCel = true → Rel w H M B y v → Rel w H [] (fun _ => False) y v := fun h r => (r.enter h).bchg fun _ z => z.elim
    cases r with
    | cel e =>
      rename_i n a
      unfold Mi.snap at h1 ⊢
      dsimp only at h1 ⊢
      split at h1
      · rename_i xs hx
        obtain ⟨us, e1, rr⟩ := s.get e hx
        exact .lst e1 (by simp) (fun z => z) ((Rels.enter (by simpa [PV.noCel] using h1) rr).bchg fun _ z => z.elim)
      · cases h1
    | non => exact .non
    | bl b => exact .bl b
    | int b => exact .int b
    | str b => exact .str b
    | ty b => exact .ty b
    | glo b => exact .glo b
    | tup h' n r => exact plain h1 (.tup h' n r)
    | ktup h' r => exact plain h1 (.ktup h' r)
    | lst h' n b r => exact plain h1 (.lst h' n b r)
    | scr h' n r => exact plain h1 (.scr h' n r)
    | kscr h' r => exact plain h1 (.kscr h' r)
theorem call_sp {m : CM} (s : Cels w H M B st) (r : Rels w H M B as vs) (h : Res w B (RelR w B) We H M (callP f m x as st) Q) (hE : ∀ c st' H' M', We c st' H' M' → ∀ a, w.mg (w.nm c) = some (.ref a) → E (.ref a) none H') : spOf w f x vs H Q E := by
  cases m with
  | sto =>
    refine ⟨as, M, B, st, r, s, ?_⟩
    unfold callP at h
    dsimp only at h
    cases e : f x as st with
    | ok v st' => rw [e] at h; exact h
    | ex c st' => rw [e] at h; exact fun H' M' k s' a ha => hE c st' H' M' (h H' M' k s') a ha
    | bad => rw [e] at h; exact h
  | pure =>
    unfold callP at h
    dsimp only at h
    split at h
    · rename_i hn
      refine ⟨as, [], fun a => a ∈ M ∨ B a, [], r.enter hn, ⟨rfl, List.nodup_nil, by simp, fun a z => z.elim (fun z => s.mem z) (s.bk a), fun n a c e => by simp at e⟩, ?_⟩
      cases e : f x as [] with
      | ok v st' =>
        rw [e] at h
        dsimp only at h
        intro u H' M' k s' ru
        cases e2 : frz st' v with
        | none => rw [e2] at h; exact h.elim
        | some v' =>
          rw [e2] at h
          refine h u H' M (kp_callee k) (s.callee k) (frz_rel s' (fun a hm => ?_) v v' u e2 ru)
          exact (s.callee k).isL hm
      | ex c st' =>
        rw [e] at h
        exact fun H' M' k s' a ha => hE c st H' M (h H' M (kp_callee k) (s.callee k)) a ha
      | bad => rw [e] at h; exact h
    · exact h.elim
  | snap =>
    unfold callP at h
    dsimp only at h
    split at h
    · rename_i hn
      refine ⟨as.map (Mi.snap st), [], fun _ => False, [], snaps_rel s hn r, ⟨rfl, List.nodup_nil, by simp, fun a z => z.elim, fun n a c e => by simp at e⟩, ?_⟩
      cases e : f x (as.map (Mi.snap st)) [] with
      | ok v st' =>
        rw [e] at h
        dsimp only at h
        intro u H' M' k s' ru
        split at h
        · rename_i hv
          refine h u H' M (kp_callee k) (s.callee k) (ru.exitS (fun a hm => ?_) hv)
          exact (s.callee k).isL hm
        · exact h.elim
      | ex c st' =>
        rw [e] at h
        exact fun H' M' k s' a ha => hE c st H' M (h H' M (kp_callee k) (s.callee k)) a ha
      | bad => rw [e] at h; exact h
    · exact h.elim
end
section
variable {X : Cx} {CX : CXT} {k : Nat} {f : Addr} {fd : FuncData} {ps : List Str} {sp : Sp} {E : L2.St → XK} {x : Str} {p pos : Pos}
theorem pe_callS0 (F : FnOk X.prog X.w X.K X.mg X.base CX k f fd ps sp) (hr : Room k X.A) (hg : Gl X x) (hm : X.mg x = some (.ref f)) (hk : PySem.W.keepIn X.K (.ref f) = true) (hb : Binds X.K fd ps []) (hx : ∀ σ, PassesAt CX X σ (E σ))
    (hdb : (x == ("__debug__" : Str)) = false := by decide) : PE X (.Call (.Name x p) [] [] pos) (fun σ H Q => sp [] H Q (E σ)) := by
  refine ⟨fun pins s σ H Q I h => ?_⟩
  refine wpAny_Call_Name_kw (ld_glob I hg hm ?_ hdb)
  exact PySem.W.callWith_K0 I.kIn hk (run_fnS (us := []) F hr hb (hx σ) I .nil h)
end
end Mi

end

section
set_option linter.all false
set_option maxRecDepth 100000
/-! Mi, part G: targets; what is walked. -/
namespace Mi
open PySem PySem.Spec PyProof.Rows L2

/-! ### targets -/
def Tg.len : Tg → Nat
  | .cons _ ts => ts.len + 1
  | _ => 0
mutual
def Tg.g (K : PySem.W.Frag) : Tg → TG
  | .nm i => gName i
  | .nil => gTup K 0 gNil
  | .cons t ts => gTup K (ts.len + 1) (gCons (t.g K) (ts.gs K))
def Tg.gs (K : PySem.W.Frag) : Tg → TGs
  | .nm _ => fun _ _ _ _ => False
  | .nil => gNil
  | .cons t ts => gCons (t.g K) (ts.gs K)
end
theorem mem_bool {p q : Bool} (h : (p && q) = true) : p = true ∧ q = true := Bool.and_eq_true_iff.mp h
section
variable {X : Cx} {I : Info} {top : Bool} (hc : X.calm = true) (hN : X.N.Nodup) (hI : X.N = I.N) (hf : top = true → ∀ x, X.fn x = true)
include hc hN hI hf
theorem locB_of {x : Str} (h : locB top X.env.scope x = true) : Loc X.env.scope x ∧ (X.fn x = true ∨ X.env.scope.names.lookup x = some .local) := by
  unfold locB at h
  split at h
  · rename_i e; exact ⟨.inl e, .inr e⟩
  · rename_i e; exact ⟨.inr e, .inl (hf h x)⟩
  · cases h
mutual
theorem pg_of : ∀ (t : Tg) (e : Expr), chkTg I top X.env.scope t e = true → PG X e (t.g X.K)
  | .nm i, e, h => by
    cases e <;> first | (simp [chkTg] at h; done) | skip
    rename_i x p
    obtain ⟨h1, h2⟩ := mem_bool (show (decide (I.N[i]? = some x) && locB top X.env.scope x) = true from h)
    obtain ⟨l1, l2⟩ := locB_of hc hN hI hf h2
    exact pg_name hN (by rw [hI]; exact of_decide_eq_true h1) l1 l2
  | .nil, e, h => by
    cases e <;> first | (simp [chkTg] at h; done) | skip
    rename_i es k p
    have h' : es.isEmpty = true := h
    cases es with
    | nil => exact pg_tup hc pgs_nil rfl rfl
    | cons _ _ => cases h'
  | .cons t ts, e, h => by
    cases e <;> first | (simp [chkTg] at h; done) | skip
    rename_i es k p
    have h' : chkTgs I top X.env.scope (.cons t ts) es = true := h
    cases es with
    | nil => cases h'
    | cons a as =>
      obtain ⟨h1, h2⟩ := mem_bool (show (chkTg I top X.env.scope t a && chkTgs I top X.env.scope ts as) = true from h')
      obtain ⟨q1, q2, q3⟩ := pgs_of ts as h2
      have pa := pg_of t a h1
      have na : (assignEach (a :: as) X.env).map (·.2) = assign a X.env :: (assignEach as X.env).map (·.2) ∧ (assignEach (a :: as) X.env).length = (assignEach as X.env).length + 1 ∧ (assignEach (a :: as) X.env).findIdx? (·.1) = ((assignEach as X.env).findIdx? (·.1)).map (· + 1) := by
        cases t <;> cases a <;> first | (simp [chkTg] at h1; done) | (refine ⟨rfl, rfl, ?_⟩; simp [assignEach, List.findIdx?_cons])
      exact pg_tup hc (pgs_cons pa q1 na.1) (by rw [na.2.1, q2]) (by rw [na.2.2, q3]; rfl)
theorem pgs_of : ∀ (t : Tg) (es : List Expr), chkTgs I top X.env.scope t es = true → PGs X es (t.gs X.K) ∧ (assignEach es X.env).length = t.len ∧ (assignEach es X.env).findIdx? (·.1) = none
  | .nm i, es, h => by cases es <;> simp [chkTgs] at h
  | .nil, es, h => by
    cases es with
    | nil => exact ⟨pgs_nil, rfl, rfl⟩
    | cons _ _ => simp [chkTgs] at h
  | .cons t ts, es, h => by
    cases es with
    | nil => simp [chkTgs] at h
    | cons a as =>
      obtain ⟨h1, h2⟩ := mem_bool (show (chkTg I top X.env.scope t a && chkTgs I top X.env.scope ts as) = true from h)
      obtain ⟨q1, q2, q3⟩ := pgs_of ts as h2
      have pa := pg_of t a h1
      have na : (assignEach (a :: as) X.env).map (·.2) = assign a X.env :: (assignEach as X.env).map (·.2) ∧ (assignEach (a :: as) X.env).length = (assignEach as X.env).length + 1 ∧ (assignEach (a :: as) X.env).findIdx? (·.1) = ((assignEach as X.env).findIdx? (·.1)).map (· + 1) := by
        cases t <;> cases a <;> first | (simp [chkTg] at h1; done) | (refine ⟨rfl, rfl, ?_⟩; simp [assignEach, List.findIdx?_cons])
      exact ⟨pgs_cons pa q1 na.1, by rw [na.2.1, q2]; rfl, by rw [na.2.2, q3]; rfl⟩
end
end
/-- slots outside ss are the same -/
def SetS (ss : List Nat) (σ σ' : L2.St) : Prop := σ'.length = σ.length ∧ ∀ i, i ∉ ss → σ'[i]? = σ[i]?
theorem SetS.refl (ss : List Nat) (σ : L2.St) : SetS ss σ σ := ⟨rfl, fun _ _ => rfl⟩
theorem wipe_get (vs : List Nat) : ∀ (τ : L2.St) (i : Nat), (L2.wipe τ vs)[i]? = if i ∈ vs ∧ i < τ.length then some none else τ[i]? := by
  induction vs with
  | nil => intro τ i; simp [L2.wipe]
  | cons v vs ih =>
    intro τ i
    unfold L2.wipe
    by_cases q : v = i
    · subst q
      by_cases hl : v < τ.length
      · rw [List.getElem?_set_self (by rw [wipe_length]; exact hl)]; simp [hl]
      · rw [List.getElem?_eq_none (by rw [List.length_set, wipe_length]; omega)]
        simp [hl]
    · rw [List.getElem?_set_ne q, ih]
      simp [Ne.symm q]
theorem wipe_wipe (σ : L2.St) (vs : List Nat) : L2.wipe (L2.wipe σ vs) vs = L2.wipe σ vs := by
  refine List.ext_getElem? fun i => ?_
  rw [wipe_get, wipe_get, wipe_length]
  by_cases q : i ∈ vs ∧ i < σ.length
  · rw [if_pos q, if_pos q]
  · rw [if_neg q, if_neg q]
theorem SetS.wipe {ss vs : List Nat} {σ σ' : L2.St} (h : SetS ss σ σ') (hs : ∀ i ∈ ss, i ∈ vs) : L2.wipe σ' vs = L2.wipe σ vs := by
  have key := wipe_get
  refine List.ext_getElem? fun i => ?_
  rw [key, key, h.1]
  by_cases q : i ∈ vs
  · by_cases hl : i < σ.length
    · simp [q, hl]
    · rw [if_neg fun z => hl z.2, if_neg fun z => hl z.2, List.getElem?_eq_none (by rw [h.1]; omega), List.getElem?_eq_none (by omega)]
  · simp [q]
    exact h.2 i fun z => q (hs i z)
mutual
def Tg.wf : Tg → Bool
  | .cons t ts => t.wf && ts.wfs
  | _ => true
def Tg.wfs : Tg → Bool
  | .nm _ => false
  | .nil => true
  | .cons t ts => t.wf && ts.wfs
end
mutual
theorem chkTg_wf {I : Info} {top : Bool} {sc : Scope} : ∀ (t : Tg) (e : Expr), chkTg I top sc t e = true → t.wf = true
  | .nm i, e, h => rfl
  | .nil, e, h => rfl
  | .cons t ts, e, h => by
    cases e <;> first | (simp [chkTg] at h; done) | skip
    rename_i es k p
    have h' : chkTgs I top sc (.cons t ts) es = true := h
    cases es with
    | nil => cases h'
    | cons a as =>
      obtain ⟨h1, h2⟩ := mem_bool (show (chkTg I top sc t a && chkTgs I top sc ts as) = true from h')
      show (t.wf && ts.wfs) = true
      rw [chkTg_wf t a h1, chkTgs_wf ts as h2]; rfl
theorem chkTgs_wf {I : Info} {top : Bool} {sc : Scope} : ∀ (t : Tg) (es : List Expr), chkTgs I top sc t es = true → t.wfs = true
  | .nm i, es, h => by cases es <;> simp [chkTgs] at h
  | .nil, es, h => rfl
  | .cons t ts, es, h => by
    cases es with
    | nil => simp [chkTgs] at h
    | cons a as =>
      obtain ⟨h1, h2⟩ := mem_bool (show (chkTg I top sc t a && chkTgs I top sc ts as) = true from h)
      show (t.wf && ts.wfs) = true
      rw [chkTg_wf t a h1, chkTgs_wf ts as h2]; rfl
end
theorem setTg_len : ∀ (t : Tg) (xs : List PV) (ρ ρ' : Env'), t.wfs = true → setTg t (.tup xs) ρ = some ρ' → xs.length = t.len
  | .nm _, _, _, _, h, _ => by cases h
  | .nil, xs, _, _, _, e => by
    cases xs with
    | nil => rfl
    | cons _ _ => simp [setTg] at e
  | .cons t ts, xs, ρ, ρ', h, e => by
    cases xs with
    | nil => simp [setTg] at e
    | cons x xs =>
      obtain ⟨ρ1, g1, g2⟩ := Option.bind_eq_some_iff.mp (show ((setTg t x ρ).bind fun ρ' => setTg ts (.tup xs) ρ') = some ρ' from e)
      obtain ⟨h1, h2⟩ := mem_bool (show (t.wf && ts.wfs) = true from h)
      show xs.length + 1 = ts.len + 1
      rw [setTg_len ts xs ρ1 ρ' h2 g2]
section
variable {w : Wd} {H : Hp} {M : List Addr} {B : Addr → Prop}
mutual
theorem setTg_g : ∀ (t : Tg) (p : PV) (v : V) (ρ ρ' : Env') (σ : L2.St) (Q : L2.St → Hp → Prop), t.wf = true → setTg t p ρ = some ρ' → EnvR w H M B ρ σ → Rel w H M B p v → (∀ σ', EnvR w H M B ρ' σ' → SetS t.slots σ σ' → Q σ' H) → (t.g w.K) v σ H Q
  | .nm i, p, v, ρ, ρ', σ, Q, hw, h, e, r, q => by
    cases h
    exact q _ (e.set r) ⟨List.length_set, fun j hj => List.getElem?_set_ne (fun z => hj (by simp [Tg.slots, z]))⟩
  | .nil, p, v, ρ, ρ', σ, Q, hw, h, e, r, q => by
    cases p <;> first | (simp [setTg] at h; done) | skip
    rename_i xs
    cases xs with
    | cons _ _ => simp [setTg] at h
    | nil =>
      cases h
      obtain ⟨a, vs, e1, h1, rr⟩ := r.tupT
      cases rr
      exact ⟨a, [], e1, h1, rfl, rfl, q _ e (.refl _ _)⟩
  | .cons t ts, p, v, ρ, ρ', σ, Q, hw, h, e, r, q => by
    cases p <;> first | (simp [setTg] at h; done) | skip
    rename_i xs
    obtain ⟨a, vs, e1, h1, rr⟩ := r.tupT
    have hw' : (Tg.cons t ts).wfs = true := hw
    refine ⟨a, _, e1, h1, ?_, ?_⟩
    · rw [← rr.length]; exact setTg_len (.cons t ts) xs ρ ρ' hw' h
    · obtain ⟨w1, w2⟩ := mem_bool (show (t.wf && ts.wfs) = true from hw)
      cases xs with
      | nil => simp [setTg] at h
      | cons x xs =>
        obtain ⟨ρ1, g1, g2⟩ := Option.bind_eq_some_iff.mp (show ((setTg t x ρ).bind fun ρ' => setTg ts (.tup xs) ρ') = some ρ' from h)
        cases rr with
        | cons rx rs =>
          rename_i vx vs
          refine ⟨vx, vs, rfl, setTg_g t x vx ρ ρ1 σ _ w1 g1 e rx fun σ1 e2 s2 => ?_⟩
          refine setTg_gs ts xs vs ρ1 ρ' σ1 _ w2 g2 e2 rs fun σ2 e3 s3 => q σ2 e3 ⟨s3.1.trans s2.1, fun i hi => ?_⟩
          simp [Tg.slots] at hi
          rw [s3.2 i hi.2, s2.2 i hi.1]
theorem setTg_gs : ∀ (t : Tg) (ps : List PV) (vs : List V) (ρ ρ' : Env') (σ : L2.St) (Q : L2.St → Hp → Prop), t.wfs = true → setTg t (.tup ps) ρ = some ρ' → EnvR w H M B ρ σ → Rels w H M B ps vs → (∀ σ', EnvR w H M B ρ' σ' → SetS t.slots σ σ' → Q σ' H) →
    (t.gs w.K) vs σ H Q
  | .nm i, ps, vs, ρ, ρ', σ, Q, hw, h, e, r, q => by cases hw
  | .nil, ps, vs, ρ, ρ', σ, Q, hw, h, e, r, q => by
    cases ps with
    | cons _ _ => simp [setTg] at h
    | nil => cases h; cases r; exact ⟨rfl, q _ e (.refl _ _)⟩
  | .cons t ts, ps, vs, ρ, ρ', σ, Q, hw, h, e, r, q => by
    obtain ⟨w1, w2⟩ := mem_bool (show (t.wf && ts.wfs) = true from hw)
    cases ps with
    | nil => simp [setTg] at h
    | cons x xs =>
      obtain ⟨ρ1, g1, g2⟩ := Option.bind_eq_some_iff.mp (show ((setTg t x ρ).bind fun ρ' => setTg ts (.tup xs) ρ') = some ρ' from h)
      cases r with
      | cons rx rs =>
        rename_i vx vs
        refine ⟨vx, vs, rfl, setTg_g t x vx ρ ρ1 σ _ w1 g1 e rx fun σ1 e2 s2 => ?_⟩
        refine setTg_gs ts xs vs ρ1 ρ' σ1 _ w2 g2 e2 rs fun σ2 e3 s3 => q σ2 e3 ⟨s3.1.trans s2.1, fun i hi => ?_⟩
        simp [Tg.slots] at hi
        rw [s3.2 i hi.2, s2.2 i hi.1]
end
end

/-! ### what is walked -/
def ItR (w : Wd) (B : Addr → Prop) (H0 : Hp) (M0 : List Addr) (xs : List PV) (J : It) : Prop :=
  ∀ H M B', Kp H0 M0 H M → (∀ a, a ∈ M → H a ≠ none) → (∀ a, B' a → B a ∨ H0 a = none) →
    (∀ i, i < xs.length → J.go i H) ∧ J.stop xs.length H ∧ ∀ i x H', i < xs.length → J.yld i H x H' → ∃ p, xs[i]? = some p ∧ (H' = H ∨ ∃ T o, H T = none ∧ H' = upd H T o) ∧ Rel w H' M B' p x
theorem ItR.rng {w : Wd} {B : Addr → Prop} {H0 : Hp} {M0 : List Addr} (lo : Int) (n : Nat) : ItR w B H0 M0 (rngL lo n) (Itr lo n) := by
  intro H M B' k hm hb
  have hl : (rngL lo n).length = n := by simp [rngL]
  rw [hl]
  refine ⟨fun i h => h, Nat.le_refl _, fun i x H' hi y => ?_⟩
  obtain ⟨e1, e2⟩ := y
  subst e1; subst e2
  exact ⟨.int (lo + i), by simp [rngL, hi], .inl rfl, .int _⟩
/-- a list or a tuple that stays -/
def Stay (w : Wd) (H0 : Hp) (M0 : List Addr) (t : Bool) (a : Addr) (vs : List V) : Prop := ∀ H M, Kp H0 M0 H M → SqB t w.K H a vs
theorem walkL_rel {w : Wd} {B : Addr → Prop} {H : Hp} {M : List Addr} {x : PV} {v : V} {xs : List PV} (e : walkL x = some xs) (r : Rel w H M B x v) : ∃ t a vs, v = .ref a ∧ Stay w H M t a vs ∧ Rels w H M B xs vs := by
  cases r with
  | lst h n b r =>
    cases e
    exact ⟨false, _, _, rfl, fun H' M' k => .inl (.inl (k.h _ _ h n).1), r⟩
  | scr h n r =>
    cases e
    exact ⟨false, _, _, rfl, fun H' M' k => .inl (.inr ⟨_, (k.h _ _ h n).1⟩), r⟩
  | kscr h r =>
    cases e
    exact ⟨false, _, _, rfl, fun H' M' k => .inr h, r⟩
  | tup h n r =>
    cases e
    exact ⟨true, _, _, rfl, fun H' M' k => .inl (.inl (k.h _ _ h n).1), r⟩
  | ktup h r =>
    cases e
    exact ⟨true, _, _, rfl, fun H' M' k => .inr h, r⟩
  | _ => cases e
section
variable {w : Wd} {B : Addr → Prop} {H0 : Hp} {M0 : List Addr} {xs ys : List PV} {vs us : List V} {a b : Addr} {t u : Bool}
theorem rels_at {H : Hp} {M : List Addr} {B' : Addr → Prop} (k : Kp H0 M0 H M) (hb : ∀ a, B' a → B a ∨ H0 a = none) (r : Rels w H0 M0 B xs vs) {i : Nat} {x : V} (e : vs[i]? = some x) : ∃ p, xs[i]? = some p ∧ Rel w H M B' p x := by
  obtain ⟨p, h1, h2⟩ := r.getV e
  exact ⟨p, h1, (h2.bchg hb).mono k⟩
theorem ItR.lst (s : Stay w H0 M0 false a vs) (r : Rels w H0 M0 B xs vs) : ItR w B H0 M0 xs (Itl w.K a) := by
  intro H M B' k hm hb
  have q : SqL w.K H a vs := s H M k
  rw [r.length]
  refine ⟨fun i h => ⟨vs, vs[i], q, by simp [h]⟩, ⟨vs, q, Nat.le_refl _⟩, fun i x H' hi y => ?_⟩
  obtain ⟨e1, e2⟩ := y
  subst e1
  obtain ⟨p, h1, h2⟩ := rels_at k hb r (e2 vs q)
  exact ⟨p, h1, .inl rfl, h2⟩
theorem ItR.tup (s : Stay w H0 M0 true a vs) (r : Rels w H0 M0 B xs vs) : ItR w B H0 M0 xs (Itt w.K a) := by
  intro H M B' k hm hb
  have q : SqT w.K H a vs := s H M k
  rw [r.length]
  refine ⟨fun i h => ⟨vs, vs[i], q, by simp [h]⟩, ⟨vs, q, Nat.le_refl _⟩, fun i x H' hi y => ?_⟩
  obtain ⟨e1, e2⟩ := y
  subst e1
  obtain ⟨p, h1, h2⟩ := rels_at k hb r (e2 vs q)
  exact ⟨p, h1, .inl rfl, h2⟩
theorem zipL_at {i : Nat} {p q : PV} (h1 : xs[i]? = some p) (h2 : ys[i]? = some q) : (zipL xs ys)[i]? = some (.tup [p, q]) := by
  have e : (xs.zip ys)[i]? = some (p, q) := by rw [List.getElem?_zip_eq_some]; exact ⟨h1, h2⟩
  unfold zipL
  rw [List.getElem?_map, e]; rfl
theorem zipL_len : (zipL xs ys).length = min xs.length ys.length := by simp [zipL]
theorem ItR.zip (s : Stay w H0 M0 t a vs) (s2 : Stay w H0 M0 u b us) (r : Rels w H0 M0 B xs vs) (r2 : Rels w H0 M0 B ys us) : ItR w B H0 M0 (zipL xs ys) (ItzG t u w.K a b) := by
  intro H M B' k hm hb
  have q := s H M k
  have q2 := s2 H M k
  rw [zipL_len, r.length, r2.length]
  refine ⟨fun i h => ⟨vs, us, vs[i]'(by omega), us[i]'(by omega), q, q2, List.getElem?_eq_getElem _, List.getElem?_eq_getElem _⟩, ⟨vs, us, q, q2, rfl⟩, fun i x H' hi y => ?_⟩
  obtain ⟨T, x1, y1, e1, hT, e2, h1, h2⟩ := y
  subst e1; subst e2
  obtain ⟨p, g1, g2⟩ := rels_at k hb r (h1 vs q)
  obtain ⟨p2, g3, g4⟩ := rels_at k hb r2 (h2 us q2)
  refine ⟨.tup [p, p2], zipL_at g1 g3, .inr ⟨T, _, hT, rfl⟩, ?_⟩
  exact .tup upd_same (fun z => hm T z hT) (.cons (g2.mono (.new hT)) (.cons (g4.mono (.new hT)) .nil))
theorem ItR.enu (s : Stay w H0 M0 t a vs) (r : Rels w H0 M0 B xs vs) : ItR w B H0 M0 (enuL xs) (IteG t w.K a) := by
  intro H M B' k hm hb
  have q := s H M k
  have hl : (enuL xs).length = vs.length := by rw [enuL, zipL_len, ← r.length]; simp [rngL]
  rw [hl]
  refine ⟨fun i h => ⟨vs, vs[i], q, by simp [h]⟩, ⟨vs, q, rfl⟩, fun i x H' hi y => ?_⟩
  obtain ⟨T, x1, e1, hT, e2, h1⟩ := y
  subst e1; subst e2
  obtain ⟨p, g1, g2⟩ := rels_at k hb r (h1 vs q)
  refine ⟨.tup [.int i, p], ?_, .inr ⟨T, _, hT, rfl⟩, ?_⟩
  · have hi' : i < xs.length := by rw [r.length]; exact hi
    have e0 : (rngL 0 xs.length)[i]? = some (.int i) := by simp [rngL, hi']
    exact zipL_at e0 g1
  · exact .tup upd_same (fun z => hm T z hT) (.cons (.int _) (.cons (g2.mono (.new hT)) .nil))
end
end Mi

end

section
set_option linter.all false
set_option maxRecDepth 100000
/-! Mi, part H: expressions keep the promise. -/
namespace Mi
open PySem PySem.Spec PyProof.Rows L2

/-! ### fresh lists -/
def ResF (w : Wd) (B : Addr → Prop) (We : WeT) (H : Hp) (M : List Addr) (r : R PV) (Q : VK) : Prop :=
  match r with
  | .ok v st => ∃ xs, v = .lst xs ∧ ∀ p vs H' M', H p = none → H' p = some (.lst vs) → p ∉ M' → ¬ B p → Kp H M H' M' → Cels w H' M' (With B p) st → Rels w H' M' (With B p) xs vs → Q (.ref p) H'
  | .ex c st => ∀ H' M', Kp H M H' M' → Cels w H' M' B st → We c st H' M'
  | .bad => False
section
variable {α β : Type} {w : Wd} {B : Addr → Prop} {rel : Rl α β} {We : WeT} {H H' : Hp} {M M' : List Addr} {Q : VK} {st : Sto}
theorem ResF.mono {r : R PV} (h : ResF w B We H M r Q) (k : Kp H M H' M') : ResF w B We H' M' r Q := by
  cases r with
  | ok a st => obtain ⟨xs, e, h⟩ := h; exact ⟨xs, e, fun p vs H2 M2 hp h2 n b k2 s q => h p vs H2 M2 (k.d p hp) h2 n b (k.trans k2) s q⟩
  | ex c st => exact fun H2 M2 k2 s => h H2 M2 (k.trans k2) s
  | bad => exact h.elim
theorem ResF.bind {r : R α} {f : α → Sto → R PV} {Q2 : β → Hp → Prop} (h : ResF w B We H M (r.bind f) Q)
    (g : ∀ a st v H' M', Kp H M H' M' → Cels w H' M' B st → rel H' M' a v → ResF w B We H' M' (f a st) Q → Q2 v H') : Res w B rel We H M r Q2 := by
  cases r with
  | ok a st => exact fun v H2 M2 k2 s q => g a st v H2 M2 k2 s q (ResF.mono (show ResF w B We H M (f a st) Q from h) k2)
  | ex c st => exact h
  | bad => exact h
/-- a fresh list, left frozen -/
theorem ResF.of {r : R PV} (h : Res w B (RelR w B) We H M r Q) (hl : ∀ v st, r = .ok v st → ∃ xs, v = .lst xs) : ResF w B We H M r Q := by
  cases r with
  | ok a st =>
    obtain ⟨xs, e⟩ := hl a st rfl
    refine ⟨xs, e, ?_⟩
    intro p vs H2 M2 hp h2 n b k s q
    subst e
    exact h _ H2 M2 k (s.weak fun _ z => .inl z) (.lst h2 n b (q.weak fun _ z => .inl z))
  | ex c st => exact h
  | bad => exact h
theorem Cels.with (s : Cels w H M B st) {p : Addr} {o : HO} (hp : H p = none) : Cels w (upd H p o) M (With B p) st where
  len := s.len
  nd := s.nd
  nb := fun a h b => b.elim (s.nb a h) fun z => s.mem h (by rw [z]; exact hp)
  bk := fun a b => b.elim (fun z q => (s.new (o := o) hp).bk a z q) fun z => by rw [z, upd_same]; exact fun q => nomatch q
  at_ := fun n a c h e => by
    have q := (s.new (o := o) hp).at_ n a c h e
    have q0 := s.at_ n a c h e
    cases c with
    | lst xs =>
      obtain ⟨vs, e1, r⟩ := q0
      have hm : a ∈ M := List.mem_of_getElem? h
      exact ⟨vs, by rw [upd_ne (fun z => s.mem hm (by rw [z]; exact hp))]; exact e1, (r.bchg fun a b => b.elim .inl fun z => .inr (by rw [z]; exact hp)).mono (.new hp)⟩
    | ins _ _ => exact q
/-- a list laid now -/
theorem ResF.now {xs : List PV} {vs : List V} (h : ResF w B We H M (.ok (.lst xs) st) Q) (s : Cels w H M B st) (r : Rels w H M B xs vs) {p : Addr} (hp : H p = none) : Q (.ref p) (upd H p (.lst vs)) :=
by
  obtain ⟨ys, e, h⟩ := h
  cases e
  exact h p vs _ M hp upd_same (fun z => s.mem z hp) (fun z => s.bk p z hp) (.new hp) (s.with hp) ((r.bchg fun a b => b.elim .inl fun z => .inr (by rw [z]; exact hp)).mono (.new hp))
end

/-! ### a point -/
structure Pt (I : Info) (G : GlobF) (cf : CallF) (X : Cx) (top : Bool) (We : WeS) (σ : L2.St) (ρ : Env') (H : Hp) (M : List Addr) (B : Addr → Prop) (st : Sto) : Prop where
  cx : Ctx I G cf X top We
  er : EnvR (wd X I.nm) H M B ρ σ
  cl : Cels (wd X I.nm) H M B st
section
variable {I : Info} {G : GlobF} {cf : CallF}
theorem Pt.go {X : Cx} {top : Bool} {We : WeS} {σ : L2.St} {ρ : Env'} {H H' : Hp} {M M' : List Addr} {B : Addr → Prop} {st st' : Sto} (p : Pt I G cf X top We σ ρ H M B st) (k : Kp H M H' M') (s : Cels (wd X I.nm) H' M' B st') :
    Pt I G cf X top We σ ρ H' M' B st' := ⟨p.cx, p.er.mono k, s⟩
structure Snd (I : Info) (G : GlobF) (cf : CallF) (e : Ex) : Prop where
  E : ∀ {X : Cx} {top : Bool} {We : WeS} {σ : L2.St} {ρ : Env'} {H : Hp} {M : List Addr} {B : Addr → Prop} {st : Sto} {x : Expr} {Q : VK}, Pt I G cf X top We σ ρ H M B st → chkE I e X.env.scope x = true →
    Res (wd X I.nm) B (RelR (wd X I.nm) B) (We σ) H M (evE G cf e ρ st) Q → EvE X x σ H Q
  T : ∀ {X : Cx} {top : Bool} {We : WeS} {σ : L2.St} {ρ : Env'} {H : Hp} {M : List Addr} {B : Addr → Prop} {st : Sto} {x : Expr} {Q : Bool → Hp → Prop}, Pt I G cf X top We σ ρ H M B st → chkE I e X.env.scope x = true →
    Res (wd X I.nm) B RelB (We σ) H M (tstR false (evE G cf e ρ) st) Q → EvT X x σ H Q
  A : ∀ {X : Cx} {top : Bool} {We : WeS} {σ : L2.St} {ρ : Env'} {H : Hp} {M : List Addr} {B : Addr → Prop} {st : Sto} {xs : List Expr} {Q : List V → Hp → Prop}, Pt I G cf X top We σ ρ H M B st → chkA I e X.env.scope xs = true →
    Res (wd X I.nm) B (RelRs (wd X I.nm) B) (We σ) H M (evA G cf e ρ st) Q → EvA X xs σ H Q
  W : ∀ {X : Cx} {top : Bool} {We : WeS} {σ : L2.St} {ρ : Env'} {H : Hp} {M : List Addr} {B : Addr → Prop} {st : Sto} {t x : Expr} {Q : It → Hp → Prop}, Pt I G cf X top We σ ρ H M B st → chkI I e X.env.scope t x = true →
    Res (wd X I.nm) B (ItR (wd X I.nm) B) (We σ) H M (evI G cf e ρ st) Q → EvI X t x σ H Q
  F : ∀ {X : Cx} {top : Bool} {We : WeS} {σ : L2.St} {ρ : Env'} {H : Hp} {M : List Addr} {B : Addr → Prop} {st : Sto} {x : Expr} {Q : VK}, Pt I G cf X top We σ ρ H M B st → freshE e = true → chkE I e X.env.scope x = true →
    ResF (wd X I.nm) B (We σ) H M (evE G cf e ρ st) Q → EvE X x σ H Q

/-! ### what is plain -/
def plainT : Expr → Bool
  | .UnaryOp .Not _ _ => false
  | .BoolOp .. => false
  | .IfExp .. => false
  | .Compare .. => false
  | _ => true
theorem isTrue_pl {x : Expr} (h : plainT x = true) (env : Env) (whole : Sem Value) : isTrue x env whole = (do let v ← whole; standAt x.pos; holding [v] (truthy v)) := by
  cases x <;> first | rfl | (exact absurd h Bool.false_ne_true) | skip
  rename_i op _ _
  cases op <;> first | rfl | (exact absurd h Bool.false_ne_true)
theorem plainIx_of {b : Expr} (h : oddE b = false) : PlainIx b := by
  cases b <;> first | (exact fun _ _ => rfl) | (exact absurd h (by simp [oddE]))
theorem folded_of {x : Expr} (h : oddE x = false) (env : Env) (u : Value) : foldedSetIterable x env u = pure u := by
  cases x <;> first | rfl | (exact absurd h (by simp [oddE]))
theorem star_of {x : Expr} {xs : List Expr} (h : oddE x = false) (env : Env) : starEach (x :: xs) env = (false, eval x env) :: starEach xs env := by
  cases x <;> first | rfl | (exact absurd h (by simp [oddE]))
theorem marks_of {x : Expr} (op : CmpOp) (h : oddE x = false) : behindInMarks op x = false := by
  cases x <;> first | rfl | (exact absurd h (by simp [oddE]))
theorem chkA_star {sc : Scope} (env : Env) (pos : Pos) : ∀ (as : Ex) (xs : List Expr), chkA I as sc xs = true → (backTo pos (starEach xs env)).any (·.1) = false
  | .nil, xs, h => by
    cases xs with
    | nil => rfl
    | cons _ _ => simp [chkA] at h
  | .cons a as, xs, h => by
    cases xs with
    | nil => simp [chkA] at h
    | cons x xs =>
      obtain ⟨h1, h2⟩ := mem_bool (show (chkE I a sc x && chkA I as sc xs) = true from h)
      rw [star_of (chk_odd h1)]
      show (false || (backTo pos (starEach xs env)).any (·.1)) = false
      rw [chkA_star env pos as xs h2]; rfl
  | .var _, xs, h => by cases xs <;> simp [chkA] at h
  | .non, xs, h => by cases xs <;> simp [chkA] at h
  | .bl _, xs, h => by cases xs <;> simp [chkA] at h
  | .int _, xs, h => by cases xs <;> simp [chkA] at h
  | .str _, xs, h => by cases xs <;> simp [chkA] at h
  | .gl _, xs, h => by cases xs <;> simp [chkA] at h
  | .bty _, xs, h => by cases xs <;> simp [chkA] at h
  | .bin .., xs, h => by cases xs <;> simp [chkA] at h
  | .neg _, xs, h => by cases xs <;> simp [chkA] at h
  | .not _, xs, h => by cases xs <;> simp [chkA] at h
  | .and .., xs, h => by cases xs <;> simp [chkA] at h
  | .or .., xs, h => by cases xs <;> simp [chkA] at h
  | .cmp .., xs, h => by cases xs <;> simp [chkA] at h
  | .chn .., xs, h => by cases xs <;> simp [chkA] at h
  | .ite .., xs, h => by cases xs <;> simp [chkA] at h
  | .tup _, xs, h => by cases xs <;> simp [chkA] at h
  | .lst _, xs, h => by cases xs <;> simp [chkA] at h
  | .cell _, xs, h => by cases xs <;> simp [chkA] at h
  | .call .., xs, h => by cases xs <;> simp [chkA] at h
  | .bi .., xs, h => by cases xs <;> simp [chkA] at h
  | .idx .., xs, h => by cases xs <;> simp [chkA] at h
  | .sli .., xs, h => by cases xs <;> simp [chkA] at h
  | .omit, xs, h => by cases xs <;> simp [chkA] at h
  | .comp .., xs, h => by cases xs <;> simp [chkA] at h
  | .lrg .., xs, h => by cases xs <;> simp [chkA] at h
  | .lrd .., xs, h => by cases xs <;> simp [chkA] at h
  | .rng1 _, xs, h => by cases xs <;> simp [chkA] at h
  | .rng2 .., xs, h => by cases xs <;> simp [chkA] at h
  | .zip .., xs, h => by cases xs <;> simp [chkA] at h
  | .enu _, xs, h => by cases xs <;> simp [chkA] at h
  | .sq _, xs, h => by cases xs <;> simp [chkA] at h

def Ex.isA : Ex → Bool
  | .nil => true
  | .cons .. => true
  | _ => false
def Ex.isI : Ex → Bool
  | .rng1 .. => true
  | .rng2 .. => true
  | .zip .. => true
  | .enu .. => true
  | .sq .. => true
  | _ => false
def Ex.pl : Ex → Bool
  | .not _ => false
  | .and .. => false
  | .or .. => false
  | .cmp .. => false
  | .chn .. => false
  | .ite .. => false
  | _ => true
theorem noA {e : Ex} {sc : Scope} {xs : List Expr} (he : e.isA = false) (h : chkA I e sc xs = true) : False := by
  cases e <;> first | (cases he; done) | (cases xs <;> exact absurd h Bool.false_ne_true)
theorem noI {e : Ex} {sc : Scope} {t x : Expr} (he : e.isI = false) (h : chkI I e sc t x = true) : False := by
  cases e <;> first | (cases he; done) | (simp [chkI] at h)
theorem chk_plain {e : Ex} {sc : Scope} {x : Expr} (he : e.pl = true) (h : chkE I e sc x = true) : plainT x = true := by
  induction e generalizing x with
  | cell e ih =>
    obtain ⟨h1, h2⟩ := mem_bool (show (freshE e && chkE I e sc x) = true from h)
    exact ih (by cases e <;> first | rfl | (cases h1; done)) h2
  | neg e ih => cases x <;> first | rfl | (exact absurd h Bool.false_ne_true) | (rename_i op _ _; cases op <;> first | rfl | (exact absurd h Bool.false_ne_true))
  | _ => cases x <;> first | rfl | (cases he; done) | (exact absurd h Bool.false_ne_true)
abbrev ESnd (I : Info) (G : GlobF) (cf : CallF) (e : Ex) : Prop := ∀ {X : Cx} {top : Bool} {We : WeS} {σ : L2.St} {ρ : Env'} {H : Hp} {M : List Addr} {B : Addr → Prop} {st : Sto} {x : Expr} {Q : VK}, Pt I G cf X top We σ ρ H M B st → chkE I e X.env.scope x = true →
    Res (wd X I.nm) B (RelR (wd X I.nm) B) (We σ) H M (evE G cf e ρ st) Q → EvE X x σ H Q
abbrev FSnd (I : Info) (G : GlobF) (cf : CallF) (e : Ex) : Prop := ∀ {X : Cx} {top : Bool} {We : WeS} {σ : L2.St} {ρ : Env'} {H : Hp} {M : List Addr} {B : Addr → Prop} {st : Sto} {x : Expr} {Q : VK}, Pt I G cf X top We σ ρ H M B st → freshE e = true → chkE I e X.env.scope x = true →
    ResF (wd X I.nm) B (We σ) H M (evE G cf e ρ st) Q → EvE X x σ H Q
theorem snd_F {e : Ex} (hE : ESnd I G cf e) (hp : e.pl = true) (hA : e.isA = false) (hI : e.isI = false) (hF : FSnd I G cf e) : Snd I G cf e where
  E := hE
  T := fun p h r => by
    refine evT_of (pt_truth pe_ev (isTrue_pl (chk_plain hp h) _)) ?_
    refine hE p h (Res.bind (rel2 := RelB) (f := fun x st1 => R.lift (truV st1 x) st1) r fun a st v H' M' k s ra r2 => ?_)
    cases e : truV st a with
    | none => rw [e] at r2; exact r2.elim
    | some c => rw [e] at r2; exact ⟨c, tru_of e s ra, r2 c H' M' (.refl _ _) s rfl⟩
  A := fun p h => (noA hA h).elim
  W := fun p h => (noI hI h).elim
  F := hF
theorem snd_of {e : Ex} (hE : ESnd I G cf e) (hp : e.pl = true) (hA : e.isA = false) (hI : e.isI = false) (hF : freshE e = false) : Snd I G cf e :=
  snd_F hE hp hA hI fun p hf => by rw [hF] at hf; cases hf
theorem gl_of {X : Cx} {x : Str} (h : glB X.env.scope x = true) : Gl X x := by
  unfold glB at h
  split at h
  · rename_i e; exact e
  · cases h
theorem nodbg_of {x : Str} (h : nodbg x = true) : (x == ("__debug__" : Str)) = false := by
  unfold nodbg at h
  cases q : (x == ("__debug__" : Str)) with
  | false => rfl
  | true => rw [q] at h; cases h
theorem vis_of {sc : Scope} {x : Str} (h : visB sc x = true) : Vis sc x := by
  unfold visB at h
  split at h
  · rename_i e; exact .inl e
  · rename_i e; exact .inr (.inl e)
  · rename_i e; exact .inr (.inr e)
  · cases h
theorem bty_boot {n : String} {x : Str} (h : btyB n x = true) : bootBuiltins x = some (.type n) ∧ x ≠ "__name__" ∧ x ∈ bnames := by
  unfold btyB tyNames at h
  simp only [List.any_cons, List.any_nil, Bool.or_false, Bool.or_eq_true, Bool.and_eq_true, decide_eq_true_eq] at h
  rcases h with ⟨rfl, rfl⟩ | ⟨rfl, rfl⟩ | ⟨rfl, rfl⟩ | ⟨rfl, rfl⟩ | ⟨rfl, rfl⟩ <;> exact ⟨rfl, by decide, by decide⟩
theorem snd_var (i : Nat) : Snd I G cf (.var i) := snd_of (fun {X top We σ ρ H M B st x Q} p h r => by
  cases x <;> first | (exact absurd h Bool.false_ne_true) | skip
  rename_i n pos
  obtain ⟨h1, h2⟩ := mem_bool (show (decide (I.N[i]? = some n) && (visB X.env.scope n && (nodbg n && !(n == ("__classdict__" : Str))))) = true from h)
  obtain ⟨h2, h3⟩ := mem_bool h2
  obtain ⟨h3, h4⟩ := mem_bool h3
  obtain ⟨c, e, q⟩ := Res.liftE r
  refine evE_of (pe_var (i := i) (by rw [p.cx.N]; exact of_decide_eq_true h1) (vis_of h2) (nodbg_of h3) (by simpa using h4)) ?_
  cases e1 : ρ[i]? with
  | none => rw [e1] at e; cases e
  | some o =>
    rw [e1] at e
    have e : o = some c := e
    subst e
    obtain ⟨u, h5, ru⟩ := p.er.2 i c e1
    exact ⟨u, h5, q.now p.cl ru⟩) rfl rfl rfl rfl
theorem snd_non : Snd I G cf .non := snd_of (fun {X top We σ ρ H M B st x Q} p h r => by
  cases x <;> first | (exact absurd h Bool.false_ne_true) | skip
  rename_i c _ _
  cases c <;> first | (exact absurd h Bool.false_ne_true) | skip
  exact evE_of pe_non (Res.aft r |>.now p.cl .non)) rfl rfl rfl rfl
theorem snd_bl (b : Bool) : Snd I G cf (.bl b) := snd_of (fun {X top We σ ρ H M B st x Q} p h r => by
  cases x <;> first | (exact absurd h Bool.false_ne_true) | skip
  rename_i c _ _
  cases c <;> first | (exact absurd h Bool.false_ne_true) | skip
  rename_i b'
  have e : b = b' := eq_of_beq (show (b == b') = true from h)
  subst e
  exact evE_of pe_bl (Res.aft r |>.now p.cl (.bl _))) rfl rfl rfl rfl
theorem snd_int (b : Int) : Snd I G cf (.int b) := snd_of (fun {X top We σ ρ H M B st x Q} p h r => by
  cases x <;> first | (exact absurd h Bool.false_ne_true) | skip
  rename_i c _ _
  cases c <;> first | (exact absurd h Bool.false_ne_true) | skip
  rename_i b'
  have e : b = b' := eq_of_beq (show (b == b') = true from h)
  subst e
  exact evE_of pe_int (Res.aft r |>.now p.cl (.int _))) rfl rfl rfl rfl
theorem snd_str (b : Str) : Snd I G cf (.str b) := snd_of (fun {X top We σ ρ H M B st x Q} p h r => by
  cases x <;> first | (exact absurd h Bool.false_ne_true) | skip
  rename_i c _ _
  cases c <;> first | (exact absurd h Bool.false_ne_true) | skip
  rename_i b'
  have e : b = b' := of_decide_eq_true (show (decide (b = b')) = true from h)
  subst e
  exact evE_of pe_str (Res.aft r |>.now p.cl (.str _))) rfl rfl rfl rfl
theorem snd_gl (g : Nat) : Snd I G cf (.gl g) := snd_of (fun {X top We σ ρ H M B st x Q} p h r => by
  cases x <;> first | (exact absurd h Bool.false_ne_true) | skip
  rename_i n pos
  obtain ⟨h1, h2⟩ := mem_bool (show (decide (I.nm g = n) && (glB X.env.scope n && nodbg n)) = true from h)
  obtain ⟨h2, h3⟩ := mem_bool h2
  obtain ⟨c, e, q⟩ := Res.liftE r
  obtain ⟨u, y, m, rv, rr⟩ := p.cx.glob g c e
  rw [of_decide_eq_true h1] at m
  exact evE_of (pe_glob (gl_of h2) m rv (nodbg_of h3)) (q.now p.cl (rr _ _ _))) rfl rfl rfl rfl
theorem snd_bty (n : String) : Snd I G cf (.bty n) := snd_of (fun {X top We σ ρ H M B st x Q} p h r => by
  cases x <;> first | (exact absurd h Bool.false_ne_true) | skip
  rename_i n' pos
  obtain ⟨h1, h2⟩ := mem_bool (show (btyB n n' && (glB X.env.scope n' && nodbg n')) = true from h)
  obtain ⟨h2, h3⟩ := mem_bool h2
  obtain ⟨b1, b2, b3⟩ := bty_boot h1
  exact evE_of (pe_bltn (v := .ty n) (gl_of h2) (p.cx.free _ b3) b1 rfl b2 (nodbg_of h3)) (Res.aft r |>.now p.cl (.ty _))) rfl rfl rfl rfl
/-- two in a row -/
theorem two {a b : Ex} (ha : Snd I G cf a) (hb : Snd I G cf b) {α β : Type} {X : Cx} {top : Bool} {We : WeS} {σ : L2.St} {ρ : Env'} {H : Hp} {M : List Addr} {B : Addr → Prop} {st : Sto} {l r : Expr} {rel : Rl α β} {Q : β → Hp → Prop} {f : PV → PV → Sto → R α} {k : V → V → Hp → Prop}
    (p : Pt I G cf X top We σ ρ H M B st) (h1 : chkE I a X.env.scope l = true) (h2 : chkE I b X.env.scope r = true)
    (hr : Res (wd X I.nm) B rel (We σ) H M ((evE G cf a ρ st).bind fun x st1 => (evE G cf b ρ st1).bind fun y st2 => f x y st2) Q)
    (g : ∀ x y st2 u v H2 M2, Kp H M H2 M2 → Pt I G cf X top We σ ρ H2 M2 B st2 → Rel (wd X I.nm) H2 M2 B x u → Rel (wd X I.nm) H2 M2 B y v → Res (wd X I.nm) B rel (We σ) H2 M2 (f x y st2) Q → k u v H2) :
    EvE X l σ H fun u H1 => EvE X r σ H1 fun v H2 => k u v H2 :=
  ha.E p h1 (Res.bind hr fun x st1 u H1 M1 k1 s1 r1 hr1 => hb.E (p.go k1 s1) h2 (Res.bind hr1 fun y st2 v H2 M2 k2 s2 r2 hr2 =>
    g x y st2 u v H2 M2 (k1.trans k2) (p.go (k1.trans k2) s2) (r1.mono k2) r2 hr2))
theorem ResF.liftE {w : Wd} {B : Addr → Prop} {We : WeT} {H : Hp} {M : List Addr} {Q : VK} {st : Sto} {o : Option PV} (h : ResF w B We H M (R.lift o st) Q) : ∃ xs, o = some (.lst xs) ∧ ResF w B We H M (.ok (.lst xs) st) Q := by
  cases o with
  | none => exact h.elim
  | some c =>
    have h' := h
    obtain ⟨xs, e, _⟩ := h'
    subst e
    exact ⟨xs, rfl, h⟩
theorem mul_lst {st : Sto} {a b : PV} {ys : List PV} (e : binV st .Mult a b = some (.lst ys)) : ∃ xs k, a = .lst xs ∧ b = .int k ∧ ys = (List.replicate k.toNat xs).flatten ∧ 0 ≤ k ∧ k ≤ 1000 ∧ xs.length ≤ 1000 := by
  unfold binV at e
  split at e <;> first | contradiction | skip
  · split at e <;> cases e
  · split at e <;> cases e
  · split at e
    · rename_i h
      cases e
      obtain ⟨h1, h0⟩ := Bool.and_eq_true_iff.mp h
      obtain ⟨h2, h3⟩ := Bool.and_eq_true_iff.mp h0
      exact ⟨_, _, rfl, rfl, rfl, of_decide_eq_true h1, of_decide_eq_true h2, of_decide_eq_true h3⟩
    · cases e
theorem mul_ok {X : Cx} {nm : Nat → Str} {H : Hp} {M : List Addr} {B : Addr → Prop} {st : Sto} {Q : VK} {We : WeT} {a b : PV} {x y : V} (s : Cels (wd X nm) H M B st) (ra : Rel (wd X nm) H M B a x) (rb : Rel (wd X nm) H M B b y)
    (h : ResF (wd X nm) B We H M (R.lift (binV st .Mult a b) st) Q) : OpE X (binaryOp .Mult) x y H Q := by
  have lb := line_big
  obtain ⟨ys, e, h⟩ := h.liftE
  obtain ⟨xs, k, rfl, rfl, rfl, h1, h2, h3⟩ := mul_lst e
  cases rb
  obtain ⟨p1, vs, e1, s1, r1⟩ := ra.lstL
  subst e1
  refine .of op_rep ⟨_, _, vs, rfl, rfl, s1, by omega, by omega, ?_, fun p hp => ResF.now h s (r1.rep _) hp⟩
  rw [← r1.length]
  exact Nat.le_trans (Nat.mul_le_mul h3 (show k.toNat ≤ 1000 by omega)) (Nat.le_trans (by decide) lb)
theorem snd_bin (o : Operator) (a b : Ex) (ha : Snd I G cf a) (hb : Snd I G cf b) : Snd I G cf (.bin o a b) := by
  have inv : ∀ {X : Cx} {x : Expr}, chkE I (.bin o a b) X.env.scope x = true → ∃ l r pos, x = .BinOp l o r pos ∧ chkE I a X.env.scope l = true ∧ chkE I b X.env.scope r = true := fun {X x} h => by
    cases x <;> first | (exact absurd h Bool.false_ne_true) | skip
    rename_i l o' r pos
    obtain ⟨h1, h2⟩ := mem_bool (show (decide (o = o') && (chkE I a X.env.scope l && chkE I b X.env.scope r)) = true from h)
    obtain ⟨h2, h3⟩ := mem_bool h2
    exact ⟨l, r, pos, by rw [of_decide_eq_true h1], h2, h3⟩
  refine snd_F (fun {X top We σ ρ H M B st x Q} p h r => ?_) rfl rfl rfl (fun {X top We σ ρ H M B st x Q} p hf h r => ?_)
  · obtain ⟨l, rr, pos, rfl, h2, h3⟩ := inv h
    refine evE_of (pe_op op_ev pe_ev pe_ev) (two ha hb p h2 h3 r fun x y st2 u v H2 M2 k p2 r1 r2 hr => ?_)
    obtain ⟨c, e, q⟩ := Res.liftE hr
    exact bin_ok e p2.cl r1 r2 q
  · obtain ⟨l, rr, pos, rfl, h2, h3⟩ := inv h
    cases o <;> first | (cases hf; done) | skip
    refine evE_of (pe_op op_ev pe_ev pe_ev) (ha.E p h2 (ResF.bind r fun x st1 u H1 M1 k1 s1 r1 hr1 => hb.E (p.go k1 s1) h3 (ResF.bind hr1 fun y st2 v H2 M2 k2 s2 r2 hr2 => ?_)))
    exact mul_ok s2 (r1.mono k2) r2 hr2

theorem snd_neg (a : Ex) (ha : Snd I G cf a) : Snd I G cf (.neg a) := snd_of (fun {X top We σ ρ H M B st x Q} p h r => by
  cases x <;> first | (exact absurd h Bool.false_ne_true) | skip
  rename_i op e pos
  cases op <;> first | (exact absurd h Bool.false_ne_true) | skip
  refine evE_of (pe_un un_neg pe_ev) (ha.E p h (Res.bind r fun x st1 u H1 M1 k1 s1 r1 hr1 => ?_))
  obtain ⟨c, e, q⟩ := Res.liftE hr1
  cases x <;> first | (cases e; done) | skip
  cases e
  cases r1
  exact ⟨_, rfl, q.now s1 (.int _)⟩) rfl rfl rfl rfl
/-- a test as a value -/
theorem Res.tst {w : Wd} {B : Addr → Prop} {We : WeT} {H : Hp} {M : List Addr} {st : Sto} {b : Bool} {Q : Bool → Hp → Prop} {H' : Hp} {M' : List Addr} (h : Res w B RelB We H M (.ok b st) Q) (k : Kp H M H' M') (s : Cels w H' M' B st) : Q b H' := h b H' M' k s rfl
theorem tru_res {X : Cx} {nm : Nat → Str} {H : Hp} {M : List Addr} {B : Addr → Prop} {st : Sto} {Q : Bool → Hp → Prop} {We : WeT} {a : PV} {v : V} (h : Res (wd X nm) B RelB We H M (R.lift (truV st a) st) Q) (s : Cels (wd X nm) H M B st) (r : Rel (wd X nm) H M B a v) :
    ∃ k, TruV X.K v H k ∧ Q k H := by
  cases e : truV st a with
  | none => rw [e] at h; exact h.elim
  | some c => rw [e] at h; exact ⟨c, tru_of e s r, h c H M (.refl _ _) s rfl⟩
/-- not, of any truth -/
theorem pe_notT {X : Cx} {a : Expr} {pos : Pos} {ta : TE} (ha : PE X a ta) : PE X (.UnaryOp .Not a pos) (fun σ H Q => ta σ H fun x H1 => ∃ k, TruV X.K x H1 k ∧ Q (.bl (!k)) H1) := by
  refine ⟨fun pins s σ H Q I h => ?_⟩
  refine UnaryOp_ (thn (ha.run pins s σ H _ I h) fun v s1 ⟨x, H1, I1, r1, k, hk, q1⟩ => ?_)
  exact not_of (thn (tru_ok pins s1 σ H1 x v (fun b H' => b = k ∧ H' = H1) I1 r1 ⟨k, hk, rfl, rfl⟩) fun b s2 ⟨H2, I2, e1, e2⟩ => by subst e1; subst e2; exact ⟨.bl (!b), _, I2, rfl, q1⟩)
theorem snd_not (a : Ex) (ha : Snd I G cf a) : Snd I G cf (.not a) where
  E := fun {X top We σ ρ H M B st x Q} p h r => by
    cases x <;> first | (exact absurd h Bool.false_ne_true) | skip
    rename_i op e pos
    cases op <;> first | (exact absurd h Bool.false_ne_true) | skip
    have r' : Res (wd X I.nm) B (RelR (wd X I.nm) B) (We σ) H M (((evE G cf a ρ st).bind fun x st1 => R.lift (truV st1 x) st1).bind fun b st1 => .ok (.bl (!b)) st1) Q := r
    refine evE_of (pe_notT pe_ev) (ha.E p h (Res.bind (rel2 := RelB) (Q2 := fun b H1 => Q (.bl (!b)) H1) (Res.bind r' fun b st1 b' H1 M1 k1 s1 e1 hr1 => ?_) fun x st1 u H1 M1 k1 s1 r1 hr1 => tru_res hr1 s1 r1))
    subst e1
    exact hr1.aft.now s1 (.bl _)
  T := fun {X top We σ ρ H M B st x Q} p h r => by
    cases x <;> first | (exact absurd h Bool.false_ne_true) | skip
    rename_i op e pos
    cases op <;> first | (exact absurd h Bool.false_ne_true) | skip
    refine evT_of (pt_not pt_ev) (ha.T p h (Res.bind (rel2 := RelB) (f := fun b st1 => (R.ok (.bl (!b)) st1).bind fun x st1 => R.lift (truV st1 x) st1) (Q2 := Q) ?_ fun b st1 b' H1 M1 k1 s1 e1 hr1 => ?_))
    · have r' : Res (wd X I.nm) B RelB (We σ) H M (((tstR false (evE G cf a ρ) st).bind fun b st1 => .ok (.bl (!b)) st1).bind fun x st1 => R.lift (truV st1 x) st1) Q := r
      cases q : tstR false (evE G cf a ρ) st with
      | ok b st1 => rw [q] at r'; exact r'
      | ex c st1 => rw [q] at r'; exact r'
      | bad => rw [q] at r'; exact r'
    · subst e1
      exact hr1 _ H1 M1 (.refl _ _) s1 rfl
  A := fun p h => (noA rfl h).elim
  W := fun p h => (noI rfl h).elim
  F := fun p hf => by cases hf
theorem Res.assoc {α β γ δ : Type} {w : Wd} {B : Addr → Prop} {rel : Rl γ δ} {We : WeT} {H : Hp} {M : List Addr} {r : R α} {f : α → Sto → R β} {g : β → Sto → R γ} {Q : δ → Hp → Prop} (h : Res w B rel We H M ((r.bind f).bind g) Q) :
    Res w B rel We H M (r.bind fun a st => (f a st).bind g) Q := by
  cases r with
  | ok a st => exact h
  | ex c st => exact h
  | bad => exact h
/-- a bool, tested -/
theorem Res.tstBl {w : Wd} {B : Addr → Prop} {We : WeT} {H : Hp} {M : List Addr} {st : Sto} {b : Bool} {Q : Bool → Hp → Prop} (h : Res w B RelB We H M ((R.ok (PV.bl b) st).bind fun x st1 => R.lift (truV st1 x) st1) Q) : Res w B RelB We H M (.ok b st) Q := h
theorem isTrue_bool {op : BoolOp} {es : List Expr} {pos : Pos} {env : Env} (w1 w2 : Sem Value) : isTrue (.BoolOp op es pos) env w1 = isTrue (.BoolOp op es pos) env w2 := rfl
theorem pw_ev {X : Cx} {op : BoolOp} {es : List Expr} {pos : Pos} : PW X (.BoolOp op es pos) (EvT X (.BoolOp op es pos)) := ⟨fun _ pins s _ _ _ I h => h pins s I⟩
/-- what and, or are in the text -/
theorem chk_bool {op : BoolOp} {a b : Ex} {e : Ex} (he : e = (match op with | .And => Ex.and a b | .Or => Ex.or a b)) {sc : Scope} {x : Expr} (h : chkE I e sc x = true) : ∃ l r rest pos, x = .BoolOp op (l :: r :: rest) pos ∧ chkE I a sc l = true ∧
    ((rest = [] ∧ chkE I b sc r = true) ∨ (rest ≠ [] ∧ chkE I b sc (.BoolOp op (r :: rest) pos) = true)) := by
  subst he
  cases op <;> (
    cases x <;> first | (exact absurd h Bool.false_ne_true) | skip
    rename_i o es pos
    cases o <;> first | (exact absurd h Bool.false_ne_true) | skip
    cases es with
    | nil => exact absurd h Bool.false_ne_true
    | cons l es =>
      cases es with
      | nil => exact absurd h Bool.false_ne_true
      | cons r rest =>
        cases rest with
        | nil =>
          obtain ⟨h1, h2⟩ := mem_bool (show (chkE I a sc l && chkE I b sc r) = true from h)
          exact ⟨l, r, [], pos, rfl, h1, .inl ⟨rfl, h2⟩⟩
        | cons z rest =>
          obtain ⟨h1, h2⟩ := mem_bool (show (chkE I a sc l && chkE I b sc (.BoolOp _ (r :: z :: rest) pos)) = true from h)
          exact ⟨l, r, z :: rest, pos, rfl, h1, .inr ⟨by simp, h2⟩⟩)
theorem snd_and (a b : Ex) (ha : Snd I G cf a) (hb : Snd I G cf b) : Snd I G cf (.and a b) where
  E := fun {X top We σ ρ H M B st x Q} p h r => by
    obtain ⟨l, rr, rest, pos, rfl, h1, h2⟩ := chk_bool (op := .And) rfl h
    have fin : ∀ {tb : TE}, PE X (.BoolOp .And (rr :: rest) pos) tb → (∀ st' H' M', Pt I G cf X top We σ ρ H' M' B st' → Res (wd X I.nm) B (RelR (wd X I.nm) B) (We σ) H' M' (evE G cf b ρ st') Q → tb σ H' Q) → EvE X (.BoolOp .And (l :: rr :: rest) pos) σ H Q := fun hp hq => by
      refine evE_of (pe_and pe_ev hp) (ha.E p h1 (Res.bind r fun x st1 u H1 M1 k1 s1 r1 hr1 => ?_))
      cases x <;> first | (exact hr1.elim) | skip
      rename_i c
      cases r1
      refine ⟨c, rfl, ?_⟩
      cases c with
      | true => rw [if_pos rfl]; exact hq st1 H1 M1 (p.go k1 s1) hr1
      | false => rw [if_neg Bool.false_ne_true]; exact hr1.aft.now s1 (.bl _)
    rcases h2 with ⟨rfl, h2⟩ | ⟨hn, h2⟩
    · exact fin (pe_one pe_ev) fun st' H' M' p' hr => hb.E p' h2 hr
    · exact fin pe_ev fun st' H' M' p' hr => hb.E p' h2 hr
  T := fun {X top We σ ρ H M B st x Q} p h r => by
    obtain ⟨l, rr, rest, pos, rfl, h1, h2⟩ := chk_bool (op := .And) rfl h
    have r' : Res (wd X I.nm) B RelB (We σ) H M (((evE G cf a ρ st).bind fun x st1 => match x with
      | .bl true => evE G cf b ρ st1
      | .bl false => .ok (.bl false) st1
      | _ => .bad).bind fun x st1 => R.lift (truV st1 x) st1) Q := r
    have fin : ∀ {tb : TT}, PW X (.BoolOp .And (rr :: rest) pos) tb → (∀ st' H' M', Pt I G cf X top We σ ρ H' M' B st' → Res (wd X I.nm) B RelB (We σ) H' M' (tstR false (evE G cf b ρ) st') Q → tb σ H' Q) → EvT X (.BoolOp .And (l :: rr :: rest) pos) σ H Q := fun hp hq => by
      refine evT_of (pw_and pt_ev hp).pt (ha.T p h1 ?_)
      cases q : evE G cf a ρ st with
      | ok x st1 =>
        rw [q] at r'
        show Res _ _ _ _ _ _ ((evE G cf a ρ st).bind fun x st1 => R.lift (truV st1 x) st1) _
        rw [q]
        cases x <;> first | (exact r'.elim) | skip
        intro c' H1 M1 k1 s1 e1
        subst e1
        cases c' with
        | true => rw [if_pos rfl]; exact hq st1 H1 M1 (p.go k1 s1) (Res.mono r' k1)
        | false => rw [if_neg Bool.false_ne_true]; exact r' _ H1 M1 k1 s1 rfl
      | ex c st1 =>
        rw [q] at r'
        show Res _ _ _ _ _ _ ((evE G cf a ρ st).bind fun x st1 => R.lift (truV st1 x) st1) _
        rw [q]; exact r'
      | bad => rw [q] at r'; exact r'.elim
    rcases h2 with ⟨rfl, h2⟩ | ⟨hn, h2⟩
    · exact fin (pw_and1 pt_ev) fun st' H' M' p' hr => hb.T p' h2 hr
    · exact fin pw_ev fun st' H' M' p' hr => hb.T p' h2 hr
  A := fun p h => (noA rfl h).elim
  W := fun p h => (noI rfl h).elim
  F := fun p hf => by cases hf
theorem snd_or (a b : Ex) (ha : Snd I G cf a) (hb : Snd I G cf b) : Snd I G cf (.or a b) where
  E := fun {X top We σ ρ H M B st x Q} p h r => by
    obtain ⟨l, rr, rest, pos, rfl, h1, h2⟩ := chk_bool (op := .Or) rfl h
    have fin : ∀ {tb : TE}, PE X (.BoolOp .Or (rr :: rest) pos) tb → (∀ st' H' M', Pt I G cf X top We σ ρ H' M' B st' → Res (wd X I.nm) B (RelR (wd X I.nm) B) (We σ) H' M' (evE G cf b ρ st') Q → tb σ H' Q) → EvE X (.BoolOp .Or (l :: rr :: rest) pos) σ H Q := fun hp hq => by
      refine evE_of (pe_or pe_ev hp) (ha.E p h1 (Res.bind r fun x st1 u H1 M1 k1 s1 r1 hr1 => ?_))
      cases x <;> first | (exact hr1.elim) | skip
      rename_i c
      cases r1
      refine ⟨c, rfl, ?_⟩
      cases c with
      | false => rw [if_neg Bool.false_ne_true]; exact hq st1 H1 M1 (p.go k1 s1) hr1
      | true => rw [if_pos rfl]; exact hr1.aft.now s1 (.bl _)
    rcases h2 with ⟨rfl, h2⟩ | ⟨hn, h2⟩
    · exact fin (pe_one pe_ev) fun st' H' M' p' hr => hb.E p' h2 hr
    · exact fin pe_ev fun st' H' M' p' hr => hb.E p' h2 hr
  T := fun {X top We σ ρ H M B st x Q} p h r => by
    obtain ⟨l, rr, rest, pos, rfl, h1, h2⟩ := chk_bool (op := .Or) rfl h
    have r' : Res (wd X I.nm) B RelB (We σ) H M (((evE G cf a ρ st).bind fun x st1 => match x with
      | .bl true => .ok (.bl true) st1
      | .bl false => evE G cf b ρ st1
      | _ => .bad).bind fun x st1 => R.lift (truV st1 x) st1) Q := r
    have fin : ∀ {tb : TT}, PW X (.BoolOp .Or (rr :: rest) pos) tb → (∀ st' H' M', Pt I G cf X top We σ ρ H' M' B st' → Res (wd X I.nm) B RelB (We σ) H' M' (tstR false (evE G cf b ρ) st') Q → tb σ H' Q) → EvT X (.BoolOp .Or (l :: rr :: rest) pos) σ H Q := fun hp hq => by
      refine evT_of (pw_or pt_ev hp).pt (ha.T p h1 ?_)
      cases q : evE G cf a ρ st with
      | ok x st1 =>
        rw [q] at r'
        show Res _ _ _ _ _ _ ((evE G cf a ρ st).bind fun x st1 => R.lift (truV st1 x) st1) _
        rw [q]
        cases x <;> first | (exact r'.elim) | skip
        intro c' H1 M1 k1 s1 e1
        subst e1
        cases c' with
        | false => rw [if_neg Bool.false_ne_true]; exact hq st1 H1 M1 (p.go k1 s1) (Res.mono r' k1)
        | true => rw [if_pos rfl]; exact r' _ H1 M1 k1 s1 rfl
      | ex c st1 =>
        rw [q] at r'
        show Res _ _ _ _ _ _ ((evE G cf a ρ st).bind fun x st1 => R.lift (truV st1 x) st1) _
        rw [q]; exact r'
      | bad => rw [q] at r'; exact r'.elim
    rcases h2 with ⟨rfl, h2⟩ | ⟨hn, h2⟩
    · exact fin (pw_or1 pt_ev) fun st' H' M' p' hr => hb.T p' h2 hr
    · exact fin pw_ev fun st' H' M' p' hr => hb.T p' h2 hr
  A := fun p h => (noA rfl h).elim
  W := fun p h => (noI rfl h).elim
  F := fun p hf => by cases hf

theorem Res.ofBl {w : Wd} {B : Addr → Prop} {We : WeT} {H : Hp} {M : List Addr} {st : Sto} {f : Sto → R PV} {Q : Bool → Hp → Prop} (h : Res w B RelB We H M (tstR false f st) Q) (hb : ∀ v st', f st = .ok v st' → ∃ b, v = .bl b) :
    Res w B (RelR w B) We H M (f st) (fun x H' => ∃ k, x = .bl k ∧ Q k H') := by
  have h' : Res w B RelB We H M ((f st).bind fun x st1 => R.lift (truV st1 x) st1) Q := h
  cases e : f st with
  | ok v st' =>
    obtain ⟨b, rfl⟩ := hb v st' e
    rw [e] at h'
    intro u H' M' k s r
    cases r
    exact ⟨b, rfl, h' b H' M' k s rfl⟩
  | ex c st' => rw [e] at h'; exact h'
  | bad => rw [e] at h'; exact h'
theorem bind_ok' {α β : Type} {r : R α} {f : α → Sto → R β} {b : β} {st : Sto} (h : r.bind f = .ok b st) : ∃ a st1, r = .ok a st1 ∧ f a st1 = .ok b st := by
  cases r with
  | ok a st1 => exact ⟨a, st1, rfl, h⟩
  | ex c st1 => cases h
  | bad => cases h
theorem lift_ok {α : Type} {o : Option α} {st st' : Sto} {a : α} (h : R.lift o st = .ok a st') : o = some a ∧ st = st' := by
  cases o with
  | none => cases h
  | some b => cases h; exact ⟨rfl, rfl⟩
theorem snd_cmp (o : CmpOp) (a b : Ex) (ha : Snd I G cf a) (hb : Snd I G cf b) : Snd I G cf (.cmp o a b) := by
  have inv : ∀ {X : Cx} {x : Expr}, chkE I (.cmp o a b) X.env.scope x = true → ∃ l r pos, x = .Compare l [o] [r] pos ∧ chkE I a X.env.scope l = true ∧ chkE I b X.env.scope r = true := fun {X x} h => by
    cases x <;> first | (exact absurd h Bool.false_ne_true) | skip
    rename_i l os rs pos
    rcases os with _ | ⟨o', _ | ⟨o2, os⟩⟩
    · exact absurd h Bool.false_ne_true
    · rcases rs with _ | ⟨r', _ | ⟨r2, rs⟩⟩
      · exact absurd h Bool.false_ne_true
      · obtain ⟨h1, h2⟩ := mem_bool (show (decide (o = o') && (chkE I a X.env.scope l && chkE I b X.env.scope r')) = true from h)
        obtain ⟨h2, h3⟩ := mem_bool h2
        exact ⟨l, r', pos, by rw [of_decide_eq_true h1], h2, h3⟩
      · exact absurd h Bool.false_ne_true
    · rcases rs with _ | ⟨r', _ | ⟨r2, rs⟩⟩ <;> exact absurd h Bool.false_ne_true
  have key : ∀ {X : Cx} {top : Bool} {We : WeS} {σ : L2.St} {ρ : Env'} {H : Hp} {M : List Addr} {B : Addr → Prop} {st : Sto} {l r : Expr} {Q : VK}, Pt I G cf X top We σ ρ H M B st → chkE I a X.env.scope l = true → chkE I b X.env.scope r = true →
      Res (wd X I.nm) B (RelR (wd X I.nm) B) (We σ) H M (evE G cf (.cmp o a b) ρ st) Q → tOp (OpE X (compareOp o)) (EvE X l) (EvE X r) σ H Q := fun {X top We σ ρ H M B st l r Q} p h2 h3 hr =>
    two ha hb p h2 h3 hr fun x y st2 u v H2 M2 k p2 r1 r2 hr2 => by
      obtain ⟨c, e, q⟩ := Res.liftE hr2
      obtain ⟨d, e1, e2⟩ := Option.map_eq_some_iff.mp e
      subst e2
      exact cmp_ok p.cx.un e1 p2.cl r1 r2 (q.now p2.cl (.bl _))
  refine ⟨fun {X top We σ ρ H M B st x Q} p h r => ?_, fun {X top We σ ρ H M B st x Q} p h r => ?_, fun p h => (noA rfl h).elim, fun p h => (noI rfl h).elim, fun p hf => by cases hf⟩
  · obtain ⟨l, rr, pos, rfl, h2, h3⟩ := inv h
    exact evE_of (pe_cmpR op_ev pe_ev pe_ev (marks_of _ (chk_odd h3))) (key p h2 h3 r)
  · obtain ⟨l, rr, pos, rfl, h2, h3⟩ := inv h
    refine evT_of (pt_cmpR op_ev pe_ev pe_ev (marks_of _ (chk_odd h3))) (key p h2 h3 (Res.ofBl r fun v st' e => ?_))
    obtain ⟨x1, st1, _, e⟩ := bind_ok' e
    obtain ⟨x2, st2, _, e⟩ := bind_ok' e
    obtain ⟨e, _⟩ := lift_ok e
    obtain ⟨d, e1, e2⟩ := Option.map_eq_some_iff.mp e
    exact ⟨d, e2.symm⟩
theorem snd_chn (o o' : CmpOp) (a b c : Ex) (ha : Snd I G cf a) (hb : Snd I G cf b) (hc : Snd I G cf c) : Snd I G cf (.chn o o' a b c) := by
  have inv : ∀ {X : Cx} {x : Expr}, chkE I (.chn o o' a b c) X.env.scope x = true → ∃ l m r pos, x = .Compare l [o, o'] [m, r] pos ∧ chkE I a X.env.scope l = true ∧ chkE I b X.env.scope m = true ∧ chkE I c X.env.scope r = true := fun {X x} h => by
    cases x <;> first | (exact absurd h Bool.false_ne_true) | skip
    rename_i l os rs pos
    rcases os with _ | ⟨o1, _ | ⟨o2, _ | ⟨o3, os⟩⟩⟩ <;> rcases rs with _ | ⟨r1, _ | ⟨r2, _ | ⟨r3, rs⟩⟩⟩ <;> first | (exact absurd h Bool.false_ne_true) | skip
    obtain ⟨h1, h2⟩ := mem_bool (show (decide (o = o1) && (decide (o' = o2) && (chkE I a X.env.scope l && (chkE I b X.env.scope r1 && chkE I c X.env.scope r2)))) = true from h)
    obtain ⟨h2, h3⟩ := mem_bool h2
    obtain ⟨h3, h4⟩ := mem_bool h3
    obtain ⟨h4, h5⟩ := mem_bool h4
    exact ⟨l, r1, r2, pos, by rw [of_decide_eq_true h1, of_decide_eq_true h2], h3, h4, h5⟩
  have key : ∀ {X : Cx} {top : Bool} {We : WeS} {σ : L2.St} {ρ : Env'} {H : Hp} {M : List Addr} {B : Addr → Prop} {st : Sto} {l m r : Expr} {Q : VK}, Pt I G cf X top We σ ρ H M B st → chkE I a X.env.scope l = true → chkE I b X.env.scope m = true → chkE I c X.env.scope r = true →
      Res (wd X I.nm) B (RelR (wd X I.nm) B) (We σ) H M (evE G cf (.chn o o' a b c) ρ st) Q → tChain (OpE X (compareOp o)) (OpE X (compareOp o')) (EvE X l) (EvE X m) (EvE X r) σ H Q := fun {X top We σ ρ H M B st l m r Q} p h2 h3 h4 hr =>
    two ha hb p h2 h3 hr fun x y st2 u v H2 M2 k p2 r1 r2 hr2 => by
      cases e : cmpV st2 o x y with
      | none => rw [e] at hr2; exact hr2.elim
      | some d =>
        rw [e] at hr2
        refine cmp_ok p.cx.un e p2.cl r1 r2 ⟨d, rfl, ?_⟩
        cases d with
        | false => rw [if_neg Bool.false_ne_true]; exact hr2.aft.now p2.cl (.bl _)
        | true =>
          rw [if_pos rfl]
          refine hc.E p2 h4 (Res.bind hr2 fun z st3 u3 H3 M3 k3 s3 r3 hr3 => ?_)
          obtain ⟨c, e, q⟩ := Res.liftE hr3
          obtain ⟨d, e1, e2⟩ := Option.map_eq_some_iff.mp e
          subst e2
          exact cmp_ok p.cx.un e1 s3 (r2.mono k3) r3 (q.now s3 (.bl _))
  refine ⟨fun {X top We σ ρ H M B st x Q} p h r => ?_, fun {X top We σ ρ H M B st x Q} p h r => ?_, fun p h => (noA rfl h).elim, fun p h => (noI rfl h).elim, fun p hf => by cases hf⟩
  · obtain ⟨l, m, rr, pos, rfl, h2, h3, h4⟩ := inv h
    exact evE_of (pe_chain op_ev op_ev pe_ev pe_ev pe_ev (marks_of _ (chk_odd h4))) (key p h2 h3 h4 r)
  · obtain ⟨l, m, rr, pos, rfl, h2, h3, h4⟩ := inv h
    refine evT_of (pt_chain op_ev op_ev pe_ev pe_ev pe_ev (marks_of _ (chk_odd h4))) (key p h2 h3 h4 (Res.ofBl r fun v st' e => ?_))
    obtain ⟨x1, st1, _, e⟩ := bind_ok' e
    obtain ⟨x2, st2, _, e⟩ := bind_ok' e
    split at e
    · obtain ⟨x3, st3, _, e⟩ := bind_ok' e
      obtain ⟨e, _⟩ := lift_ok e
      obtain ⟨d, e1, e2⟩ := Option.map_eq_some_iff.mp e
      exact ⟨d, e2.symm⟩
    · cases e; exact ⟨_, rfl⟩
    · cases e
theorem pt_ite {X : Cx} {c a b : Expr} {tc ta tb : TT} {pos : Pos} (hc : PT X c tc) (ha : PT X a ta) (hb : PT X b tb) : PT X (.IfExp c a b pos) (fun σ H Q => tc σ H fun k H1 => if k = true then ta σ H1 Q else tb σ H1 Q) := by
  refine ⟨fun pins s σ H Q I h => ?_⟩
  show wpAny _ _ (isTrue c X.env (eval c X.env) >>= fun k => if k = true then isTrue a X.env (eval a X.env) else isTrue b X.env (eval b X.env)) _ _ s
  refine wpAny_bind (thn (hc.run pins s σ H _ I h) fun d s1 ⟨H1, I1, q1⟩ => ?_)
  cases d with
  | true => exact ha.run pins s1 σ H1 Q I1 q1
  | false => exact hb.run pins s1 σ H1 Q I1 q1
theorem snd_ite (c a b : Ex) (hc : Snd I G cf c) (ha : Snd I G cf a) (hb : Snd I G cf b) : Snd I G cf (.ite c a b) := by
  have inv : ∀ {X : Cx} {x : Expr}, chkE I (.ite c a b) X.env.scope x = true → ∃ t l r pos, x = .IfExp t l r pos ∧ chkE I c X.env.scope t = true ∧ chkE I a X.env.scope l = true ∧ chkE I b X.env.scope r = true := fun {X x} h => by
    cases x <;> first | (exact absurd h Bool.false_ne_true) | skip
    rename_i t l r pos
    obtain ⟨h1, h2⟩ := mem_bool (show (chkE I c X.env.scope t && (chkE I a X.env.scope l && chkE I b X.env.scope r)) = true from h)
    obtain ⟨h2, h3⟩ := mem_bool h2
    exact ⟨t, l, r, pos, rfl, h1, h2, h3⟩
  refine ⟨fun {X top We σ ρ H M B st x Q} p h r => ?_, fun {X top We σ ρ H M B st x Q} p h r => ?_, fun p h => (noA rfl h).elim, fun p h => (noI rfl h).elim, fun p hf => by cases hf⟩
  · obtain ⟨t, l, rr, pos, rfl, h1, h2, h3⟩ := inv h
    refine evE_of (pe_ifExp pt_ev pe_ev pe_ev) (hc.T p h1 (Res.bind (show Res _ _ _ _ _ _ ((tstR false (evE G cf c ρ) st).bind fun d st1 => if d then evE G cf a ρ st1 else evE G cf b ρ st1) _ from r) fun d st1 d' H1 M1 k1 s1 e1 hr1 => ?_))
    subst e1
    cases d' with
    | true => exact ha.E (p.go k1 s1) h2 hr1
    | false => exact hb.E (p.go k1 s1) h3 hr1
  · obtain ⟨t, l, rr, pos, rfl, h1, h2, h3⟩ := inv h
    have r' : Res (wd X I.nm) B RelB (We σ) H M (((tstR false (evE G cf c ρ) st).bind fun d st1 => if d then evE G cf a ρ st1 else evE G cf b ρ st1).bind fun x st1 => R.lift (truV st1 x) st1) Q := r
    refine evT_of (pt_ite pt_ev pt_ev pt_ev) (hc.T p h1 (Res.bind (Res.assoc r') fun d st1 d' H1 M1 k1 s1 e1 hr1 => ?_))
    subst e1
    cases d' with
    | true => exact ha.T (p.go k1 s1) h2 hr1
    | false => exact hb.T (p.go k1 s1) h3 hr1
/-! ### lists of expressions -/
theorem noE {e : Ex} {sc : Scope} {x : Expr} (he : (e.isA || (e.isI || e.isOmit)) = true) (h : chkE I e sc x = true) : False := by
  cases e <;> first | (cases he; done) | (cases x <;> exact absurd h Bool.false_ne_true)
theorem snd_nil : Snd I G cf .nil where
  E := fun p h => (noE rfl h).elim
  T := fun p h => (noE rfl h).elim
  A := fun {X top We σ ρ H M B st xs Q} p h r => by
    cases xs with
    | cons _ _ => exact absurd h Bool.false_ne_true
    | nil => exact evA_of pa_nil (r [] H M (.refl _ _) p.cl .nil)
  W := fun p h => (noI rfl h).elim
  F := fun p hf => by cases hf
theorem snd_cons (a as : Ex) (ha : Snd I G cf a) (hs : Snd I G cf as) : Snd I G cf (.cons a as) where
  E := fun p h => (noE rfl h).elim
  T := fun p h => (noE rfl h).elim
  A := fun {X top We σ ρ H M B st xs Q} p h r => by
    cases xs with
    | nil => exact absurd h Bool.false_ne_true
    | cons x xs =>
      obtain ⟨h1, h2⟩ := mem_bool (show (chkE I a X.env.scope x && chkA I as X.env.scope xs) = true from h)
      refine evA_of (pa_cons pe_ev pa_ev (star_of (chk_odd h1) _)) (ha.E p h1 (Res.bind r fun y st1 u H1 M1 k1 s1 r1 hr1 => ?_))
      refine hs.A (p.go k1 s1) h2 (Res.bind hr1 fun ys st2 us H2 M2 k2 s2 r2 hr2 => ?_)
      exact hr2 (u :: us) H2 M2 (.refl _ _) s2 (.cons (r1.mono k2) r2)
  W := fun p h => (noI rfl h).elim
  F := fun p hf => by cases hf
theorem evA_len {ρ : Env'} : ∀ (as : Ex) (st : Sto) (xs : List PV) (st' : Sto) (sc : Scope) (es : List Expr), evA G cf as ρ st = .ok xs st' → chkA I as sc es = true → xs.length = es.length := by
  intro as
  induction as with
  | nil =>
    intro st xs st' sc es e h
    cases es with
    | nil => cases e; rfl
    | cons _ _ => exact absurd h Bool.false_ne_true
  | cons a as iha ih =>
    intro st xs st' sc es e h
    cases es with
    | nil => exact absurd h Bool.false_ne_true
    | cons x es =>
      obtain ⟨h1, h2⟩ := mem_bool (show (chkE I a sc x && chkA I as sc es) = true from h)
      obtain ⟨v, st1, _, e⟩ := bind_ok' e
      obtain ⟨vs, st2, e1, e⟩ := bind_ok' e
      cases e
      rw [List.length_cons, List.length_cons, ih _ _ _ _ _ e1 h2]
  | _ => intro st xs st' sc es e h; exact (noA rfl h).elim
theorem snd_tup (as : Ex) (hs : Snd I G cf as) : Snd I G cf (.tup as) := snd_of (fun {X top We σ ρ H M B st x Q} p h r => by
  cases x <;> first | (exact absurd h Bool.false_ne_true) | skip
  rename_i es k pos
  obtain ⟨h1, h2⟩ := mem_bool (show (decide (es.length ≤ 1000) && chkA I as X.env.scope es) = true from h)
  refine evE_of (pe_tup pa_ev) (hs.A p h2 (Res.bindE r fun xs st1 vs H1 M1 e1 k1 s1 r1 hr1 => ⟨?_, fun p hp => hr1.aft.newT s1 r1 hp⟩))
  rw [← r1.length, evA_len as st xs st1 _ es e1 h2]
  exact Nat.le_of_lt (small1000 (of_decide_eq_true h1))) rfl rfl rfl rfl
theorem snd_lst (as : Ex) (hs : Snd I G cf as) : Snd I G cf (.lst as) := by
  have hF : FSnd I G cf (.lst as) := fun {X top We σ ρ H M B st x Q} p hf h r => by
    cases x <;> first | (exact absurd h Bool.false_ne_true) | skip
    rename_i es pos
    obtain ⟨h1, h2⟩ := mem_bool (show (decide (es.length ≤ 1000) && chkA I as X.env.scope es) = true from h)
    have r' : ResF (wd X I.nm) B (We σ) H M ((evA G cf as ρ st).bind fun xs st1 => .ok (.lst xs) st1) Q := r
    have bnd : ∀ xs st1 H1 M1 vs, evA G cf as ρ st = .ok xs st1 → Rels (wd X I.nm) H1 M1 B xs vs → vs.length ≤ sizeLine := fun xs st1 H1 M1 vs e1 r1 => by
      rw [← r1.length, evA_len as st xs st1 _ es e1 h2]
      exact Nat.le_of_lt (small1000 (of_decide_eq_true h1))
    refine evE_of (pe_lst pa_ev) (hs.A p h2 ?_)
    cases e : evA G cf as ρ st with
    | ok xs st1 =>
      rw [e] at r'
      exact fun vs H1 M1 k1 s1 r1 => ⟨bnd xs st1 H1 M1 vs e r1, fun p hp => ResF.now (ResF.mono r' k1) s1 r1 hp⟩
    | ex c st1 => rw [e] at r'; exact r'
    | bad => rw [e] at r'; exact r'
  refine snd_F (fun {X top We σ ρ H M B st x Q} p h r => hF p rfl h (ResF.of r fun v st' e => ?_)) rfl rfl rfl hF
  obtain ⟨xs, st1, _, e⟩ := bind_ok' e
  cases e
  exact ⟨_, rfl⟩
theorem snd_cell (e : Ex) (he : Snd I G cf e) : Snd I G cf (.cell e) := snd_of (fun {X top We σ ρ H M B st x Q} p h r => by
  obtain ⟨h1, h2⟩ := mem_bool (show (freshE e && chkE I e X.env.scope x) = true from h)
  refine he.F p h1 h2 ?_
  have r' : Res (wd X I.nm) B (RelR (wd X I.nm) B) (We σ) H M ((evE G cf e ρ st).bind fun x st1 => match x with
    | .lst xs => if noCels xs then .ok (.cel st1.length) (st1 ++ [.lst xs]) else .bad
    | _ => .bad) Q := r
  cases e1 : evE G cf e ρ st with
  | ok v st1 =>
    rw [e1] at r'
    cases v <;> first | (exact r'.elim) | skip
    rename_i xs
    refine ⟨xs, rfl, fun p vs H' M' hp h2 n b k s rr => ?_⟩
    have r2 : Res (wd X I.nm) B (RelR (wd X I.nm) B) (We σ) H M (if noCels xs then .ok (.cel st1.length) (st1 ++ [.lst xs]) else .bad) Q := r'
    by_cases hn : noCels xs = true
    · rw [if_pos hn] at r2
      refine r2 (.ref p) H' (M' ++ [p]) (k.cell hp) (s.own h2 n b rr) (.cel ?_)
      rw [← s.len]
      simp
    · rw [if_neg hn] at r2; exact r2.elim
  | ex c st1 => rw [e1] at r'; exact r'
  | bad => rw [e1] at r'; exact r'.elim) rfl rfl rfl rfl
theorem snd_call (m : CM) (f : Nat) (as : Ex) (hs : Snd I G cf as) : Snd I G cf (.call m f as) := snd_of (fun {X top We σ ρ H M B st x Q} p h r => by
  cases x <;> first | (exact absurd h Bool.false_ne_true) | skip
  rename_i fn es kw pos
  cases fn <;> first | (exact absurd h Bool.false_ne_true) | skip
  rename_i n np
  have hE : ∀ c st' H' M', We σ c st' H' M' → ∀ a, X.mg (I.nm c) = some (.ref a) → WE (Wof X I.nm We) σ (.ref a) none H' := fun c st' H' M' w a ha => ⟨c, st', M', a, rfl, rfl, ha, w⟩
  cases kw with
  | cons _ _ => cases es <;> exact absurd h Bool.false_ne_true
  | nil =>
    cases es with
    | nil =>
      obtain ⟨h0, h1⟩ := mem_bool (show (I.F f && (gOk I X.env.scope f n && chkA I as X.env.scope [])) = true from h)
      obtain ⟨h1, h2⟩ := mem_bool h1
      obtain ⟨g1, g2⟩ := mem_bool (show (decide (I.nm f = n) && (glB X.env.scope n && nodbg n)) = true from h1)
      obtain ⟨g2, g3⟩ := mem_bool g2
      obtain ⟨k, a, fd, ps, hr, hm, hk, hb, F⟩ := p.cx.fns f h0
      rw [of_decide_eq_true g1] at hm
      refine evE_of (pe_callS0 F hr (gl_of g2) hm hk hb (passAt p.cx.takes) (nodbg_of g3)) ?_
      have e1 : ∃ xs st1, evA G cf as ρ st = .ok xs st1 ∧ xs = [] ∧ st1 = st := by
        cases as <;> first | (exact (noA rfl h2).elim) | skip
        · exact ⟨[], st, rfl, rfl, rfl⟩
        · exact absurd h2 Bool.false_ne_true
      obtain ⟨xs, st1, e1, rfl, rfl⟩ := e1
      have r' : Res (wd X I.nm) B (RelR (wd X I.nm) B) (We σ) H M ((evA G cf as ρ st1).bind fun xs st1 => callP cf m f xs st1) Q := r
      rw [e1] at r'
      exact call_sp p.cl .nil r' hE
    | cons y ys =>
      obtain ⟨h0, h1⟩ := mem_bool (show (I.F f && (gOk I X.env.scope f n && chkA I as X.env.scope (y :: ys))) = true from h)
      obtain ⟨h1, h2⟩ := mem_bool h1
      obtain ⟨g1, g2⟩ := mem_bool (show (decide (I.nm f = n) && (glB X.env.scope n && nodbg n)) = true from h1)
      obtain ⟨g2, g3⟩ := mem_bool g2
      obtain ⟨k, a, fd, ps, hr, hm, hk, hb, F⟩ := p.cx.fns f h0
      rw [of_decide_eq_true g1] at hm
      have hst : starEach (y :: ys) X.env = (false, eval y X.env) :: starEach ys X.env ∧ (backTo pos (starEach ys X.env)).any (·.1) = false := by
        cases as <;> first | (exact (noA rfl h2).elim) | skip
        · exact absurd h2 Bool.false_ne_true
        · rename_i a as
          obtain ⟨c1, c2⟩ := mem_bool (show (chkE I a X.env.scope y && chkA I as X.env.scope ys) = true from h2)
          exact ⟨star_of (chk_odd c1) _, chkA_star _ _ as ys c2⟩
      refine evE_of (pe_callS F hr (gl_of g2) hm hk hb (passAt p.cx.takes) pa_ev (nodbg_of g3) hst.1 hst.2) (hs.A p h2 (Res.bind r fun xs st1 vs H1 M1 k1 s1 r1 hr1 => ?_))
      exact call_sp s1 r1 hr1 hE) rfl rfl rfl rfl

theorem list_ok {X : Cx} {nm : Nat → Str} {H : Hp} {M : List Addr} {B : Addr → Prop} {st : Sto} {Q : VK} {We : WeT} {as : List PV} {vs : List V} (s : Cels (wd X nm) H M B st) (r : Rels (wd X nm) H M B as vs)
    (h : ResF (wd X nm) B We H M (R.lift (biV st .list as) st) Q) : CallE X (.type "list") vs H Q := by
  obtain ⟨ys, e, hf⟩ := h.liftE
  clear h
  unfold biV at e
  split at e <;> first | contradiction | skip
  · cases e
    cases r with
    | cons r t =>
      cases t
      obtain ⟨p, us, rfl, q, rr⟩ := r.tupT
      exact .of call_list_of ⟨p, us, rfl, .inr q, fun l hl => ResF.now hf s rr hl⟩
  · obtain ⟨xs, e1, e2⟩ := Option.map_eq_some_iff.mp e
    cases e2
    cases r with
    | cons r t =>
      cases t
      obtain ⟨p, us, rfl, q, rr⟩ := asL_rel s r e1
      exact .of call_list_of ⟨p, us, rfl, .inl (.inl (.inl q)), fun l hl => ResF.now hf s rr hl⟩
theorem bi_free (b : Bi) : b.name ∈ bnames := by cases b <;> decide
theorem pe_bi {X : Cx} {b : Bi} {n : Str} {e : Expr} {es : List Expr} {t : TA} {np pos : Pos} (hn : b.name = n) (hg : Gl X n) (hm : X.mg n = none) (ha : PA X (e :: es) t)
    (he : starEach (e :: es) X.env = (false, eval e X.env) :: starEach es X.env) (hpl : (backTo pos (starEach es X.env)).any (·.1) = false) : PE X (.Call (.Name n np) (e :: es) [] pos) (tCB (CallE X b.val) t) := by
  subst hn
  cases b <;> first | exact pe_callB call_ev hg hm rfl ha (by decide) (by decide) he hpl | exact pe_callTy call_ev hg hm rfl ha (by decide) (by decide) he hpl
theorem snd_bi (b : Bi) (as : Ex) (hs : Snd I G cf as) : Snd I G cf (.bi b as) := by
  have key : ∀ {X : Cx} {top : Bool} {We : WeS} {σ : L2.St} {ρ : Env'} {H : Hp} {M : List Addr} {B : Addr → Prop} {st : Sto} {x : Expr} {Q : VK}, Pt I G cf X top We σ ρ H M B st → chkE I (.bi b as) X.env.scope x = true →
      (∀ es, chkA I as X.env.scope es = true → EvA X es σ H fun vs H1 => CallE X b.val vs H1 Q) → EvE X x σ H Q := fun {X top We σ ρ H M B st x Q} p h hq => by
    cases x <;> first | (exact absurd h Bool.false_ne_true) | skip
    rename_i fn es kw pos
    cases fn <;> first | (exact absurd h Bool.false_ne_true) | skip
    rename_i n np
    cases kw with
    | cons _ _ => cases es <;> exact absurd h Bool.false_ne_true
    | nil =>
      cases es with
      | nil => exact absurd h Bool.false_ne_true
      | cons y ys =>
        obtain ⟨h1, h2⟩ := mem_bool (show (decide (b.name = n) && (glB X.env.scope n && chkA I as X.env.scope (y :: ys))) = true from h)
        obtain ⟨h2, h3⟩ := mem_bool h2
        have hst : starEach (y :: ys) X.env = (false, eval y X.env) :: starEach ys X.env ∧ (backTo pos (starEach ys X.env)).any (·.1) = false := by
          cases as <;> first | (exact (noA rfl h3).elim) | skip
          · exact absurd h3 Bool.false_ne_true
          · rename_i a as
            obtain ⟨c1, c2⟩ := mem_bool (show (chkE I a X.env.scope y && chkA I as X.env.scope ys) = true from h3)
            exact ⟨star_of (chk_odd c1) _, chkA_star _ _ as ys c2⟩
        have hn := of_decide_eq_true h1
        exact evE_of (pe_bi hn (gl_of h2) (p.cx.free _ (by rw [← hn]; exact bi_free b)) pa_ev hst.1 hst.2) (hq _ h3)
  refine snd_F (fun {X top We σ ρ H M B st x Q} p h r => key p h fun es h3 => ?_) rfl rfl rfl (fun {X top We σ ρ H M B st x Q} p hf h r => key p h fun es h3 => ?_)
  · refine hs.A p h3 (Res.bind r fun xs st1 vs H1 M1 k1 s1 r1 hr1 => ?_)
    obtain ⟨c, e, q⟩ := Res.liftE hr1
    exact bi_ok p.cx.calm e s1 r1 q
  · cases b <;> first | (cases hf; done) | skip
    exact hs.A p h3 (ResF.bind r fun xs st1 vs H1 M1 k1 s1 r1 hr1 => list_ok s1 r1 hr1)
theorem snd_idx (a b : Ex) (ha : Snd I G cf a) (hb : Snd I G cf b) : Snd I G cf (.idx a b) := snd_of (fun {X top We σ ρ H M B st x Q} p h r => by
  cases x <;> first | (exact absurd h Bool.false_ne_true) | skip
  rename_i l rr pos
  obtain ⟨h1, h2⟩ := mem_bool (show (chkE I a X.env.scope l && chkE I b X.env.scope rr) = true from h)
  refine evE_of (pe_ix ix_seq pe_ev pe_ev (plainIx_of (chk_odd h2))) (two ha hb p h1 h2 r fun x y st2 u v H2 M2 k p2 r1 r2 hr2 => ?_)
  obtain ⟨c, e, q⟩ := Res.liftE hr2
  exact ix_of e p2.cl r1 r2 q) rfl rfl rfl rfl
/-! ### slices -/
def EvO (X : Cx) (e : Option Expr) : TO := fun σ H Q => ∀ (pins : List (Addr × Obj)) (s : Shared), Inv X pins σ H s →
  wpAny (model X.prog X.w) X.A (evalPart e X.env) (fun u s' => ∃ o H', Inv X pins σ H' s' ∧ IsPart u o ∧ Q o H') X.xe s
theorem po_ev {X : Cx} {e : Option Expr} : PO X e (EvO X e) := ⟨fun pins s _ _ _ I h => h pins s I⟩
theorem evO_of {X : Cx} {σ : L2.St} {H : Hp} {e : Option Expr} {t : TO} {Q : Option Int → Hp → Prop} (h : PO X e t) (q : t σ H Q) : EvO X e σ H Q := fun pins s I => h.run pins s σ H Q I q
theorem snd_part {a : Ex} (ha : Snd I G cf a) {X : Cx} {top : Bool} {We : WeS} {σ : L2.St} {ρ : Env'} {H : Hp} {M : List Addr} {B : Addr → Prop} {st : Sto} {l : Option Expr} {Q : Option Int → Hp → Prop} (p : Pt I G cf X top We σ ρ H M B st)
    (h : (match l with
    | none => a.isOmit
    | some l => chkE I a X.env.scope l) = true) (r : Res (wd X I.nm) B RelO (We σ) H M (optR a.isOmit (evE G cf a ρ) st) Q) : EvO X l σ H Q := by
  cases l with
  | none =>
    have h : a.isOmit = true := h
    rw [h] at r
    exact evO_of po_none (r none H M (.refl _ _) p.cl rfl)
  | some l =>
    have h : chkE I a X.env.scope l = true := h
    have ho : a.isOmit = false := by
      cases q : a.isOmit with
      | false => rfl
      | true => exact (noE (by rw [q]; simp) h).elim
    rw [ho] at r
    have r' : Res (wd X I.nm) B RelO (We σ) H M ((evE G cf a ρ st).bind fun x st1 => R.lift (oInt x) st1) Q := r
    refine evO_of (po_some pe_ev) (ha.E p h (Res.bind r' fun x st1 u H1 M1 k1 s1 r1 hr1 => ?_))
    cases x <;> first | (exact hr1.elim) | skip
    rename_i i
    cases r1
    exact ⟨i, rfl, hr1 (some i) H1 M1 (.refl _ _) s1 rfl⟩
theorem cutG_all {xs : List PV} {lo hi : Option Int} (h : HT.sIx xs.length 0 lo = 0 ∧ HT.sIx xs.length xs.length hi = xs.length) : cutG xs lo hi = xs := by
  unfold cutG
  rw [h.1, h.2]
  simp
theorem snd_sli (a lo hi : Ex) (ha : Snd I G cf a) (hl : Snd I G cf lo) (hh : Snd I G cf hi) : Snd I G cf (.sli a lo hi) := snd_of (fun {X top We σ ρ H M B st x Q} p h r => by
  cases x <;> first | (exact absurd h Bool.false_ne_true) | skip
  rename_i v sl pos
  cases sl <;> first | (exact absurd h Bool.false_ne_true) | skip
  rename_i l u stp spos
  cases stp with
  | some _ => exact absurd h Bool.false_ne_true
  | none =>
    obtain ⟨h1, h2⟩ := mem_bool (show (chkE I a X.env.scope v && ((match (generalizing := false) l with
    | none => lo.isOmit
    | some l => chkE I lo X.env.scope l) && (match (generalizing := false) u with
    | none => hi.isOmit
    | some h => chkE I hi X.env.scope h))) = true from h)
    obtain ⟨h2, h3⟩ := mem_bool h2
    refine evE_of (pe_slice (sl_list.or sl_tupA) pe_ev po_ev po_ev) (ha.E p h1 (Res.bind r fun x st1 y H1 M1 k1 s1 r1 hr1 => ?_))
    refine snd_part hl (p.go k1 s1) h2 (Res.bind hr1 fun ol st2 ol' H2 M2 k2 s2 e2 hr2 => ?_)
    subst e2
    refine snd_part hh (p.go (k1.trans k2) s2) h3 (Res.bind hr2 fun oh st3 oh' H3 M3 k3 s3 e3 hr3 => ?_)
    subst e3
    have ry := (r1.mono k2).mono k3
    have lst : ∀ xs, asL st3 x = some xs → Res (wd X I.nm) B (RelR (wd X I.nm) B) (We σ) H3 M3 (.ok (.lst (cutG xs ol' oh')) st3) Q → rSlL X.K y ol' oh' H3 Q ∨ rSlA X.K y ol' oh' H3 Q := fun xs e hq => by
      obtain ⟨a, vs, e1, q1, rr⟩ := asL_rel s3 ry e
      exact .inl ⟨a, vs, e1, .inl (.inl q1), fun p hp => hq.aft.newL s3 (rr.cut _ _) hp⟩
    have oth : Res (wd X I.nm) B (RelR (wd X I.nm) B) (We σ) H3 M3 (R.lift ((asL st3 x).map fun xs => .lst (cutG xs ol' oh')) st3) Q → rSlL X.K y ol' oh' H3 Q ∨ rSlA X.K y ol' oh' H3 Q := fun hq => by
      cases e : asL st3 x with
      | none => rw [e] at hq; exact hq.elim
      | some xs => rw [e] at hq; exact lst xs e hq
    cases x <;> first | (exact oth hr3) | skip
    rename_i xs
    obtain ⟨a, vs, e1, q1, rr⟩ := ry.tupT
    have q := Res.aft (show Res (wd X I.nm) B (RelR (wd X I.nm) B) (We σ) H3 M3 (.ok (.tup (cutG xs ol' oh')) st3) Q from hr3)
    refine .inr ⟨a, vs, e1, q1, fun hw => ?_, fun _ p hp => q.newT s3 (rr.cut _ _) hp⟩
    rw [← rr.length] at hw
    rw [cutG_all hw] at q
    rw [← e1]
    exact q.now s3 ry) rfl rfl rfl rfl
/-! ### what is walked -/
theorem evA1 {X : Cx} {y : Expr} {σ : L2.St} {H : Hp} {Q : List V → Hp → Prop} (ho : oddE y = false) (h : EvE X y σ H fun v H1 => Q [v] H1) : EvA X [y] σ H Q := evA_of (pa_cons pe_ev pa_nil (star_of ho _)) h
theorem evA2 {X : Cx} {y z : Expr} {σ : L2.St} {H : Hp} {Q : List V → Hp → Prop} (ho : oddE y = false) (ho2 : oddE z = false) (h : EvE X y σ H fun v H1 => EvE X z σ H1 fun u H2 => Q [v, u] H2) : EvA X [y, z] σ H Q :=
  evA_of (pa_cons pe_ev (pa_cons pe_ev pa_nil (star_of ho2 _)) (star_of ho _)) h
theorem noW {e : Ex} {sc : Scope} {xs : List Expr} (he : e.isI = true) (h : chkA I e sc xs = true) : False := by
  cases e <;> first | (cases he; done) | (cases xs <;> exact absurd h Bool.false_ne_true)
/-- forms that are walked -/
theorem snd_W {e : Ex} (hi : e.isI = true) (hW : ∀ {X : Cx} {top : Bool} {We : WeS} {σ : L2.St} {ρ : Env'} {H : Hp} {M : List Addr} {B : Addr → Prop} {st : Sto} {t x : Expr} {Q : It → Hp → Prop}, Pt I G cf X top We σ ρ H M B st → chkI I e X.env.scope t x = true →
    Res (wd X I.nm) B (ItR (wd X I.nm) B) (We σ) H M (evI G cf e ρ st) Q → EvI X t x σ H Q) : Snd I G cf e where
  E := fun p h => (noE (by rw [hi]; simp) h).elim
  T := fun p h => (noE (by rw [hi]; simp) h).elim
  A := fun p h => (noW hi h).elim
  W := hW
  F := fun p hf => by cases e <;> first | (cases hf; done) | (cases hi; done)
theorem rng_small {i : Int} (h : smallI i = true) : -(2 ^ 62) ≤ i ∧ i < 2 ^ 62 := by
  obtain ⟨h1, h2⟩ := mem_bool h
  have h1 := of_decide_eq_true h1
  have h2 := of_decide_eq_true h2
  have e : (2 : Int) ^ 60 < 2 ^ 62 := by decide
  constructor <;> omega
theorem snd_rng1 (a : Ex) (ha : Snd I G cf a) : Snd I G cf (.rng1 a) := snd_W rfl fun {X top We σ ρ H M B st t x Q} p h r => by
  cases x <;> first | (exact absurd h Bool.false_ne_true) | skip
  rename_i fn es kw pos
  cases fn <;> first | (exact absurd h Bool.false_ne_true) | skip
  rename_i n np
  rcases es with _ | ⟨y, _ | ⟨z, es⟩⟩ <;> rcases kw with _ | ⟨_, _⟩ <;> first | (exact absurd h Bool.false_ne_true) | skip
  obtain ⟨h1, h2⟩ := mem_bool (show (decide (n = ("range" : Str)) && (glB X.env.scope n && chkE I a X.env.scope y)) = true from h)
  obtain ⟨h2, h3⟩ := mem_bool h2
  have hn := of_decide_eq_true h1
  subst hn
  refine evI_of (pi_range1 (gl_of h2) (p.cx.free _ (by decide)) pa_ev (star_of (chk_odd h3) _)) (evA1 (chk_odd h3) (ha.E p h3 (Res.bind r fun x st1 u H1 M1 k1 s1 r1 hr1 => ?_)))
  cases x <;> first | (exact hr1.elim) | skip
  rename_i j
  cases r1
  have hr2 : Res (wd X I.nm) B (ItR (wd X I.nm) B) (We σ) H1 M1 (if smallI j then .ok (rngL 0 j.toNat) st1 else .bad) Q := hr1
  by_cases hs : smallI j = true
  · rw [if_pos hs] at hr2
    obtain ⟨b1, b2⟩ := rng_small hs
    exact ⟨j, rfl, b1, b2, hr2 _ H1 M1 (.refl _ _) s1 (.rng 0 _)⟩
  · rw [if_neg hs] at hr2; exact hr2.elim
theorem snd_rng2 (a b : Ex) (ha : Snd I G cf a) (hb : Snd I G cf b) : Snd I G cf (.rng2 a b) := snd_W rfl fun {X top We σ ρ H M B st t x Q} p h r => by
  cases x <;> first | (exact absurd h Bool.false_ne_true) | skip
  rename_i fn es kw pos
  cases fn <;> first | (exact absurd h Bool.false_ne_true) | skip
  rename_i n np
  rcases es with _ | ⟨y, _ | ⟨z, _ | ⟨z2, es⟩⟩⟩ <;> rcases kw with _ | ⟨_, _⟩ <;> first | (exact absurd h Bool.false_ne_true) | skip
  obtain ⟨h1, h2⟩ := mem_bool (show (decide (n = ("range" : Str)) && (glB X.env.scope n && (chkE I a X.env.scope y && chkE I b X.env.scope z))) = true from h)
  obtain ⟨h2, h3⟩ := mem_bool h2
  obtain ⟨h3, h4⟩ := mem_bool h3
  have hn := of_decide_eq_true h1
  subst hn
  refine evI_of (pi_range2 (gl_of h2) (p.cx.free _ (by decide)) pa_ev (by rw [star_of (chk_odd h3), star_of (chk_odd h4)]; rfl) (star_of (chk_odd h4) _)) (evA2 (chk_odd h3) (chk_odd h4) (two ha hb p h3 h4 r fun x y st2 u v H2 M2 k p2 r1 r2 hr2 => ?_))
  cases x <;> first | (exact hr2.elim) | skip
  rename_i i
  cases y <;> first | (exact hr2.elim) | skip
  rename_i j
  cases r1
  cases r2
  have hr3 : Res (wd X I.nm) B (ItR (wd X I.nm) B) (We σ) H2 M2 (if smallI i && smallI j then .ok (rngL i (j - i).toNat) st2 else .bad) Q := hr2
  by_cases hs : (smallI i && smallI j) = true
  · rw [if_pos hs] at hr3
    obtain ⟨s1, s2⟩ := mem_bool hs
    obtain ⟨b1, b2⟩ := rng_small s1
    obtain ⟨b3, b4⟩ := rng_small s2
    exact ⟨i, j, rfl, ⟨b1, b2, b3, b4⟩, hr3 _ H2 M2 (.refl _ _) p2.cl (.rng i _)⟩
  · rw [if_neg hs] at hr3; exact hr3.elim
theorem snd_zip (a b : Ex) (ha : Snd I G cf a) (hb : Snd I G cf b) : Snd I G cf (.zip a b) := snd_W rfl fun {X top We σ ρ H M B st t x Q} p h r => by
  cases t <;> first | (exact absurd h Bool.false_ne_true) | skip
  cases x <;> first | (exact absurd h Bool.false_ne_true) | skip
  rename_i fn es kw pos
  cases fn <;> first | (exact absurd h Bool.false_ne_true) | skip
  rename_i n np
  rcases es with _ | ⟨y, _ | ⟨z, _ | ⟨z2, es⟩⟩⟩ <;> rcases kw with _ | ⟨_, _⟩ <;> first | (exact absurd h Bool.false_ne_true) | skip
  obtain ⟨h1, h2⟩ := mem_bool (show (decide (n = ("zip" : Str)) && (glB X.env.scope n && (chkE I a X.env.scope y && chkE I b X.env.scope z))) = true from h)
  obtain ⟨h2, h3⟩ := mem_bool h2
  obtain ⟨h3, h4⟩ := mem_bool h3
  have hn := of_decide_eq_true h1
  subst hn
  refine evI_of (pi_zipG (gl_of h2) (p.cx.free _ (by decide)) pa_ev (star_of (chk_odd h3) _) (by rw [star_of (chk_odd h4)]; rfl)) (evA2 (chk_odd h3) (chk_odd h4) (two ha hb p h3 h4 r fun x y st2 u v H2 M2 k p2 r1 r2 hr2 => ?_))
  cases e1 : walkL x with
  | none => rw [e1] at hr2; exact hr2.elim
  | some xs =>
    cases e2 : walkL y with
    | none => rw [e1, e2] at hr2; exact hr2.elim
    | some ys =>
      rw [e1, e2] at hr2
      obtain ⟨t1, a1, vs, q1, w1, rr1⟩ := walkL_rel e1 r1
      obtain ⟨t2, a2, us, q2, w2, rr2⟩ := walkL_rel e2 r2
      subst q1 q2
      exact ⟨a1, a2, t1, t2, vs, us, rfl, w1 _ _ (.refl _ _), w2 _ _ (.refl _ _), hr2 _ H2 M2 (.refl _ _) p2.cl (ItR.zip w1 w2 rr1 rr2)⟩
theorem snd_enu (a : Ex) (ha : Snd I G cf a) : Snd I G cf (.enu a) := snd_W rfl fun {X top We σ ρ H M B st t x Q} p h r => by
  cases t <;> first | (exact absurd h Bool.false_ne_true) | skip
  cases x <;> first | (exact absurd h Bool.false_ne_true) | skip
  rename_i fn es kw pos
  cases fn <;> first | (exact absurd h Bool.false_ne_true) | skip
  rename_i n np
  rcases es with _ | ⟨y, _ | ⟨z, es⟩⟩ <;> rcases kw with _ | ⟨_, _⟩ <;> first | (exact absurd h Bool.false_ne_true) | skip
  obtain ⟨h1, h2⟩ := mem_bool (show (decide (n = ("enumerate" : Str)) && (glB X.env.scope n && chkE I a X.env.scope y)) = true from h)
  obtain ⟨h2, h3⟩ := mem_bool h2
  have hn := of_decide_eq_true h1
  subst hn
  refine evI_of (pi_enumG (gl_of h2) (p.cx.free _ (by decide)) pa_ev (star_of (chk_odd h3) _)) (evA1 (chk_odd h3) (ha.E p h3 (Res.bind r fun x st1 u H1 M1 k1 s1 r1 hr1 => ?_)))
  cases e1 : walkL x with
  | none => rw [e1] at hr1; exact hr1.elim
  | some xs =>
    rw [e1] at hr1
    obtain ⟨t1, a1, vs, q1, w1, rr1⟩ := walkL_rel e1 r1
    subst q1
    exact ⟨a1, t1, vs, rfl, w1 _ _ (.refl _ _), hr1 _ H1 M1 (.refl _ _) s1 (ItR.enu w1 rr1)⟩
/-- a list or a tuple, walked -/
theorem pi_sq {X : Cx} {tg l : Expr} {tl : TE} (hl : PE X l tl) : PI X tg l (fun σ H R => tl σ H fun x H1 => ∃ t a xs, x = .ref a ∧ SqB t X.K H1 a xs ∧ R (match t with | false => Itl X.K a | true => Itt X.K a) H1) := by
  refine ⟨fun pins s σ H R I h => ?_⟩
  refine thn (hl.run pins s σ H _ I h) fun v s1 ⟨x, H1, I1, r1, q1⟩ => ?_
  obtain ⟨t, a, xs, e, hq, q⟩ := q1
  subst e
  cases r1
  cases t with
  | false =>
    obtain ⟨its, rv, p, hz⟩ := I1.list hq
    refine wpAny_pyIter_list p.isList ?_
    refine ⟨s1.heap.objs.size, [s1.heap.objs.size], _, _, H1, rfl, I1.kept (t' := s1.toks) fun b o e => Heap.get?_push_of_some _ e, turn_list a _, ⟨_, Heap.get?_push_size _ rfl, rfl, rfl⟩, fun b hb => ?_, q⟩
    have e : b = s1.heap.objs.size := by simpa using hb
    subst e
    exact I1.fpOk (Nat.le_refl _) (I1.hok.fresh (Nat.le_refl _))
  | true =>
    obtain ⟨its, rv, p, hz⟩ := I1.tuple hq
    refine wpAny_pyIter_tuple (show s1.heap.IsTuple a its.toArray from p) ?_
    refine ⟨s1.heap.objs.size, [s1.heap.objs.size], _, _, H1, rfl, I1.kept (t' := s1.toks) fun b o e => Heap.get?_push_of_some _ e, turn_tuple a _, ⟨_, Heap.get?_push_size _ rfl, rfl, rfl⟩, fun b hb => ?_, q⟩
    have e : b = s1.heap.objs.size := by simpa using hb
    subst e
    exact I1.fpOk (Nat.le_refl _) (I1.hok.fresh (Nat.le_refl _))
theorem snd_sq (a : Ex) (ha : Snd I G cf a) : Snd I G cf (.sq a) := snd_W rfl fun {X top We σ ρ H M B st t x Q} p h r => by
  have h : chkE I a X.env.scope x = true := h
  refine evI_of (pi_sq pe_ev) (ha.E p h (Res.bind r fun x st1 u H1 M1 k1 s1 r1 hr1 => ?_))
  cases e1 : walkL x with
  | none => rw [e1] at hr1; exact hr1.elim
  | some xs =>
    rw [e1] at hr1
    obtain ⟨t1, a1, vs, q1, w1, rr1⟩ := walkL_rel e1 r1
    subst q1
    refine ⟨t1, a1, vs, rfl, w1 _ _ (.refl _ _), hr1 _ H1 M1 (.refl _ _) s1 ?_⟩
    cases t1 with
    | false => exact ItR.lst w1 rr1
    | true => exact ItR.tup w1 rr1
theorem snd_omit : Snd I G cf .omit where
  E := fun p h => (noE rfl h).elim
  T := fun p h => (noE rfl h).elim
  A := fun p h => (noA rfl h).elim
  W := fun p h => (noI rfl h).elim
  F := fun p hf => by cases hf

/-! ### ranges, listed -/
theorem rel_rng {w : Wd} {H : Hp} {M : List Addr} {B : Addr → Prop} (l : List Nat) (f : Nat → Int) : Rels w H M B (l.map fun i => PV.int (f i)) (l.map fun i => V.int (f i)) := by
  induction l with
  | nil => exact .nil
  | cons a l ih => exact .cons (.int _) ih
def rgD (a b : Int) : List V := (List.range (a - b).toNat).map fun i => V.int (a - (i : Nat))
theorem vals_rgD {a b : Int} {acc : Array Value} (h : ItemsOf (fun i v => ∃ t, v = .int (a + i * -1) t) acc (a - b).toNat) : Vals (rgD a b) acc.toList := by
  have e : acc.toList.length = (a - b).toNat := by rw [Array.length_toList]; exact h.1
  unfold rgD
  rw [← e]
  refine vals_of_get acc.toList _ fun j u hj => ?_
  obtain ⟨t, rfl⟩ := h.2 j u (by rw [← hj, Array.getElem?_toList])
  exact ⟨t, by congr 1; omega⟩
theorem lrg_small {i : Int} (h : smallI i = true) : -(2 ^ 62) ≤ i ∧ i < 2 ^ 62 := by
  obtain ⟨h1, h2⟩ := mem_bool h
  have h1 := of_decide_eq_true h1
  have h2 := of_decide_eq_true h2
  have e : (2 : Int) ^ 60 < 2 ^ 62 := by decide
  constructor <;> omega
def PRgD (X : Cx) (e : Expr) (t : L2.St → Hp → (Int → Int → Hp → Prop) → Prop) : Prop :=
  ∀ (pins : List (Addr × Obj)) (s : Shared) (σ : L2.St) (H : Hp) (Q : Int → Int → Hp → Prop), Inv X pins σ H s → t σ H Q →
    wpAny (model X.prog X.w) X.A (eval e X.env) (fun x s' => ∃ r a b t u v H', x = .ref r ∧ IsRange s'.heap r a b (-1) t u v ∧ Inv X pins σ H' s' ∧ Q a b H') X.xe s
def tRgD (ta tb : TE) : L2.St → Hp → (Int → Int → Hp → Prop) → Prop := fun σ H Q => ta σ H fun x H1 => tb σ H1 fun w H2 => ∃ k : Int, V.int 1 = .int k ∧ ∃ a b, [x, w, .int (-k)] = [V.int a, .int b, .int (-1)] ∧ Q a b H2
theorem prg_d {X : Cx} {ta tb : TE} {y z : Expr} {rp p1 p2 pos : Pos} {j : Nat} (hg : Gl X "range") (hm : X.mg "range" = none) (ha : PE X y ta) (hb : PE X z tb) (oa : oddE y = false) (ob : oddE z = false) :
    PRgD X (.Call (.Name "range" rp) [y, z, .UnaryOp .USub (.Constant (.int 1) j p1) p2] [] pos) (tRgD ta tb) := by
  intro pins s σ H Q I h
  have pm : PE X (.UnaryOp .USub (.Constant (.int 1) j p1) p2) (tUn (rU fun i => .int (-i)) (tC (.int 1))) := pe_un un_neg pe_int
  have pa : PA X [y, z, .UnaryOp .USub (.Constant (.int 1) j p1) p2] (tCons ta (tCons tb (tCons (tUn (rU fun i => .int (-i)) (tC (.int 1))) tNil))) := pa_cons ha (pa_cons hb (pa_cons pm pa_nil) (star_of ob _)) (star_of oa _)
  have hpl : (backTo pos (starEach [z, .UnaryOp .USub (.Constant (.int 1) j p1) p2] X.env)).any (·.1) = false := by rw [star_of ob]; rfl
  refine Call_ (ld_blt I hg hm boot_range (PyProof.Rows.callWith_type1 (thn (pa.run pos pins s σ H (fun vs H1 => ∃ a b, vs = [.int a, .int b, .int (-1)] ∧ Q a b H1) I h) fun us s1 ⟨vs, H1, I1, r1, a, b, e, q⟩ => ?_) (star_of oa _) hpl))
  subst e
  cases r1 with
  | cons r rr =>
    cases rr with
    | cons r' rr =>
      cases rr with
      | cons r'' rr =>
        cases rr
        obtain ⟨t, rfl⟩ := r
        obtain ⟨t', rfl⟩ := r'
        obtain ⟨t'', rfl⟩ := r''
        refine call_range_3 (by decide) ?_ (.inl (PyProof.noPylong_small (by decide)))
        exact ⟨_, a, b, _, _, _, H1, rfl, IsRange.new _ _ _ _ _ _ _, I1.kept (t' := s1.toks) fun b o e => Heap.get?_push_of_some _ e, q⟩
theorem pe_listRgD {X : Cx} {e : Expr} {te : L2.St → Hp → (Int → Int → Hp → Prop) → Prop} {p pos : Pos} (hc : X.calm = true) (hg : Gl X "list") (hm : X.mg "list" = none) (he : PRgD X e te) (na : starEach [e] X.env = (false, eval e X.env) :: starEach [] X.env) :
    PE X (.Call (.Name "list" p) [e] [] pos) (fun σ H Q => te σ H fun a b H1 => RgOk b a ∧ ∀ q, H1 q = none → Q (.ref q) (upd H1 q (.lst (rgD a b)))) := by
  refine ⟨fun pins s σ H Q I h => ?_⟩
  refine Call_ (ld_blt I hg hm boot_list (PyProof.Rows.callWith_type1 (args_cons (thn (he pins s σ H _ I h) fun x s1 ⟨r, a, b, t, u, v, H1, ex, hr, I1, ok, q⟩ => args_nil ?_) na) na))
  subst ex
  obtain ⟨b1, b2, b3, b4, b5⟩ := ok
  refine call_list_range (n := (a - b).toNat) (I1.ok.hd hc) hr (PySem.W.small_down b3 b4 b1 b2) (PySem.W.rangeSize_downNat a b) b5 fun h' tk acc c' hk e' hi => ?_
  refine ⟨.ref s1.heap.objs.size, upd H1 s1.heap.objs.size (.lst (rgD a b)), I1.laid hk (Nat.le_refl _) (show ObjOk X.prog X.w _ _ _ (.lst (rgD a b)) from ⟨?_, acc.toList, c', vals_rgD hi, ?_⟩), rfl, q _ (I1.hok.fresh (Nat.le_refl _))⟩
  · unfold rgD; rw [List.length_map, List.length_range, sizeLine_eq]; omega
  · rw [Array.toArray_toList]; exact e'
theorem lrgV_eq {dn : Bool} {x y ys : PV} (e : lrgV dn x y = some ys) : ∃ i j, x = .int i ∧ y = .int j ∧ smallI i = true ∧ smallI j = true ∧ (if dn then i - j else j - i).toNat ≤ big ∧ ys = .lst (if dn then rngD i (i - j).toNat else rngL i (j - i).toNat) := by
  unfold lrgV at e
  split at e
  · rename_i i j
    by_cases h : (smallI i && (smallI j && decide ((if dn then i - j else j - i).toNat ≤ big))) = true
    · rw [if_pos h] at e
      obtain ⟨h1, h2⟩ := mem_bool h
      obtain ⟨h2, h3⟩ := mem_bool h2
      exact ⟨_, _, rfl, rfl, h1, h2, of_decide_eq_true h3, (Option.some.inj e).symm⟩
    · rw [if_neg h] at e; cases e
  · cases e
theorem big24 : big ≤ 2 ^ 24 := by decide
theorem chk_lrg {a b : Ex} {sc : Scope} {x : Expr} (h : chkE I (.lrg a b) sc x = true) : ∃ np rp pos cpos y z, x = .Call (.Name "list" np) [.Call (.Name "range" rp) [y, z] [] cpos] [] pos ∧ glB sc "list" = true ∧ glB sc "range" = true ∧ chkE I a sc y = true ∧ chkE I b sc z = true := by
  unfold chkE at h
  split at h
  all_goals first | contradiction | skip
  rename_i e1
  cases e1
  obtain ⟨h1, h⟩ := mem_bool h
  obtain ⟨h2, h⟩ := mem_bool h
  obtain ⟨h3, h⟩ := mem_bool h
  obtain ⟨h4, h⟩ := mem_bool h
  obtain ⟨h5, h6⟩ := mem_bool h
  have e1 := of_decide_eq_true h1
  have e2 := of_decide_eq_true h2
  subst e1; subst e2
  exact ⟨_, _, _, _, _, _, rfl, h3, h4, h5, h6⟩

theorem chk_lrd {a b : Ex} {sc : Scope} {x : Expr} (h : chkE I (.lrd a b) sc x = true) : ∃ np rp pos cpos p1 p2 j y z, x = .Call (.Name "list" np) [.Call (.Name "range" rp) [y, z, .UnaryOp .USub (.Constant (.int 1) j p1) p2] [] cpos] [] pos ∧ glB sc "list" = true ∧ glB sc "range" = true ∧ chkE I a sc y = true ∧ chkE I b sc z = true := by
  unfold chkE at h
  split at h
  all_goals first | contradiction | skip
  rename_i e1
  cases e1
  obtain ⟨h1, h⟩ := mem_bool h
  obtain ⟨h2, h⟩ := mem_bool h
  obtain ⟨h3, h⟩ := mem_bool h
  obtain ⟨h4, h⟩ := mem_bool h
  obtain ⟨h5, h6⟩ := mem_bool h
  have e1 := of_decide_eq_true h1
  have e2 := of_decide_eq_true h2
  subst e1; subst e2
  exact ⟨_, _, _, _, _, _, _, _, _, rfl, h3, h4, h5, h6⟩
theorem lrg_isl {dn : Bool} {a b : Ex} {ρ : Env'} {st st' : Sto} {v : PV} (e : ((evE G cf a ρ st).bind fun x st1 => (evE G cf b ρ st1).bind fun y st2 => R.lift (lrgV dn x y) st2) = .ok v st') : ∃ xs, v = .lst xs := by
  obtain ⟨x1, st1, _, e⟩ := bind_ok' e
  obtain ⟨x2, st2, _, e⟩ := bind_ok' e
  obtain ⟨e, _⟩ := lift_ok e
  obtain ⟨i, j, _, _, _, _, _, e⟩ := lrgV_eq e
  exact ⟨_, e⟩
theorem snd_lrg (a b : Ex) (ha : Snd I G cf a) (hb : Snd I G cf b) : Snd I G cf (.lrg a b) := by
  have hF : FSnd I G cf (.lrg a b) := fun {X top We σ ρ H M B st x Q} p hf h r => by
    obtain ⟨np, rp, pos, cpos, y, z, rfl, h3, h4, h5, h6⟩ := chk_lrg h
    refine evE_of (pe_listRg p.cx.calm (gl_of h3) (p.cx.free _ (by decide)) (prg_2 (gl_of h4) (p.cx.free _ (by decide)) pe_ev pe_ev (star_of (chk_odd h5) _) (star_of (chk_odd h6) _) (by rw [star_of (chk_odd h6)]; rfl))) ?_
    refine ha.E p h5 (ResF.bind r fun x st1 u H1 M1 k1 s1 r1 hr1 => hb.E (p.go k1 s1) h6 (ResF.bind hr1 fun y st2 v H2 M2 k2 s2 r2 hr2 => ?_))
    obtain ⟨ys, e, hr3⟩ := hr2.liftE
    obtain ⟨i, j, rfl, rfl, q1, q2, q3, e⟩ := lrgV_eq e
    cases e
    cases r1
    cases r2
    obtain ⟨a1, a2⟩ := lrg_small q1
    obtain ⟨a3, a4⟩ := lrg_small q2
    exact ⟨i, j, rfl, rfl, ⟨a1, a2, a3, a4, Nat.le_trans q3 big24⟩, fun q hq => hr3.now s2 (rel_rng _ _) hq⟩
  exact snd_F (fun {X top We σ ρ H M B st x Q} p h r => hF p rfl h (ResF.of r fun v st' e => lrg_isl e)) rfl rfl rfl hF
theorem snd_lrd (a b : Ex) (ha : Snd I G cf a) (hb : Snd I G cf b) : Snd I G cf (.lrd a b) := by
  have hF : FSnd I G cf (.lrd a b) := fun {X top We σ ρ H M B st x Q} p hf h r => by
    obtain ⟨np, rp, pos, cpos, p1, p2, j, y, z, rfl, h3, h4, h5, h6⟩ := chk_lrd h
    refine evE_of (pe_listRgD p.cx.calm (gl_of h3) (p.cx.free _ (by decide)) (prg_d (gl_of h4) (p.cx.free _ (by decide)) pe_ev pe_ev (chk_odd h5) (chk_odd h6)) rfl) ?_
    refine ha.E p h5 (ResF.bind r fun x st1 u H1 M1 k1 s1 r1 hr1 => hb.E (p.go k1 s1) h6 (ResF.bind hr1 fun y st2 v H2 M2 k2 s2 r2 hr2 => ?_))
    obtain ⟨ys, e, hr3⟩ := hr2.liftE
    obtain ⟨i, j, rfl, rfl, q1, q2, q3, e⟩ := lrgV_eq e
    cases e
    cases r1
    cases r2
    obtain ⟨a1, a2⟩ := lrg_small q1
    obtain ⟨a3, a4⟩ := lrg_small q2
    exact ⟨1, rfl, i, j, rfl, ⟨a3, a4, a1, a2, Nat.le_trans q3 big24⟩, fun q hq => hr3.now s2 (rel_rng _ _) hq⟩
  exact snd_F (fun {X top We σ ρ H M B st x Q} p h r => hF p rfl h (ResF.of r fun v st' e => lrg_isl e)) rfl rfl rfl hF
end
end Mi

end

section
set_option linter.all false
set_option maxRecDepth 100000
/-! Mi, part I: comprehensions; every expression keeps the promise. -/
namespace Mi
open PySem PySem.Spec PyProof.Rows L2

section
variable {I : Info} {G : GlobF} {cf : CallF}
/-- a comprehension's turn -/
def turnR (G : GlobF) (cf : CallF) (tg : Tg) (ow : List Nat) (c e : Ex) (ρ : Env') (x : PV) (st : Sto) : R (Option PV) :=
  R.noEx <| match setTg tg x (wipeP ρ ow) with
    | none => .bad
    | some ρ' => (tstR c.isOmit (evE G cf c ρ') st).bind fun b st => if b then (evE G cf e ρ' st).bind fun y st => .ok (some y) st else .ok none st
theorem evE_comp {tg : Tg} {ow : List Nat} {it c e : Ex} {ρ : Env'} {st : Sto} : evE G cf (.comp tg ow it c e) ρ st = (evI G cf it ρ st).bind fun xs st1 => (compR (turnR G cf tg ow c e ρ) xs st1).bind fun ys st2 => if ys.length ≤ big then .ok (.lst ys) st2 else .bad := rfl
theorem compR_noex {f : PV → Sto → R (Option PV)} (hf : ∀ x st c st', f x st ≠ .ex c st') : ∀ (xs : List PV) (st : Sto) (c : Nat) (st' : Sto), compR f xs st ≠ .ex c st'
  | [], st, c, st', h => by cases h
  | x :: xs, st, c, st', h => by
    unfold compR at h
    cases e : f x st with
    | ok o st1 =>
      rw [e] at h
      cases e2 : compR f xs st1 with
      | ok ys st2 => rw [R.bind_ok, e2] at h; cases h
      | ex c2 st2 => exact compR_noex hf xs st1 c2 st2 e2
      | bad => rw [R.bind_ok, e2] at h; cases h
    | ex c2 st2 => exact hf x st c2 st2 e
    | bad => rw [e] at h; cases h
theorem noEx_ok' {α : Type} {r : R α} {a : α} {st : Sto} (h : r.noEx = .ok a st) : r = .ok a st := by
  cases r with
  | ok b st' => exact h
  | ex c st' => cases h
  | bad => cases h
theorem turnR_noex {tg : Tg} {ow : List Nat} {c e : Ex} {ρ : Env'} (x : PV) (st : Sto) (k : Nat) (st' : Sto) : turnR G cf tg ow c e ρ x st ≠ .ex k st' := by
  unfold turnR R.noEx
  split
  · exact fun h => by cases h
  · exact fun h => by cases h
/-- in a block no error leaves -/
def WeN : WeS := fun _ _ _ _ _ => False
theorem Ctx.blk {X : Cx} {top : Bool} {We : WeS} (cx : Ctx I G cf X top We) (s : Shared) (H : Hp) (scope : Scope) (cenv : Env) (fp : List Addr) : Ctx I G cf (X.blk s H scope cenv fp) false WeN where
  calm := cx.calm
  nd := cx.nd
  N := cx.N
  takes := fun u s' ⟨a, B, sI, pins, σ, H, cls, d, _, _, _, _, _, _, _, _, ⟨_, _, _, _, _, _, _, w⟩⟩ => w.elim
  un := cx.un
  fns := cx.fns
  glob := cx.glob
  free := cx.free
  fn := fun h => by cases h
theorem own_ix (I : Info) (ow : List Nat) : (ownOf I ow).map (·.2) = ow := by
  unfold ownOf
  rw [List.map_map]
  exact List.map_id' ow
theorem chkI_odd {e : Ex} {sc : Scope} {t x : Expr} (h : chkI I e sc t x = true) : oddE x = false := by
  cases e with
  | sq a => exact chk_odd (show chkE I a sc x = true from h)
  | rng1 a => cases x <;> first | rfl | (exact absurd h Bool.false_ne_true)
  | rng2 a b => cases x <;> first | rfl | (exact absurd h Bool.false_ne_true)
  | zip a b => cases t <;> first | (exact absurd h Bool.false_ne_true) | (cases x <;> first | rfl | (exact absurd h Bool.false_ne_true))
  | enu a => cases t <;> first | (exact absurd h Bool.false_ne_true) | (cases x <;> first | rfl | (exact absurd h Bool.false_ne_true))
  | _ => exact (noI rfl h).elim
theorem Kp.chgD {H1 H : Hp} {M1 M : List Addr} {D : Addr} {o : HO} (k : Kp H1 M1 H M) (hD : H1 D = none) : Kp H1 M1 (upd H D o) M :=
  ⟨fun a u e n => ⟨by rw [upd_ne (ne_of_none e hD)]; exact (k.h a u e n).1, (k.h a u e n).2⟩, k.m, fun a e => by
    unfold upd at e
    by_cases q : a = D
    · rw [q]; exact hD
    · rw [if_neg q] at e; exact k.d a e⟩
theorem Res.ok' {α β : Type} {w : Wd} {B : Addr → Prop} {rel : Rl α β} {We : WeT} {H : Hp} {M : List Addr} {r : R α} {a : α} {st : Sto} {Q : β → Hp → Prop} (e : r = .ok a st) (h : ∀ v H' M', Kp H M H' M' → Cels w H' M' B st → rel H' M' a v → Q v H') : Res w B rel We H M r Q := by
  subst e; exact h
def ComPv (w : Wd) (B : Addr → Prop) (H1 : Hp) (M1 : List Addr) (D : Addr) (f : PV → Sto → R (Option PV)) (xs ys : List PV) (st2 : Sto) (i : Nat) (H : Hp) : Prop :=
  ∃ M st acc vs rest, compR f (xs.drop i) st = .ok rest st2 ∧ acc ++ rest = ys ∧ Kp H1 M1 H M ∧ Cels w H M (With B D) st ∧ H D = some (.lst vs) ∧ D ∉ M ∧ Rels w H M (With B D) acc vs
def ttOf (X : Cx) (scope : Scope) (ifs : List Expr) : TT := fun σ H Q => ∀ (s : Shared) (H0 : Hp) (C : Addr) (cl : List (Str × Addr)) (fp : List Addr), EvP (X.blk s H0 scope (compEnvC scope cl C X.env) fp) ifs σ H Q
def teOf (X : Cx) (scope : Scope) (elt : Expr) : TE := fun σ H Q => ∀ (s : Shared) (H0 : Hp) (C : Addr) (cl : List (Str × Addr)) (fp : List Addr), EvE (X.blk s H0 scope (compEnvC scope cl C X.env) fp) elt σ H Q
/-- what a comprehension's text is -/
structure CompIs (I : Info) (tg : Tg) (ow : List Nat) (it c e : Ex) (sc : Scope) (elt t iter : Expr) (ifs : List Expr) (scope : Scope) : Prop where
  blk : blkC I.N sc scope (ownOf I ow) = true
  sl : ∀ i ∈ tg.slots, i ∈ ow
  it : chkI I it sc t iter = true
  tg : chkTg I false (relS scope sc) tg t = true
  ifs : (match (generalizing := false) ifs with
        | [] => c.isOmit
        | x :: [] => chkE I c (relS scope sc) x
        | _ => false) = true
  elt : chkE I e (relS scope sc) elt = true
theorem comp_is {tg : Tg} {ow : List Nat} {it c e : Ex} {sc : Scope} {x : Expr} (h : chkE I (.comp tg ow it c e) sc x = true) : ∃ elt t iter ifs scope pos, x = .ListComp elt [⟨t, iter, ifs, 0⟩] scope pos ∧ CompIs I tg ow it c e sc elt t iter ifs scope := by
  cases x <;> first | (exact absurd h Bool.false_ne_true) | skip
  rename_i elt gens scope pos
  rcases gens with _ | ⟨⟨t, iter, ifs, k⟩, _ | ⟨_, _⟩⟩
  · exact absurd h Bool.false_ne_true
  · rcases k with (_ | k) | k
    · have h : chkE I (.comp tg ow it c e) sc (.ListComp elt [⟨t, iter, ifs, 0⟩] scope pos) = true := h
      refine ⟨elt, t, iter, ifs, scope, pos, rfl, ?_⟩
      obtain ⟨h1, h⟩ := mem_bool (show (blkC I.N sc scope (ownOf I ow) && (tg.slots.all (ow.contains ·) && (chkI I it sc t iter && (chkTg I false (relS scope sc) tg t && ((match (generalizing := false) ifs with
        | [] => c.isOmit
        | x :: [] => chkE I c (relS scope sc) x
        | _ => false) && chkE I e (relS scope sc) elt))))) = true from h)
      obtain ⟨h2, h⟩ := mem_bool h
      obtain ⟨h3, h⟩ := mem_bool h
      obtain ⟨h4, h⟩ := mem_bool h
      obtain ⟨h5, h6⟩ := mem_bool h
      exact ⟨h1, fun i hi => by simpa using List.all_eq_true.mp h2 i hi, h3, h4, h5, h6⟩
    · exact absurd h Bool.false_ne_true
    · exact absurd h Bool.false_ne_true
  · rcases k with (_ | k) | k <;> exact absurd h Bool.false_ne_true
theorem comp_tlc {tg : Tg} {ow : List Nat} {it c e : Ex} (hi : Snd I G cf it) (hc : Snd I G cf c) (he : Snd I G cf e) {X : Cx} {top : Bool} {We : WeS} {σ : L2.St} {ρ : Env'} {H : Hp} {M : List Addr} {B : Addr → Prop} {st : Sto} {Q : VK} {elt t iter : Expr} {ifs : List Expr} {scope : Scope}
    (p : Pt I G cf X top We σ ρ H M B st) (k : CompIs I tg ow it c e X.env.scope elt t iter ifs scope) (r : ResF (wd X I.nm) B (We σ) H M (evE G cf (.comp tg ow it c e) ρ st) Q) : tLc (EvI X t iter) (tg.g X.K) (ttOf X scope ifs) (teOf X scope elt) ow σ H Q := by
  obtain ⟨h1, hsl, h3, h4, h5, h6⟩ := k
  rw [evE_comp] at r
  refine hi.W p h3 (ResF.bind r fun xs st1 J H1 M1 k1 s1 ir r1 => fun D hD => ?_)
  -- the result is a list
  obtain ⟨ys, st2, ec, hlen, r2⟩ : ∃ ys st2, compR (turnR G cf tg ow c e ρ) xs st1 = .ok ys st2 ∧ ys.length ≤ big ∧ ResF (wd X I.nm) B (We σ) H1 M1 (.ok (.lst ys) st2) Q := by
    cases q : compR (turnR G cf tg ow c e ρ) xs st1 with
    | ok ys st2 =>
      rw [q] at r1
      have r1' : ResF (wd X I.nm) B (We σ) H1 M1 (if ys.length ≤ big then .ok (.lst ys) st2 else .bad) Q := r1
      by_cases hl : ys.length ≤ big
      · rw [if_pos hl] at r1'; exact ⟨ys, st2, rfl, hl, r1'⟩
      · rw [if_neg hl] at r1'; exact r1'.elim
    | ex k st2 => exact (compR_noex (fun x st k st' => turnR_noex x st k st') xs st1 k st2 q).elim
    | bad => rw [q] at r1; exact r1.elim
  have nB : ∀ a, With B D a → B a ∨ H1 a = none := fun a z => z.elim .inl fun q => .inr (by rw [q]; exact hD)
  have walk : L2.Walk J xs.length (fun H => ∃ M, Kp H1 M1 H M ∧ ∀ a, a ∈ M → H a ≠ none) (fun i H x H' => J.yld i H x H') :=
    ⟨fun i H hi ⟨M, k, hm⟩ => (ir H M (With B D) k hm nB).1 i hi, fun H ⟨M, k, hm⟩ => (ir H M (With B D) k hm nB).2.1, fun i H x H' _ _ y => y⟩
  refine lc_it (g := tg.g X.K) (tt := ttOf X scope ifs) (te := teOf X scope elt) (vs := ow) (σ := σ) (H1 := H1) (D := D) walk (Qd := fun H => Q (.ref D) H) (ComPv (wd X I.nm) B H1 M1 D (turnR G cf tg ow c e ρ) xs ys st2) ?_ ?_ ?_ ?_
  · exact ⟨M1, st1, [], [], ys, ec, rfl, .new hD, s1.with hD, upd_same, fun z => s1.mem z hD, .nil⟩
  · rintro i H' hi ⟨M', st', acc, vs, rest, _, _, k', s', _, _, _⟩
    exact ⟨M', k', fun a ha => s'.mem ha⟩
  · rintro i u H2 H3 hi ⟨M', st', acc, vs, rest, er, ea, k', s', hv, hn, rr⟩ hy
    obtain ⟨pv, ep, hh, rp⟩ := (ir H2 M' (With B D) k' (fun a ha => s'.mem ha) nB).2.2 i u H3 hi hy
    have hd : xs.drop i = pv :: xs.drop (i + 1) := by
      obtain ⟨hl, e1⟩ := List.getElem?_eq_some_iff.mp ep
      rw [List.drop_eq_getElem_cons hl, e1]
    rw [hd] at er
    -- the heap at the item
    have st3 : Kp H2 M' H3 M' ∧ Cels (wd X I.nm) H3 M' (With B D) st' ∧ H3 D = some (.lst vs) := by
      rcases hh with rfl | ⟨T, o, hT, rfl⟩
      · exact ⟨.refl _ _, s', hv⟩
      · exact ⟨.new hT, s'.new hT, by rw [upd_ne (ne_of_none hv hT)]; exact hv⟩
    obtain ⟨k3, s3, hv3⟩ := st3
    have rr3 := rr.mono k3
    obtain ⟨o, st4, e1, e2⟩ := bind_ok' (show (turnR G cf tg ow c e ρ pv st').bind (fun o st1 => (compR (turnR G cf tg ow c e ρ) (xs.drop (i + 1)) st1).bind fun ys st2 => .ok (match o with
      | some y => y :: ys
      | none => ys) st2) = .ok rest st2 from er)
    obtain ⟨rest', st5, e3, e4⟩ := bind_ok' e2
    cases e4
    have e1 := noEx_ok' e1
    cases es : setTg tg pv (wipeP ρ ow) with
    | none => rw [es] at e1; cases e1
    | some ρ' =>
      rw [es] at e1
      have env : EnvR (wd X I.nm) H3 M' (With B D) (wipeP ρ ow) (L2.wipe σ ow) := ((p.er.mono k1).bchg nB |>.mono (k'.trans k3)).wipe ow
      refine setTg_g tg pv u (wipeP ρ ow) ρ' (L2.wipe σ ow) _ (chkTg_wf tg t h4) es env rp fun σ2 env2 sl => ⟨?_, ?_⟩
      · rw [sl.wipe hsl, wipe_wipe]
      · obtain ⟨b, st6, e5, e6⟩ := bind_ok' e1
        have pt : ∀ (s : Shared) (H0 : Hp) (C : Addr) (cl : List (Str × Addr)) (fp : List Addr), Pt I G cf (X.blk s H0 scope (compEnvC scope cl C X.env) fp) false WeN σ2 ρ' H3 M' (With B D) st' := fun s H0 C cl fp => ⟨p.cx.blk s H0 scope _ fp, env2, s3⟩
        -- behind the test
        have aft : ∀ H4 M4, Kp H3 M' H4 M4 → Cels (wd X I.nm) H4 M4 (With B D) st6 → if b = true then teOf X scope elt σ2 H4 fun y H4 => ∃ acc, H4 D = some (.lst acc) ∧ acc.length < sizeLine ∧
            ComPv (wd X I.nm) B H1 M1 D (turnR G cf tg ow c e ρ) xs ys st2 (i + 1) (upd H4 D (.lst (acc ++ [y]))) else ComPv (wd X I.nm) B H1 M1 D (turnR G cf tg ow c e ρ) xs ys st2 (i + 1) H4 := fun H4 M4 k4 s4 => by
          have hD4 := k4.h D _ hv3 hn
          cases b with
          | false =>
            rw [if_neg Bool.false_ne_true] at e6 ⊢
            cases e6
            exact ⟨M4, _, acc, vs, rest', e3, ea, (k'.trans k3).trans k4, s4, hD4.1, hD4.2, rr3.mono k4⟩
          | true =>
            rw [if_pos rfl] at e6 ⊢
            obtain ⟨y, st7, e7, e8⟩ := bind_ok' e6
            cases e8
            intro s H0 C cl fp
            refine he.E ((pt s H0 C cl fp).go k4 s4) h6 (Res.ok' e7 fun yv H5 M5 k5 s5 ry => ?_)
            have hD5 := k5.h D _ hD4.1 hD4.2
            have hlt : acc.length + 1 ≤ ys.length := by rw [← ea, List.length_append, List.length_cons]; omega
            refine ⟨vs, hD5.1, ?_, M5, _, acc ++ [y], vs ++ [yv], rest', e3, by rw [← ea, List.append_assoc]; rfl, (((k'.trans k3).trans k4).trans k5).chgD hD, s5.chg hD5.1 trivial (.inr rfl), upd_same, hD5.2, ?_⟩
            · rw [← rr.length]; exact Nat.lt_of_lt_of_le (Nat.lt_of_succ_le hlt) (Nat.le_trans hlen line_big)
            · exact ((rr3.mono (k4.trans k5)).append (.cons ry .nil)).chg hD5.1 trivial (.inr rfl)
        intro s H0 C cl fp
        rcases ifs with _ | ⟨cx, _ | ⟨_, _⟩⟩
        · have h5 : c.isOmit = true := h5
          rw [h5] at e5
          cases e5
          exact evP_of pts_nil (aft H3 M' (.refl _ _) s3)
        · have h5 : chkE I c (relS scope X.env.scope) cx = true := h5
          have ho : c.isOmit = false := by
            cases q : c.isOmit with
            | false => rfl
            | true => exact (noE (by rw [q]; simp) h5).elim
          rw [ho] at e5
          refine evP_of (pts_one pt_ev) (hc.T (pt s H0 C cl fp) h5 (Res.ok' e5 fun b' H4 M4 k4 s4 eb => ?_))
          subst eb
          exact aft H4 M4 k4 s4
        · cases h5
  · rintro H' ⟨M', st', acc, vs, rest, er, ea, k', s', hv, hn, rr⟩
    rw [List.drop_length] at er
    cases er
    rw [List.append_nil] at ea
    subst ea
    obtain ⟨zs, ez, r3⟩ := r2
    cases ez
    exact r3 D vs H' M' hD hv hn (fun z => s1.bk D z hD) k' s' rr

theorem comp_pg {X : Cx} {top : Bool} {We : WeS} (cx : Ctx I G cf X top We) {tg : Tg} {ow : List Nat} {it c e : Ex} {elt t iter : Expr} {ifs : List Expr} {scope : Scope} (k : CompIs I tg ow it c e X.env.scope elt t iter ifs scope) :
    ∀ (s : Shared) (H0 : Hp) (C : Addr) (cl : List (Str × Addr)) (fp : List Addr), PG (X.blk s H0 scope (compEnvC scope cl C X.env) fp) t (tg.g X.K) := fun s H0 C cl fp =>
  pg_of (X := X.blk s H0 scope (compEnvC scope cl C X.env) fp) (I := I) (top := false) cx.calm cx.nd cx.N (fun z => by cases z) tg t k.tg
theorem comp_pts {X : Cx} {scope : Scope} {ifs : List Expr} : ∀ (s : Shared) (H0 : Hp) (C : Addr) (cl : List (Str × Addr)) (fp : List Addr), PTs (X.blk s H0 scope (compEnvC scope cl C X.env) fp) ifs (ttOf X scope ifs) := fun s H0 C cl fp =>
  ⟨fun pins s1 σ H Q I h => (pp_ev (X := X.blk s H0 scope (compEnvC scope cl C X.env) fp)).run pins s1 σ H Q I (h s H0 C cl fp)⟩
theorem comp_pe {X : Cx} {scope : Scope} {elt : Expr} : ∀ (s : Shared) (H0 : Hp) (C : Addr) (cl : List (Str × Addr)) (fp : List Addr), PE (X.blk s H0 scope (compEnvC scope cl C X.env) fp) elt (teOf X scope elt) := fun s H0 C cl fp =>
  ⟨fun pins s1 σ H Q I h => (pe_ev (X := X.blk s H0 scope (compEnvC scope cl C X.env) fp)).run pins s1 σ H Q I (h s H0 C cl fp)⟩
theorem snd_compF (tg : Tg) (ow : List Nat) (it c e : Ex) (hi : Snd I G cf it) (hc : Snd I G cf c) (he : Snd I G cf e) : FSnd I G cf (.comp tg ow it c e) := fun {X top We σ ρ H M B st x Q} p hf h r => by
  obtain ⟨elt, t, iter, ifs, scope, pos, rfl, k⟩ := comp_is h
  refine evE_of (pe_lc p.cx.calm p.cx.nd pi_ev (blkOk_by (by rw [p.cx.N]; exact k.blk)) (comp_pg p.cx k) comp_pts comp_pe (folded_of (chkI_odd k.it) _)) ?_
  rw [own_ix]
  exact comp_tlc hi hc he p k r
theorem snd_comp (tg : Tg) (ow : List Nat) (it c e : Ex) (hi : Snd I G cf it) (hc : Snd I G cf c) (he : Snd I G cf e) : Snd I G cf (.comp tg ow it c e) := by
  refine snd_F (fun {X top We σ ρ H M B st x Q} p h r => snd_compF tg ow it c e hi hc he p rfl h (ResF.of r fun v st' q => ?_)) rfl rfl rfl (snd_compF tg ow it c e hi hc he)
  rw [evE_comp] at q
  obtain ⟨xs, st1, _, q⟩ := bind_ok' q
  obtain ⟨ys, st2, _, q⟩ := bind_ok' q
  split at q
  · cases q; exact ⟨_, rfl⟩
  · cases q
/-- every expression -/
theorem snd (e : Ex) : Snd I G cf e := by
  induction e with
  | var i => exact snd_var i
  | non => exact snd_non
  | bl b => exact snd_bl b
  | int i => exact snd_int i
  | str x => exact snd_str x
  | gl x => exact snd_gl x
  | bty n => exact snd_bty n
  | bin o a b ha hb => exact snd_bin o a b ha hb
  | neg a ha => exact snd_neg a ha
  | not a ha => exact snd_not a ha
  | and a b ha hb => exact snd_and a b ha hb
  | or a b ha hb => exact snd_or a b ha hb
  | cmp o a b ha hb => exact snd_cmp o a b ha hb
  | chn o o' a b c ha hb hc => exact snd_chn o o' a b c ha hb hc
  | ite c a b hc ha hb => exact snd_ite c a b hc ha hb
  | nil => exact snd_nil
  | cons a as ha hs => exact snd_cons a as ha hs
  | tup as hs => exact snd_tup as hs
  | lst as hs => exact snd_lst as hs
  | cell e he => exact snd_cell e he
  | call m f as hs => exact snd_call m f as hs
  | bi b as hs => exact snd_bi b as hs
  | idx a b ha hb => exact snd_idx a b ha hb
  | sli a lo hi ha hl hh => exact snd_sli a lo hi ha hl hh
  | «omit» => exact snd_omit
  | comp tg ow it c e hi hc he => exact snd_comp tg ow it c e hi hc he
  | lrg a b ha hb => exact snd_lrg a b ha hb
  | lrd a b ha hb => exact snd_lrd a b ha hb
  | rng1 a ha => exact snd_rng1 a ha
  | rng2 a b ha hb => exact snd_rng2 a b ha hb
  | zip a b ha hb => exact snd_zip a b ha hb
  | enu a ha => exact snd_enu a ha
  | sq a ha => exact snd_sq a ha
end
end Mi

end

section
set_option linter.all false
set_option maxRecDepth 100000
/-! Mi, part J: statements. -/
namespace Mi
open PySem PySem.Spec PyProof.Rows L2

/-! ### the check -/
def isLc : Expr → Bool
  | .ListComp .. => true
  | .SetComp .. => true
  | .DictComp .. => true
  | _ => false
/-- is the list of a comprehension stored within the comprehension's block? -/
def swB (sc : Scope) (x : Str) (px : Pos) : Expr → Bool
  | .ListComp _ _ scope pos => decide (sc.names.lookup x = some .local) && ((px.line == pos.line) && !(scope.names.any fun (n, k) => n == x && (k == .local || k == .cell)))
  | _ => false
def Ex.isCp : Ex → Bool
  | .comp .. => true
  | _ => false
def Ex.isComp : Ex → Bool
  | .comp .. => true
  | .cell e => e.isCp
  | _ => false
/-- the names of a tuple of targets that are stored from the right -/
def swNames (sc : Scope) (ts : List Expr) : List Str := ts.filterMap fun
  | .Name id pos => if sc.names.lookup id == some .local && pos.line == (ts.head?.map (·.pos.line)).getD 0 then some id else none
  | _ => none
/-- stored from the left -/
def swN (sc : Scope) (ts vs : List Expr) : Bool :=
  (!(ts.length == 2 || ts.length == 3) || vs.length != ts.length) || (((swNames sc ts).length != ts.length || (swNames sc ts).eraseDups.length != (swNames sc ts).length) || vs.all (foldedForSure 8))
def swS (vs : List Expr) : Bool := !(vs.all (constantsAlone 8))
/-- names only, by slots -/
def parT (sc : Scope) : Tg → Ex → List Expr → Bool
  | .cons (.nm i) (.cons (.nm j) .nil), .tup _, [.Name x px, .Name y py] => decide (i ≠ j) && (decide (sc.names.lookup x = some .local) && (decide (sc.names.lookup y = some .local) && decide (swNames sc [.Name x px, .Name y py] = [x, y])))
  | .cons (.nm i) (.cons (.nm j) (.cons (.nm k) .nil)), .tup _, [.Name x px, .Name y py, .Name z pz] => decide (i ≠ j) && (decide (i ≠ k) && (decide (j ≠ k) && (decide (sc.names.lookup x = some .local) && (decide (sc.names.lookup y = some .local) &&
      (decide (sc.names.lookup z = some .local) && decide (swNames sc [.Name x px, .Name y py, .Name z pz] = [x, y, z]))))))
  | _, _, _ => false
def styleB (sc : Scope) (t : Tg) (e : Ex) (ts : List Expr) : Expr → Bool
  | .Tuple vs _ _ => swN sc ts vs || (swS vs && parT sc t e ts)
  | .List .. => false
  | _ => true
mutual
def chkS1 (I : Info) : Sm → Scope → Stmt → Bool
  | .set i e, sc, .Assign (.Name x px :: []) v _ => decide (I.N[i]? = some x) && (locB true sc x && (chkE I e sc v && (!(swB sc x px v) || e.isComp)))
  | .setT t e, sc, .Assign (.Tuple es k p :: []) v _ => chkTg I true sc t (.Tuple es k p) && (chkE I e sc v && styleB sc t e es v)
  | .put o i e, sc, .Assign (.Subscript a b _ :: []) v _ => chkE I o sc a && (chkE I i sc b && chkE I e sc v)
  | .app o e, sc, .Expr (.Call (.Attribute (.Name x p) n apos) (y :: []) [] cpos) _ => decide (n = ("append" : Str)) && ((apos.endLine == cpos.line) && (chkE I o sc (.Name x p) && chkE I e sc y))
  | .drop e, sc, .Expr v _ => !(isLc v) && chkE I e sc v
  | .ret e, sc, .Return (some v) _ => chkE I e sc v
  | .ret .non, sc, .Return none _ => true
  | .ite c a b, sc, .If t x y _ => chkE I c sc t && (chkS I a sc x && chkS I b sc y)
  | .for t it b, sc, .For tg iter body [] _ => chkI I it sc tg iter && (chkTg I true sc t tg && chkS I b sc body)
  | .while c b, sc, .While t body [] _ => chkE I c sc t && chkS I b sc body
  | .raise c _, sc, .Raise (some (.Call (.Name x _) (.Constant (.str _) _ _ :: []) [] _)) none _ => I.C c && gOk I sc c x
  | _, _, _ => false
def chkS (I : Info) : Sm → Scope → List Stmt → Bool
  | .skip, _, [] => true
  | .seq a b, sc, s :: ss => chkS1 I a sc s && chkS I b sc ss
  | _, _, _ => false
end
/-- the slots that are stored -/
def Sm.asg : Sm → List Nat
  | .seq a b => a.asg ++ b.asg
  | .set i _ => [i]
  | .setT t _ => t.slots
  | .ite _ a b => a.asg ++ b.asg
  | .for t _ b => t.slots ++ b.asg
  | .while _ b => b.asg
  | _ => []

/-! ### the stores' order -/
theorem sw_none {ts vs : List Expr} {k k2 : Nat} {p p2 : Pos} {env : Env} (hk : env.scope.kind = .function) (hs : ∀ v ∈ vs, oddE v = false) (h : swN env.scope ts vs = true) : swappedStores [.Tuple ts k p] (.Tuple vs k2 p2) env = pure none := by
  have hb : env.blockKind = .function := by unfold Env.blockKind; rw [hk]; rfl
  have hst : (vs.any fun | .Starred .. => true | _ => false) = false := by
    rw [List.any_eq_false]
    intro v hv
    have := hs v hv
    cases v <;> first | (intro z; cases z; done) | (cases this)
  have en : (ts.filterMap fun | .Name id pos => if env.kindOf id == some .local && pos.line == (ts.head?.map (·.pos.line)).getD 0 then some id else none | _ => none) = swNames env.scope ts := rfl
  unfold swappedStores
  show (do
    if !(ts.length == 2 || ts.length == 3) || vs.length != ts.length || env.blockKind != .function then return none
    if vs.any fun | .Starred .. => true | _ => false then return none
    if (swNames env.scope ts).length != ts.length || (swNames env.scope ts).eraseDups.length != (swNames env.scope ts).length then return none
    if vs.all (foldedForSure 8) then return none
    if vs.all (constantsAlone 8) then unsupported "assign.tuple-of-constant-expressions:order-of-the-stores"
    return some (swNames env.scope ts) : Sem (Option (List Str))) = pure none
  rw [hb, hst]
  unfold swN at h
  cases h1 : (!(ts.length == 2 || ts.length == 3) || vs.length != ts.length) with
  | true => simp
  | false =>
    rw [h1] at h
    cases h2 : ((swNames env.scope ts).length != ts.length || (swNames env.scope ts).eraseDups.length != (swNames env.scope ts).length) with
    | true => simp
    | false =>
      rw [h2] at h
      have h3 : vs.all (foldedForSure 8) = true := h
      simp [h3]
theorem sw_some {ts vs : List Expr} {k k2 : Nat} {p p2 : Pos} {env : Env} (hk : env.scope.kind = .function) (hs : ∀ v ∈ vs, oddE v = false) (h : swN env.scope ts vs = false) (h2 : swS vs = true) : swappedStores [.Tuple ts k p] (.Tuple vs k2 p2) env = pure (some (swNames env.scope ts)) := by
  have hb : env.blockKind = .function := by unfold Env.blockKind; rw [hk]; rfl
  have hst : (vs.any fun | .Starred .. => true | _ => false) = false := by
    rw [List.any_eq_false]
    intro v hv
    have := hs v hv
    cases v <;> first | (intro z; cases z; done) | (cases this)
  unfold swappedStores
  show (do
    if !(ts.length == 2 || ts.length == 3) || vs.length != ts.length || env.blockKind != .function then return none
    if vs.any fun | .Starred .. => true | _ => false then return none
    if (swNames env.scope ts).length != ts.length || (swNames env.scope ts).eraseDups.length != (swNames env.scope ts).length then return none
    if vs.all (foldedForSure 8) then return none
    if vs.all (constantsAlone 8) then unsupported "assign.tuple-of-constant-expressions:order-of-the-stores"
    return some (swNames env.scope ts) : Sem (Option (List Str))) = pure (some (swNames env.scope ts))
  rw [hb, hst]
  unfold swN at h
  unfold swS at h2
  simp only [Bool.or_eq_false_iff] at h
  obtain ⟨h1, h3, h4⟩ := h
  have e1 : (!(ts.length == 2 || ts.length == 3) || vs.length != ts.length) = false := by rw [Bool.or_eq_false_iff]; exact h1
  have e2 : ((swNames env.scope ts).length != ts.length || (swNames env.scope ts).eraseDups.length != (swNames env.scope ts).length) = false := by rw [Bool.or_eq_false_iff]; exact h3
  have e3 : vs.all (constantsAlone 8) = false := by simpa using h2
  rw [e1, e2, h4, e3]
  rfl
theorem swW_false {v : Expr} (h : isLc v = false) (t : Option Expr) (l : Nat) (env : Env) : swapsWith v t l env = pure false := by
  cases v <;> first | rfl | (cases h)
theorem swB_false {v : Expr} {x : Str} {px : Pos} {l : Nat} {env : Env} (hk : env.scope.kind = .function) (hv : oddE v = false) (h : swB env.scope x px v = false) : swapsWith v (some (.Name x px)) l env = pure false := by
  cases q : isLc v with
  | false => exact swW_false q _ _ _
  | true =>
    cases v <;> first | (cases q; done) | (cases hv; done) | skip
    rename_i elt gs scope pos
    have hb : env.blockKind = .function := by unfold Env.blockKind; rw [hk]; rfl
    show (pure (env.blockKind == .function && env.kindOf x == some .local && px.line == pos.line && !(scope.names.any fun (n, k) => n == x && (k == .local || k == .cell))) : Sem Bool) = pure false
    unfold swB at h
    rw [hb]
    congr 1
    rw [Bool.and_assoc, Bool.and_assoc]
    show (true && _) = false
    rw [Bool.true_and, ← h]
    congr 1
    by_cases e : env.scope.names.lookup x = some .local
    · rw [decide_eq_true e]
      show (env.scope.names.lookup x == some .local) = true
      rw [e]; rfl
    · rw [decide_eq_false e]
      show (env.scope.names.lookup x == some .local) = false
      cases q : env.scope.names.lookup x with
      | none => rfl
      | some k => cases k <;> first | rfl | (exact absurd q e)
theorem swB_true {elt : Expr} {gs : List Comprehension} {scope : Scope} {pos px : Pos} {x : Str} {l : Nat} {env : Env} (hk : env.scope.kind = .function) (h : swB env.scope x px (.ListComp elt gs scope pos) = true) :
    env.scope.names.lookup x = some .local ∧ swapsWith (.ListComp elt gs scope pos) (some (.Name x px)) l env = pure true := by
  obtain ⟨h1, h⟩ := mem_bool h
  obtain ⟨h2, h3⟩ := mem_bool h
  exact ⟨of_decide_eq_true h1, sw_true hk (of_decide_eq_true h1) h2 (by simpa using h3)⟩
end Mi

end

section
set_option linter.all false
set_option maxRecDepth 100000
/-! Mi, part K: statements keep the promise. -/
namespace Mi
open PySem PySem.Spec PyProof.Rows L2

def Sub (ρ0 ρ : Env') : Prop := ρ0.length = ρ.length ∧ ∀ (i : Nat) (v : PV), ρ0[i]? = some (some v) → ρ[i]? = some (some v)
theorem Sub.set {ρ0 ρ : Env'} {i : Nat} {o : Option PV} (s : Sub ρ0 ρ) (h : ∀ v, ρ0[i]? ≠ some (some v)) : Sub ρ0 (ρ.set i o) := ⟨by rw [List.length_set]; exact s.1, fun j v e => by
  by_cases q : i = j
  · subst q; exact (h v e).elim
  · rw [List.getElem?_set_ne q]; exact s.2 j v e⟩
theorem Sub.tg : ∀ (t : Tg) (p : PV) (ρ ρ' ρ0 : Env'), setTg t p ρ = some ρ' → Sub ρ0 ρ → (∀ i ∈ t.slots, ∀ v, ρ0[i]? ≠ some (some v)) → Sub ρ0 ρ'
  | .nm i, p, ρ, ρ', ρ0, h, s, hn => by cases h; exact s.set (hn i (by simp [Tg.slots]))
  | .nil, p, ρ, ρ', ρ0, h, s, hn => by
    cases p <;> first | (simp [setTg] at h; done) | skip
    rename_i xs
    cases xs with
    | nil => cases h; exact s
    | cons _ _ => simp [setTg] at h
  | .cons t ts, p, ρ, ρ', ρ0, h, s, hn => by
    cases p <;> first | (simp [setTg] at h; done) | skip
    rename_i xs
    cases xs with
    | nil => simp [setTg] at h
    | cons x xs =>
      obtain ⟨ρ1, g1, g2⟩ := Option.bind_eq_some_iff.mp (show ((setTg t x ρ).bind fun ρ' => setTg ts (.tup xs) ρ') = some ρ' from h)
      exact Sub.tg ts (.tup xs) ρ1 ρ' ρ0 g2 (Sub.tg t x ρ ρ1 ρ0 g1 s fun i hi => hn i (by simp [Tg.slots, hi])) fun i hi => hn i (by simp [Tg.slots, hi])
theorem EnvR.sub {w : Wd} {H : Hp} {M : List Addr} {B : Addr → Prop} {ρ ρ0 : Env'} {σ : L2.St} (e : EnvR w H M B ρ σ) (s : Sub ρ0 ρ) : EnvR w H M B ρ0 σ := ⟨s.1.trans e.1, fun i v h => e.2 i v (s.2 i v h)⟩

/-- what follows a statement -/
def ResS (w : Wd) (B : Addr → Prop) (We : WeS) (ρ0 : Env') (H : Hp) (M : List Addr) (r : R Fl) (D : Ends) : Prop :=
  match r with
  | .ok (.nx ρ') st => ∀ σ' H' M', Kp H M H' M' → Cels w H' M' B st → EnvR w H' M' B ρ' σ' → Sub ρ0 ρ' → D.nx σ' H'
  | .ok (.rt v) st => ∀ u H' M', Kp H M H' M' → Cels w H' M' B st → Rel w H' M' B v u → D.rt u H'
  | .ex c st => ∀ σ' H' M', Kp H M H' M' → Cels w H' M' B st → EnvR w H' M' B ρ0 σ' → We σ' c st H' M'
  | .bad => False
section
variable {α β : Type} {w : Wd} {B : Addr → Prop} {rel : Rl α β} {We : WeS} {ρ ρ0 : Env'} {σ : L2.St} {H H' : Hp} {M M' : List Addr} {D D' : Ends}
theorem ResS.mono {r : R Fl} (h : ResS w B We ρ0 H M r D) (k : Kp H M H' M') : ResS w B We ρ0 H' M' r D := by
  cases r with
  | ok f st =>
    cases f with
    | nx ρ' => exact fun σ' H2 M2 k2 s e sb => h σ' H2 M2 (k.trans k2) s e sb
    | rt v => exact fun u H2 M2 k2 s e => h u H2 M2 (k.trans k2) s e
  | ex c st => exact fun σ' H2 M2 k2 s e => h σ' H2 M2 (k.trans k2) s e
  | bad => exact h.elim
theorem ResS.bind {r : R α} {f : α → Sto → R Fl} {Q : β → Hp → Prop} (h : ResS w B We ρ0 H M (r.bind f) D) (er : EnvR w H M B ρ σ) (sb : Sub ρ0 ρ)
    (g : ∀ a st v H' M', Kp H M H' M' → Cels w H' M' B st → rel H' M' a v → ResS w B We ρ0 H' M' (f a st) D → Q v H') : Res w B rel (We σ) H M r Q := by
  cases r with
  | ok a st => exact fun v H2 M2 k2 s q => g a st v H2 M2 k2 s q (ResS.mono (show ResS w B We ρ0 H M (f a st) D from h) k2)
  | ex c st => exact fun H2 M2 k2 s => h σ H2 M2 k2 s ((er.mono k2).sub sb)
  | bad => exact h
/-- the first of two statements -/
theorem ResS.seq {r : R Fl} {f : Fl → Sto → R Fl} (h : ResS w B We ρ0 H M (r.bind f) D)
    (hn : ∀ ρ' st σ' H' M', Kp H M H' M' → Cels w H' M' B st → EnvR w H' M' B ρ' σ' → Sub ρ0 ρ' → ResS w B We ρ0 H' M' (f (.nx ρ') st) D → D'.nx σ' H')
    (hr : ∀ v st, f (.rt v) st = .ok (.rt v) st) (hD : D'.rt = D.rt) : ResS w B We ρ0 H M r D' := by
  cases r with
  | ok fl st =>
    cases fl with
    | nx ρ' => exact fun σ' H2 M2 k2 s e sb => hn ρ' st σ' H2 M2 k2 s e sb (ResS.mono (show ResS w B We ρ0 H M (f (.nx ρ') st) D from h) k2)
    | rt v =>
      have h' : ResS w B We ρ0 H M (f (.rt v) st) D := h
      rw [hr] at h'
      intro u H2 M2 k2 s e
      rw [hD]
      exact h' u H2 M2 k2 s e
  | ex c st => exact h
  | bad => exact h
end

def EvS (X : Cx) (x : Stmt) : TS := fun D σ H => ∀ (pins : List (Addr × Obj)) (s : Shared), Inv X pins σ H s → wpAny (model X.prog X.w) X.A (exec x X.env) (SP X pins D) X.xe s
def EvSs (X : Cx) (x : List Stmt) : TS := fun D σ H => ∀ (pins : List (Addr × Obj)) (s : Shared), Inv X pins σ H s → wpAny (model X.prog X.w) X.A (execs x X.env) (SP X pins D) X.xe s
section
variable {X : Cx} {σ : L2.St} {H : Hp} {D : Ends}
theorem ps_ev {x : Stmt} : PS X x (EvS X x) := ⟨fun pins s _ _ _ I h => h pins s I⟩
theorem pss_ev {x : List Stmt} : PSs X x (EvSs X x) := ⟨fun pins s _ _ _ I h => h pins s I⟩
theorem evS_of {x : Stmt} {t : TS} (h : PS X x t) (q : t D σ H) : EvS X x D σ H := fun pins s I => h.run pins s σ H D I q
theorem evSs_of {x : List Stmt} {t : TS} (h : PSs X x t) (q : t D σ H) : EvSs X x D σ H := fun pins s I => h.run pins s σ H D I q
end

/-- a def's body, running -/
structure CtS (I : Info) (G : GlobF) (cf : CallF) (X : Cx) (We : WeS) : Prop where
  cx : Ctx I G cf X true We
  own : PassesOwn (model X.prog X.w) X.A X.env X.xe
  kind : X.env.scope.kind = .function
  exc : ∀ c, I.C c = true → ∃ a B newId initId bmB, X.mg (I.nm c) = some (.ref a) ∧ PySem.W.keepIn X.K (.ref a) = true ∧ Raises X (.ref a) ∧ ExcBaseFacts B newId initId bmB ∧ PySem.W.excIn X.K a bmB newId = true
structure PtS (I : Info) (G : GlobF) (cf : CallF) (X : Cx) (We : WeS) (ρ0 : Env') (σ : L2.St) (ρ : Env') (H : Hp) (M : List Addr) (B : Addr → Prop) (st : Sto) : Prop where
  cs : CtS I G cf X We
  er : EnvR (wd X I.nm) H M B ρ σ
  cl : Cels (wd X I.nm) H M B st
  sb : Sub ρ0 ρ
section
variable {I : Info} {G : GlobF} {cf : CallF} {N : Nat}
theorem PtS.pt {X : Cx} {We : WeS} {ρ0 : Env'} {σ : L2.St} {ρ : Env'} {H : Hp} {M : List Addr} {B : Addr → Prop} {st : Sto} (p : PtS I G cf X We ρ0 σ ρ H M B st) : Pt I G cf X true We σ ρ H M B st := ⟨p.cs.cx, p.er, p.cl⟩
structure SndS (I : Info) (G : GlobF) (cf : CallF) (N : Nat) (a : Sm) : Prop where
  S : ∀ {X : Cx} {We : WeS} {ρ0 : Env'} {σ : L2.St} {ρ : Env'} {H : Hp} {M : List Addr} {B : Addr → Prop} {st : Sto} {x : Stmt} {D : Ends}, PtS I G cf X We ρ0 σ ρ H M B st → chkS1 I a X.env.scope x = true → (∀ i ∈ a.asg, ∀ v, ρ0[i]? ≠ some (some v)) →
    ResS (wd X I.nm) B We ρ0 H M (evS G cf N a ρ st) D → EvS X x D σ H
  L : ∀ {X : Cx} {We : WeS} {ρ0 : Env'} {σ : L2.St} {ρ : Env'} {H : Hp} {M : List Addr} {B : Addr → Prop} {st : Sto} {xs : List Stmt} {D : Ends}, PtS I G cf X We ρ0 σ ρ H M B st → chkS I a X.env.scope xs = true → (∀ i ∈ a.asg, ∀ v, ρ0[i]? ≠ some (some v)) →
    ResS (wd X I.nm) B We ρ0 H M (evS G cf N a ρ st) D → EvSs X xs D σ H
theorem noL {a : Sm} {sc : Scope} {xs : List Stmt} (ha : (match a with | .skip => false | .seq .. => false | _ => true) = true) (h : chkS I a sc xs = true) : False := by
  cases a <;> first | (cases ha; done) | (cases xs <;> exact absurd h Bool.false_ne_true)
theorem noS {a : Sm} {sc : Scope} {x : Stmt} (ha : (match a with | .skip => true | .seq .. => true | _ => false) = true) (h : chkS1 I a sc x = true) : False := by
  cases a <;> first | (cases ha; done) | (cases x <;> exact absurd h Bool.false_ne_true)
theorem sd_skip : SndS I G cf N .skip where
  S := fun p h => (noS rfl h).elim
  L := fun {X We ρ0 σ ρ H M B st xs D} p h hn r => by
    cases xs with
    | cons _ _ => exact absurd h Bool.false_ne_true
    | nil => exact evSs_of pss_nil (r σ H M (.refl _ _) p.cl p.er p.sb)
theorem sd_seq (a b : Sm) (ha : SndS I G cf N a) (hb : SndS I G cf N b) : SndS I G cf N (.seq a b) where
  S := fun p h => (noS rfl h).elim
  L := fun {X We ρ0 σ ρ H M B st xs D} p h hn r => by
    cases xs with
    | nil => exact absurd h Bool.false_ne_true
    | cons x xs =>
      obtain ⟨h1, h2⟩ := mem_bool (show (chkS1 I a X.env.scope x && chkS I b X.env.scope xs) = true from h)
      refine evSs_of (pss_cons ps_ev pss_ev) (ha.S p h1 (fun i hi => hn i (by simp [Sm.asg, hi])) (ResS.seq (D := D) r (fun ρ' st1 σ1 H1 M1 k1 s1 e1 sb1 r1 => ?_) (fun v st => rfl) rfl))
      exact hb.L ⟨p.cs, e1, s1, sb1⟩ h2 (fun i hi => hn i (by simp [Sm.asg, hi])) r1
theorem cell_resF {w : Wd} {B : Addr → Prop} {We : WeT} {H : Hp} {M : List Addr} {Q : VK} {e : Ex} {ρ : Env'} {st : Sto} (r : Res w B (RelR w B) We H M (evE G cf (.cell e) ρ st) Q) : ResF w B We H M (evE G cf e ρ st) Q := by
  have r' : Res w B (RelR w B) We H M ((evE G cf e ρ st).bind fun x st1 => match x with
    | .lst xs => if noCels xs then .ok (.cel st1.length) (st1 ++ [.lst xs]) else .bad
    | _ => .bad) Q := r
  cases e1 : evE G cf e ρ st with
  | ok v st1 =>
    rw [e1] at r'
    cases v <;> first | (exact r'.elim) | skip
    rename_i xs
    refine ⟨xs, rfl, fun p vs H' M' hp h2 n b k s rr => ?_⟩
    have r2 : Res w B (RelR w B) We H M (if noCels xs then .ok (.cel st1.length) (st1 ++ [.lst xs]) else .bad) Q := r'
    by_cases hn : noCels xs = true
    · rw [if_pos hn] at r2
      refine r2 (.ref p) H' (M' ++ [p]) (k.cell hp) (s.own h2 n b rr) (.cel ?_)
      rw [← s.len]
      simp
    · rw [if_neg hn] at r2; exact r2.elim
  | ex c st1 => rw [e1] at r'; exact r'
  | bad => rw [e1] at r'; exact r'.elim
theorem comp_isl {tg : Tg} {ow : List Nat} {it c e : Ex} {ρ : Env'} {st : Sto} {v : PV} {st' : Sto} (q : evE G cf (.comp tg ow it c e) ρ st = .ok v st') : ∃ xs, v = .lst xs := by
  rw [evE_comp] at q
  obtain ⟨xs, st1, _, q⟩ := bind_ok' q
  obtain ⟨ys, st2, _, q⟩ := bind_ok' q
  split at q
  · cases q; exact ⟨_, rfl⟩
  · cases q
theorem sd_set (i : Nat) (e : Ex) : SndS I G cf N (.set i e) where
  L := fun p h => (noL rfl h).elim
  S := fun {X We ρ0 σ ρ H M B st x D} p h hn r => by
    cases x <;> first | (exact absurd h Bool.false_ne_true) | skip
    rename_i ts v pos
    rcases ts with _ | ⟨t, _ | ⟨t2, ts⟩⟩
    · exact absurd h Bool.false_ne_true
    · cases t <;> first | (exact absurd h Bool.false_ne_true) | skip
      rename_i n np
      obtain ⟨h1, h⟩ := mem_bool (show (decide (I.N[i]? = some n) && (locB true X.env.scope n && (chkE I e X.env.scope v && (!(swB X.env.scope n np v) || e.isComp)))) = true from h)
      obtain ⟨h2, h⟩ := mem_bool h
      obtain ⟨h3, h4⟩ := mem_bool h
      have cx := p.cs.cx
      obtain ⟨l1, l2⟩ := locB_of cx.calm cx.nd cx.N cx.fn h2
      have h1 : X.N[i]? = some n := by rw [cx.N]; exact of_decide_eq_true h1
      have r1 : Res (wd X I.nm) B (RelR (wd X I.nm) B) (We σ) H M (evE G cf e ρ st) (fun u H1 => D.nx (σ.set i (some u)) H1) :=
        ResS.bind r p.er p.sb fun a st1 u H1 M1 k1 s1 ru r1 => r1 _ H1 M1 (.refl _ _) s1 ((p.er.mono k1).set ru) (p.sb.set (hn i (by simp [Sm.asg])))
      cases q : swB X.env.scope n np v with
      | false => exact evS_of (ps_set cx.nd h1 l1 pe_ev (swB_false p.cs.kind (chk_odd h3) q) l2) ((snd e).E p.pt h3 r1)
      | true =>
        rw [q] at h4
        have h4 : e.isComp = true := h4
        have go : ∀ {tg : Tg} {ow : List Nat} {it c e' : Ex}, chkE I (.comp tg ow it c e') X.env.scope v = true → ResF (wd X I.nm) B (We σ) H M (evE G cf (.comp tg ow it c e') ρ st) (fun u H1 => D.nx (σ.set i (some u)) H1) → EvS X (.Assign [.Name n np] v pos) D σ H := fun {tg ow it c e'} hc hr => by
          obtain ⟨elt, t, iter, ifs, scope, cpos, rfl, k⟩ := comp_is hc
          obtain ⟨w1, w2⟩ := swB_true p.cs.kind q
          refine evS_of (ps_setLc cx.calm cx.nd h1 w1 w2 pi_ev (blkOk_by (by rw [cx.N]; exact k.blk)) (comp_pg cx k) comp_pts comp_pe (folded_of (chkI_odd k.it) _)) ?_
          rw [own_ix]
          exact comp_tlc (snd _) (snd _) (snd _) p.pt k hr
        cases e with
        | cell e1 =>
          have h4 : e1.isCp = true := h4
          cases e1 <;> first | (cases h4; done) | skip
          exact go (mem_bool (show (freshE _ && chkE I _ X.env.scope v) = true from h3)).2 (cell_resF r1)
        | comp tg ow it c e' => exact go h3 (ResF.of r1 fun v st' z => comp_isl z)
        | _ => cases h4
    · cases t <;> exact absurd h Bool.false_ne_true
theorem sd_ret (e : Ex) : SndS I G cf N (.ret e) where
  L := fun p h => (noL rfl h).elim
  S := fun {X We ρ0 σ ρ H M B st x D} p h hn r => by
    cases x <;> first | (cases e <;> exact absurd h Bool.false_ne_true) | skip
    rename_i v pos
    cases v with
    | some v =>
      have h : chkE I e X.env.scope v = true := by cases e <;> exact h
      exact evS_of (ps_ret pe_ev) ((snd e).E p.pt h (ResS.bind r p.er p.sb fun a st1 u H1 M1 k1 s1 ru r1 => r1 u H1 M1 (.refl _ _) s1 ru))
    | none =>
      cases e <;> first | (exact absurd h Bool.false_ne_true) | skip
      exact evS_of ps_retN (r .non H M (.refl _ _) p.cl .non)
theorem sd_drop (e : Ex) : SndS I G cf N (.drop e) where
  L := fun p h => (noL rfl h).elim
  S := fun {X We ρ0 σ ρ H M B st x D} p h hn r => by
    cases x <;> first | (exact absurd h Bool.false_ne_true) | skip
    rename_i v pos
    obtain ⟨h1, h2⟩ := mem_bool (show (!(isLc v) && chkE I e X.env.scope v) = true from h)
    exact evS_of (ps_expr pe_ev (swW_false (by simpa using h1) _ _ _)) ((snd e).E p.pt h2 (ResS.bind r p.er p.sb fun a st1 u H1 M1 k1 s1 ru r1 => r1 σ H1 M1 (.refl _ _) s1 (p.er.mono k1) p.sb))
theorem sd_ite (c : Ex) (a b : Sm) (ha : SndS I G cf N a) (hb : SndS I G cf N b) : SndS I G cf N (.ite c a b) where
  L := fun p h => (noL rfl h).elim
  S := fun {X We ρ0 σ ρ H M B st x D} p h hn r => by
    cases x <;> first | (exact absurd h Bool.false_ne_true) | skip
    rename_i t xs ys pos
    obtain ⟨h1, h⟩ := mem_bool (show (chkE I c X.env.scope t && (chkS I a X.env.scope xs && chkS I b X.env.scope ys)) = true from h)
    obtain ⟨h2, h3⟩ := mem_bool h
    refine evS_of (ps_if pt_ev pss_ev pss_ev) ((snd c).T p.pt h1 (ResS.bind r p.er p.sb fun d st1 d' H1 M1 k1 s1 e1 r1 => ?_))
    subst e1
    cases d' with
    | true => exact ha.L ⟨p.cs, p.er.mono k1, s1, p.sb⟩ h2 (fun i hi => hn i (by simp [Sm.asg, hi])) r1
    | false => exact hb.L ⟨p.cs, p.er.mono k1, s1, p.sb⟩ h3 (fun i hi => hn i (by simp [Sm.asg, hi])) r1
theorem sd_raise (c : Nat) (m : Str) : SndS I G cf N (.raise c m) where
  L := fun p h => (noL rfl h).elim
  S := fun {X We ρ0 σ ρ H M B st x D} p h hn r => by
    cases x <;> first | (exact absurd h Bool.false_ne_true) | skip
    rename_i exc cause pos
    cases exc with
    | none => exact absurd h Bool.false_ne_true
    | some exc =>
      cases exc <;> first | (exact absurd h Bool.false_ne_true) | skip
      rename_i fn es kw cpos
      cases fn <;> first | (exact absurd h Bool.false_ne_true) | skip
      rename_i n np
      rcases es with _ | ⟨y, _ | ⟨z, es⟩⟩
      · exact absurd h Bool.false_ne_true
      · cases y <;> first | (exact absurd h Bool.false_ne_true) | skip
        rename_i k j kp
        cases k <;> first | (exact absurd h Bool.false_ne_true) | skip
        rename_i txt
        cases kw with
        | cons _ _ => exact absurd h Bool.false_ne_true
        | nil =>
          cases cause with
          | some _ => exact absurd h Bool.false_ne_true
          | none =>
            obtain ⟨h0, h1⟩ := mem_bool (show (I.C c && (decide (I.nm c = n) && (glB X.env.scope n && nodbg n))) = true from h)
            obtain ⟨h1, h2⟩ := mem_bool h1
            obtain ⟨h2, h3⟩ := mem_bool h2
            obtain ⟨a, B1, newId, initId, bmB, m1, m2, m3, F, q⟩ := p.cs.exc c h0
            have m1' := m1
            rw [of_decide_eq_true h1] at m1
            refine evS_of (ps_raise p.cs.cx.calm p.cs.cx.takes (pmk_own F q m1 m2 m3 (gl_of h2) (nodbg_of h3))) ?_
            exact ⟨c, st, M, a, rfl, rfl, m1', r σ H M (.refl _ _) p.cl (p.er.sub p.sb)⟩
      · cases y <;> first | (exact absurd h Bool.false_ne_true) | (rename_i k j kp; cases k <;> exact absurd h Bool.false_ne_true)

theorem sd_for (t : Tg) (it : Ex) (b : Sm) (hb : SndS I G cf N b) : SndS I G cf N (.for t it b) where
  L := fun p h => (noL rfl h).elim
  S := fun {X We ρ0 σ ρ H M B st x D} p h hn r => by
    cases x <;> first | (exact absurd h Bool.false_ne_true) | skip
    rename_i tg iter body els pos
    cases els with
    | cons _ _ => exact absurd h Bool.false_ne_true
    | nil =>
      obtain ⟨h1, h⟩ := mem_bool (show (chkI I it X.env.scope tg iter && (chkTg I true X.env.scope t tg && chkS I b X.env.scope body)) = true from h)
      obtain ⟨h2, h3⟩ := mem_bool h
      have cx := p.cs.cx
      have hnt : ∀ i ∈ t.slots, ∀ v, ρ0[i]? ≠ some (some v) := fun i hi => hn i (by simp [Sm.asg, hi])
      have hnb : ∀ i ∈ b.asg, ∀ v, ρ0[i]? ≠ some (some v) := fun i hi => hn i (by simp [Sm.asg, hi])
      refine evS_of (ps_for p.cs.own cx.calm pi_ev (pg_of cx.calm cx.nd cx.N cx.fn t tg h2) pss_ev (folded_of (chkI_odd h1) _)) ((snd it).W p.pt h1 (ResS.bind r p.er p.sb fun xs st1 J H1 M1 k1 s1 ir r1 => ?_))
      have hB : ∀ a, B a → B a ∨ H1 a = none := fun a z => .inl z
      have walk : L2.Walk J xs.length (fun H => ∃ M, Kp H1 M1 H M ∧ ∀ a, a ∈ M → H a ≠ none) (fun i H x H' => J.yld i H x H') :=
        ⟨fun i H hi ⟨M, k, hm⟩ => (ir H M B k hm hB).1 i hi, fun H ⟨M, k, hm⟩ => (ir H M B k hm hB).2.1, fun i H x H' _ _ y => y⟩
      refine for_it walk (fun i σ' H' => ∃ M' st' ρ', Kp H1 M1 H' M' ∧ Cels (wd X I.nm) H' M' B st' ∧ EnvR (wd X I.nm) H' M' B ρ' σ' ∧ Sub ρ0 ρ' ∧
        ResS (wd X I.nm) B We ρ0 H' M' (forR (fun x ρ st => match setTg t x ρ with
          | none => .bad
          | some ρ' => evS G cf N b ρ' st) (xs.drop i) ρ' st') D) ⟨M1, st1, ρ, .refl _ _, s1, p.er.mono k1, p.sb, r1⟩ ?_ ?_ ?_
      · rintro i σ' H' hi ⟨M', st', ρ', k', s', _⟩
        exact ⟨M', k', fun a ha => s'.mem ha⟩
      · rintro i u σ' H2 H3 hi ⟨M', st', ρ', k', s', e', sb', r'⟩ hy
        obtain ⟨pv, ep, hh, rp⟩ := (ir H2 M' B k' (fun a ha => s'.mem ha) hB).2.2 i u H3 hi hy
        have hd : xs.drop i = pv :: xs.drop (i + 1) := by
          obtain ⟨hl, e1⟩ := List.getElem?_eq_some_iff.mp ep
          rw [List.drop_eq_getElem_cons hl, e1]
        rw [hd] at r'
        have st3 : Kp H2 M' H3 M' ∧ Cels (wd X I.nm) H3 M' B st' := by
          rcases hh with rfl | ⟨T, o, hT, rfl⟩
          · exact ⟨.refl _ _, s'⟩
          · exact ⟨.new hT, s'.new hT⟩
        obtain ⟨k3, s3⟩ := st3
        have r2 : ResS (wd X I.nm) B We ρ0 H3 M' ((match setTg t pv ρ' with
          | none => R.bad
          | some ρ' => evS G cf N b ρ' st').bind fun fl st1 => match fl with
            | .nx ρ' => forR (fun x ρ st => match setTg t x ρ with
              | none => .bad
              | some ρ' => evS G cf N b ρ' st) (xs.drop (i + 1)) ρ' st1
            | .rt v => .ok (.rt v) st1) D := ResS.mono r' k3
        cases es : setTg t pv ρ' with
        | none => rw [es] at r2; exact r2.elim
        | some ρ2 =>
          rw [es] at r2
          refine setTg_g t pv u ρ' ρ2 σ' _ (chkTg_wf t tg h2) es (e'.mono k3) rp fun σ2 env2 sl => ?_
          refine hb.L ⟨p.cs, env2, s3, Sub.tg t pv ρ' ρ2 ρ0 es sb' hnt⟩ h3 hnb (ResS.seq r2 (fun ρ4 st4 σ4 H4 M4 k4 s4 e4 sb4 r4 => ?_) (fun v st => rfl) rfl)
          exact ⟨M4, st4, ρ4, (k'.trans k3).trans k4, s4, e4, sb4, r4⟩
      · rintro σ' H' ⟨M', st', ρ', k', s', e', sb', r'⟩
        rw [List.drop_length] at r'
        exact r' σ' H' M' (.refl _ _) s' e' sb'
theorem sd_while (c : Ex) (b : Sm) (hb : SndS I G cf N b) : SndS I G cf N (.while c b) where
  L := fun p h => (noL rfl h).elim
  S := fun {X We ρ0 σ ρ H M B st x D} p h hn r => by
    cases x <;> first | (exact absurd h Bool.false_ne_true) | skip
    rename_i t body els pos
    cases els with
    | cons _ _ => exact absurd h Bool.false_ne_true
    | nil =>
      obtain ⟨h1, h2⟩ := mem_bool (show (chkE I c X.env.scope t && chkS I b X.env.scope body) = true from h)
      refine evS_of (ps_while p.cs.own pt_ev pss_ev) ?_
      refine ⟨fun m σ' H' => ∃ M' st' ρ', Kp H M H' M' ∧ Cels (wd X I.nm) H' M' B st' ∧ EnvR (wd X I.nm) H' M' B ρ' σ' ∧ Sub ρ0 ρ' ∧
        ResS (wd X I.nm) B We ρ0 H' M' (whR (fun ρ st => tstR false (evE G cf c ρ) st) (fun ρ st => evS G cf N b ρ st) m ρ' st') D, ⟨N, M, st, ρ, .refl _ _, p.cl, p.er, p.sb, r⟩, ?_⟩
      rintro m σ' H' ⟨M', st', ρ', k', s', e', sb', r'⟩
      cases m with
      | zero => exact r'.elim
      | succ m =>
        have r2 : ResS (wd X I.nm) B We ρ0 H' M' ((tstR false (evE G cf c ρ') st').bind fun d st1 => if d then (evS G cf N b ρ' st1).bind fun fl st2 => (match fl with
          | .nx ρ' => whR (fun ρ st => tstR false (evE G cf c ρ) st) (fun ρ st => evS G cf N b ρ st) m ρ' st2
          | .rt v => .ok (.rt v) st2) else .ok (.nx ρ') st1) D := r'
        have pt : Pt I G cf X true We σ' ρ' H' M' B st' := ⟨p.cs.cx, e', s'⟩
        refine (snd c).T pt h1 (ResS.bind r2 e' sb' fun d st1 d' H1 M1 k1 s1 e1 r3 => ?_)
        subst e1
        cases d' with
        | false => exact r3 σ' H1 M1 (.refl _ _) s1 (e'.mono k1) sb'
        | true =>
          rw [if_pos rfl]
          refine ⟨_, fun σ2 H2 z => ⟨m, Nat.lt_succ_self _, z⟩, ?_⟩
          refine hb.L ⟨p.cs, e'.mono k1, s1, sb'⟩ h2 (fun i hi => hn i (by simp [Sm.asg, hi])) (ResS.seq (show ResS _ _ _ _ _ _ ((evS G cf N b ρ' st1).bind _) _ from r3) (fun ρ4 st4 σ4 H4 M4 k4 s4 e4 sb4 r4 => ?_) (fun v st => rfl) rfl)
          exact ⟨M4, st4, ρ4, (k'.trans k1).trans k4, s4, e4, sb4, r4⟩
theorem sd_put (o i e : Ex) : SndS I G cf N (.put o i e) where
  L := fun p h => (noL rfl h).elim
  S := fun {X We ρ0 σ ρ H M B st x D} p h hn r => by
    cases x <;> first | (exact absurd h Bool.false_ne_true) | skip
    rename_i ts v pos
    rcases ts with _ | ⟨t, _ | ⟨t2, ts⟩⟩
    · exact absurd h Bool.false_ne_true
    · cases t <;> first | (exact absurd h Bool.false_ne_true) | skip
      rename_i a b spos
      obtain ⟨h1, h⟩ := mem_bool (show (chkE I o X.env.scope a && (chkE I i X.env.scope b && chkE I e X.env.scope v)) = true from h)
      obtain ⟨h2, h3⟩ := mem_bool h
      have ho := chk_odd h2
      refine evS_of (ps_asg pe_ev (pg_sub pe_ev pe_ev set_list (by cases b <;> first | (intro _; rfl) | (cases ho; done))) (by cases v <;> rfl) (by cases v <;> rfl) rfl) ?_
      refine (snd e).E p.pt h3 (ResS.bind r p.er p.sb fun x st1 u H1 M1 k1 s1 ru r1 => ?_)
      have p1 := p.pt.go k1 s1
      refine (snd o).E p1 h1 (ResS.bind r1 p1.er p.sb fun y st2 w H2 M2 k2 s2 rw' r2 => ?_)
      have p2 := p1.go k2 s2
      refine (snd i).E p2 h2 (ResS.bind r2 p2.er p.sb fun z st3 q H3 M3 k3 s3 rq r3 => ?_)
      have ry := rw'.mono k3
      have rx := (ru.mono k2).mono k3
      have r3 : ResS (wd X I.nm) B We ρ0 H3 M3 (R.sto ρ (putV st3 y z x)) D := r3
      cases e1 : putV st3 y z x with
      | none => rw [e1] at r3; exact r3.elim
      | some st4 =>
        rw [e1] at r3
        unfold putV at e1
        split at e1
        · rename_i n k
          split at e1
          · rename_i xs hx
            split at e1
            · rename_i hc
              obtain ⟨j, hj, e2⟩ := Option.map_eq_some_iff.mp e1
              subst e2
              cases ry with
              | cel hm =>
                cases rq
                obtain ⟨vs, hv, rr⟩ := s3.get hm hx
                refine ⟨_, vs, k, j, rfl, rfl, hv, by rw [← rr.length]; exact hj, ?_⟩
                have kk : Kp H3 M3 (upd H3 _ (.lst (vs.set j u))) M3 := .cset (List.mem_of_getElem? hm) (by rw [hv]; exact fun z => nomatch z)
                exact r3 σ _ M3 kk (s3.cset hm (rr.set j rx)) (((p2.go k3 s3).er).mono kk) p.sb
            · cases e1
          · cases e1
        · cases e1
    · cases t <;> exact absurd h Bool.false_ne_true
theorem sd_app (o e : Ex) : SndS I G cf N (.app o e) where
  L := fun p h => (noL rfl h).elim
  S := fun {X We ρ0 σ ρ H M B st x D} p h hn r => by
    cases x <;> first | (exact absurd h Bool.false_ne_true) | skip
    rename_i c pos
    cases c <;> first | (exact absurd h Bool.false_ne_true) | skip
    rename_i fn es kw cpos
    cases fn <;> first | (exact absurd h Bool.false_ne_true) | skip
    rename_i b n apos
    cases b <;> first | (exact absurd h Bool.false_ne_true) | skip
    rename_i bn bp
    rcases es with _ | ⟨y, _ | ⟨y2, es⟩⟩ <;> rcases kw with _ | ⟨_, _⟩ <;> first | (exact absurd h Bool.false_ne_true) | skip
    obtain ⟨h0, h⟩ := mem_bool (show (decide (n = ("append" : Str)) && ((apos.endLine == cpos.line) && (chkE I o X.env.scope (.Name bn bp) && chkE I e X.env.scope y))) = true from h)
    obtain ⟨h1, h⟩ := mem_bool h
    obtain ⟨h2, h3⟩ := mem_bool h
    have hnm := of_decide_eq_true h0
    subst hnm
    have hst : starEach [y] X.env = (false, eval y X.env) :: starEach [] X.env := star_of (chk_odd h3) _
    refine evS_of (ps_expr (pe_bm PySem.F.plainAttrs_list PySem.F.slot_list_append PySem.F.type_list_append mt_append pe_ev pa_ev rfl (by rw [hst]; rfl) h1 hst rfl) rfl) ?_
    refine (snd o).E p.pt h2 (ResS.bind r p.er p.sb fun yv st1 u H1 M1 k1 s1 ru r1 => ?_)
    cases yv <;> first | (exact r1.elim) | skip
    rename_i m
    have r1 : ResS (wd X I.nm) B We ρ0 H1 M1 ((evE G cf e ρ st1).bind fun x st2 => R.sto ρ (appV st2 (.cel m) x)) D := r1
    have p1 := p.pt.go k1 s1
    cases ru with
    | cel hm =>
      rename_i a
      refine ⟨.inl ⟨rfl, ?_⟩, ?_⟩
      · obtain ⟨ho, hl⟩ := s1.isL (List.mem_of_getElem? hm)
        cases ho with
        | lst vs => exact ⟨vs, .inl (.inl hl.1)⟩
        | _ => exact hl.2.elim
      · refine evA1 (chk_odd h3) ((snd e).E p1 h3 (ResS.bind r1 p1.er p.sb fun xv st2 w H2 M2 k2 s2 rx r2 => ?_))
        cases e1 : appV st2 (.cel m) xv with
        | none => rw [e1] at r2; exact r2.elim
        | some st4 =>
          rw [e1] at r2
          unfold appV at e1
          dsimp only at e1
          split at e1
          · rename_i xs hx
            split at e1
            · rename_i hc
              cases e1
              have hm2 := k2.m _ _ hm
              obtain ⟨vs, hv, rr⟩ := s2.get hm2 hx
              obtain ⟨c1, c2⟩ := mem_bool hc
              refine ⟨_, vs, w, rfl, rfl, hv, ?_, ?_⟩
              · rw [← rr.length]; exact Nat.lt_of_lt_of_le (of_decide_eq_true c2) line_big
              · have kk : Kp H2 M2 (upd H2 a (.lst (vs ++ [w]))) M2 := .cset (List.mem_of_getElem? hm2) (by rw [hv]; exact fun z => nomatch z)
                exact r2 σ _ M2 kk (s2.cset hm2 (rr.append (.cons rx .nil))) (((p1.go k2 s2).er).mono kk) p.sb
            · cases e1
          · cases e1
    

theorem chkA_odd {sc : Scope} : ∀ (as : Ex) (xs : List Expr), chkA I as sc xs = true → ∀ v ∈ xs, oddE v = false := by
  intro as
  induction as with
  | nil =>
    intro xs h
    cases xs with
    | nil => intro v hv; cases hv
    | cons _ _ => exact absurd h Bool.false_ne_true
  | cons a as iha ih =>
    intro xs h
    cases xs with
    | nil => exact absurd h Bool.false_ne_true
    | cons x xs =>
      obtain ⟨h1, h2⟩ := mem_bool (show (chkE I a sc x && chkA I as sc xs) = true from h)
      intro v hv
      rcases List.mem_cons.mp hv with rfl | hv
      · exact chk_odd h1
      · exact ih xs h2 v hv
  | _ => intro xs h; exact (noA rfl h).elim
theorem par_is {sc : Scope} {t : Tg} {e : Ex} {ts : List Expr} (h : parT sc t e ts = true) :
    (∃ i j as x px y py, t = .cons (.nm i) (.cons (.nm j) .nil) ∧ e = .tup as ∧ ts = [.Name x px, .Name y py] ∧ i ≠ j ∧ sc.names.lookup x = some .local ∧ sc.names.lookup y = some .local ∧ swNames sc ts = [x, y]) ∨
    (∃ i j k as x px y py z pz, t = .cons (.nm i) (.cons (.nm j) (.cons (.nm k) .nil)) ∧ e = .tup as ∧ ts = [.Name x px, .Name y py, .Name z pz] ∧ i ≠ j ∧ i ≠ k ∧ j ≠ k ∧ sc.names.lookup x = some .local ∧ sc.names.lookup y = some .local ∧ sc.names.lookup z = some .local ∧ swNames sc ts = [x, y, z]) := by
  unfold parT at h
  split at h
  · obtain ⟨h1, h⟩ := mem_bool h
    obtain ⟨h2, h⟩ := mem_bool h
    obtain ⟨h3, h4⟩ := mem_bool h
    exact .inl ⟨_, _, _, _, _, _, _, rfl, rfl, rfl, of_decide_eq_true h1, of_decide_eq_true h2, of_decide_eq_true h3, of_decide_eq_true h4⟩
  · obtain ⟨h1, h⟩ := mem_bool h
    obtain ⟨h2, h⟩ := mem_bool h
    obtain ⟨h3, h⟩ := mem_bool h
    obtain ⟨h4, h⟩ := mem_bool h
    obtain ⟨h5, h⟩ := mem_bool h
    obtain ⟨h6, h7⟩ := mem_bool h
    exact .inr ⟨_, _, _, _, _, _, _, _, _, _, rfl, rfl, rfl, of_decide_eq_true h1, of_decide_eq_true h2, of_decide_eq_true h3, of_decide_eq_true h4, of_decide_eq_true h5, of_decide_eq_true h6, of_decide_eq_true h7⟩
  · cases h
theorem chk_tup_odd {sc : Scope} {vs : List Expr} {k : Nat} {p : Pos} (e : Ex) (h : chkE I e sc (.Tuple vs k p) = true) : ∀ v ∈ vs, oddE v = false := by
  induction e with
  | tup as _ => exact chkA_odd as vs (mem_bool (show (decide (vs.length ≤ 1000) && chkA I as sc vs) = true from h)).2
  | cell e ih => exact ih (mem_bool (show (freshE e && chkE I e sc (.Tuple vs k p)) = true from h)).2
  | _ => exact absurd h Bool.false_ne_true
theorem sd_setT (t : Tg) (e : Ex) : SndS I G cf N (.setT t e) where
  L := fun p h => (noL rfl h).elim
  S := fun {X We ρ0 σ ρ H M B st x D} p h hn r => by
    cases x <;> first | (exact absurd h Bool.false_ne_true) | skip
    rename_i tss v pos
    rcases tss with _ | ⟨tg, _ | ⟨t2, tss⟩⟩
    · exact absurd h Bool.false_ne_true
    · cases tg <;> first | (exact absurd h Bool.false_ne_true) | skip
      rename_i ts k tpos
      obtain ⟨h1, h⟩ := mem_bool (show (chkTg I true X.env.scope t (.Tuple ts k tpos) && (chkE I e X.env.scope v && styleB X.env.scope t e ts v)) = true from h)
      obtain ⟨h2, h3⟩ := mem_bool h
      have cx := p.cs.cx
      have left : swappedStores [.Tuple ts k tpos] v X.env = pure none → swapsWithSole [.Tuple ts k tpos] v pos.line X.env = pure false → EvS X (.Assign [.Tuple ts k tpos] v pos) D σ H := fun hw hs => by
        refine evS_of (ps_asg pe_ev (pg_of cx.calm cx.nd cx.N cx.fn t _ h1) hs hw rfl) ((snd e).E p.pt h2 (ResS.bind r p.er p.sb fun a st1 u H1 M1 k1 s1 ru r1 => ?_))
        have r1 : ResS (wd X I.nm) B We ρ0 H1 M1 (R.lift ((setTg t a ρ).map .nx) st1) D := r1
        cases es : setTg t a ρ with
        | none => rw [es] at r1; exact r1.elim
        | some ρ' =>
          rw [es] at r1
          exact setTg_g t a u ρ ρ' σ D.nx (chkTg_wf t _ h1) es (p.er.mono k1) ru fun σ' e' _ => r1 σ' H1 M1 (.refl _ _) s1 e' (Sub.tg t a ρ ρ' ρ0 es p.sb hn)
      have hsw : isLc v = true ∨ isLc v = false := by cases isLc v <;> simp
      have sole : swapsWithSole [.Tuple ts k tpos] v pos.line X.env = pure false := by cases v <;> rfl
      by_cases hv : ∃ vs k2 p2, v = .Tuple vs k2 p2
      · obtain ⟨vs, k2, p2, rfl⟩ := hv
        have odd : ∀ v ∈ vs, oddE v = false := chk_tup_odd e h2
        have h3 : (swN X.env.scope ts vs || (swS vs && parT X.env.scope t e ts)) = true := h3
        cases q : swN X.env.scope ts vs with
        | true => exact left (sw_none p.cs.kind odd q) sole
        | false =>
          rw [q] at h3
          obtain ⟨h3, h4⟩ := mem_bool (show (swS vs && parT X.env.scope t e ts) = true from h3)
          have hw := sw_some (k := k) (k2 := k2) (p := tpos) (p2 := p2) p.cs.kind odd q h3
          have hlen : vs.length = ts.length := by
            unfold swN at q
            simp only [Bool.or_eq_false_iff] at q
            simpa using q.1.2
          rcases par_is h4 with ⟨i, j, as, x, px, y, py, rfl, rfl, rfl, hij, hx, hy, hs⟩ | ⟨i, j, l, as, x, px, y, py, z, pz, rfl, rfl, rfl, hij, hil, hjl, hx, hy, hz, hs⟩
          · rw [hs] at hw
            rcases vs with _ | ⟨a, _ | ⟨b, _ | ⟨c, vs⟩⟩⟩ <;> first | (cases hlen; done) | skip
            obtain ⟨c1, c2⟩ := mem_bool (show (chkTg I true X.env.scope (.nm i) (.Name x px) && (chkTg I true X.env.scope (.nm j) (.Name y py) && chkTgs I true X.env.scope .nil [])) = true from h1)
            obtain ⟨c2, _⟩ := mem_bool c2
            have i1 : X.N[i]? = some x := by rw [cx.N]; exact of_decide_eq_true (mem_bool (show (decide (I.N[i]? = some x) && locB true X.env.scope x) = true from c1)).1
            have i2 : X.N[j]? = some y := by rw [cx.N]; exact of_decide_eq_true (mem_bool (show (decide (I.N[j]? = some y) && locB true X.env.scope y) = true from c2)).1
            have ha := (mem_bool (show (decide ([a, b].length ≤ 1000) && chkA I as X.env.scope [a, b]) = true from h2)).2
            refine evS_of (ps_par cx.calm cx.nd i1 i2 hij hx hy pa_ev hw sole) ((snd as).A p.pt ha ?_)
            have r' : ResS (wd X I.nm) B We ρ0 H M (((evA G cf as ρ st).bind fun xs st1 => .ok (.tup xs) st1).bind fun x st1 => R.lift ((setTg (.cons (.nm i) (.cons (.nm j) .nil)) x ρ).map .nx) st1) D := r
            have r2 : ResS (wd X I.nm) B We ρ0 H M ((evA G cf as ρ st).bind fun xs st1 => R.lift ((setTg (.cons (.nm i) (.cons (.nm j) .nil)) (.tup xs) ρ).map .nx) st1) D := by
              cases qe : evA G cf as ρ st with
              | ok xs st1 => rw [qe] at r'; exact r'
              | ex c st1 => rw [qe] at r'; exact r'
              | bad => rw [qe] at r'; exact r'
            refine ResS.bind r2 p.er p.sb fun xs st1 us H1 M1 k1 s1 ru r1 => ?_
            cases ru with
            | nil => exact r1.elim
            | cons ra ru =>
              cases ru with
              | nil => exact r1.elim
              | cons rb ru =>
                cases ru with
                | cons _ _ => exact r1.elim
                | nil => exact ⟨_, _, rfl, r1 _ H1 M1 (.refl _ _) s1 (((p.er.mono k1).set ra).set rb) ((p.sb.set (hn i (by simp [Sm.asg, Tg.slots]))).set (hn j (by simp [Sm.asg, Tg.slots])))⟩
          · rw [hs] at hw
            rcases vs with _ | ⟨a, _ | ⟨b, _ | ⟨c, _ | ⟨d, vs⟩⟩⟩⟩ <;> first | (cases hlen; done) | skip
            obtain ⟨c1, c2⟩ := mem_bool (show (chkTg I true X.env.scope (.nm i) (.Name x px) && (chkTg I true X.env.scope (.nm j) (.Name y py) && (chkTg I true X.env.scope (.nm l) (.Name z pz) && chkTgs I true X.env.scope .nil []))) = true from h1)
            obtain ⟨c2, c3⟩ := mem_bool c2
            obtain ⟨c3, _⟩ := mem_bool c3
            have i1 : X.N[i]? = some x := by rw [cx.N]; exact of_decide_eq_true (mem_bool (show (decide (I.N[i]? = some x) && locB true X.env.scope x) = true from c1)).1
            have i2 : X.N[j]? = some y := by rw [cx.N]; exact of_decide_eq_true (mem_bool (show (decide (I.N[j]? = some y) && locB true X.env.scope y) = true from c2)).1
            have i3 : X.N[l]? = some z := by rw [cx.N]; exact of_decide_eq_true (mem_bool (show (decide (I.N[l]? = some z) && locB true X.env.scope z) = true from c3)).1
            have ha := (mem_bool (show (decide ([a, b, c].length ≤ 1000) && chkA I as X.env.scope [a, b, c]) = true from h2)).2
            refine evS_of (ps_par3 cx.calm cx.nd i1 i2 i3 hij hil hjl hx hy hz pa_ev hw sole) ((snd as).A p.pt ha ?_)
            have r' : ResS (wd X I.nm) B We ρ0 H M (((evA G cf as ρ st).bind fun xs st1 => .ok (.tup xs) st1).bind fun x st1 => R.lift ((setTg (.cons (.nm i) (.cons (.nm j) (.cons (.nm l) .nil))) x ρ).map .nx) st1) D := r
            have r2 : ResS (wd X I.nm) B We ρ0 H M ((evA G cf as ρ st).bind fun xs st1 => R.lift ((setTg (.cons (.nm i) (.cons (.nm j) (.cons (.nm l) .nil))) (.tup xs) ρ).map .nx) st1) D := by
              cases qe : evA G cf as ρ st with
              | ok xs st1 => rw [qe] at r'; exact r'
              | ex c st1 => rw [qe] at r'; exact r'
              | bad => rw [qe] at r'; exact r'
            refine ResS.bind r2 p.er p.sb fun xs st1 us H1 M1 k1 s1 ru r1 => ?_
            cases ru with
            | nil => exact r1.elim
            | cons ra ru =>
              cases ru with
              | nil => exact r1.elim
              | cons rb ru =>
                cases ru with
                | nil => exact r1.elim
                | cons rc ru =>
                  cases ru with
                  | cons _ _ => exact r1.elim
                  | nil => exact ⟨_, _, _, rfl, r1 _ H1 M1 (.refl _ _) s1 ((((p.er.mono k1).set ra).set rb).set rc) (((p.sb.set (hn i (by simp [Sm.asg, Tg.slots]))).set (hn j (by simp [Sm.asg, Tg.slots]))).set (hn l (by simp [Sm.asg, Tg.slots])))⟩
      · refine left ?_ sole
        cases v <;> first | rfl | (exact (hv ⟨_, _, _, rfl⟩).elim)
    · cases tg <;> exact absurd h Bool.false_ne_true
/-- every statement -/
theorem sdS (a : Sm) : SndS I G cf N a := by
  induction a with
  | skip => exact sd_skip
  | seq a b ha hb => exact sd_seq a b ha hb
  | set i e => exact sd_set i e
  | setT t e => exact sd_setT t e
  | put o i e => exact sd_put o i e
  | app o e => exact sd_app o e
  | ret e => exact sd_ret e
  | ite c a b ha hb => exact sd_ite c a b ha hb
  | «for» t it b hb => exact sd_for t it b hb
  | «while» c b hb => exact sd_while c b hb
  | raise c m => exact sd_raise c m
  | drop e => exact sd_drop e
end
end Mi

end

section
set_option linter.all false
set_option maxRecDepth 100000
/-! Mi, part L: defs keep the promise that the evaluator makes. -/
namespace Mi
open PySem PySem.Spec PyProof.Rows L2

/-! ### a def of the text -/
structure Def where
  x : Str
  fn : Fn
  params : Arguments
  body : List Stmt
  scope : Scope
def nodupB : List Str → Bool
  | [] => true
  | x :: xs => !(xs.contains x) && nodupB xs
theorem nodupB_ok : ∀ {xs : List Str}, nodupB xs = true → xs.Nodup
  | [], _ => List.nodup_nil
  | x :: xs, h => by
    obtain ⟨h1, h2⟩ := mem_bool (show (!(xs.contains x) && nodupB xs) = true from h)
    exact List.nodup_cons.mpr ⟨by simpa using h1, nodupB_ok h2⟩
def scopeB (ns ps : List Str) (sc : Scope) : Bool :=
  (match sc.kind with | .function => true | _ => false) && (!sc.isCoroutine && (!sc.isGenerator && (nodupB ns && (decide (ns.take ps.length = ps) && ((ps.all fun x => match sc.names.lookup x with
    | some .local => true
    | some .cell => true
    | _ => false) && sc.names.all fun y => match y.2 with | .free => false | _ => true)))))
theorem scopeB_ok {ns ps : List Str} {sc : Scope} (h : scopeB ns ps sc = true) : FnScope ns ps sc := by
  obtain ⟨h1, h⟩ := mem_bool h
  obtain ⟨h2, h⟩ := mem_bool h
  obtain ⟨h3, h⟩ := mem_bool h
  obtain ⟨h4, h⟩ := mem_bool h
  obtain ⟨h5, h⟩ := mem_bool h
  obtain ⟨h6, h7⟩ := mem_bool h
  refine ⟨?_, by simpa using h2, by simpa using h3, nodupB_ok h4, of_decide_eq_true h5, fun x hx => ?_, fun y hy e => ?_⟩
  · split at h1
    · rename_i e; exact e
    · cases h1
  · have := List.all_eq_true.mp h6 x hx
    split at this
    · rename_i e; exact .inl e
    · rename_i e; exact .inr e
    · cases this
  · have := List.all_eq_true.mp h7 y hy
    rw [e] at this
    cases this
def Def.ok (nm : Nat → Str) (F C : Nat → Bool) (d : Def) : Bool := scopeB d.fn.ns d.fn.ps d.scope && chkS ⟨d.fn.ns, nm, F, C⟩ d.fn.body d.scope d.body
def Def.Bd (d : Def) : Prop := ∀ (kV doc pm : Value) (an : Option Addr) (cdv ct : Value) (us : List Value), us.length = d.fn.ps.length → bindArgs (PySem.W.fnOf d.x d.x d.params d.body d.scope .none kV doc pm an cdv ct) ⟨us, []⟩ = pure (d.fn.ps.zip us)

/-! ### a module's facts -/
structure Mdl where
  defs : List Def
  nm : Nat → Str
  C : Nat → Bool
  G : GlobF
def Mdl.F (m : Mdl) : Nat → Bool := fun f => decide (f < m.defs.length)
def Mdl.T (m : Mdl) : Nat → Option Fn := fun f => (m.defs[f]?).map (·.fn)
structure MdlOk (m : Mdl) (K : PySem.W.Frag) (mg : Str → Option Value) : Prop where
  ok : m.defs.all (Def.ok m.nm m.F m.C) = true
  nm : ∀ (f : Nat) (d : Def), m.defs[f]? = some d → m.nm f = d.x
  fd : ∀ (f : Nat) (d : Def), m.defs[f]? = some d → ∃ a fd, mg d.x = some (.ref a) ∧ FunD K d.x d.x d.params d.body d.scope [] [] a fd
  bd : ∀ (f : Nat) (d : Def), m.defs[f]? = some d → d.Bd
  exc : ∀ c, m.C c = true → ∃ a B newId initId bmB, mg (m.nm c) = some (.ref a) ∧ PySem.W.keepIn K (.ref a) = true ∧ PySem.W.subIn K (.ref a) (.type "BaseException") = some true ∧ PySem.W.typeIn K (.ref a) = some (.type "type") ∧
    ExcBaseFacts B newId initId bmB ∧ PySem.W.excIn K a bmB newId = true
  glob : ∀ g v, m.G g = some v → ∃ u x, mg (m.nm g) = some u ∧ RelV x u ∧ ∀ H M B, Rel ⟨K, mg, m.nm⟩ H M B v x
  free : ∀ x, x ∈ bnames → mg x = none
section
variable {m : Mdl} {P : Program} {w : World} {K : PySem.W.Frag} {mg : Str → Option Value} {base : Heap} {N : Nat}
theorem sp_len {fn : Fn} {f : Nat} {d : Nat} (hT : m.T f = some fn) (vs : List V) (H : Hp) (Q : VK) (E : XK) (h : spOf ⟨K, mg, m.nm⟩ (runF m.G m.T N (d + 1)) f vs H Q E) : vs.length = fn.ps.length := by
  obtain ⟨as, M, B, st, r, s, q⟩ := h
  rw [← r.length]
  by_cases e : as.length = fn.ps.length
  · exact e
  · have : runF m.G m.T N (d + 1) f as st = .bad := by
      show (match m.T f with
        | none => R.bad
        | some fn => if as.length = fn.ps.length then (evS m.G (runF m.G m.T N d) N fn.body (startE fn as) st).bind Fl.val else .bad) = _
      rw [hT]
      show (if as.length = fn.ps.length then _ else R.bad) = R.bad
      rw [if_neg e]
    rw [this] at q
    exact q.elim
theorem env_start {wl : Wd} {H : Hp} {M : List Addr} {B : Addr → Prop} {fn : Fn} {as : List PV} {vs : List V} (r : Rels wl H M B as vs) (hl : as.length ≤ fn.ns.length) : EnvR wl H M B (startE fn as) (L2.start fn.ns vs) := by
  unfold startE L2.start
  refine ⟨by rw [List.length_append, List.length_append, List.length_map, List.length_map, List.length_replicate, List.length_replicate, r.length], fun i v e => ?_⟩
  have hv := r.length
  by_cases h : i < as.length
  · rw [List.getElem?_append_left (by simpa using h), List.getElem?_map] at e
    cases q : as[i]? with
    | none => rw [q] at e; cases e
    | some x =>
      rw [q] at e
      cases e
      obtain ⟨u, h1, h2⟩ := r.get q
      refine ⟨u, ?_, h2⟩
      rw [List.getElem?_append_left (by simpa [← hv] using h), List.getElem?_map, h1]
      rfl
  · rw [List.getElem?_append_right (by simpa using h), List.getElem?_replicate] at e
    split at e <;> cases e
/-- THE RULE: every def keeps what the evaluator says, to any depth -/
theorem defs_ok (hm : MdlOk m K mg) : ∀ (d f : Nat) (D : Def), m.defs[f]? = some D → ∃ a fd, mg (m.nm f) = some (.ref a) ∧ PySem.W.keepIn K (.ref a) = true ∧ Binds K fd D.fn.ps [] ∧
    FunD K D.x D.x D.params D.body D.scope [] [] a fd ∧ FnOk P w K mg base (L2.CX P w) d a fd D.fn.ps (spOf ⟨K, mg, m.nm⟩ (runF m.G m.T N d) f) := by
  intro d
  induction d with
  | zero =>
    intro f D hD
    obtain ⟨a, fd, g, F⟩ := hm.fd f D hD
    refine ⟨a, fd, by rw [hm.nm f D hD]; exact g, F.kp, F.bindsN (hm.bd f D hD), F, ⟨fun vs H Q E h => ?_, fun A outer s H args us vs Q E _ _ _ _ h => ?_⟩⟩
    · obtain ⟨as, M, B, st, r, s, q⟩ := h
      exact (show False from q).elim
    · obtain ⟨as, M, B, st, r, s, q⟩ := h
      exact (show False from q).elim
  | succ d ih =>
    intro f D hD
    obtain ⟨a, fd, g, F⟩ := hm.fd f D hD
    have hT : m.T f = some D.fn := by show (m.defs[f]?).map (·.fn) = _; rw [hD]; rfl
    obtain ⟨k1, k2⟩ := mem_bool (show (scopeB D.fn.ns D.fn.ps D.scope && chkS ⟨D.fn.ns, m.nm, m.F, m.C⟩ D.fn.body D.scope D.body) = true from List.all_eq_true.mp hm.ok D (List.mem_of_getElem? hD))
    have S := scopeB_ok k1
    refine ⟨a, fd, by rw [hm.nm f D hD]; exact g, F.kp, F.bindsN (hm.bd f D hD), F, F.ok S (sp_len hT) fun cdv A outer s H vs Q E hr h => ?_⟩
    refine ⟨_, pss_ev, ?_⟩
    have hl := sp_len hT vs H Q E h
    obtain ⟨as, M, B, st, r, sc, q⟩ := h
    have hal : as.length = D.fn.ps.length := by rw [r.length]; exact hl
    have hpl : D.fn.ps.length ≤ D.fn.ns.length := by have := congrArg List.length S.pre; rw [List.length_take] at this; omega
    have er : runF m.G m.T N (d + 1) f as st = (evS m.G (runF m.G m.T N d) N D.fn.body (startE D.fn as) st).bind Fl.val := by
      show (match m.T f with
        | none => R.bad
        | some fn => if as.length = fn.ps.length then (evS m.G (runF m.G m.T N d) N fn.body (startE fn as) st).bind Fl.val else .bad) = _
      rw [hT]
      exact if_pos hal
    rw [er] at q
    have q' : ResS ⟨K, mg, m.nm⟩ B (fun _ c _ H' _ => ∀ a, mg (m.nm c) = some (.ref a) → E (.ref a) none H') (List.replicate D.fn.ns.length none) H M (evS m.G (runF m.G m.T N d) N D.fn.body (startE D.fn as) st) { nx := fun _ H' => Q .non H', rt := Q } := by
      cases e : evS m.G (runF m.G m.T N d) N D.fn.body (startE D.fn as) st with
      | ok fl st1 =>
        rw [e] at q
        cases fl with
        | nx ρ => exact fun σ' H' M' k s1 _ _ => q .non H' M' k s1 .non
        | rt v => exact fun u H' M' k s1 ru => q u H' M' k s1 ru
      | ex c st1 => rw [e] at q; exact fun σ' H' M' k s1 _ => q H' M' k s1
      | bad => rw [e] at q; exact q
    have hun := hr.un
    have cx : Ctx ⟨D.fn.ns, m.nm, m.F, m.C⟩ m.G (runF m.G m.T N d) (cxOf (L2.CX P w) P w K mg base D.fn.ns D.x D.scope a cdv A outer s H E) true (fun _ c _ H' _ => ∀ a, mg (m.nm c) = some (.ref a) → E (.ref a) none H') :=
      { calm := rfl
        nd := S.nd
        N := rfl
        takes := (takes_of rfl rfl rfl rfl).imp fun cls dd σ H' ⟨c, st', M', a', e1, e2, e3, e4⟩ => by subst e1; subst e2; exact e4 a' e3
        un := by show (A.deeper _).units + 65 < cLine; omega
        fns := fun f hf => by
          have hf : f < m.defs.length := of_decide_eq_true hf
          obtain ⟨a', fd', g1, g2, g3, g4, g5⟩ := ih f m.defs[f] (List.getElem?_eq_getElem hf)
          exact ⟨d, a', fd', _, hr, g1, g2, g3, g5⟩
        glob := hm.glob
        free := hm.free
        fn := fun _ _ => rfl }
    refine (sdS D.fn.body).L ⟨⟨cx, passes_of rfl, S.kind, fun c hc => ?_⟩, env_start r (by omega), sc, ?_⟩ k2 (fun i _ v e => ?_) q'
    · obtain ⟨a', B', newId, initId, bmB, m1, m2, m3, m4, m5, m6⟩ := hm.exc c hc
      exact ⟨a', B', newId, initId, bmB, m1, m2, raises_own m3 m4, m5, m6⟩
    · refine ⟨by unfold startE; rw [List.length_replicate, List.length_append, List.length_map, List.length_replicate]; omega, fun i v e => ?_⟩
      rw [List.getElem?_replicate] at e
      split at e <;> cases e
    · rw [List.getElem?_replicate] at e
      split at e <;> cases e
end
end Mi

end

section
set_option linter.all false
set_option maxRecDepth 100000
/-! Mi, part M: a module's facts by the head; the law's end. -/
namespace Mi
open PySem PySem.Spec PyProof.Rows L2


mutual
def kRel (K : PySem.W.Frag) (nm : Nat → Str) : PV → Value → Bool
  | .non, .none => true
  | .bl b, .bool c => b == c
  | .int i, .int j _ => decide (i = j)
  | .str x, .str y _ => decide (x = y)
  | .ty n, .type m => decide (n = m)
  | .glo x, .ref a => decide (PySem.W.nsIn K mainGlobals (nm x) = some (some (.ref a)))
  | .tup xs, .ref a => (match K.lookup a with
    | some ⟨.type c, _, .seq its _, _⟩ => decide (c = "tuple") && (decide (its.size ≤ sizeLine) && kRels K nm xs its.toList)
    | _ => false)
  | .scr xs, .ref a => (match K.lookup a with
    | some ⟨.type c, none, .seq its _, _⟩ => decide (c = "list") && (decide (its.size ≤ sizeLine) && kRels K nm xs its.toList)
    | _ => false)
  | _, _ => false
def kRels (K : PySem.W.Frag) (nm : Nat → Str) : List PV → List Value → Bool
  | [], [] => true
  | x :: xs, v :: vs => kRel K nm x v && kRels K nm xs vs
  | _, _ => false
end
section
variable {K : PySem.W.Frag} {mg : Str → Option Value} {nm : Nat → Str} {h : Heap}
mutual
theorem kRel_ok (X : K.In h) (Gn : h.Ns mainGlobals mg) : ∀ (p : PV) (u : Value), kRel K nm p u = true → ∃ x, RelV x u ∧ ∀ H M B, Rel ⟨K, mg, nm⟩ H M B p x
  | .non, u, e => by cases u <;> first | (exact absurd e Bool.false_ne_true) | exact ⟨.non, rfl, fun _ _ _ => .non⟩
  | .bl b, u, e => by
    cases u <;> first | (exact absurd e Bool.false_ne_true) | skip
    rename_i c
    have e1 : b = c := eq_of_beq (show (b == c) = true from e)
    subst e1
    exact ⟨.bl b, rfl, fun _ _ _ => .bl b⟩
  | .int i, u, e => by
    cases u <;> first | (exact absurd e Bool.false_ne_true) | skip
    rename_i j t
    have e1 : i = j := of_decide_eq_true (show decide (i = j) = true from e)
    subst e1
    exact ⟨.int i, ⟨t, rfl⟩, fun _ _ _ => .int i⟩
  | .str i, u, e => by
    cases u <;> first | (exact absurd e Bool.false_ne_true) | skip
    rename_i j t
    have e1 : i = j := of_decide_eq_true (show decide (i = j) = true from e)
    subst e1
    exact ⟨.str i, ⟨t, rfl⟩, fun _ _ _ => .str i⟩
  | .ty i, u, e => by
    cases u <;> first | (exact absurd e Bool.false_ne_true) | skip
    rename_i j
    have e1 : i = j := of_decide_eq_true (show decide (i = j) = true from e)
    subst e1
    exact ⟨.ty i, rfl, fun _ _ _ => .ty i⟩
  | .glo x, u, e => by
    cases u <;> first | (exact absurd e Bool.false_ne_true) | skip
    rename_i a
    have e1 : PySem.W.nsIn K mainGlobals (nm x) = some (some (.ref a)) := of_decide_eq_true (show decide _ = true from e)
    exact ⟨.ref a, rfl, fun _ _ _ => .glo (PySem.W.mg_of X Gn e1)⟩
  | .tup xs, u, e => by
    cases u <;> first | (exact absurd e Bool.false_ne_true) | skip
    rename_i a
    have e1 : (match K.lookup a with
      | some ⟨.type c, _, .seq its _, _⟩ => decide (c = "tuple") && (decide (its.size ≤ sizeLine) && kRels K nm xs its.toList)
      | _ => false) = true := e
    split at e1
    · rename_i c od its n osl q
      obtain ⟨h1, e1⟩ := mem_bool e1
      obtain ⟨h2, h3⟩ := mem_bool e1
      obtain ⟨vs, r1, r2⟩ := kRels_ok X Gn xs its.toList h3
      refine ⟨.ref a, rfl, fun H M B => .ktup ⟨_, its, n, q, congrArg Value.type (of_decide_eq_true h1), rfl, of_decide_eq_true h2, r1⟩ (r2 H M B)⟩
    · cases e1
  | .scr xs, u, e => by
    cases u <;> first | (exact absurd e Bool.false_ne_true) | skip
    rename_i a
    have e1 : (match K.lookup a with
      | some ⟨.type c, none, .seq its _, _⟩ => decide (c = "list") && (decide (its.size ≤ sizeLine) && kRels K nm xs its.toList)
      | _ => false) = true := e
    split at e1
    · rename_i c its n osl q
      obtain ⟨h1, e1⟩ := mem_bool e1
      obtain ⟨h2, h3⟩ := mem_bool e1
      obtain ⟨vs, r1, r2⟩ := kRels_ok X Gn xs its.toList h3
      refine ⟨.ref a, rfl, fun H M B => .kscr ⟨_, its, n, q, congrArg Value.type (of_decide_eq_true h1), rfl, rfl, of_decide_eq_true h2, r1⟩ (r2 H M B)⟩
    · cases e1
  | .lst xs, u, e => by cases u <;> exact absurd e Bool.false_ne_true
  | .cel n, u, e => by cases u <;> exact absurd e Bool.false_ne_true
theorem kRels_ok (X : K.In h) (Gn : h.Ns mainGlobals mg) : ∀ (ps : List PV) (us : List Value), kRels K nm ps us = true → ∃ xs, Vals xs us ∧ ∀ H M B, Rels ⟨K, mg, nm⟩ H M B ps xs
  | [], us, e => by
    cases us with
    | nil => exact ⟨[], .nil, fun _ _ _ => .nil⟩
    | cons _ _ => exact absurd e Bool.false_ne_true
  | p :: ps, us, e => by
    cases us with
    | nil => exact absurd e Bool.false_ne_true
    | cons u us =>
      obtain ⟨h1, h2⟩ := mem_bool (show (kRel K nm p u && kRels K nm ps us) = true from e)
      obtain ⟨x, r1, r2⟩ := kRel_ok X Gn p u h1
      obtain ⟨xs, r3, r4⟩ := kRels_ok X Gn ps us h2
      exact ⟨x :: xs, .cons r1 r3, fun H M B => .cons (r2 H M B) (r4 H M B)⟩
end
end

/-! ### a module by its lists -/
structure Txt where
  defs : List Def
  /-- all names: the defs', then others' -/
  names : List Str
  /-- exception classes -/
  cls : List Nat
  /-- constants -/
  cons : List (Nat × PV)
def Txt.nm (t : Txt) : Nat → Str := fun i => t.names.getD i ""
def Txt.mdl (t : Txt) : Mdl := ⟨t.defs, t.nm, fun c => t.cls.contains c, fun g => t.cons.lookup g⟩
def Txt.fn (t : Txt) : List He.DefD := t.defs.map fun d => ⟨(d.x, none), d.x, d.x, d.params, d.body, d.scope, [], []⟩
def Txt.fa (t : Txt) : List He.Fa := (t.defs.map fun d => .glo d.x) ++ ((t.cls.map fun c => .glo (t.nm c)) ++ ((t.cls.map fun c => .exc (t.nm c)) ++ bnames.map .free))
def Txt.ex (t : Txt) (K : PySem.W.Frag) : Bool := t.cons.all fun p => match PySem.W.nsIn K mainGlobals (t.nm p.1) with
  | some (some u) => kRel K t.nm p.2 u
  | _ => false
def Txt.hook (t : Txt) : PySem.W.Hook := He.hookX 5 t.fa t.fn [] [] t.ex
/-- the names' list: the defs' names come first -/
def prefB : List Def → List Str → Bool
  | [], _ => true
  | d :: ds, x :: xs => decide (d.x = x) && prefB ds xs
  | _, _ => false
theorem prefB_ok : ∀ {ds : List Def} {xs : List Str}, prefB ds xs = true → ∀ (f : Nat) (d : Def), ds[f]? = some d → xs.getD f "" = d.x
  | [], _, _, f, d, e => by simp at e
  | d :: ds, [], h, _, _, _ => by cases h
  | d :: ds, x :: xs, h, f, d', e => by
    obtain ⟨h1, h2⟩ := mem_bool (show (decide (d.x = x) && prefB ds xs) = true from h)
    cases f with
    | zero =>
      have e : d = d' := by simpa using e
      subst e
      exact (of_decide_eq_true h1).symm
    | succ f => exact prefB_ok h2 f d' (by simpa using e)
def Txt.ok (t : Txt) : Bool := prefB t.defs t.names && t.defs.all (Def.ok t.nm t.mdl.F t.mdl.C)
/-- every def binds -/
def AllBd : List Def → Prop
  | [] => True
  | d :: ds => d.Bd ∧ AllBd ds
theorem AllBd.at_ : ∀ {ds : List Def}, AllBd ds → ∀ (f : Nat) (d : Def), ds[f]? = some d → d.Bd
  | [], _, f, d, e => by simp at e
  | d :: ds, h, 0, d', e => by
    have e : d = d' := by simpa using e
    subst e; exact h.1
  | d :: ds, h, f + 1, d', e => AllBd.at_ h.2 f d' (by simpa using e)
theorem lookup_mem' {α : Type} : ∀ {l : List (Nat × α)} {n : Nat} {v : α}, l.lookup n = some v → (n, v) ∈ l
  | [], _, _, h => by simp at h
  | (k, x) :: l, n, v, h => by
    rw [List.lookup_cons] at h
    cases q : (n == k) with
    | true =>
      rw [q] at h
      have e : n = k := eq_of_beq q
      subst e
      have e2 : x = v := Option.some.inj h
      subst e2
      exact List.mem_cons_self
    | false => rw [q] at h; exact List.mem_cons_of_mem _ (lookup_mem' h)
theorem Txt.mdlOk {t : Txt} {K : PySem.W.Frag} {mg : Str → Option Value} {h h' : Heap} {w : World} (ok : t.ok = true) (bd : AllBd t.defs) (X : K.In h) (Gn : h.Ns mainGlobals mg) (c : He.SaysX t.fa t.fn [] [] t.ex w h' K) : MdlOk t.mdl K mg := by
  obtain ⟨k1, k2⟩ := mem_bool ok
  have fact : ∀ f, f ∈ t.fa → f.ok K = true := fun f hf => He.SaysD.facts c.t.d hf
  refine ⟨k2, fun f d e => prefB_ok k1 f d e, fun f d e => ?_, fun f d e => bd.at_ f d e, fun k hk => ?_, fun g v e => ?_, fun x hx => ?_⟩
  · have hd : d ∈ t.defs := List.mem_of_getElem? e
    obtain ⟨fd, F⟩ := He.SaysD.defs c.t.d (d := ⟨(d.x, none), d.x, d.x, d.params, d.body, d.scope, [], []⟩) (List.mem_map.mpr ⟨d, hd, rfl⟩)
    exact ⟨_, fd, He.glo_ok X Gn (fact _ (List.mem_append_left _ (List.mem_map.mpr ⟨d, hd, rfl⟩))), F⟩
  · have hk : k ∈ t.cls := by simpa [Txt.mdl] using hk
    have g := He.glo_ok X Gn (fact (.glo (t.nm k)) (List.mem_append_right _ (List.mem_append_left _ (List.mem_map.mpr ⟨k, hk, rfl⟩))))
    obtain ⟨e1, e2, e3, e4⟩ := He.exc_ok (fact (.exc (t.nm k)) (List.mem_append_right _ (List.mem_append_right _ (List.mem_append_left _ (List.mem_map.mpr ⟨k, hk, rfl⟩)))))
    exact ⟨_, _, _, _, _, g, e2, e3, e4, PySem.F.excBase_ValueError, e1⟩
  · have hm := lookup_mem' (show t.cons.lookup g = some v from e)
    have q := List.all_eq_true.mp c.more (g, v) hm
    dsimp only at q
    split at q
    · rename_i u hu
      obtain ⟨x, r1, r2⟩ := kRel_ok (mg := mg) X Gn v u q
      exact ⟨u, x, PySem.W.mg_of X Gn hu, r1, r2⟩
    · cases q
  · exact He.free_ok X Gn (fact (.free x) (List.mem_append_right _ (List.mem_append_right _ (List.mem_append_right _ (List.mem_map.mpr ⟨x, hx, rfl⟩)))))

/-- the law's promise: the evaluator, at some fuel, answers True -/
def spLaw (t : Txt) (K : PySem.W.Frag) (mg : Str → Option Value) (d f : Nat) : Sp := fun vs H Q E => ∃ N, spOf ⟨K, mg, t.nm⟩ (runF t.mdl.G t.mdl.T N d) f vs H Q E
theorem scr_rel {K : PySem.W.Frag} {mg : Str → Option Value} {nm : Nat → Str} {H : Hp} {a : Addr} {ns : List Int} (hO : Only H) (hS : SqL K H a (ns.map V.int)) : Rel ⟨K, mg, nm⟩ H [] (fun _ => False) (.scr (ns.map PV.int)) (.ref a) := by
  have rs : Rels ⟨K, mg, nm⟩ H [] (fun _ => False) (ns.map PV.int) (ns.map V.int) := by
    clear hS
    induction ns with
    | nil => exact .nil
    | cons n ns ih => exact .cons (.int n) ih
  rcases hS with (h | ⟨o, h⟩) | h
  · rcases hO a with e | ⟨o, xs, e⟩
    · rw [e] at h; cases h
    · rw [e] at h; cases h
  · exact .scr h (by simp) rs
  · exact .kscr h rs
theorem law_sp {t : Txt} {K : PySem.W.Frag} {mg : Str → Option Value} {d f n : Nat} (law : ∀ ns : List Int, ns.length ≤ n → ∃ N st, runF t.mdl.G t.mdl.T N d f [.scr (ns.map PV.int)] [] = .ok (.bl true) st)
    (H : Hp) (a : Addr) (ns : List Int) (hl : ns.length ≤ n) (hO : Only H) (hS : SqL K H a (ns.map V.int)) : spLaw t K mg d f [.ref a] H (fun v _ => v = .bl true) fun _ _ _ => False := by
  obtain ⟨N, st, e⟩ := law ns hl
  refine ⟨N, [.scr (ns.map PV.int)], [], fun _ => False, [], .cons (scr_rel hO hS) .nil, ⟨rfl, List.nodup_nil, by simp, fun a z => z.elim, fun n a c e => by simp at e⟩, ?_⟩
  rw [e]
  intro u H' M' k s r
  cases r
  rfl
theorem law_fn {t : Txt} {P : Program} {w : World} {K : PySem.W.Frag} {mg : Str → Option Value} {base : Heap} {d f : Nat} {D : Def} (hm : MdlOk t.mdl K mg) (hD : t.defs[f]? = some D) {fa : Addr} (hfa : mg D.x = some (.ref fa)) :
    ∃ fd, FunD K D.x D.x D.params D.body D.scope [] [] fa fd ∧ FnOk P w K mg base (L2.CX P w) d fa fd D.fn.ps (spLaw t K mg d f) := by
  obtain ⟨a, fd, F⟩ := hm.fd f D hD
  have e := F.1.symm.trans hfa
  cases e
  refine ⟨fd, F.2, ⟨fun vs H Q E h => ?_, fun A outer s H args us vs Q E hr he hb hv h => ?_⟩⟩
  · obtain ⟨N, h⟩ := h
    obtain ⟨a', fd', _, _, _, _, G⟩ := defs_ok (P := P) (w := w) (base := base) (N := N) hm d f D hD
    exact G.len vs H Q E h
  · obtain ⟨N, h⟩ := h
    obtain ⟨a', fd', g, _, _, F', G⟩ := defs_ok (P := P) (w := w) (base := base) (N := N) hm d f D hD
    rw [hm.nm f D hD, hfa] at g
    cases g
    have e2 : fd = fd' := by
      obtain ⟨_, _, _, _, _, _, _, _, _, _, _, l1, _⟩ := F.2.ex
      obtain ⟨_, _, _, _, _, _, _, _, _, _, _, l2, _⟩ := F'.ex
      rw [l1] at l2
      cases l2
      rfl
    subst e2
    exact G.run A outer s H args us vs Q E hr he hb hv h

/-- another word about exceptions -/
theorem fn_cx {P : Program} {w : World} {K : PySem.W.Frag} {mg : Str → Option Value} {base : Heap} {CX CX' : CXT} {k : Nat} {f : Addr} {fd : FuncData} {ps : List Str} {sp : Sp} (F : FnOk P w K mg base CX k f fd ps sp) (h : ∀ o H s E e s', CX o H s E e s' → CX' o H s E e s') :
    FnOk P w K mg base CX' k f fd ps sp := ⟨F.len, fun A outer s H args us vs Q E hr he hb hv hs => codeAny_mono (F.run A outer s H args us vs Q E hr he hb hv hs) fun r s' q => by
  cases r with
  | error e => exact h _ _ _ _ _ _ q
  | ok fl => cases fl <;> exact q⟩
def CXA (P : Program) : CXT := fun o H s E e s' => ∃ w, L2.CX P w o H s E e s'
theorem cxa_end {P : Program} (H : Hp) (s : Shared) (e : Value) (s' : Shared) (h : CXA P [] H s (fun _ _ _ => False) e s') : False := by
  obtain ⟨w, a, B, H', cls, d, _, _, _, _, _, _, _, q⟩ := h
  exact q
/-- THE END: the law's def over the head's facts -/
theorem law_end {t : Txt} {P : Program} {d f n : Nat} {D : Def} {h : Heap} {w : World} {mg : Str → Option Value} {fa : Addr} (ok : t.ok = true) (bd : AllBd t.defs) (hD : t.defs[f]? = some D) (hp : D.fn.ps = [("script" : Str)])
    (law : ∀ ns : List Int, ns.length ≤ n → ∃ N st, runF t.mdl.G t.mdl.T N d f [.scr (ns.map PV.int)] [] = .ok (.bl true) st)
    (Y : t.hook.says w h) (Gn : h.Ns mainGlobals mg) (hfa : mg D.x = some (.ref fa)) :
    ∃ (K : PySem.W.Frag) (fd : FuncData) (sp : Sp), K.In h ∧ (∀ (s : Shared) (u : Value), BindsTo s fd ⟨[u], []⟩ [("script", u)]) ∧
      (∀ (H : Hp) (a : Addr) (ns : List Int), ns.length ≤ n → Only H → SqL K H a (ns.map V.int) → sp [.ref a] H (fun v _ => v = .bl true) fun _ _ _ => False) ∧
      ∀ base : Heap, K.In base → base.Ns mainGlobals mg → FnOk P w K mg base (CXA P) d fa fd ["script"] sp := by
  obtain ⟨K, KX, c⟩ := Y
  have hm := Txt.mdlOk ok bd KX Gn c
  obtain ⟨fd, F, _⟩ := law_fn (P := P) (w := w) (base := h) (d := d) hm hD hfa
  refine ⟨K, fd, spLaw t K mg d f, KX, fun s u => ?_, fun H a ns hl hO hS => law_sp law H a ns hl hO hS, fun base _ _ => ?_⟩
  · have b := FunD.bindsA (ps := D.fn.ps) F (bd.at_ f D hD) s [u] (by rw [hp]; rfl)
    rw [hp] at b
    exact b
  · obtain ⟨fd', F', G⟩ := law_fn (P := P) (w := w) (base := base) (d := d) hm hD hfa
    have e2 : fd = fd' := by
      obtain ⟨_, _, _, _, _, _, _, _, _, _, _, l1, _⟩ := F.ex
      obtain ⟨_, _, _, _, _, _, _, _, _, _, _, l2, _⟩ := F'.ex
      rw [l1] at l2
      cases l2
      rfl
    subst e2
    rw [hp] at G
    exact fn_cx G fun o H s E e s' q => ⟨w, q⟩
end Mi

end

section
set_option linter.all false
set_option maxRecDepth 100000
/-! Mi, part N: the evaluator's steps as rewriting rules; results told by a word (Ok). -/
namespace Mi
open PySem L2
/-- what stands behind a statement -/
def seqK (f : Env' → Sto → R Fl) (fl : Fl) (st : Sto) : R Fl := match fl with
  | .nx ρ => f ρ st
  | .rt v => .ok (.rt v) st
/-- a for's turn -/
def forB (t : Tg) (g : Env' → Sto → R Fl) (x : PV) (ρ : Env') (st : Sto) : R Fl := match setTg t x ρ with
  | none => .bad
  | some ρ' => g ρ' st
/-- a comprehension's turn -/
def lcB (tg : Tg) (ow : List Nat) (c : Env' → Sto → R Bool) (e : Env' → Sto → R PV) (ρ : Env') (x : PV) (st : Sto) : R (Option PV) := R.noEx <| match setTg tg x (wipeP ρ ow) with
  | none => .bad
  | some ρ' => (c ρ' st).bind fun b st => if b then (e ρ' st).bind fun y st => .ok (some y) st else .ok none st
def andK (f : Sto → R PV) (x : PV) (st : Sto) : R PV := match x with
  | .bl true => f st
  | .bl false => .ok (.bl false) st
  | _ => .bad
def orK (f : Sto → R PV) (x : PV) (st : Sto) : R PV := match x with
  | .bl true => .ok (.bl true) st
  | .bl false => f st
  | _ => .bad
@[simp] theorem seqK_nx (f : Env' → Sto → R Fl) (ρ : Env') (st : Sto) : seqK f (.nx ρ) st = f ρ st := rfl
@[simp] theorem seqK_rt (f : Env' → Sto → R Fl) (v : PV) (st : Sto) : seqK f (.rt v) st = .ok (.rt v) st := rfl
@[simp] theorem andK_t (f : Sto → R PV) (st : Sto) : andK f (.bl true) st = f st := rfl
@[simp] theorem andK_f (f : Sto → R PV) (st : Sto) : andK f (.bl false) st = .ok (.bl false) st := rfl
@[simp] theorem orK_t (f : Sto → R PV) (st : Sto) : orK f (.bl true) st = .ok (.bl true) st := rfl
@[simp] theorem orK_f (f : Sto → R PV) (st : Sto) : orK f (.bl false) st = f st := rfl
theorem forB_of {t : Tg} {g : Env' → Sto → R Fl} {x : PV} {ρ ρ' : Env'} {st : Sto} (h : setTg t x ρ = some ρ') : forB t g x ρ st = g ρ' st := by unfold forB; rw [h]
@[simp] theorem forB_nm (i : Nat) (g : Env' → Sto → R Fl) (x : PV) (ρ : Env') (st : Sto) : forB (.nm i) g x ρ st = g (ρ.set i (some x)) st := rfl
@[simp] theorem forB_2 (i j : Nat) (g : Env' → Sto → R Fl) (x y : PV) (ρ : Env') (st : Sto) : forB (.cons (.nm i) (.cons (.nm j) .nil)) g (.tup [x, y]) ρ st = g ((ρ.set i (some x)).set j (some y)) st := rfl
/-! what stands behind, by names -/
section
variable (G : GlobF) (cf : CallF) (N : Nat)
def binK2 (o : Operator) (x y : PV) (st : Sto) : R PV := R.lift (binV st o x y) st
def binK1 (o : Operator) (b : Ex) (ρ : Env') (x : PV) (st : Sto) : R PV := (evE G cf b ρ st).bind (binK2 o x)
def negK (x : PV) (st : Sto) : R PV := R.lift (negV x) st
def truK (x : PV) (st : Sto) : R Bool := R.lift (truV st x) st
def tstK (c : Ex) (ρ : Env') (st : Sto) : R Bool := (evE G cf c ρ st).bind truK
def notK (b : Bool) (st : Sto) : R PV := .ok (.bl (!b)) st
def cmpK2 (o : CmpOp) (x y : PV) (st : Sto) : R PV := R.lift ((cmpV st o x y).map .bl) st
def cmpK1 (o : CmpOp) (b : Ex) (ρ : Env') (x : PV) (st : Sto) : R PV := (evE G cf b ρ st).bind (cmpK2 o x)
def chnK3 (o' : CmpOp) (c : Ex) (ρ : Env') (y : PV) (st : Sto) (d : Option Bool) : R PV := match d with
  | some true => (evE G cf c ρ st).bind (cmpK2 o' y)
  | some false => .ok (.bl false) st
  | none => .bad
def chnK2 (o o' : CmpOp) (c : Ex) (ρ : Env') (x y : PV) (st : Sto) : R PV := chnK3 G cf o' c ρ y st (cmpV st o x y)
def chnK1 (o o' : CmpOp) (b c : Ex) (ρ : Env') (x : PV) (st : Sto) : R PV := (evE G cf b ρ st).bind (chnK2 G cf o o' c ρ x)
def iteK (a b : Ex) (ρ : Env') (d : Bool) (st : Sto) : R PV := if d then evE G cf a ρ st else evE G cf b ρ st
def tupK (xs : List PV) (st : Sto) : R PV := .ok (.tup xs) st
def lstK (xs : List PV) (st : Sto) : R PV := .ok (.lst xs) st
def cellK (x : PV) (st : Sto) : R PV := match x with
  | .lst xs => if noCels xs then .ok (.cel st.length) (st ++ [.lst xs]) else .bad
  | _ => .bad
def callK (m : CM) (f : Nat) (xs : List PV) (st : Sto) : R PV := callP cf m f xs st
def biK (b : Bi) (xs : List PV) (st : Sto) : R PV := R.lift (biV st b xs) st
def idxK2 (x y : PV) (st : Sto) : R PV := R.lift (ixV st x y) st
def idxK1 (b : Ex) (ρ : Env') (x : PV) (st : Sto) : R PV := (evE G cf b ρ st).bind (idxK2 x)
def sliK3 (x : PV) (l h : Option Int) (st : Sto) : R PV := match x with
  | .tup xs => .ok (.tup (cutG xs l h)) st
  | x => R.lift ((asL st x).map fun xs => .lst (cutG xs l h)) st
def oIntK (x : PV) (st : Sto) : R (Option Int) := R.lift (oInt x) st
def sliK2 (hi : Ex) (ρ : Env') (x : PV) (l : Option Int) (st : Sto) : R PV := (optR hi.isOmit (evE G cf hi ρ) st).bind (sliK3 x l)
def sliK1 (lo hi : Ex) (ρ : Env') (x : PV) (st : Sto) : R PV := (optR lo.isOmit (evE G cf lo ρ) st).bind (sliK2 G cf hi ρ x)
def lcT (c : Ex) (ρ : Env') (st : Sto) : R Bool := tstR c.isOmit (evE G cf c ρ) st
def lcE (ys : List PV) (st : Sto) : R PV := if ys.length ≤ big then .ok (.lst ys) st else .bad
def lcK (tg : Tg) (ow : List Nat) (c e : Ex) (ρ : Env') (xs : List PV) (st : Sto) : R PV := (compR (lcB tg ow (lcT G cf c) (evE G cf e) ρ) xs st).bind lcE
def lrgK2 (dn : Bool) (x y : PV) (st : Sto) : R PV := R.lift (lrgV dn x y) st
def lrgK1 (dn : Bool) (b : Ex) (ρ : Env') (x : PV) (st : Sto) : R PV := (evE G cf b ρ st).bind (lrgK2 dn x)
def consK2 (x : PV) (xs : List PV) (st : Sto) : R (List PV) := .ok (x :: xs) st
def consK1 (as : Ex) (ρ : Env') (x : PV) (st : Sto) : R (List PV) := (evA G cf as ρ st).bind (consK2 x)
def rng1K (x : PV) (st : Sto) : R (List PV) := match x with
  | .int j => if smallI j then .ok (rngL 0 j.toNat) st else .bad
  | _ => .bad
def rng2K2 (x y : PV) (st : Sto) : R (List PV) := match x, y with
  | .int i, .int j => if smallI i && smallI j then .ok (rngL i (j - i).toNat) st else .bad
  | _, _ => .bad
def rng2K1 (b : Ex) (ρ : Env') (x : PV) (st : Sto) : R (List PV) := (evE G cf b ρ st).bind (rng2K2 x)
def zipO (x y : Option (List PV)) (st : Sto) : R (List PV) := match x, y with
  | some xs, some ys => .ok (zipL xs ys) st
  | _, _ => .bad
def zipK2 (x y : PV) (st : Sto) : R (List PV) := zipO (walkL x) (walkL y) st
def zipK1 (b : Ex) (ρ : Env') (x : PV) (st : Sto) : R (List PV) := (evE G cf b ρ st).bind (zipK2 x)
def enuK (x : PV) (st : Sto) : R (List PV) := R.lift ((walkL x).map enuL) st
def sqK (x : PV) (st : Sto) : R (List PV) := R.lift (walkL x) st
def setK (i : Nat) (ρ : Env') (x : PV) (st : Sto) : R Fl := .ok (.nx (ρ.set i (some x))) st
def setTK (t : Tg) (ρ : Env') (x : PV) (st : Sto) : R Fl := R.lift ((setTg t x ρ).map .nx) st
def putK3 (ρ : Env') (x y z : PV) (st : Sto) : R Fl := R.sto ρ (putV st y z x)
def putK2 (i : Ex) (ρ : Env') (x y : PV) (st : Sto) : R Fl := (evE G cf i ρ st).bind (putK3 ρ x y)
def putK1 (o i : Ex) (ρ : Env') (x : PV) (st : Sto) : R Fl := (evE G cf o ρ st).bind (putK2 G cf i ρ x)
def appK2 (ρ : Env') (n : Nat) (x : PV) (st : Sto) : R Fl := R.sto ρ (appV st (.cel n) x)
def appK1 (e : Ex) (ρ : Env') (y : PV) (st : Sto) : R Fl := match y with
  | .cel n => (evE G cf e ρ st).bind (appK2 ρ n)
  | _ => .bad
def dropK (ρ : Env') (x : PV) (st : Sto) : R Fl := .ok (.nx ρ) st
def retK (x : PV) (st : Sto) : R Fl := .ok (.rt x) st
def iteS (a b : Sm) (ρ : Env') (d : Bool) (st : Sto) : R Fl := if d then evS G cf N a ρ st else evS G cf N b ρ st
def forK (t : Tg) (b : Sm) (ρ : Env') (xs : List PV) (st : Sto) : R Fl := forR (forB t (evS G cf N b)) xs ρ st
def turnK2 (y : PV) (st : Sto) : R (Option PV) := .ok (some y) st
def turnK1 (e : Env' → Sto → R PV) (ρ : Env') (b : Bool) (st : Sto) : R (Option PV) := if b then (e ρ st).bind turnK2 else .ok none st
def whK (c : Env' → Sto → R Bool) (f : Env' → Sto → R Fl) (n : Nat) (ρ : Env') (b : Bool) (st : Sto) : R Fl := if b then (f ρ st).bind (seqK (whR c f n)) else .ok (.nx ρ) st
end
section
variable {G : GlobF} {cf : CallF} {N : Nat}
@[simp] theorem binK2_d (o : Operator) (x y : PV) (st : Sto) : binK2 o x y st = R.lift (binV st o x y) st := rfl
@[simp] theorem binK1_d (o : Operator) (b : Ex) (ρ : Env') (x : PV) (st : Sto) : binK1 G cf o b ρ x st = (evE G cf b ρ st).bind (binK2 o x) := rfl
@[simp] theorem negK_d (x : PV) (st : Sto) : negK x st = R.lift (negV x) st := rfl
@[simp] theorem truK_d (x : PV) (st : Sto) : truK x st = R.lift (truV st x) st := rfl
@[simp] theorem tstK_d (c : Ex) (ρ : Env') (st : Sto) : tstK G cf c ρ st = (evE G cf c ρ st).bind truK := rfl
@[simp] theorem notK_d (b : Bool) (st : Sto) : notK b st = .ok (.bl (!b)) st := rfl
@[simp] theorem cmpK2_d (o : CmpOp) (x y : PV) (st : Sto) : cmpK2 o x y st = R.lift ((cmpV st o x y).map .bl) st := rfl
@[simp] theorem cmpK1_d (o : CmpOp) (b : Ex) (ρ : Env') (x : PV) (st : Sto) : cmpK1 G cf o b ρ x st = (evE G cf b ρ st).bind (cmpK2 o x) := rfl
@[simp] theorem chnK3_t (o' : CmpOp) (c : Ex) (ρ : Env') (y : PV) (st : Sto) : chnK3 G cf o' c ρ y st (some true) = (evE G cf c ρ st).bind (cmpK2 o' y) := rfl
@[simp] theorem chnK3_f (o' : CmpOp) (c : Ex) (ρ : Env') (y : PV) (st : Sto) : chnK3 G cf o' c ρ y st (some false) = .ok (.bl false) st := rfl
@[simp] theorem chnK2_d (o o' : CmpOp) (c : Ex) (ρ : Env') (x y : PV) (st : Sto) : chnK2 G cf o o' c ρ x y st = chnK3 G cf o' c ρ y st (cmpV st o x y) := rfl
@[simp] theorem chnK1_d (o o' : CmpOp) (b c : Ex) (ρ : Env') (x : PV) (st : Sto) : chnK1 G cf o o' b c ρ x st = (evE G cf b ρ st).bind (chnK2 G cf o o' c ρ x) := rfl
@[simp] theorem iteK_t (a b : Ex) (ρ : Env') (st : Sto) : iteK G cf a b ρ true st = evE G cf a ρ st := rfl
@[simp] theorem iteK_f (a b : Ex) (ρ : Env') (st : Sto) : iteK G cf a b ρ false st = evE G cf b ρ st := rfl
@[simp] theorem tupK_d (xs : List PV) (st : Sto) : tupK xs st = .ok (.tup xs) st := rfl
@[simp] theorem lstK_d (xs : List PV) (st : Sto) : lstK xs st = .ok (.lst xs) st := rfl
@[simp] theorem cellK_d (xs : List PV) (st : Sto) : cellK (.lst xs) st = if noCels xs then .ok (.cel st.length) (st ++ [.lst xs]) else .bad := rfl
@[simp] theorem callK_d (m : CM) (f : Nat) (xs : List PV) (st : Sto) : callK cf m f xs st = callP cf m f xs st := rfl
@[simp] theorem biK_d (b : Bi) (xs : List PV) (st : Sto) : biK b xs st = R.lift (biV st b xs) st := rfl
@[simp] theorem idxK2_d (x y : PV) (st : Sto) : idxK2 x y st = R.lift (ixV st x y) st := rfl
@[simp] theorem idxK1_d (b : Ex) (ρ : Env') (x : PV) (st : Sto) : idxK1 G cf b ρ x st = (evE G cf b ρ st).bind (idxK2 x) := rfl
@[simp] theorem sliK3_t (xs : List PV) (l h : Option Int) (st : Sto) : sliK3 (.tup xs) l h st = .ok (.tup (cutG xs l h)) st := rfl
@[simp] theorem sliK3_l (xs : List PV) (l h : Option Int) (st : Sto) : sliK3 (.lst xs) l h st = .ok (.lst (cutG xs l h)) st := rfl
@[simp] theorem oIntK_i (i : Int) (st : Sto) : oIntK (.int i) st = .ok (some i) st := rfl
@[simp] theorem sliK2_d (hi : Ex) (ρ : Env') (x : PV) (l : Option Int) (st : Sto) : sliK2 G cf hi ρ x l st = (optR hi.isOmit (evE G cf hi ρ) st).bind (sliK3 x l) := rfl
@[simp] theorem sliK1_d (lo hi : Ex) (ρ : Env') (x : PV) (st : Sto) : sliK1 G cf lo hi ρ x st = (optR lo.isOmit (evE G cf lo ρ) st).bind (sliK2 G cf hi ρ x) := rfl
@[simp] theorem lcT_d (c : Ex) (ρ : Env') (st : Sto) : lcT G cf c ρ st = tstR c.isOmit (evE G cf c ρ) st := rfl
@[simp] theorem lcE_d (ys : List PV) (st : Sto) : lcE ys st = if ys.length ≤ big then .ok (.lst ys) st else .bad := rfl
@[simp] theorem lcK_d (tg : Tg) (ow : List Nat) (c e : Ex) (ρ : Env') (xs : List PV) (st : Sto) : lcK G cf tg ow c e ρ xs st = (compR (lcB tg ow (lcT G cf c) (evE G cf e) ρ) xs st).bind lcE := rfl
@[simp] theorem lrgK2_d (dn : Bool) (x y : PV) (st : Sto) : lrgK2 dn x y st = R.lift (lrgV dn x y) st := rfl
@[simp] theorem lrgK1_d (dn : Bool) (b : Ex) (ρ : Env') (x : PV) (st : Sto) : lrgK1 G cf dn b ρ x st = (evE G cf b ρ st).bind (lrgK2 dn x) := rfl
@[simp] theorem consK2_d (x : PV) (xs : List PV) (st : Sto) : consK2 x xs st = .ok (x :: xs) st := rfl
@[simp] theorem consK1_d (as : Ex) (ρ : Env') (x : PV) (st : Sto) : consK1 G cf as ρ x st = (evA G cf as ρ st).bind (consK2 x) := rfl
@[simp] theorem rng1K_d (j : Int) (st : Sto) : rng1K (.int j) st = if smallI j then .ok (rngL 0 j.toNat) st else .bad := rfl
@[simp] theorem rng2K2_d (i j : Int) (st : Sto) : rng2K2 (.int i) (.int j) st = if smallI i && smallI j then .ok (rngL i (j - i).toNat) st else .bad := rfl
@[simp] theorem rng2K1_d (b : Ex) (ρ : Env') (x : PV) (st : Sto) : rng2K1 G cf b ρ x st = (evE G cf b ρ st).bind (rng2K2 x) := rfl
@[simp] theorem zipO_d (xs ys : List PV) (st : Sto) : zipO (some xs) (some ys) st = .ok (zipL xs ys) st := rfl
@[simp] theorem zipK2_d (x y : PV) (st : Sto) : zipK2 x y st = zipO (walkL x) (walkL y) st := rfl
@[simp] theorem zipK1_d (b : Ex) (ρ : Env') (x : PV) (st : Sto) : zipK1 G cf b ρ x st = (evE G cf b ρ st).bind (zipK2 x) := rfl
@[simp] theorem enuK_d (x : PV) (st : Sto) : enuK x st = R.lift ((walkL x).map enuL) st := rfl
@[simp] theorem sqK_d (x : PV) (st : Sto) : sqK x st = R.lift (walkL x) st := rfl
@[simp] theorem setK_d (i : Nat) (ρ : Env') (x : PV) (st : Sto) : setK i ρ x st = .ok (.nx (ρ.set i (some x))) st := rfl
@[simp] theorem setTK_d (t : Tg) (ρ : Env') (x : PV) (st : Sto) : setTK t ρ x st = R.lift ((setTg t x ρ).map .nx) st := rfl
@[simp] theorem putK3_d (ρ : Env') (x y z : PV) (st : Sto) : putK3 ρ x y z st = R.sto ρ (putV st y z x) := rfl
@[simp] theorem putK2_d (i : Ex) (ρ : Env') (x y : PV) (st : Sto) : putK2 G cf i ρ x y st = (evE G cf i ρ st).bind (putK3 ρ x y) := rfl
@[simp] theorem putK1_d (o i : Ex) (ρ : Env') (x : PV) (st : Sto) : putK1 G cf o i ρ x st = (evE G cf o ρ st).bind (putK2 G cf i ρ x) := rfl
@[simp] theorem appK2_d (ρ : Env') (n : Nat) (x : PV) (st : Sto) : appK2 ρ n x st = R.sto ρ (appV st (.cel n) x) := rfl
@[simp] theorem appK1_d (e : Ex) (ρ : Env') (n : Nat) (st : Sto) : appK1 G cf e ρ (.cel n) st = (evE G cf e ρ st).bind (appK2 ρ n) := rfl
@[simp] theorem dropK_d (ρ : Env') (x : PV) (st : Sto) : dropK ρ x st = .ok (.nx ρ) st := rfl
@[simp] theorem retK_d (x : PV) (st : Sto) : retK x st = .ok (.rt x) st := rfl
@[simp] theorem iteS_t (a b : Sm) (ρ : Env') (st : Sto) : iteS G cf N a b ρ true st = evS G cf N a ρ st := rfl
@[simp] theorem iteS_f (a b : Sm) (ρ : Env') (st : Sto) : iteS G cf N a b ρ false st = evS G cf N b ρ st := rfl
@[simp] theorem forK_d (t : Tg) (b : Sm) (ρ : Env') (xs : List PV) (st : Sto) : forK G cf N t b ρ xs st = forR (forB t (evS G cf N b)) xs ρ st := rfl
@[simp] theorem turnK2_d (y : PV) (st : Sto) : turnK2 y st = .ok (some y) st := rfl
@[simp] theorem turnK1_t (e : Env' → Sto → R PV) (ρ : Env') (st : Sto) : turnK1 e ρ true st = (e ρ st).bind turnK2 := rfl
@[simp] theorem turnK1_f (e : Env' → Sto → R PV) (ρ : Env') (st : Sto) : turnK1 e ρ false st = .ok none st := rfl
@[simp] theorem whK_t (c : Env' → Sto → R Bool) (f : Env' → Sto → R Fl) (n : Nat) (ρ : Env') (st : Sto) : whK c f n ρ true st = (f ρ st).bind (seqK (whR c f n)) := rfl
@[simp] theorem whK_f (c : Env' → Sto → R Bool) (f : Env' → Sto → R Fl) (n : Nat) (ρ : Env') (st : Sto) : whK c f n ρ false st = .ok (.nx ρ) st := rfl
end
@[simp] theorem lcB_nm (i : Nat) (ow : List Nat) (c : Env' → Sto → R Bool) (e : Env' → Sto → R PV) (ρ : Env') (x : PV) (st : Sto) :
    lcB (.nm i) ow c e ρ x st = R.noEx ((c ((wipeP ρ ow).set i (some x)) st).bind (turnK1 e ((wipeP ρ ow).set i (some x)))) := rfl
@[simp] theorem lcB_2 (i j : Nat) (ow : List Nat) (c : Env' → Sto → R Bool) (e : Env' → Sto → R PV) (ρ : Env') (x y : PV) (st : Sto) :
    lcB (.cons (.nm i) (.cons (.nm j) .nil)) ow c e ρ (.tup [x, y]) st = R.noEx ((c (((wipeP ρ ow).set i (some x)).set j (some y)) st).bind (turnK1 e (((wipeP ρ ow).set i (some x)).set j (some y)))) := rfl
section
variable {G : GlobF} {cf : CallF} {ρ : Env'} {st : Sto} {N : Nat}
@[simp] theorem evE_var (i : Nat) : evE G cf (.var i) ρ st = R.lift ((ρ[i]?).bind id) st := rfl
@[simp] theorem evE_non : evE G cf .non ρ st = .ok .non st := rfl
@[simp] theorem evE_bl (b : Bool) : evE G cf (.bl b) ρ st = .ok (.bl b) st := rfl
@[simp] theorem evE_int (i : Int) : evE G cf (.int i) ρ st = .ok (.int i) st := rfl
@[simp] theorem evE_str (s : Str) : evE G cf (.str s) ρ st = .ok (.str s) st := rfl
@[simp] theorem evE_gl (x : Nat) : evE G cf (.gl x) ρ st = R.lift (G x) st := rfl
@[simp] theorem evE_bty (n : String) : evE G cf (.bty n) ρ st = .ok (.ty n) st := rfl
@[simp] theorem evE_bin (o : Operator) (a b : Ex) : evE G cf (.bin o a b) ρ st = (evE G cf a ρ st).bind (binK1 G cf o b ρ) := rfl
@[simp] theorem evE_neg (a : Ex) : evE G cf (.neg a) ρ st = (evE G cf a ρ st).bind negK := rfl
@[simp] theorem evE_not (a : Ex) : evE G cf (.not a) ρ st = (tstK G cf a ρ st).bind notK := rfl
@[simp] theorem evE_and (a b : Ex) : evE G cf (.and a b) ρ st = (evE G cf a ρ st).bind (andK (evE G cf b ρ)) := rfl
@[simp] theorem evE_or (a b : Ex) : evE G cf (.or a b) ρ st = (evE G cf a ρ st).bind (orK (evE G cf b ρ)) := rfl
@[simp] theorem evE_cmp (o : CmpOp) (a b : Ex) : evE G cf (.cmp o a b) ρ st = (evE G cf a ρ st).bind (cmpK1 G cf o b ρ) := rfl
@[simp] theorem evE_chn (o o' : CmpOp) (a b c : Ex) : evE G cf (.chn o o' a b c) ρ st = (evE G cf a ρ st).bind (chnK1 G cf o o' b c ρ) := rfl
@[simp] theorem evE_ite (c a b : Ex) : evE G cf (.ite c a b) ρ st = (tstK G cf c ρ st).bind (iteK G cf a b ρ) := rfl
@[simp] theorem evE_tup (as : Ex) : evE G cf (.tup as) ρ st = (evA G cf as ρ st).bind tupK := rfl
@[simp] theorem evE_lst (as : Ex) : evE G cf (.lst as) ρ st = (evA G cf as ρ st).bind lstK := rfl
@[simp] theorem evE_cell (e : Ex) : evE G cf (.cell e) ρ st = (evE G cf e ρ st).bind cellK := rfl
@[simp] theorem evE_call (m : CM) (f : Nat) (as : Ex) : evE G cf (.call m f as) ρ st = (evA G cf as ρ st).bind (callK cf m f) := rfl
@[simp] theorem callP_sto (f : Nat) (as : List PV) : callP cf .sto f as st = cf f as st := rfl
@[simp] theorem evE_bi (b : Bi) (as : Ex) : evE G cf (.bi b as) ρ st = (evA G cf as ρ st).bind (biK b) := rfl
@[simp] theorem evE_idx (a b : Ex) : evE G cf (.idx a b) ρ st = (evE G cf a ρ st).bind (idxK1 G cf b ρ) := rfl
@[simp] theorem evE_sli (a lo hi : Ex) : evE G cf (.sli a lo hi) ρ st = (evE G cf a ρ st).bind (sliK1 G cf lo hi ρ) := rfl
@[simp] theorem evE_lc (tg : Tg) (ow : List Nat) (it c e : Ex) : evE G cf (.comp tg ow it c e) ρ st = (evI G cf it ρ st).bind (lcK G cf tg ow c e ρ) := rfl
@[simp] theorem evE_lrg (a b : Ex) : evE G cf (.lrg a b) ρ st = (evE G cf a ρ st).bind (lrgK1 G cf false b ρ) := rfl
@[simp] theorem evE_lrd (a b : Ex) : evE G cf (.lrd a b) ρ st = (evE G cf a ρ st).bind (lrgK1 G cf true b ρ) := rfl
@[simp] theorem evA_nil : evA G cf .nil ρ st = .ok [] st := rfl
@[simp] theorem evA_cons (a as : Ex) : evA G cf (.cons a as) ρ st = (evE G cf a ρ st).bind (consK1 G cf as ρ) := rfl
@[simp] theorem evI_rng1 (a : Ex) : evI G cf (.rng1 a) ρ st = (evE G cf a ρ st).bind rng1K := rfl
@[simp] theorem evI_rng2 (a b : Ex) : evI G cf (.rng2 a b) ρ st = (evE G cf a ρ st).bind (rng2K1 G cf b ρ) := rfl
@[simp] theorem evI_zip (a b : Ex) : evI G cf (.zip a b) ρ st = (evE G cf a ρ st).bind (zipK1 G cf b ρ) := rfl
@[simp] theorem evI_enu (a : Ex) : evI G cf (.enu a) ρ st = (evE G cf a ρ st).bind enuK := rfl
@[simp] theorem evI_sq (a : Ex) : evI G cf (.sq a) ρ st = (evE G cf a ρ st).bind sqK := rfl
@[simp] theorem tstR_false (e : Ex) : tstR false (evE G cf e ρ) st = tstK G cf e ρ st := rfl
@[simp] theorem tstR_true (f : Sto → R PV) : tstR true f st = .ok true st := rfl
@[simp] theorem optR_false (f : Sto → R PV) : optR false f st = (f st).bind oIntK := rfl
@[simp] theorem optR_true (f : Sto → R PV) : optR true f st = .ok none st := rfl
@[simp] theorem oInt_int (i : Int) : oInt (.int i) = some (some i) := rfl
@[simp] theorem isOmit_omit : Ex.isOmit .omit = true := rfl
@[simp] theorem evS_skip : evS G cf N .skip ρ st = .ok (.nx ρ) st := rfl
@[simp] theorem evS_seq (a b : Sm) : evS G cf N (.seq a b) ρ st = (evS G cf N a ρ st).bind (seqK (evS G cf N b)) := rfl
@[simp] theorem evS_set (i : Nat) (e : Ex) : evS G cf N (.set i e) ρ st = (evE G cf e ρ st).bind (setK i ρ) := rfl
@[simp] theorem evS_setT (t : Tg) (e : Ex) : evS G cf N (.setT t e) ρ st = (evE G cf e ρ st).bind (setTK t ρ) := rfl
@[simp] theorem evS_put (o i e : Ex) : evS G cf N (.put o i e) ρ st = (evE G cf e ρ st).bind (putK1 G cf o i ρ) := rfl
@[simp] theorem evS_app (o e : Ex) : evS G cf N (.app o e) ρ st = (evE G cf o ρ st).bind (appK1 G cf e ρ) := rfl
@[simp] theorem evS_drop (e : Ex) : evS G cf N (.drop e) ρ st = (evE G cf e ρ st).bind (dropK ρ) := rfl
@[simp] theorem evS_ret (e : Ex) : evS G cf N (.ret e) ρ st = (evE G cf e ρ st).bind retK := rfl
@[simp] theorem evS_ite (c : Ex) (a b : Sm) : evS G cf N (.ite c a b) ρ st = (tstK G cf c ρ st).bind (iteS G cf N a b ρ) := rfl
@[simp] theorem evS_for (t : Tg) (it : Ex) (b : Sm) : evS G cf N (.for t it b) ρ st = (evI G cf it ρ st).bind (forK G cf N t b ρ) := rfl
@[simp] theorem evS_while (c : Ex) (b : Sm) : evS G cf N (.while c b) ρ st = whR (tstK G cf c) (evS G cf N b) N ρ st := rfl
@[simp] theorem evS_raise (c : Nat) (m : Str) : evS G cf N (.raise c m) ρ st = .ex c st := rfl
@[simp] theorem sto_some (st' : Sto) : R.sto ρ (some st') = .ok (.nx ρ) st' := rfl
@[simp] theorem sto_none : R.sto ρ none = .bad := rfl
@[simp] theorem val_nx : Fl.val (.nx ρ) st = .ok .non st := rfl
@[simp] theorem val_rt (v : PV) : Fl.val (.rt v) st = .ok v st := rfl
@[simp] theorem setTg_nm (i : Nat) (v : PV) : setTg (.nm i) v ρ = some (ρ.set i (some v)) := rfl
@[simp] theorem setTg_nil : setTg .nil (.tup []) ρ = some ρ := rfl
@[simp] theorem setTg_cons (t ts : Tg) (v : PV) (vs : List PV) : setTg (.cons t ts) (.tup (v :: vs)) ρ = (setTg t v ρ).bind fun ρ' => setTg ts (.tup vs) ρ' := rfl
@[simp] theorem wipe_nil : wipeP ρ [] = ρ := rfl
@[simp] theorem wipe_cons (v : Nat) (vs : List Nat) : wipeP ρ (v :: vs) = (wipeP ρ vs).set v none := rfl
@[simp] theorem forR_nil (f : PV → Env' → Sto → R Fl) : forR f [] ρ st = .ok (.nx ρ) st := rfl
theorem forR_cons (f : PV → Env' → Sto → R Fl) (x : PV) (xs : List PV) : forR f (x :: xs) ρ st = (f x ρ st).bind (seqK (forR f xs)) := rfl
theorem whR_succ (c : Env' → Sto → R Bool) (f : Env' → Sto → R Fl) (n : Nat) : whR c f (n + 1) ρ st = (c ρ st).bind (whK c f n ρ) := rfl
@[simp] theorem truV_bl (b : Bool) : truV st (.bl b) = some b := rfl
@[simp] theorem truV_non : truV st .non = some false := rfl
@[simp] theorem truV_int (i : Int) : truV st (.int i) = some (i != 0) := rfl
@[simp] theorem add_ii (i j : Int) : binV st .Add (.int i) (.int j) = some (.int (i + j)) := rfl
@[simp] theorem sub_ii (i j : Int) : binV st .Sub (.int i) (.int j) = some (.int (i - j)) := rfl
@[simp] theorem lt_ii (i j : Int) : cmpV st .Lt (.int i) (.int j) = some (decide (i < j)) := rfl
@[simp] theorem le_ii (i j : Int) : cmpV st .LtE (.int i) (.int j) = some (decide (i ≤ j)) := rfl
@[simp] theorem gt_ii (i j : Int) : cmpV st .Gt (.int i) (.int j) = some (decide (j < i)) := rfl
@[simp] theorem ge_ii (i j : Int) : cmpV st .GtE (.int i) (.int j) = some (decide (j ≤ i)) := rfl
@[simp] theorem isn_v (v : PV) : cmpV st .Is v .non = some (isN v) := by cases v <;> rfl
@[simp] theorem notn_v (v : PV) : cmpV st .IsNot v .non = some (!isN v) := by cases v <;> rfl
@[simp] theorem isN_non : isN .non = true := rfl
@[simp] theorem isN_int (i : Int) : isN (.int i) = false := rfl
@[simp] theorem isN_tup (i : List PV) : isN (.tup i) = false := rfl
@[simp] theorem isN_bl (i : Bool) : isN (.bl i) = false := rfl
@[simp] theorem isN_str (i : Str) : isN (.str i) = false := rfl
@[simp] theorem eq_ii (i j : Int) : cmpV st .Eq (.int i) (.int j) = some (i == j) := rfl
@[simp] theorem ne_ii (i j : Int) : cmpV st .NotEq (.int i) (.int j) = some (!(i == j)) := rfl
@[simp] theorem eq_ss (i j : Str) : cmpV st .Eq (.str i) (.str j) = some (i == j) := rfl
@[simp] theorem ne_ss (i j : Str) : cmpV st .NotEq (.str i) (.str j) = some (!(i == j)) := rfl
@[simp] theorem neg_i (i : Int) : negV (.int i) = some (.int (-i)) := rfl
theorem mul_ii {i j : Int} (h : mulOk i j = true) : binV st .Mult (.int i) (.int j) = some (.int (i * j)) := by
  show (if mulOk i j then _ else _) = _
  rw [if_pos h]
theorem mulOk_r {i j : Int} (h1 : -(2 ^ 64) < j) (h2 : j < 2 ^ 64) : mulOk i j = true := by
  unfold mulOk
  rw [decide_eq_true h1, decide_eq_true h2]; simp
theorem mulOk_l {i j : Int} (h1 : -(2 ^ 64) < i) (h2 : i < 2 ^ 64) : mulOk i j = true := by
  unfold mulOk
  rw [decide_eq_true h1, decide_eq_true h2]; rfl
theorem mod_ii {i j : Int} (h : 0 < j) : binV st .Mod (.int i) (.int j) = some (.int (i % j)) := by
  show (if decide (0 < j) then _ else _) = _
  rw [decide_eq_true h]; rfl
theorem div_ii {i j : Int} (h : 0 < j) (h2 : j < 2 ^ 200) : binV st .FloorDiv (.int i) (.int j) = some (.int (i / j)) := by
  show (if decide (0 < j) && decide (j < 2 ^ 200) then _ else _) = _
  rw [decide_eq_true h, decide_eq_true h2]; rfl
theorem addT {xs ys : List PV} (h : xs.length + ys.length ≤ big) : binV st .Add (.tup xs) (.tup ys) = some (.tup (xs ++ ys)) := by
  show (if _ then _ else _) = _
  rw [if_pos h]
theorem addL {xs ys : List PV} (h : xs.length + ys.length ≤ big) : binV st .Add (.lst xs) (.lst ys) = some (.lst (xs ++ ys)) := by
  show (if _ then _ else _) = _
  rw [if_pos h]
theorem mulT {xs : List PV} {k : Int} (h1 : 2 ≤ k) (h2 : k ≤ 1000) (h3 : xs.length ≤ 1000) (h4 : xs ≠ []) : binV st .Mult (.tup xs) (.int k) = some (.tup (List.replicate k.toNat xs).flatten) := by
  show (if decide (2 ≤ k) && (decide (k ≤ 1000) && (decide (xs.length ≤ 1000) && !xs.isEmpty)) then _ else _) = _
  rw [decide_eq_true h1, decide_eq_true h2, decide_eq_true h3]
  cases xs with
  | nil => exact absurd rfl h4
  | cons _ _ => rfl
theorem mulL {xs : List PV} {k : Int} (h1 : 0 ≤ k) (h2 : k ≤ 1000) (h3 : xs.length ≤ 1000) : binV st .Mult (.lst xs) (.int k) = some (.lst (List.replicate k.toNat xs).flatten) := by
  show (if decide (0 ≤ k) && (decide (k ≤ 1000) && decide (xs.length ≤ 1000)) then _ else _) = _
  rw [decide_eq_true h1, decide_eq_true h2, decide_eq_true h3]; rfl
@[simp] theorem walk_lst (xs : List PV) : walkL (.lst xs) = some xs := rfl
@[simp] theorem walk_tup (xs : List PV) : walkL (.tup xs) = some xs := rfl
@[simp] theorem walk_scr (xs : List PV) : walkL (.scr xs) = some xs := rfl
@[simp] theorem len_tup (xs : List PV) : biV st .len [.tup xs] = some (.int xs.length) := rfl
@[simp] theorem len_lst (xs : List PV) : biV st .len [.lst xs] = some (.int xs.length) := rfl
@[simp] theorem len_scr (xs : List PV) : biV st .len [.scr xs] = some (.int xs.length) := rfl
theorem len_cel {n : Nat} {xs : List PV} (h : st[n]? = some (.lst xs)) : biV st .len [.cel n] = some (.int xs.length) := by
  show (asS st (.cel n)).map _ = _
  show ((match st[n]? with | some (.lst xs) => some xs | _ => none : Option (List PV))).map _ = _
  rw [h]; rfl
@[simp] theorem tuple_lst (xs : List PV) : biV st .tuple [.lst xs] = some (.tup xs) := rfl
@[simp] theorem tuple_tup (xs : List PV) : biV st .tuple [.tup xs] = some (.tup xs) := rfl
@[simp] theorem list_tup (xs : List PV) : biV st .list [.tup xs] = some (.lst xs) := rfl
@[simp] theorem list_lst (xs : List PV) : biV st .list [.lst xs] = some (.lst xs) := rfl
theorem tuple_cel {n : Nat} {xs : List PV} (h : st[n]? = some (.lst xs)) : biV st .tuple [.cel n] = some (.tup xs) := by
  show ((match st[n]? with | some (.lst xs) => some xs | _ => none : Option (List PV))).map _ = _
  rw [h]; rfl
@[simp] theorem int_int (i : Int) : biV st .int [.int i] = some (.int i) := rfl
@[simp] theorem int_bl (b : Bool) : biV st .int [.bl b] = some (.int (b2i b)) := rfl
@[simp] theorem abs_int (i : Int) : biV st .abs [.int i] = some (.int (if i < 0 then -i else i)) := rfl
@[simp] theorem min_int (i j : Int) : biV st .min2 [.int i, .int j] = some (.int (if j < i then j else i)) := rfl
@[simp] theorem max_int (i j : Int) : biV st .max2 [.int i, .int j] = some (.int (if j > i then j else i)) := rfl
@[simp] theorem isi_def (v : PV) (n : String) : biV st .isi [v, .ty n] = (isiV v n).map .bl := by cases v <;> rfl
@[simp] theorem sum_lst (xs : List PV) : biV st .sum [.lst xs] = (ints? xs).map fun ns => .int ns.sum := rfl
@[simp] theorem all_lst (xs : List PV) : biV st .all [.lst xs] = (bools? xs).map fun bs => .bl (bs.all id) := rfl
@[simp] theorem any_lst (xs : List PV) : biV st .any [.lst xs] = (bools? xs).map fun bs => .bl (bs.any id) := rfl
@[simp] theorem ints_map (ns : List Int) : ints? (ns.map .int) = some ns := by
  induction ns with
  | nil => rfl
  | cons n ns ih => show (ints? (ns.map .int)).map _ = _; rw [ih]; rfl
@[simp] theorem bools_map (ns : List Bool) : bools? (ns.map .bl) = some ns := by
  induction ns with
  | nil => rfl
  | cons n ns ih => show (bools? (ns.map .bl)).map _ = _; rw [ih]; rfl
theorem ix_tup (xs : List PV) (i : Int) : ixV st (.tup xs) (.int i) = atI xs i := rfl
theorem ix_lst (xs : List PV) (i : Int) : ixV st (.lst xs) (.int i) = atI xs i := rfl
theorem ix_scr (xs : List PV) (i : Int) : ixV st (.scr xs) (.int i) = atI xs i := rfl
theorem ix_cel {n : Nat} {xs : List PV} (h : st[n]? = some (.lst xs)) (i : Int) : ixV st (.cel n) (.int i) = atI xs i := by
  show ((match st[n]? with | some (.lst xs) => some xs | _ => none : Option (List PV)).bind fun xs => atI xs i) = _
  rw [h]; rfl
theorem atI_nat {α : Type} (xs : List α) (k : Nat) (h : k < xs.length) : atI xs (k : Int) = xs[k]? := by
  unfold atI ixN
  have h1 : ((0 : Int) ≤ k ∧ (k : Int) < xs.length) := by omega
  simp [h1, h]
end
/-! ### a result, told by a word -/
def Ok {α : Type} (r : R α) (P : α → Sto → Prop) : Prop := ∃ a st, r = .ok a st ∧ P a st
section
variable {α β : Type} {r : R α} {P Q : α → Sto → Prop}
theorem Ok.bind {f : α → Sto → R β} {Q : β → Sto → Prop} (h : Ok r P) (g : ∀ a st, P a st → Ok (f a st) Q) : Ok (r.bind f) Q := by
  obtain ⟨a, st, rfl, p⟩ := h
  exact g a st p
theorem Ok.imp (h : Ok r P) (g : ∀ a st, P a st → Q a st) : Ok r Q := by
  obtain ⟨a, st, e, p⟩ := h
  exact ⟨a, st, e, g a st p⟩
theorem Ok.ok {a : α} {st : Sto} (h : P a st) : Ok (.ok a st) P := ⟨a, st, rfl, h⟩
theorem Ok.eq {a : α} {st : Sto} (e : r = .ok a st) (h : P a st) : Ok r P := ⟨a, st, e, h⟩
theorem Ok.for_ {f : PV → Env' → Sto → R Fl} {Pf : Fl → Sto → Prop} (I : List PV → Env' → Sto → Prop) (step : ∀ x xs ρ st, I (x :: xs) ρ st → Ok (f x ρ st) fun fl st1 => match fl with
    | .nx ρ' => I xs ρ' st1
    | .rt v => Pf (.rt v) st1) (fin : ∀ ρ st, I [] ρ st → Pf (.nx ρ) st) : ∀ xs ρ st, I xs ρ st → Ok (forR f xs ρ st) Pf
  | [], ρ, st, h => .ok (fin ρ st h)
  | x :: xs, ρ, st, h => by
    rw [forR_cons]
    refine (step x xs ρ st h).bind fun fl st1 p => ?_
    cases fl with
    | nx ρ' => exact Ok.for_ I step fin xs ρ' st1 p
    | rt v => exact .ok p
end

theorem match_some {α β : Type} (a : α) (f : α → β) (g : β) : (match some a with | some x => f x | none => g) = f a := rfl
/-! what stands behind is left alone till its turn comes -/
end Mi

end

section
set_option linter.all false
set_option maxRecDepth 100000
/-! Mi, part O: what every law's text begins with: the source of numbers. -/
namespace Mi
open PySem L2

/-- cell n is a source: two numbers -/
def SrcAt (n : Nat) (st : Sto) : Prop := ∃ a b : Int, st[n]? = some (.lst [.int a, .int b]) ∧ 0 ≤ a ∧ 0 ≤ b ∧ b < 2147483647
/-- cell n alone was changed, and is a source -/
def UpdS (n : Nat) (st st' : Sto) : Prop := ∃ a b : Int, st' = st.set n (.lst [.int a, .int b]) ∧ 0 ≤ a ∧ 0 ≤ b ∧ b < 2147483647
theorem SrcAt.lt {n : Nat} {st : Sto} (h : SrcAt n st) : n < st.length := by
  obtain ⟨a, b, h, _⟩ := h
  exact (List.getElem?_eq_some_iff.mp h).1
theorem UpdS.src {n : Nat} {st st' : Sto} (u : UpdS n st st') (h : SrcAt n st) : SrcAt n st' := by
  obtain ⟨a, b, rfl, h1, h2, h3⟩ := u
  exact ⟨a, b, List.getElem?_set_self h.lt, h1, h2, h3⟩
theorem UpdS.trans {n : Nat} {st st1 st2 : Sto} (u : UpdS n st st1) (v : UpdS n st1 st2) : UpdS n st st2 := by
  obtain ⟨a, b, rfl, h1, h2, h3⟩ := u
  obtain ⟨c, d, rfl, h4, h5, h6⟩ := v
  exact ⟨c, d, by rw [List.set_set], h4, h5, h6⟩
theorem UpdS.refl {n : Nat} {st : Sto} (h : SrcAt n st) : UpdS n st st := by
  obtain ⟨a, b, h, h1, h2, h3⟩ := h
  refine ⟨a, b, ?_, h1, h2, h3⟩
  obtain ⟨hl, e⟩ := List.getElem?_eq_some_iff.mp h
  rw [← e, List.set_getElem_self]
theorem put_cel {st : Sto} {n j : Nat} {xs : List PV} {k : Int} {v : PV} (h : st[n]? = some (.lst xs)) (hk : ixN xs.length k = some j) (hv : v.noCel = true) : putV st (.cel n) (.int k) v = some (st.set n (.lst (xs.set j v))) := by
  show (match st[n]? with
    | some (.lst xs) => if v.noCel then (ixN xs.length k).map fun j => st.set n (.lst (xs.set j v)) else none
    | _ => none) = _
  rw [h]
  show (if v.noCel then (ixN xs.length k).map fun j => st.set n (.lst (xs.set j v)) else none) = _
  rw [if_pos hv, hk]
  rfl
theorem app_cel {st : Sto} {n : Nat} {xs : List PV} {v : PV} (h : st[n]? = some (.lst xs)) (hv : v.noCel = true) (hl : xs.length < big) : appV st (.cel n) v = some (st.set n (.lst (xs ++ [v]))) := by
  show (match st[n]? with
    | some (.lst xs) => if v.noCel && decide (xs.length < big) then some (st.set n (.lst (xs ++ [v]))) else none
    | _ => none) = _
  rw [h]
  show (if v.noCel && decide (xs.length < big) then some (st.set n (.lst (xs ++ [v]))) else none) = _
  rw [hv, decide_eq_true hl]
  rfl
section
variable {G : GlobF} {cf : CallF} {N : Nat}
def drawB : Sm := (.seq (.ite (.cmp .Gt (.idx (.var 0) (.int 0)) (.int 0)) (.seq (.set 2 (.bin .Mod (.bi .int (.cons (.idx (.var 0) (.int 0)) .nil)) (.var 1))) (.seq (.put (.var 0) (.int 0) (.bin .FloorDiv (.idx (.var 0) (.int 0)) (.var 1))) (.seq (.ret (.var 2)) .skip))) .skip) (.seq (.put (.var 0) (.int 1) (.bin .Mod (.bi .int (.cons (.bin .Mult (.idx (.var 0) (.int 1)) (.int 48271)) .nil)) (.int 2147483647))) (.seq (.ret (.bin .Mod (.bi .int (.cons (.bin .FloorDiv (.bin .Mod (.bi .int (.cons (.bin .Mult (.idx (.var 0) (.int 1)) (.idx (.var 0) (.int 1))) .nil)) (.int 2147483629)) (.int 64)) .nil)) (.var 1))) .skip)))
theorem draw_ok {n : Nat} {m : Int} {st : Sto} (h : SrcAt n st) (h1 : 0 < m) (h2 : m < 2 ^ 200) :
    Ok (evS G cf N drawB [some (.cel n), some (.int m), none] st) fun fl st' => ∃ r : Int, fl = .rt (.int r) ∧ 0 ≤ r ∧ r < m ∧ UpdS n st st' := by
  have hn := h.lt
  obtain ⟨a, b, e, ha, hb, hb2⟩ := h
  have i0 : ∀ {st : Sto} {x y : PV}, st[n]? = some (.lst [x, y]) → ixV st (.cel n) (.int 0) = some x := fun h => by rw [ix_cel h]; rfl
  have i1 : ∀ {st : Sto} {x y : PV}, st[n]? = some (.lst [x, y]) → ixV st (.cel n) (.int 1) = some y := fun h => by rw [ix_cel h]; rfl
  by_cases hp : 0 < a
  · refine ⟨.rt (.int (a % m)), st.set n (.lst [.int (a / m), .int b]), ?_, a % m, rfl, Int.emod_nonneg _ (by omega), Int.emod_lt_of_pos _ h1, a / m, b, rfl, Int.ediv_nonneg ha (by omega), hb, hb2⟩
    simp [drawB, i0 e, hp, mod_ii h1, div_ii h1 h2]
    rw [put_cel (j := 0) e rfl rfl]
    rfl
  · have e2 : (st.set n (.lst [.int a, .int (b * 48271 % 2147483647)]))[n]? = some (.lst [.int a, .int (b * 48271 % 2147483647)]) := List.getElem?_set_self hn
    have b0 : 0 ≤ b * 48271 % 2147483647 := Int.emod_nonneg _ (by decide)
    have b1 : b * 48271 % 2147483647 < 2147483647 := Int.emod_lt_of_pos _ (by decide)
    have mm : mulOk (b * 48271 % 2147483647) (b * 48271 % 2147483647) = true := mulOk_l (by omega) (by omega)
    refine ⟨.rt (.int ((b * 48271 % 2147483647) * (b * 48271 % 2147483647) % 2147483629 / 64 % m)), st.set n (.lst [.int a, .int (b * 48271 % 2147483647)]), ?_, _, rfl, Int.emod_nonneg _ (by omega), Int.emod_lt_of_pos _ h1, a, _, rfl, ha, b0, b1⟩
    have m1 : mulOk b 48271 = true := mulOk_r (by decide) (by decide)
    simp [drawB, i0 e, i1 e, hp, mul_ii m1, mod_ii]
    rw [put_cel (j := 1) e rfl rfl]
    simp [i1 e2, mul_ii mm, mod_ii, mod_ii h1, div_ii]
end
end Mi

end

section
set_option linter.all false
set_option maxRecDepth 100000
/-! Mi, part P: small plain facts that the walks use. -/
namespace Mi
open PySem L2
theorem cut_take {α : Type} (xs : List α) (k : Nat) (h : k ≤ xs.length) : cutG xs none (some (k : Int)) = xs.take k := by
  unfold cutG
  rw [HT.sIx_none, HT.sIx_nat, Nat.min_eq_left h]
  simp
theorem cut_drop {α : Type} (xs : List α) (k : Nat) (h : k ≤ xs.length) : cutG xs (some (k : Int)) none = xs.drop k := by
  unfold cutG
  rw [HT.sIx_none, HT.sIx_nat, Nat.min_eq_left h]
  rw [List.take_of_length_le (by simp)]
theorem set_eq {α : Type} (xs : List α) (k : Nat) (x : α) (h : k < xs.length) : xs.take k ++ [x] ++ xs.drop (k + 1) = xs.set k x := by
  rw [List.append_assoc, List.set_eq_take_append_cons_drop, if_pos h]
  rfl
theorem big_lt : 1000 ≤ big := by decide
theorem compR_map {α : Type} {f : PV → Sto → R (Option PV)} {st : Sto} (l : List α) (e : α → PV) (g : α → PV) (h : ∀ a ∈ l, f (e a) st = .ok (some (g a)) st) : compR f (l.map e) st = .ok (l.map g) st := by
  induction l with
  | nil => rfl
  | cons a l ih =>
    show (f (e a) st).bind (fun o st1 => (compR f (l.map e) st1).bind fun ys st2 => .ok (match o with
      | some y => y :: ys
      | none => ys) st2) = _
    rw [h a List.mem_cons_self, R.bind_ok, ih fun b hb => h b (List.mem_cons_of_mem _ hb)]
    rfl
def dotZ (xs ys : List Int) : Int := ((xs.zip ys).map fun p => p.1 * p.2).sum
theorem zip_ints (xs ys : List Int) : zipL (xs.map .int) (ys.map .int) = (xs.zip ys).map fun p => PV.tup [.int p.1, .int p.2] := by
  unfold zipL
  rw [List.zip_map, List.map_map]
  rfl
theorem rngL_nat (n : Nat) : rngL 0 n = (List.range n).map fun t => PV.int (t : Nat) := by
  unfold rngL
  simp
theorem small_nat {n : Nat} (h : n < 2 ^ 60) : smallI (n : Int) = true := by
  unfold smallI
  rw [decide_eq_true (by omega), decide_eq_true (by omega)]
  rfl
/-- the line of one tile's reach to another -/
def reachL (many a b : Nat) : List Int := ((List.range many).map fun t => if t = a then 1 else 0) ++ (List.range (many - 1)).map fun t => if min a b ≤ t ∧ t < max a b then -1 else 0

/-! ### tiles that fall -/
structure Sd where
  sts : List Str
  hd : List Bool
  sy : List (Nat × Str)
def tY (sy : List (Nat × Str)) : List PV := sy.map fun p => .tup [.int (p.1 : Nat), .str p.2]
def Sd.v (s : Sd) : PV := .tup [.tup (s.sts.map .str), .tup (s.hd.map .bl), .tup (tY s.sy)]
def oN : Option Nat → PV
  | none => .non
  | some n => .int (n : Nat)
def upJs (n t : Nat) (way : Str) : List Nat := if way = "right" then List.range' (t + 1) (n - (t + 1)) else (List.range t).reverse
def nextUp (sts : List Str) (t : Nat) (way : Str) : Option Nat := (upJs sts.length t way).find? fun j => sts[j]? == some ("up" : Str)
def hitB (sizes : List Int) (many a b : Nat) : Bool := decide (0 < dotZ (reachL many a b) sizes)
def nextHit (sizes : List Int) (many : Nat) (sts : List Str) (t : Nat) (way : Str) : Option Nat := match nextUp sts t way with
  | none => none
  | some o => if hitB sizes many t o then some o else none
def Sd.up (s : Sd) (t : Nat) : Bool := s.sts[t]? == some ("up" : Str) && s.hd[t]? == some false
def Sd.fall (s : Sd) (t : Nat) (way : Str) : Sd := ⟨s.sts.set t way, s.hd, s.sy ++ [(t, way)]⟩
def pushF (sizes : List Int) (many : Nat) (way : Str) : Nat → Sd → Option Nat → Sd
  | 0, s, _ => s
  | _ + 1, s, none => s
  | n + 1, s, some t => if s.up t then pushF sizes many way n (s.fall t way) (nextHit sizes many (s.fall t way).sts t way) else s
def deedF (sizes : List Int) (many : Nat) (s : Sd) (d : Str × Nat) : Sd :=
  if d.1 = "left" ∨ d.1 = "right" then pushF sizes many d.1 (s.sts.length + 1) s (some d.2)
  else if d.1 = "take" ∨ d.1 = "stand" then { s with sts := s.sts.set d.2 (if d.1 = "take" then "away" else "up") }
  else { s with hd := s.hd.set d.2 (decide (d.1 = "hold")) }
def runD (sizes : List Int) (many : Nat) (ds : List (Str × Nat)) : Sd := ds.foldl (deedF sizes many) ⟨List.replicate many "up", List.replicate many false, []⟩
theorem upJs_lt {n t : Nat} {way : Str} (h : t < n) : ∀ j ∈ upJs n t way, j < n := by
  intro j hj
  unfold upJs at hj
  split at hj
  · rw [List.mem_range'] at hj
    obtain ⟨i, hi, rfl⟩ := hj
    omega
  · rw [List.mem_reverse, List.mem_range] at hj
    omega
theorem nextUp_lt {sts : List Str} {t o : Nat} {way : Str} (h : t < sts.length) (e : nextUp sts t way = some o) : o < sts.length :=
  upJs_lt h o (List.mem_of_find?_eq_some e)
theorem nextHit_lt {sizes : List Int} {many : Nat} {sts : List Str} {t o : Nat} {way : Str} (h : t < sts.length) (e : nextHit sizes many sts t way = some o) : o < sts.length := by
  unfold nextHit at e
  split at e
  · cases e
  · rename_i o' q
    split at e
    · cases e; exact nextUp_lt h q
    · cases e
theorem rngL_upJs {n t : Nat} (h : t < n) : rngL ((t : Int) + 1) ((n : Int) - ((t : Int) + 1)).toNat = (upJs n t "right").map fun j => PV.int (j : Nat) := by
  unfold rngL upJs
  rw [if_pos rfl]
  have e : ((n : Int) - ((t : Int) + 1)).toNat = n - (t + 1) := by omega
  rw [e, List.range'_eq_map_range, List.map_map]
  refine List.map_congr_left fun i _ => ?_
  show PV.int ((t : Int) + 1 + i) = PV.int ((t + 1 + i : Nat) : Int)
  congr 1
theorem rngD_upJs {n t : Nat} {way : Str} (hw : way ≠ "right") : rngD ((t : Int) - 1) ((t : Int) - 1 - (-1)).toNat = (upJs n t way).map fun j => PV.int (j : Nat) := by
  unfold rngD upJs
  rw [if_neg hw]
  have e : ((t : Int) - 1 - (-1)).toNat = t := by omega
  rw [e]
  refine List.ext_getElem (by simp) fun i h1 h2 => ?_
  simp only [List.length_map, List.length_range] at h1
  simp only [List.getElem_map, List.getElem_range, List.getElem_reverse, List.length_range]
  congr 1
  omega
def ups (sts : List Str) : Nat := List.count ("up" : Str) sts
theorem count_set {sts : List Str} {t : Nat} {w : Str} (h : sts[t]? = some ("up" : Str)) (hw : w ≠ ("up" : Str)) : ups (sts.set t w) + 1 = ups sts := by
  obtain ⟨hl, e⟩ := List.getElem?_eq_some_iff.mp h
  unfold ups
  rw [List.count_set hl]
  have e1 : (sts[t] == ("up" : Str)) = true := by rw [e]; exact beq_self_eq_true _
  have e2 : (w == ("up" : Str)) = false := by rw [beq_eq_false_iff_ne]; exact hw
  have hp : 0 < List.count ("up" : Str) sts := List.count_pos_iff.mpr (by rw [← e]; exact List.getElem_mem hl)
  rw [e1, e2]
  simp
  omega
theorem ups_le (sts : List Str) : ups sts ≤ sts.length := List.count_le_length
theorem tY_snoc (sy : List (Nat × Str)) (t : Nat) (w : Str) : tY (sy ++ [(t, w)]) = tY sy ++ [.tup [.int (t : Nat), .str w]] := by
  unfold tY
  rw [List.map_append]; rfl
theorem at_map {α : Type} (f : α → PV) (xs : List α) (k : Nat) (h : k < xs.length) : atI (xs.map f) (k : Int) = some (f xs[k]) := by
  rw [atI_nat _ _ (by simpa using h), List.getElem?_map, List.getElem?_eq_getElem h]; rfl
/-- a standing of many tiles, its story of at most L -/
structure Sd.Ok (s : Sd) (many L : Nat) : Prop where
  st : s.sts.length = many
  hd : s.hd.length = many
  sy : s.sy.length + ups s.sts ≤ L
theorem Sd.Ok.fall {s : Sd} {many L t : Nat} {w : Str} (h : s.Ok many L) (hu : s.up t = true) (hw : w ≠ ("up" : Str)) : (s.fall t w).Ok many L := by
  have hu : s.sts[t]? = some ("up" : Str) := by
    obtain ⟨h1, _⟩ := Bool.and_eq_true_iff.mp hu
    exact eq_of_beq h1
  have hc := count_set hu hw
  refine ⟨by show (s.sts.set t w).length = many; rw [List.length_set]; exact h.st, h.hd, ?_⟩
  show (s.sy ++ [(t, w)]).length + ups (s.sts.set t w) ≤ L
  have := h.sy
  rw [List.length_append, List.length_singleton]
  omega
theorem pushF_ok {sizes : List Int} {many L : Nat} {w : Str} (hw : w ≠ ("up" : Str)) : ∀ (n : Nat) (s : Sd) (o : Option Nat), s.Ok many L → (pushF sizes many w n s o).Ok many L
  | 0, s, o, h => h
  | n + 1, s, none, h => h
  | n + 1, s, some t, h => by
    unfold pushF
    split
    · rename_i hu
      exact pushF_ok hw n _ _ (h.fall hu hw)
    · exact h
theorem reachL_len (many a b : Nat) : (reachL many a b).length = many + (many - 1) := by
  unfold reachL; rw [List.length_append, List.length_map, List.length_map, List.length_range, List.length_range]
theorem reachL_small (many a b : Nat) : ∀ x ∈ reachL many a b, -(2 ^ 64) < x ∧ x < 2 ^ 64 := by
  intro x hx
  unfold reachL at hx
  rcases List.mem_append.mp hx with h | h
  · obtain ⟨t, _, rfl⟩ := List.mem_map.mp h
    split <;> decide
  · obtain ⟨t, _, rfl⟩ := List.mem_map.mp h
    split <;> decide
/-- after i deeds -/
structure Sd.W (s : Sd) (many i : Nat) : Prop where
  st : s.sts.length = many
  hd : s.hd.length = many
  sy : s.sy.length ≤ i * many
def words : List Str := ["left", "right", "take", "stand", "hold", "free"]
def deedOk (many : Nat) (x : Str × Nat) : Prop := x.1 ∈ words ∧ x.2 < many
def dV (x : Str × Nat) : PV := .tup [.str x.1, .int (x.2 : Nat)]
theorem Sd.W.ok {s : Sd} {many i : Nat} (h : s.W many i) : s.Ok many (i * many + many) := ⟨h.st, h.hd, by have := ups_le s.sts; have := h.st; have := h.sy; omega⟩
theorem deedF_W {sizes : List Int} {many i : Nat} {s : Sd} {x : Str × Nat} (h : s.W many i) (hx : deedOk many x) : (deedF sizes many s x).W many (i + 1) := by
  have e : (i + 1) * many = i * many + many := Nat.succ_mul i many
  unfold deedF
  split
  · rename_i hw
    have hn : x.1 ≠ ("up" : Str) := by rcases hw with q | q <;> (rw [q]; decide)
    have := pushF_ok (sizes := sizes) hn (s.sts.length + 1) s (some x.2) h.ok
    exact ⟨this.st, this.hd, by rw [e]; have := this.sy; omega⟩
  · split
    · exact ⟨by show (s.sts.set _ _).length = many; rw [List.length_set]; exact h.st, h.hd, by rw [e]; exact Nat.le_trans h.sy (Nat.le_add_right _ _)⟩
    · exact ⟨h.st, by show (s.hd.set _ _).length = many; rw [List.length_set]; exact h.hd, by rw [e]; exact Nat.le_trans h.sy (Nat.le_add_right _ _)⟩
theorem in2 {st : Sto} (w a b : Str) : cmpV st .In (.str w) (.tup [.str a, .str b]) = some ((a == w) || (b == w)) := by
  show some ((a == w) || ((b == w) || false)) = _
  rw [Bool.or_false]
theorem rep_map {α : Type} (f : α → PV) (n : Nat) (x : α) : (List.replicate n [f x]).flatten = (List.replicate n x).map f := by
  induction n with
  | zero => rfl
  | succ n ih => rw [List.replicate_succ, List.flatten_cons, ih, List.replicate_succ, List.map_cons]; rfl
def start (many : Nat) : Sd := ⟨List.replicate many "up", List.replicate many false, []⟩
theorem start_W (many : Nat) : (start many).W many 0 := ⟨List.length_replicate, List.length_replicate, by simp [start]⟩
theorem foldl_W {sizes : List Int} {many : Nat} : ∀ (ds : List (Str × Nat)) (s : Sd) (i : Nat), s.W many i → (∀ x ∈ ds, deedOk many x) → (ds.foldl (deedF sizes many) s).W many (i + ds.length)
  | [], s, i, h, _ => h
  | x :: ds, s, i, h, hd => by
    have := foldl_W (sizes := sizes) ds (deedF sizes many s x) (i + 1) (deedF_W h (hd x List.mem_cons_self)) fun y hy => hd y (List.mem_cons_of_mem _ hy)
    rw [List.foldl_cons, List.length_cons, Nat.add_comm ds.length 1, ← Nat.add_assoc]
    exact this
/-- good sizes -/
structure SzOk (many : Nat) (sizes : List Int) : Prop where
  len : sizes.length = 2 * many - 1
  lo : ∀ x ∈ sizes, 1 ≤ x ∧ x ≤ 1000000000000
theorem all_map {α : Type} (l : List α) (p : α → Bool) (h : ∀ a ∈ l, p a = true) : ((l.map p).all id) = true := by
  rw [List.all_eq_true]
  intro b hb
  obtain ⟨a, ha, rfl⟩ := List.mem_map.mp hb
  exact h a ha
theorem dats_str (ws : List Str) : dats (ws.map .str) = true := by
  induction ws with
  | nil => rfl
  | cons w ws ih => show (true && dats (ws.map .str)) = true; rw [ih]; rfl
theorem deps_str (ws : List Str) : deps (ws.map .str) = 0 := by
  induction ws with
  | nil => rfl
  | cons w ws ih => show max 0 (deps (ws.map .str)) = 0; rw [ih]; rfl
theorem any_str (w : Str) (ws : List Str) : ((ws.map PV.str).any fun z => z.eqv (.str w)) = ws.any (· == w) := by
  induction ws with
  | nil => rfl
  | cons v ws ih => rw [List.map_cons, List.any_cons, List.any_cons, ih]; rfl
theorem in_strs {st : Sto} (w : Str) (ws : List Str) : cmpV st .In (.str w) (.tup (ws.map .str)) = some (ws.any (· == w)) := by
  show (if true && (dats (ws.map .str) && decide (deps (ws.map .str) ≤ 60)) then some ((ws.map PV.str).any fun z => z.eqv (.str w)) else none) = _
  rw [dats_str, deps_str, any_str]
  rfl
theorem word_in {w : Str} (h : w ∈ words) : (words.any (· == w)) = true := List.any_eq_true.mpr ⟨w, h, beq_self_eq_true _⟩
mutual
theorem frz_no {st : Sto} : ∀ v : PV, v.noCel = true → frz st v = some v
  | .non, _ => rfl
  | .bl _, _ => rfl
  | .int _, _ => rfl
  | .str _, _ => rfl
  | .glo _, _ => rfl
  | .ty _, _ => rfl
  | .cel _, h => by cases h
  | .tup xs, h => by
    show (frzs st xs).map PV.tup = _
    rw [frzs_no xs h]; rfl
  | .lst xs, h => if_pos h
  | .scr xs, h => if_pos h
theorem frzs_no {st : Sto} : ∀ xs : List PV, noCels xs = true → frzs st xs = some xs
  | [], _ => rfl
  | x :: xs, h => by
    obtain ⟨h1, h2⟩ := Bool.and_eq_true_iff.mp (show (x.noCel && noCels xs) = true from h)
    show (frz st x).bind (fun y => (frzs st xs).map (y :: ·)) = _
    rw [frz_no x h1, frzs_no xs h2]; rfl
end
theorem noCels_map {α : Type} (f : α → PV) (l : List α) (h : ∀ a, (f a).noCel = true) : noCels (l.map f) = true := by
  induction l with
  | nil => rfl
  | cons a l ih => show ((f a).noCel && noCels (l.map f)) = true; rw [h a, ih]; rfl
theorem noCels_int (l : List Int) : noCels (l.map .int) = true := noCels_map _ _ fun _ => rfl
theorem noCels_str (l : List Str) : noCels (l.map .str) = true := noCels_map _ _ fun _ => rfl
theorem noCels_bl (l : List Bool) : noCels (l.map .bl) = true := noCels_map _ _ fun _ => rfl
theorem noCels_tY (l : List (Nat × Str)) : noCels (tY l) = true := noCels_map _ _ fun _ => rfl
theorem noCels_dV (l : List (Str × Nat)) : noCels (l.map dV) = true := noCels_map _ _ fun _ => rfl
theorem frz_cel {st : Sto} {n : Nat} {xs : List PV} (h : st[n]? = some (.lst xs)) (hn : noCels xs = true) : frz st (.cel n) = some (.lst xs) := by
  show (match st[n]? with
    | some (CC.lst xs) => if noCels xs then some (PV.lst xs) else none
    | _ => none) = some (PV.lst xs)
  rw [h]
  exact if_pos hn
theorem pure_ok {cf : CallF} {f : Nat} {as : List PV} {st st' : Sto} {v w : PV} (h : noCels as = true) (e : cf f as [] = .ok v st') (hf : frz st' v = some w) : callP cf .pure f as st = .ok w st := by
  show (if noCels as then (match cf f as [] with
    | .ok v st' => R.lift (frz st' v) st
    | .ex c _ => .ex c st
    | .bad => .bad) else .bad) = _
  rw [if_pos h, e]
  show R.lift (frz st' v) st = _
  rw [hf]
  rfl
theorem at_last {α : Type} (xs : List α) (x : α) : atI (xs ++ [x]) (-1) = some x := by
  unfold atI ixN
  have h1 : ¬ ((0 : Int) ≤ -1) := by decide
  rw [if_neg h1, List.length_append, List.length_singleton]
  rw [if_pos (by omega)]
  have e : ((-1 : Int) + ((xs.length + 1 : Nat) : Int)).toNat = xs.length := by omega
  show (xs ++ [x])[((-1 : Int) + ((xs.length + 1 : Nat) : Int)).toNat]? = _
  rw [e]; simp
theorem ixN_nat {n k : Nat} (h : k < n) : ixN n (k : Int) = some k := by
  unfold ixN
  rw [if_pos (by omega), if_pos (by omega), Int.toNat_natCast]
mutual
theorem eqv_refl : ∀ v : PV, v.dat = true → v.eqv v = true
  | .non, _ => rfl
  | .bl b, _ => by show (b == b) = true; simp
  | .int b, _ => by show (b == b) = true; simp
  | .str b, _ => by show (b == b) = true; simp
  | .glo _, h => by cases h
  | .ty _, h => by cases h
  | .cel _, h => by cases h
  | .scr _, h => by cases h
  | .tup xs, h => eqvs_refl xs h
  | .lst xs, h => eqvs_refl xs h
theorem eqvs_refl : ∀ xs : List PV, dats xs = true → eqvs xs xs = true
  | [], _ => rfl
  | x :: xs, h => by
    obtain ⟨h1, h2⟩ := Bool.and_eq_true_iff.mp (show (x.dat && dats xs) = true from h)
    show (x.eqv x && eqvs xs xs) = true
    rw [eqv_refl x h1, eqvs_refl xs h2]; rfl
end
theorem dats_map {α : Type} (f : α → PV) (l : List α) (h : ∀ a, (f a).dat = true) : dats (l.map f) = true := by
  induction l with
  | nil => rfl
  | cons a l ih => show ((f a).dat && dats (l.map f)) = true; rw [h a, ih]; rfl
theorem deps_map {α : Type} (f : α → PV) (l : List α) (n : Nat) (h : ∀ a, (f a).dep ≤ n) : deps (l.map f) ≤ n := by
  induction l with
  | nil => exact Nat.zero_le _
  | cons a l ih => show max (f a).dep (deps (l.map f)) ≤ n; exact Nat.max_le.mpr ⟨h a, ih⟩
theorem ne_self {st : Sto} {xs : List PV} (h : dats xs = true) (hd : deps xs ≤ 50) : cmpV st .NotEq (.tup xs) (.tup xs) = some false := by
  show (eqV st (.tup xs) (.tup xs)).map (!·) = _
  have e : eqV st (.tup xs) (.tup xs) = some true := by
    show (if (PV.tup xs).dat && ((PV.tup xs).dat && (decide ((PV.tup xs).dep ≤ 60) || decide ((PV.tup xs).dep ≤ 60))) then some ((PV.tup xs).eqv (.tup xs)) else none) = _
    have h1 : (PV.tup xs).dat = true := h
    have h2 : (PV.tup xs).dep ≤ 60 := by show deps xs + 1 ≤ 60; omega
    rw [h1, decide_eq_true h2, eqv_refl _ h1]
    rfl
  rw [e]; rfl
theorem eq_self {st : Sto} {xs : List PV} (h : dats xs = true) (hd : deps xs ≤ 50) : cmpV st .Eq (.tup xs) (.tup xs) = some true := by
  show eqV st (.tup xs) (.tup xs) = _
  show (if (PV.tup xs).dat && ((PV.tup xs).dat && (decide ((PV.tup xs).dep ≤ 60) || decide ((PV.tup xs).dep ≤ 60))) then some ((PV.tup xs).eqv (.tup xs)) else none) = _
  have h1 : (PV.tup xs).dat = true := h
  have h2 : (PV.tup xs).dep ≤ 60 := by show deps xs + 1 ≤ 60; omega
  rw [h1, decide_eq_true h2, eqv_refl _ h1]
  rfl
theorem tY_dat (l : List (Nat × Str)) : dats (tY l) = true := dats_map _ _ fun _ => rfl
theorem tY_dep (l : List (Nat × Str)) : deps (tY l) ≤ 50 := deps_map _ _ _ fun a => by show max 0 (max 0 0) + 1 ≤ 50; decide
theorem str_dep (l : List Str) : deps (l.map .str) ≤ 50 := deps_map _ _ _ fun a => Nat.zero_le _
theorem wat {st : Sto} {n : Nat} {xs ys : List PV} (h : st[n]? = some (.lst xs)) : (st.set n (.lst ys))[n]? = some (.lst ys) := List.getElem?_set_self (List.getElem?_eq_some_iff.mp h).1
theorem up_eq {s : Sd} {t : Nat} (h1 : t < s.sts.length) (h2 : t < s.hd.length) : s.up t = (s.sts[t] == ("up" : Str) && !s.hd[t]) := by
  unfold Sd.up
  rw [List.getElem?_eq_getElem h1, List.getElem?_eq_getElem h2]
  show ((some s.sts[t] == some ("up" : Str)) && (some s.hd[t] == some false)) = _
  cases s.hd[t] <;> simp
theorem noCels_snoc {xs : List PV} {x : PV} (h : noCels xs = true) (hx : x.noCel = true) : noCels (xs ++ [x]) = true := by
  induction xs with
  | nil => show (x.noCel && true) = true; rw [hx]; rfl
  | cons y ys ih =>
    obtain ⟨h1, h2⟩ := Bool.and_eq_true_iff.mp (show (y.noCel && noCels ys) = true from h)
    show (y.noCel && noCels (ys ++ [x])) = true
    rw [h1, ih h2]; rfl
end Mi

end

section
set_option linter.all false
set_option maxRecDepth 100000
/-! Mi, part Q: values recognized, plainly. -/
namespace Mi
open PySem L2
def numB (v : PV) (a b : Int) : Bool := match v with
  | .int i => decide (a ≤ i) && decide (i ≤ b)
  | _ => false
def tupN (v : PV) (a b : Int) : Bool := match v with
  | .tup xs => decide (a ≤ xs.length) && decide ((xs.length : Int) ≤ b)
  | _ => false
def wordB (v : PV) (ws : List Str) : Bool := match v with
  | .str w => ws.any (· == w)
  | _ => false
def fwords : List Str := ["more", "atleast", "same"]
def ltB : PV → PV → Bool
  | .int i, .int j => decide (i < j)
  | _, _ => false
def incB (xs : List PV) : Bool := (xs.zip xs.tail).all fun p => ltB p.1 p.2
def lotB (many : Nat) (v : PV) : Bool := match v with
  | .tup xs => decide ((xs.length : Int) ≤ 2 * many - 1) && (xs.all (fun x => numB x 0 (2 * many - 2)) && incB xs)
  | _ => false
def lotL (many : Nat) (v : PV) : Bool := match v with
  | .tup xs => xs.all (fun x => numB x 0 (2 * many - 2)) && incB xs
  | _ => false
def factB (many : Nat) (v : PV) : Bool := match v with
  | .tup [a, b, c] => wordB a fwords && (lotB many b && lotB many c)
  | _ => false
def factsB (many : Nat) (v : PV) : Bool := match v with
  | .tup xs => decide (xs.length ≤ 6) && xs.all (factB many)
  | _ => false
def sizesB (many : Nat) (v : PV) : Bool := match v with
  | .tup xs => decide ((xs.length : Int) = 2 * many - 1) && xs.all (fun x => numB x 1 1000000000000)
  | _ => false
def deedB (many : Nat) (v : PV) : Bool := match v with
  | .tup [a, b] => wordB a words && numB b 0 (many - 1)
  | _ => false
def scriptB (many : Nat) (v : PV) : Bool := match v with
  | .tup xs => decide (xs.length ≤ 6) && xs.all (deedB many)
  | _ => false
/-- numbers, by a list -/
theorem nums_of {xs : List PV} {a b : Int} (h : (xs.all fun x => numB x a b) = true) : ∃ ns : List Int, xs = ns.map .int ∧ ∀ n ∈ ns, a ≤ n ∧ n ≤ b := by
  induction xs with
  | nil => exact ⟨[], rfl, by simp⟩
  | cons x xs ih =>
    rw [List.all_cons] at h
    obtain ⟨h1, h2⟩ := Bool.and_eq_true_iff.mp h
    obtain ⟨ns, e, hn⟩ := ih h2
    cases x <;> first | (cases h1; done) | skip
    rename_i i
    obtain ⟨h3, h4⟩ := Bool.and_eq_true_iff.mp (show (decide (a ≤ i) && decide (i ≤ b)) = true from h1)
    exact ⟨i :: ns, by rw [e]; rfl, fun n hm => by
      rcases List.mem_cons.mp hm with rfl | hm
      · exact ⟨of_decide_eq_true h3, of_decide_eq_true h4⟩
      · exact hn n hm⟩
theorem inc_bound : ∀ (ns : List Int) (lo hi : Int), (∀ n ∈ ns, lo ≤ n ∧ n ≤ hi) → incB (ns.map .int) = true → lo ≤ hi + 1 → (ns.length : Int) ≤ hi - lo + 1
  | [], lo, hi, _, _, hl => by simp; omega
  | [n], lo, hi, h, _, _ => by have := h n (by simp); simp; omega
  | n :: m :: ns, lo, hi, h, hi', hl => by
    have h1 : incB ((m :: ns).map .int) = true ∧ n < m := by
      have e : incB ((n :: m :: ns).map PV.int) = (decide (n < m) && incB ((m :: ns).map PV.int)) := rfl
      rw [e] at hi'
      obtain ⟨a, b⟩ := Bool.and_eq_true_iff.mp hi'
      exact ⟨b, of_decide_eq_true a⟩
    have hn := h n (by simp)
    have hm := h m (by simp)
    -- the rest lies above n
    have key : ∀ (ks : List Int) (k : Int), incB ((k :: ks).map PV.int) = true → ∀ x ∈ ks, k < x := by
      intro ks
      induction ks with
      | nil => intro k _ x hx; cases hx
      | cons y ks ih =>
        intro k hk x hx
        have e : incB ((k :: y :: ks).map PV.int) = (decide (k < y) && incB ((y :: ks).map PV.int)) := rfl
        rw [e] at hk
        obtain ⟨a, b⟩ := Bool.and_eq_true_iff.mp hk
        have a := of_decide_eq_true a
        rcases List.mem_cons.mp hx with rfl | hx
        · exact a
        · have := ih y b x hx; omega
    have k1 := key ns m h1.1
    have := inc_bound (m :: ns) (n + 1) hi (fun x hx => by
      have hx2 := h x (List.mem_cons_of_mem _ hx)
      rcases List.mem_cons.mp hx with rfl | hx
      · exact ⟨by omega, hx2.2⟩
      · exact ⟨by have := k1 x hx; omega, hx2.2⟩) h1.1 (by omega)
    simp only [List.length_cons] at this ⊢
    omega
theorem lot_eq (many : Nat) (h : 1 ≤ many) (v : PV) : lotB many v = lotL many v := by
  cases v <;> try rfl
  rename_i xs
  show (decide ((xs.length : Int) ≤ 2 * many - 1) && (xs.all (fun x => numB x 0 (2 * many - 2)) && incB xs)) = (xs.all (fun x => numB x 0 (2 * many - 2)) && incB xs)
  cases q : (xs.all (fun x => numB x 0 (2 * many - 2)) && incB xs) with
  | false => simp
  | true =>
    obtain ⟨h1, h2⟩ := Bool.and_eq_true_iff.mp q
    obtain ⟨ns, rfl, hn⟩ := nums_of h1
    have := inc_bound ns 0 (2 * many - 2) hn h2 (by omega)
    rw [decide_eq_true (by rw [List.length_map]; omega)]
    rfl
/-- plain values: what isinstance is asked of -/
def sh1 : PV → Bool
  | .non => true
  | .bl _ => true
  | .int _ => true
  | .str _ => true
  | .tup _ => true
  | .lst _ => true
  | _ => false
theorem isi_int {v : PV} (h : sh1 v = true) : isiV v "int" = some (match v with | .bl _ => true | .int _ => true | _ => false) := by cases v <;> first | rfl | cases h
theorem isi_bool {v : PV} (h : sh1 v = true) : isiV v "bool" = some (match v with | .bl _ => true | _ => false) := by cases v <;> first | rfl | cases h
theorem isi_str {v : PV} (h : sh1 v = true) : isiV v "str" = some (match v with | .str _ => true | _ => false) := by cases v <;> first | rfl | cases h
theorem isi_tup {v : PV} (h : sh1 v = true) : isiV v "tuple" = some (match v with | .tup _ => true | _ => false) := by cases v <;> first | rfl | cases h
theorem compR_filter {α : Type} {f : PV → Sto → R (Option PV)} {st : Sto} (l : List α) (e : α → PV) (p : α → Bool) (g : α → PV) (h : ∀ a ∈ l, f (e a) st = .ok (if p a then some (g a) else none) st) : compR f (l.map e) st = .ok ((l.filter p).map g) st := by
  induction l with
  | nil => rfl
  | cons a l ih =>
    show (f (e a) st).bind (fun o st1 => (compR f (l.map e) st1).bind fun ys st2 => .ok (match o with
      | some y => y :: ys
      | none => ys) st2) = _
    rw [h a List.mem_cons_self, R.bind_ok, ih fun b hb => h b (List.mem_cons_of_mem _ hb), List.filter_cons]
    cases p a <;> rfl
/-- nested values: dat, no longer than L, no deeper than n -/
def vB (L : Nat) : Nat → PV → Bool
  | _, .non => true
  | _, .bl _ => true
  | _, .int _ => true
  | _, .str _ => true
  | n + 1, .tup xs => decide (xs.length ≤ L) && xs.all (vB L n)
  | n + 1, .lst xs => decide (xs.length ≤ L) && xs.all (vB L n)
  | _, _ => false
theorem vB_sh {L : Nat} : ∀ {n : Nat} {v : PV}, vB L n v = true → sh1 v = true := by
  intro n v h
  cases v <;> first | rfl | (cases n <;> cases h)
theorem vB_dat {L : Nat} : ∀ {n : Nat} {v : PV}, vB L n v = true → v.dat = true := by
  intro n
  have lst : ∀ {m : Nat}, (∀ {v : PV}, vB L m v = true → v.dat = true) → ∀ xs : List PV, xs.all (vB L m) = true → dats xs = true := by
    intro m ih xs
    induction xs with
    | nil => intro _; rfl
    | cons x xs ihx =>
      intro h
      rw [List.all_cons] at h
      obtain ⟨h1, h2⟩ := Bool.and_eq_true_iff.mp h
      show (x.dat && dats xs) = true
      rw [ih h1, ihx h2]; rfl
  induction n with
  | zero => intro v h; cases v <;> first | rfl | cases h
  | succ n ih =>
    intro v h
    cases v <;> first | rfl | (cases h; done) | skip
    · rename_i xs; exact lst ih xs (Bool.and_eq_true_iff.mp (show (decide (xs.length ≤ L) && xs.all (vB L n)) = true from h)).2
    · rename_i xs; exact lst ih xs (Bool.and_eq_true_iff.mp (show (decide (xs.length ≤ L) && xs.all (vB L n)) = true from h)).2
theorem vB_mono {L L' : Nat} (hL : L ≤ L') : ∀ {n m : Nat} {v : PV}, n ≤ m → vB L n v = true → vB L' m v = true := by
  intro n
  induction n with
  | zero => intro m v _ h; cases v <;> first | (cases m <;> rfl) | cases h
  | succ n ih =>
    intro m v hm h
    obtain ⟨m, rfl⟩ : ∃ k, m = k + 1 := ⟨m - 1, by omega⟩
    have go : ∀ xs : List PV, (decide (xs.length ≤ L) && xs.all (vB L n)) = true → (decide (xs.length ≤ L') && xs.all (vB L' m)) = true := fun xs h => by
      obtain ⟨h1, h2⟩ := Bool.and_eq_true_iff.mp h
      rw [decide_eq_true (Nat.le_trans (of_decide_eq_true h1) hL), Bool.true_and]
      rw [List.all_eq_true] at h2 ⊢
      exact fun x hx => ih (by omega) (h2 x hx)
    cases v <;> first | rfl | (cases h; done) | skip
    · exact go _ h
    · exact go _ h
/-- a value of bounded lengths -/
def vW (v : PV) : Prop := ∃ n, vB 100 n v = true
theorem vW.sh {v : PV} (h : vW v) : sh1 v = true := let ⟨_, h⟩ := h; vB_sh h
theorem vW.dat {v : PV} (h : vW v) : v.dat = true := let ⟨_, h⟩ := h; vB_dat h
theorem vW.tup {xs : List PV} (h : vW (.tup xs)) : xs.length ≤ 100 ∧ ∀ x ∈ xs, vW x := by
  obtain ⟨n, h⟩ := h
  cases n with
  | zero => cases h
  | succ n =>
    obtain ⟨h1, h2⟩ := Bool.and_eq_true_iff.mp (show (decide (xs.length ≤ 100) && xs.all (vB 100 n)) = true from h)
    exact ⟨of_decide_eq_true h1, fun x hx => ⟨n, List.all_eq_true.mp h2 x hx⟩⟩
theorem cut_tail {α : Type} (xs : List α) : cutG xs (some 1) none = xs.tail := by
  cases xs with
  | nil => rfl
  | cons x xs => exact (cut_drop (x :: xs) 1 (by simp)).trans rfl
theorem mem_zip_int {ns : List Int} {p : PV × PV} (h : p ∈ (ns.map PV.int).zip (ns.map PV.int).tail) : ∃ i j, p = (.int i, .int j) := by
  obtain ⟨a, b⟩ := p
  have h1 := (List.of_mem_zip h).1
  have h2 := List.mem_of_mem_tail (List.of_mem_zip h).2
  obtain ⟨i, _, e1⟩ := List.mem_map.mp h1
  obtain ⟨j, _, e2⟩ := List.mem_map.mp h2
  exact ⟨i, j, by rw [← e1, ← e2]⟩
theorem zip_len {α : Type} (xs : List α) : (xs.zip xs.tail).length ≤ xs.length := by
  rw [List.length_zip]; exact Nat.min_le_left _ _
/-- a list compared with the empty one -/
theorem ne_nil {st : Sto} {xs : List PV} (h : dats xs = true) : cmpV st .NotEq (.lst xs) (.lst []) = some (!xs.isEmpty) := by
  show (eqV st (.lst xs) (.lst [])).map (!·) = _
  have e : eqV st (.lst xs) (.lst []) = some xs.isEmpty := by
    show (if (PV.lst xs).dat && (true && (decide ((PV.lst xs).dep ≤ 60) || decide ((PV.lst []).dep ≤ 60))) then some ((PV.lst xs).eqv (.lst [])) else none) = _
    have h1 : (PV.lst xs).dat = true := h
    rw [h1, decide_eq_true (show (PV.lst []).dep ≤ 60 by decide), Bool.or_true]
    cases xs <;> rfl
  rw [e]; rfl
theorem eq_nil {st : Sto} {xs : List PV} (h : dats xs = true) : cmpV st .Eq (.lst xs) (.lst []) = some xs.isEmpty := by
  show eqV st (.lst xs) (.lst []) = _
  show (if (PV.lst xs).dat && (true && (decide ((PV.lst xs).dep ≤ 60) || decide ((PV.lst []).dep ≤ 60))) then some ((PV.lst xs).eqv (.lst [])) else none) = _
  have h1 : (PV.lst xs).dat = true := h
  rw [h1, decide_eq_true (show (PV.lst []).dep ≤ 60 by decide), Bool.or_true]
  cases xs <;> rfl
theorem filter_empty {α : Type} (xs : List α) (p : α → Bool) : (xs.filter fun x => !p x).isEmpty = xs.all p := by
  induction xs with
  | nil => rfl
  | cons x xs ih => rw [List.filter_cons, List.all_cons]; cases p x <;> simp [ih]
theorem dats_of {xs : List PV} (h : ∀ x ∈ xs, x.dat = true) : dats xs = true := by
  induction xs with
  | nil => rfl
  | cons x xs ih => show (x.dat && dats xs) = true; rw [h x (by simp), ih fun y hy => h y (by simp [hy])]; rfl
def strQ : PV → Bool
  | .str _ => true
  | _ => false
def tupQ : PV → Bool
  | .tup _ => true
  | _ => false
theorem isi_strQ {v : PV} (h : sh1 v = true) : isiV v "str" = some (strQ v) := by cases v <;> first | rfl | cases h
theorem isi_tupQ {v : PV} (h : sh1 v = true) : isiV v "tuple" = some (tupQ v) := by cases v <;> first | rfl | cases h
end Mi

end

section
set_option linter.all false
set_option maxRecDepth 100000
/-! Mi, part R: facts and their lines, plainly. -/
namespace Mi
open PySem L2
theorem dats_int (l : List Int) : dats (l.map .int) = true := dats_map _ _ fun _ => rfl
theorem deps_int (l : List Int) : deps (l.map .int) = 0 := Nat.le_zero.mp (deps_map _ _ _ fun _ => Nat.le_refl 0)
theorem any_int (t : Int) (a : List Int) : ((a.map PV.int).any fun z => z.eqv (.int t)) = a.any (· == t) := by
  induction a with
  | nil => rfl
  | cons v a ih => rw [List.map_cons, List.any_cons, List.any_cons, ih]; rfl
theorem in_ints {st : Sto} (t : Int) (a : List Int) : cmpV st .In (.int t) (.tup (a.map .int)) = some (a.any (· == t)) := by
  show (if true && (dats (a.map .int) && decide (deps (a.map .int) ≤ 60)) then some ((a.map PV.int).any fun z => z.eqv (.int t)) else none) = _
  rw [dats_int, deps_int, any_int]
  rfl
def lineF (many : Nat) (a b : List Int) : List Int := (List.range (2 * many - 1)).map fun t => b2i (a.any (· == ((t : Nat) : Int))) - b2i (b.any (· == ((t : Nat) : Int)))
theorem lineF_small (many : Nat) (a b : List Int) : ∀ x ∈ lineF many a b, -(2 ^ 64) < x ∧ x < 2 ^ 64 := by
  intro x hx
  obtain ⟨t, _, rfl⟩ := List.mem_map.mp hx
  cases a.any (· == ((t : Nat) : Int)) <;> cases b.any (· == ((t : Nat) : Int)) <;> decide
theorem lineF_len (many : Nat) (a b : List Int) : (lineF many a b).length = 2 * many - 1 := by
  unfold lineF; rw [List.length_map, List.length_range]
def soB (w : Str) (far : Int) : Bool := if w = ("same" : Str) then far == 0 else if w = ("more" : Str) then decide (0 < far) else decide (0 ≤ far)
abbrev Fct := Str × List Int × List Int
def fV (x : Fct) : PV := .tup [.str x.1, .tup (x.2.1.map .int), .tup (x.2.2.map .int)]
structure FctOk (many : Nat) (x : Fct) : Prop where
  w : x.1 ∈ fwords
  a : lotB many (.tup (x.2.1.map .int)) = true
  b : lotB many (.tup (x.2.2.map .int)) = true
def keepsB (many : Nat) (fs : List Fct) (sizes : List Int) : Bool := fs.all fun x => soB x.1 (dotZ (lineF many x.2.1 x.2.2) sizes)
theorem inc_of : ∀ (ks : List Int), ks.Pairwise (· < ·) → incB (ks.map .int) = true
  | [], _ => rfl
  | [_], _ => rfl
  | a :: b :: ks, h => by
    have e : incB ((a :: b :: ks).map PV.int) = (decide (a < b) && incB ((b :: ks).map PV.int)) := rfl
    rw [e, inc_of (b :: ks) (List.Pairwise.of_cons h), decide_eq_true (List.rel_of_pairwise_cons h List.mem_cons_self)]; rfl
theorem lot_of (many : Nat) (hm : 1 ≤ many) (ks : List Int) (h : ks.Pairwise (· < ·)) (hr : ∀ k ∈ ks, 0 ≤ k ∧ k ≤ 2 * many - 2) : lotB many (.tup (ks.map .int)) = true := by
  rw [lot_eq many hm]
  show ((ks.map PV.int).all (fun x => numB x 0 (2 * many - 2)) && incB (ks.map .int)) = true
  rw [inc_of ks h, Bool.and_true, List.all_map, List.all_eq_true]
  intro k hk
  show (decide (0 ≤ k) && decide (k ≤ 2 * many - 2)) = true
  rw [decide_eq_true (hr k hk).1, decide_eq_true (hr k hk).2]; rfl
theorem lot_len {many : Nat} {ks : List Int} (h : lotB many (.tup (ks.map .int)) = true) : (ks.length : Int) ≤ 2 * many - 1 := by
  have h := (Bool.and_eq_true_iff.mp (show (decide (((ks.map PV.int).length : Int) ≤ 2 * many - 1) && _) = true from h)).1
  have h := of_decide_eq_true h
  rwa [List.length_map] at h
theorem lot_sub (many : Nat) (hm : 1 ≤ many) (ks : List Nat) (h : ks.Sublist (List.range (2 * many - 1))) : lotB many (.tup ((ks.map fun k : Nat => (k : Int)).map .int)) = true := by
  refine lot_of many hm _ ?_ ?_
  · rw [List.pairwise_map]
    refine (List.Pairwise.sublist h List.pairwise_lt_range).imp fun h => ?_
    omega
  · intro k hk
    obtain ⟨j, hj, rfl⟩ := List.mem_map.mp hk
    have := List.mem_range.mp (h.subset hj)
    omega
theorem lot_one (many : Nat) (hm : 1 ≤ many) (k : Int) (h : 0 ≤ k ∧ k ≤ 2 * many - 2) : lotB many (.tup [.int k]) = true :=
  lot_of many hm [k] (List.pairwise_singleton _ _) fun j hj => by rw [List.mem_singleton.mp hj]; exact h
theorem FctOk.good {many : Nat} {x : Fct} (h : FctOk many x) : factB many (fV x) = true := by
  show (wordB (.str x.1) fwords && (lotB many _ && lotB many _)) = true
  rw [h.a, h.b]
  have : wordB (.str x.1) fwords = true := List.any_eq_true.mpr ⟨_, h.w, beq_self_eq_true _⟩
  rw [this]; rfl
theorem vB_ints {L n : Nat} (l : List Int) (h : l.length ≤ L) : vB L (n + 1) (.tup (l.map .int)) = true := by
  show (decide ((l.map PV.int).length ≤ L) && (l.map PV.int).all (vB L n)) = true
  rw [List.length_map, decide_eq_true h, List.all_map, Bool.true_and, List.all_eq_true]
  intro x _
  cases n <;> rfl
theorem FctOk.vb {many : Nat} {x : Fct} (h : FctOk many x) (hm : many ≤ 4) : vB 7 2 (fV x) = true := by
  have l1 := lot_len h.a
  have l2 := lot_len h.b
  have e : vB 7 2 (fV x) = (true && (vB 7 1 (.str x.1) && (vB 7 1 (.tup (x.2.1.map .int)) && (vB 7 1 (.tup (x.2.2.map .int)) && true)))) := rfl
  rw [e, vB_ints (n := 0) _ (by omega), vB_ints (n := 0) _ (by omega)]
  rfl
theorem facts_good {many : Nat} {fs : List Fct} (hl : fs.length ≤ 6) (h : ∀ x ∈ fs, FctOk many x) : factsB many (.tup (fs.map fV)) = true := by
  show (decide ((fs.map fV).length ≤ 6) && (fs.map fV).all (factB many)) = true
  rw [List.length_map, decide_eq_true hl, Bool.true_and, List.all_map, List.all_eq_true]
  exact fun x hx => (h x hx).good
theorem vB_list {α : Type} {L n : Nat} (f : α → PV) (l : List α) (h : l.length ≤ L) (hf : ∀ a ∈ l, vB L n (f a) = true) : vB L (n + 1) (.tup (l.map f)) = true := by
  show (decide ((l.map f).length ≤ L) && (l.map f).all (vB L n)) = true
  rw [List.length_map, decide_eq_true h, List.all_map, Bool.true_and, List.all_eq_true]
  exact fun x hx => hf x hx
theorem facts_vb {many : Nat} {fs : List Fct} (hm : many ≤ 4) (hl : fs.length ≤ 6) (h : ∀ x ∈ fs, FctOk many x) : vB 7 3 (.tup (fs.map fV)) = true :=
  vB_list fV fs (by omega) fun x hx => (h x hx).vb hm
theorem sizes_vb {many : Nat} {l : List Int} (hm : many ≤ 4) (h : SzOk many l) : vB 7 3 (.tup (l.map .int)) = true := vB_ints (n := 2) l (by have := h.len; omega)
theorem script_vb {ds : List (Str × Nat)} (hl : ds.length ≤ 6) : vB 7 3 (.tup (ds.map dV)) = true :=
  vB_list dV ds (by omega) fun x _ => rfl
theorem sizes_good {many : Nat} {l : List Int} (h1 : 1 ≤ many) (h : SzOk many l) : sizesB many (.tup (l.map .int)) = true := by
  show (decide (((l.map PV.int).length : Int) = 2 * many - 1) && (l.map PV.int).all (fun x => numB x 1 1000000000000)) = true
  rw [List.length_map, h.len, decide_eq_true (by omega), Bool.true_and, List.all_map, List.all_eq_true]
  intro x hx
  show (decide (1 ≤ x) && decide (x ≤ 1000000000000)) = true
  rw [decide_eq_true (h.lo x hx).1, decide_eq_true (h.lo x hx).2]; rfl
/-! spoilt values -/
theorem vB_take {L n : Nat} {xs : List PV} (h : xs.all (vB L n) = true) (k : Nat) : (xs.take k).all (vB L n) = true := by
  rw [List.all_eq_true] at h ⊢
  exact fun x hx => h x (List.mem_of_mem_take hx)
theorem vB_drop {L n : Nat} {xs : List PV} (h : xs.all (vB L n) = true) (k : Nat) : (xs.drop k).all (vB L n) = true := by
  rw [List.all_eq_true] at h ⊢
  exact fun x hx => h x (List.mem_of_mem_drop hx)
theorem vB_tup {L n : Nat} {xs : List PV} (h1 : xs.length ≤ L) (h : xs.all (vB L n) = true) : vB L (n + 1) (.tup xs) = true := by
  show (decide (xs.length ≤ L) && xs.all (vB L n)) = true
  rw [decide_eq_true h1, h]; rfl
theorem vB_up {L n : Nat} {xs : List PV} (h : xs.all (vB L n) = true) : xs.all (vB (L + 1) (n + 1)) = true := by
  rw [List.all_eq_true] at h ⊢
  exact fun x hx => vB_mono (Nat.le_succ L) (Nat.le_succ n) (h x hx)
end Mi

end

section
set_option linter.all false
set_option maxRecDepth 100000
namespace K01
open PySem PySem.Spec PyProof.Rows L2 Mi
/-! the defs, in the little language (printed by gen.py) -/
def top (i : Nat) : Stmt := PySem.Challenge.pw_surefalls_k01_values_recognized.main.body.getD i (.Pass ⟨0, 0, 0, 0⟩)
/-- is_number -/
def b0 : Sm := (.seq (.ret (.and (.bi .isi (.cons (.var 0) (.cons (.bty "int") .nil))) (.and (.not (.bi .isi (.cons (.var 0) (.cons (.bty "bool") .nil)))) (.chn .LtE .LtE (.var 1) (.var 0) (.var 2))))) .skip)
def f0 : Fn := ⟨["value", "least", "most"], ["value", "least", "most"], b0⟩
def d0 : Def := ⟨"is_number", f0, defArgs (top 9), defBody (top 9), defScope (top 9)⟩
/-- is_tuple -/
def b1 : Sm := (.seq (.ret (.and (.bi .isi (.cons (.var 0) (.cons (.bty "tuple") .nil))) (.chn .LtE .LtE (.var 1) (.bi .len (.cons (.var 0) .nil)) (.var 2)))) .skip)
def f1 : Fn := ⟨["value", "least", "most"], ["value", "least", "most"], b1⟩
def d1 : Def := ⟨"is_tuple", f1, defArgs (top 10), defBody (top 10), defScope (top 10)⟩
/-- is_word -/
def b2 : Sm := (.seq (.ret (.and (.bi .isi (.cons (.var 0) (.cons (.bty "str") .nil))) (.cmp .In (.var 0) (.var 1)))) .skip)
def f2 : Fn := ⟨["value", "some"], ["value", "some"], b2⟩
def d2 : Def := ⟨"is_word", f2, defArgs (top 11), defBody (top 11), defScope (top 11)⟩
/-- is_lot -/
def b3 : Sm := (.seq (.ite (.or (.not (.call .sto 1 (.cons (.var 1) (.cons (.int 0) (.cons (.bin .Sub (.bin .Mult (.int 2) (.var 0)) (.int 1)) .nil))))) (.not (.bi .all (.cons (.comp (.nm 2) [2] (.sq (.var 1)) .omit (.call .sto 0 (.cons (.var 2) (.cons (.int 0) (.cons (.bin .Sub (.bin .Mult (.int 2) (.var 0)) (.int 2)) .nil))))) .nil)))) (.seq (.ret (.bl false)) .skip) .skip) (.seq (.ret (.bi .all (.cons (.comp (.cons (.nm 2) (.cons (.nm 3) .nil)) [2, 3] (.zip (.var 1) (.sli (.var 1) (.int 1) .omit)) .omit (.cmp .Lt (.var 2) (.var 3))) .nil))) .skip))
def f3 : Fn := ⟨["many", "value"], ["many", "value", "one", "other"], b3⟩
def d3 : Def := ⟨"is_lot", f3, defArgs (top 12), defBody (top 12), defScope (top 12)⟩
/-- is_fact -/
def b4 : Sm := (.seq (.ite (.or (.not (.call .sto 1 (.cons (.var 1) (.cons (.int 3) (.cons (.int 3) .nil))))) (.not (.call .sto 2 (.cons (.idx (.var 1) (.int 0)) (.cons (.gl 45) .nil))))) (.seq (.ret (.bl false)) .skip) .skip) (.seq (.ret (.and (.call .sto 3 (.cons (.var 0) (.cons (.idx (.var 1) (.int 1)) .nil))) (.call .sto 3 (.cons (.var 0) (.cons (.idx (.var 1) (.int 2)) .nil))))) .skip))
def f4 : Fn := ⟨["many", "value"], ["many", "value"], b4⟩
def d4 : Def := ⟨"is_fact", f4, defArgs (top 13), defBody (top 13), defScope (top 13)⟩
/-- are_good_facts -/
def b5 : Sm := (.seq (.ret (.and (.call .sto 1 (.cons (.var 1) (.cons (.int 0) (.cons (.var 2) .nil)))) (.bi .all (.cons (.comp (.nm 3) [3] (.sq (.var 1)) .omit (.call .sto 4 (.cons (.var 0) (.cons (.var 3) .nil)))) .nil)))) .skip)
def f5 : Fn := ⟨["many", "value", "most"], ["many", "value", "most", "fact"], b5⟩
def d5 : Def := ⟨"are_good_facts", f5, defArgs (top 14), defBody (top 14), defScope (top 14)⟩
/-- are_good_sizes -/
def b6 : Sm := (.seq (.ret (.and (.call .sto 1 (.cons (.var 1) (.cons (.bin .Sub (.bin .Mult (.int 2) (.var 0)) (.int 1)) (.cons (.bin .Sub (.bin .Mult (.int 2) (.var 0)) (.int 1)) .nil)))) (.bi .all (.cons (.comp (.nm 2) [2] (.sq (.var 1)) .omit (.call .sto 0 (.cons (.var 2) (.cons (.int 1) (.cons (.gl 47) .nil))))) .nil)))) .skip)
def f6 : Fn := ⟨["many", "value"], ["many", "value", "one"], b6⟩
def d6 : Def := ⟨"are_good_sizes", f6, defArgs (top 15), defBody (top 15), defScope (top 15)⟩
/-- is_deed -/
def b7 : Sm := (.seq (.ret (.and (.call .sto 1 (.cons (.var 1) (.cons (.int 2) (.cons (.int 2) .nil)))) (.and (.call .sto 2 (.cons (.idx (.var 1) (.int 0)) (.cons (.gl 46) .nil))) (.call .sto 0 (.cons (.idx (.var 1) (.int 1)) (.cons (.int 0) (.cons (.bin .Sub (.var 0) (.int 1)) .nil))))))) .skip)
def f7 : Fn := ⟨["many", "value"], ["many", "value"], b7⟩
def d7 : Def := ⟨"is_deed", f7, defArgs (top 16), defBody (top 16), defScope (top 16)⟩
/-- is_good_script -/
def b8 : Sm := (.seq (.ret (.and (.call .sto 1 (.cons (.var 1) (.cons (.int 0) (.cons (.int 6) .nil)))) (.bi .all (.cons (.comp (.nm 2) [2] (.sq (.var 1)) .omit (.call .sto 7 (.cons (.var 0) (.cons (.var 2) .nil)))) .nil)))) .skip)
def f8 : Fn := ⟨["many", "value"], ["many", "value", "deed"], b8⟩
def d8 : Def := ⟨"is_good_script", f8, defArgs (top 17), defBody (top 17), defScope (top 17)⟩
/-- fact_line -/
def b9 : Sm := (.seq (.ret (.bi .tuple (.cons (.comp (.nm 2) [2] (.rng1 (.bin .Sub (.bin .Mult (.int 2) (.var 0)) (.int 1))) .omit (.bin .Sub (.ite (.cmp .In (.var 2) (.idx (.var 1) (.int 1))) (.int 1) (.int 0)) (.ite (.cmp .In (.var 2) (.idx (.var 1) (.int 2))) (.int 1) (.int 0)))) .nil))) .skip)
def f9 : Fn := ⟨["many", "fact"], ["many", "fact", "at"], b9⟩
def d9 : Def := ⟨"fact_line", f9, defArgs (top 18), defBody (top 18), defScope (top 18)⟩
/-- summed -/
def b10 : Sm := (.seq (.ret (.bi .sum (.cons (.comp (.cons (.nm 2) (.cons (.nm 3) .nil)) [2, 3] (.zip (.var 0) (.var 1)) .omit (.bin .Mult (.var 2) (.var 3))) .nil))) .skip)
def f10 : Fn := ⟨["line", "sizes"], ["line", "sizes", "factor", "size"], b10⟩
def d10 : Def := ⟨"summed", f10, defArgs (top 19), defBody (top 19), defScope (top 19)⟩
/-- is_so -/
def b11 : Sm := (.seq (.ite (.cmp .Eq (.var 0) (.str ("same" : Str))) (.seq (.ret (.cmp .Eq (.var 1) (.int 0))) .skip) .skip) (.seq (.ret (.ite (.cmp .Eq (.var 0) (.str ("more" : Str))) (.cmp .Gt (.var 1) (.int 0)) (.cmp .GtE (.var 1) (.int 0)))) .skip))
def f11 : Fn := ⟨["word", "far"], ["word", "far"], b11⟩
def d11 : Def := ⟨"is_so", f11, defArgs (top 20), defBody (top 20), defScope (top 20)⟩
/-- keeps_all -/
def b12 : Sm := (.seq (.ret (.bi .all (.cons (.comp (.nm 3) [3] (.sq (.var 1)) .omit (.call .sto 11 (.cons (.idx (.var 3) (.int 0)) (.cons (.call .sto 10 (.cons (.call .sto 9 (.cons (.var 0) (.cons (.var 3) .nil))) (.cons (.var 2) .nil))) .nil)))) .nil))) .skip)
def f12 : Fn := ⟨["many", "facts", "sizes"], ["many", "facts", "sizes", "fact"], b12⟩
def d12 : Def := ⟨"keeps_all", f12, defArgs (top 21), defBody (top 21), defScope (top 21)⟩
/-- need_many -/
def b13 : Sm := (.seq (.ite (.not (.call .sto 0 (.cons (.var 0) (.cons (.int 2) (.cons (.int 4) .nil))))) (.seq (.raise 42 ("not a number of tiles" : Str)) .skip) .skip) .skip)
def f13 : Fn := ⟨["value"], ["value"], b13⟩
def d13 : Def := ⟨"need_many", f13, defArgs (top 22), defBody (top 22), defScope (top 22)⟩
/-- need_facts -/
def b14 : Sm := (.seq (.ite (.not (.call .sto 5 (.cons (.var 0) (.cons (.var 1) (.cons (.int 6) .nil))))) (.seq (.raise 43 ("not facts" : Str)) .skip) .skip) .skip)
def f14 : Fn := ⟨["many", "value"], ["many", "value"], b14⟩
def d14 : Def := ⟨"need_facts", f14, defArgs (top 23), defBody (top 23), defScope (top 23)⟩
/-- need_sizes -/
def b15 : Sm := (.seq (.ite (.not (.call .sto 6 (.cons (.var 0) (.cons (.var 1) .nil)))) (.seq (.raise 44 ("not sizes" : Str)) .skip) .skip) .skip)
def f15 : Fn := ⟨["many", "value"], ["many", "value"], b15⟩
def d15 : Def := ⟨"need_sizes", f15, defArgs (top 24), defBody (top 24), defScope (top 24)⟩
/-- need_asked -/
def b16 : Sm := (.seq (.drop (.call .sto 13 (.cons (.var 0) .nil))) (.seq (.drop (.call .sto 14 (.cons (.var 0) (.cons (.var 1) .nil)))) .skip))
def f16 : Fn := ⟨["many", "facts"], ["many", "facts"], b16⟩
def d16 : Def := ⟨"need_asked", f16, defArgs (top 25), defBody (top 25), defScope (top 25)⟩
/-- are_facts -/
def b17 : Sm := (.seq (.drop (.call .sto 13 (.cons (.var 0) .nil))) (.seq (.ret (.call .sto 5 (.cons (.var 0) (.cons (.var 1) (.cons (.int 6) .nil))))) .skip))
def f17 : Fn := ⟨["many", "value"], ["many", "value"], b17⟩
def d17 : Def := ⟨"are_facts", f17, defArgs (top 26), defBody (top 26), defScope (top 26)⟩
/-- are_sizes -/
def b18 : Sm := (.seq (.drop (.call .sto 13 (.cons (.var 0) .nil))) (.seq (.ret (.call .sto 6 (.cons (.var 0) (.cons (.var 1) .nil)))) .skip))
def f18 : Fn := ⟨["many", "value"], ["many", "value"], b18⟩
def d18 : Def := ⟨"are_sizes", f18, defArgs (top 27), defBody (top 27), defScope (top 27)⟩
/-- is_script -/
def b19 : Sm := (.seq (.drop (.call .sto 13 (.cons (.var 0) .nil))) (.seq (.ret (.call .sto 8 (.cons (.var 0) (.cons (.var 1) .nil)))) .skip))
def f19 : Fn := ⟨["many", "value"], ["many", "value"], b19⟩
def d19 : Def := ⟨"is_script", f19, defArgs (top 28), defBody (top 28), defScope (top 28)⟩
/-- keeps -/
def b20 : Sm := (.seq (.drop (.call .sto 16 (.cons (.var 0) (.cons (.var 1) .nil)))) (.seq (.drop (.call .sto 15 (.cons (.var 0) (.cons (.var 2) .nil)))) (.seq (.ret (.call .sto 12 (.cons (.var 0) (.cons (.var 1) (.cons (.var 2) .nil))))) .skip)))
def f20 : Fn := ⟨["many", "facts", "sizes"], ["many", "facts", "sizes"], b20⟩
def d20 : Def := ⟨"keeps", f20, defArgs (top 29), defBody (top 29), defScope (top 29)⟩
/-- _law_source -/
def b21 : Sm := (.seq (.set 2 (.int 0)) (.seq (.ite (.cmp .Lt (.var 1) (.bi .len (.cons (.var 0) .nil))) (.seq (.set 2 (.bi .abs (.cons (.bi .int (.cons (.idx (.var 0) (.var 1)) .nil)) .nil))) .skip) .skip) (.seq (.ite (.cmp .Lt (.var 2) (.bin .Pow (.int 10) (.int 18))) (.seq (.ret (.cell (.lst (.cons (.int 0) (.cons (.bin .Add (.int 1) (.bin .Mod (.bi .int (.cons (.bin .Add (.bin .Mult (.var 2) (.int 7919)) (.bin .Mult (.int 104729) (.var 1))) .nil)) (.int 2147483646))) .nil))))) .skip) .skip) (.seq (.ret (.cell (.lst (.cons (.var 2) (.cons (.bin .Add (.int 1) (.bin .Mod (.bi .int (.cons (.bin .Add (.var 2) (.var 1)) .nil)) (.int 2147483646))) .nil))))) .skip))))
def f21 : Fn := ⟨["script", "k"], ["script", "k", "cell"], b21⟩
def d21 : Def := ⟨"_law_source", f21, defArgs (top 31), defBody (top 31), defScope (top 31)⟩
/-- _law_draw -/
def b22 : Sm := (.seq (.ite (.cmp .Gt (.idx (.var 0) (.int 0)) (.int 0)) (.seq (.set 2 (.bin .Mod (.bi .int (.cons (.idx (.var 0) (.int 0)) .nil)) (.var 1))) (.seq (.put (.var 0) (.int 0) (.bin .FloorDiv (.idx (.var 0) (.int 0)) (.var 1))) (.seq (.ret (.var 2)) .skip))) .skip) (.seq (.put (.var 0) (.int 1) (.bin .Mod (.bi .int (.cons (.bin .Mult (.idx (.var 0) (.int 1)) (.int 48271)) .nil)) (.int 2147483647))) (.seq (.ret (.bin .Mod (.bi .int (.cons (.bin .FloorDiv (.bin .Mod (.bi .int (.cons (.bin .Mult (.idx (.var 0) (.int 1)) (.idx (.var 0) (.int 1))) .nil)) (.int 2147483629)) (.int 64)) .nil)) (.var 1))) .skip)))
def f22 : Fn := ⟨["source", "many"], ["source", "many", "found"], b22⟩
def d22 : Def := ⟨"_law_draw", f22, defArgs (top 32), defBody (top 32), defScope (top 32)⟩
/-- _law_of -/
def b23 : Sm := (.seq (.ret (.idx (.var 1) (.call .sto 22 (.cons (.var 0) (.cons (.bi .len (.cons (.var 1) .nil)) .nil))))) .skip)
def f23 : Fn := ⟨["source", "items"], ["source", "items"], b23⟩
def d23 : Def := ⟨"_law_of", f23, defArgs (top 33), defBody (top 33), defScope (top 33)⟩
/-- _law_sum -/
def b24 : Sm := (.seq (.ret (.bi .sum (.cons (.comp (.cons (.nm 2) (.cons (.nm 3) .nil)) [2, 3] (.zip (.var 0) (.var 1)) .omit (.bin .Mult (.var 2) (.var 3))) .nil))) .skip)
def f24 : Fn := ⟨["line", "numbers"], ["line", "numbers", "factor", "number"], b24⟩
def d24 : Def := ⟨"_law_sum", f24, defArgs (top 34), defBody (top 34), defScope (top 34)⟩
/-- _law_fact_line -/
def b25 : Sm := (.seq (.setT (.cons (.nm 2) (.cons (.nm 3) (.cons (.nm 4) .nil))) (.var 1)) (.seq (.ret (.comp (.nm 5) [5] (.rng1 (.bin .Sub (.bin .Mult (.int 2) (.var 0)) (.int 1))) .omit (.bin .Sub (.bi .int (.cons (.cmp .In (.var 5) (.var 3)) .nil)) (.bi .int (.cons (.cmp .In (.var 5) (.var 4)) .nil))))) .skip))
def f25 : Fn := ⟨["many", "fact"], ["many", "fact", "word", "one", "other", "at"], b25⟩
def d25 : Def := ⟨"_law_fact_line", f25, defArgs (top 35), defBody (top 35), defScope (top 35)⟩
/-- _law_sizes -/
def b26 : Sm := (.seq (.set 2 (.tup .nil)) (.seq (.for (.nm 3) (.rng1 (.bin .Sub (.bin .Mult (.int 2) (.var 1)) (.int 1))) (.seq (.set 2 (.bin .Add (.var 2) (.tup (.cons (.call .sto 23 (.cons (.var 0) (.cons (.lst (.cons (.int 1) (.cons (.int 2) (.cons (.int 2) (.cons (.int 3) (.cons (.int 4) (.cons (.bin .Add (.int 1) (.call .sto 22 (.cons (.var 0) (.cons (.int 9) .nil)))) .nil))))))) .nil))) .nil)))) .skip)) (.seq (.ret (.var 2)) .skip)))
def f26 : Fn := ⟨["source", "many"], ["source", "many", "found", "at"], b26⟩
def d26 : Def := ⟨"_law_sizes", f26, defArgs (top 36), defBody (top 36), defScope (top 36)⟩
/-- _law_lot -/
def b27 : Sm := (.seq (.set 3 (.tup .nil)) (.seq (.for (.nm 4) (.rng1 (.bin .Sub (.bin .Mult (.int 2) (.var 1)) (.int 1))) (.seq (.set 3 (.bin .Add (.var 3) (.ite (.cmp .Eq (.call .sto 22 (.cons (.var 0) (.cons (.var 2) .nil))) (.int 0)) (.tup (.cons (.var 4) .nil)) (.tup .nil)))) .skip)) (.seq (.ret (.var 3)) .skip)))
def f27 : Fn := ⟨["source", "many", "rare"], ["source", "many", "rare", "found", "at"], b27⟩
def d27 : Def := ⟨"_law_lot", f27, defArgs (top 37), defBody (top 37), defScope (top 37)⟩
/-- _law_fact -/
def b28 : Sm := (.seq (.setT (.cons (.nm 6) (.cons (.nm 7) .nil)) (.tup (.cons (.call .sto 27 (.cons (.var 0) (.cons (.var 1) (.cons (.int 4) .nil)))) (.cons (.call .sto 27 (.cons (.var 0) (.cons (.var 1) (.cons (.int 4) .nil)))) .nil)))) (.seq (.ite (.cmp .Eq (.call .sto 22 (.cons (.var 0) (.cons (.int 2) .nil))) (.int 0)) (.seq (.set 6 (.tup (.cons (.call .sto 22 (.cons (.var 0) (.cons (.var 1) .nil))) .nil))) (.seq (.set 7 (.tup (.cons (.bin .Add (.var 1) (.call .sto 22 (.cons (.var 0) (.cons (.bin .Sub (.var 1) (.int 1)) .nil)))) .nil))) .skip)) .skip) (.seq (.set 3 (.call .sto 23 (.cons (.var 0) (.cons (.lst (.cons (.str ("more" : Str)) (.cons (.str ("atleast" : Str)) (.cons (.str ("same" : Str)) .nil)))) .nil)))) (.seq (.ite (.cmp .Eq (.call .sto 22 (.cons (.var 0) (.cons (.int 10) .nil))) (.int 0)) (.seq (.ret (.tup (.cons (.var 3) (.cons (.var 6) (.cons (.var 7) .nil))))) .skip) .skip) (.seq (.set 4 (.call .sto 24 (.cons (.call .sto 25 (.cons (.var 1) (.cons (.tup (.cons (.var 3) (.cons (.var 6) (.cons (.var 7) .nil)))) .nil))) (.cons (.var 2) .nil)))) (.seq (.ite (.cmp .Lt (.var 4) (.int 0)) (.seq (.setT (.cons (.nm 6) (.cons (.nm 7) .nil)) (.tup (.cons (.var 7) (.cons (.var 6) .nil)))) .skip) .skip) (.seq (.set 5 (.ite (.cmp .Eq (.var 4) (.int 0)) (.lst (.cons (.str ("same" : Str)) (.cons (.str ("atleast" : Str)) .nil))) (.lst (.cons (.str ("more" : Str)) (.cons (.str ("atleast" : Str)) .nil))))) (.seq (.ret (.tup (.cons (.call .sto 23 (.cons (.var 0) (.cons (.var 5) .nil))) (.cons (.var 6) (.cons (.var 7) .nil))))) .skip))))))))
def f28 : Fn := ⟨["source", "many", "sizes"], ["source", "many", "sizes", "word", "far", "words", "one", "other"], b28⟩
def d28 : Def := ⟨"_law_fact", f28, defArgs (top 38), defBody (top 38), defScope (top 38)⟩
/-- _law_facts -/
def b29 : Sm := (.seq (.setT (.cons (.nm 4) (.cons (.nm 5) .nil)) (.tup (.cons (.call .sto 26 (.cons (.var 0) (.cons (.var 1) .nil))) (.cons (.tup .nil) .nil)))) (.seq (.for (.nm 3) (.rng1 (.call .sto 22 (.cons (.var 0) (.cons (.bin .Add (.var 2) (.int 1)) .nil)))) (.seq (.set 5 (.bin .Add (.var 5) (.tup (.cons (.call .sto 28 (.cons (.var 0) (.cons (.var 1) (.cons (.var 4) .nil)))) .nil)))) .skip)) (.seq (.ret (.var 5)) .skip)))
def f29 : Fn := ⟨["source", "many", "most"], ["source", "many", "most", "turn", "sizes", "found"], b29⟩
def d29 : Def := ⟨"_law_facts", f29, defArgs (top 39), defBody (top 39), defScope (top 39)⟩
/-- _law_holds -/
def b30 : Sm := (.seq (.ite (.cmp .Eq (.var 0) (.str ("same" : Str))) (.seq (.ret (.cmp .Eq (.var 1) (.int 0))) .skip) .skip) (.seq (.ret (.or (.cmp .Gt (.var 1) (.int 0)) (.and (.cmp .Eq (.var 1) (.int 0)) (.cmp .Eq (.var 0) (.str ("atleast" : Str)))))) .skip))
def f30 : Fn := ⟨["word", "far"], ["word", "far"], b30⟩
def d30 : Def := ⟨"_law_holds", f30, defArgs (top 40), defBody (top 40), defScope (top 40)⟩
/-- _law_keeps -/
def b31 : Sm := (.seq (.for (.nm 3) (.sq (.var 1)) (.seq (.set 4 (.call .sto 24 (.cons (.call .sto 25 (.cons (.var 0) (.cons (.var 3) .nil))) (.cons (.var 2) .nil)))) (.seq (.ite (.not (.call .sto 30 (.cons (.idx (.var 3) (.int 0)) (.cons (.var 4) .nil)))) (.seq (.ret (.bl false)) .skip) .skip) .skip))) (.seq (.ret (.bl true)) .skip))
def f31 : Fn := ⟨["many", "facts", "sizes"], ["many", "facts", "sizes", "fact", "far"], b31⟩
def d31 : Def := ⟨"_law_keeps", f31, defArgs (top 41), defBody (top 41), defScope (top 41)⟩
/-- _law_script -/
def b32 : Sm := (.seq (.setT (.cons (.nm 4) (.cons (.nm 5) .nil)) (.tup (.cons (.tup .nil) (.cons (.lst (.cons (.str ("left" : Str)) (.cons (.str ("right" : Str)) (.cons (.str ("right" : Str)) (.cons (.str ("left" : Str)) (.cons (.str ("take" : Str)) (.cons (.str ("stand" : Str)) (.cons (.str ("hold" : Str)) (.cons (.str ("free" : Str)) .nil))))))))) .nil)))) (.seq (.for (.nm 3) (.rng1 (.call .sto 22 (.cons (.var 0) (.cons (.bin .Add (.var 2) (.int 1)) .nil)))) (.seq (.set 4 (.bin .Add (.var 4) (.tup (.cons (.tup (.cons (.call .sto 23 (.cons (.var 0) (.cons (.var 5) .nil))) (.cons (.call .sto 22 (.cons (.var 0) (.cons (.var 1) .nil))) .nil))) .nil)))) .skip)) (.seq (.ret (.var 4)) .skip)))
def f32 : Fn := ⟨["source", "many", "most"], ["source", "many", "most", "turn", "found", "words"], b32⟩
def d32 : Def := ⟨"_law_script", f32, defArgs (top 42), defBody (top 42), defScope (top 42)⟩
/-- _law_is_int -/
def b33 : Sm := (.seq (.ret (.and (.bi .isi (.cons (.var 0) (.cons (.bty "int") .nil))) (.and (.not (.bi .isi (.cons (.var 0) (.cons (.bty "bool") .nil)))) (.chn .LtE .LtE (.var 1) (.var 0) (.var 2))))) .skip)
def f33 : Fn := ⟨["value", "least", "top"], ["value", "least", "top"], b33⟩
def d33 : Def := ⟨"_law_is_int", f33, defArgs (top 43), defBody (top 43), defScope (top 43)⟩
/-- _law_is_lot -/
def b34 : Sm := (.seq (.ite (.not (.bi .isi (.cons (.var 1) (.cons (.bty "tuple") .nil)))) (.seq (.ret (.bl false)) .skip) .skip) (.seq (.ite (.cmp .NotEq (.comp (.nm 2) [2] (.sq (.var 1)) (.not (.call .sto 33 (.cons (.var 2) (.cons (.int 0) (.cons (.bin .Sub (.bin .Mult (.int 2) (.var 0)) (.int 2)) .nil))))) (.var 2)) (.lst .nil)) (.seq (.ret (.bl false)) .skip) .skip) (.seq (.ret (.cmp .Eq (.comp (.cons (.nm 2) (.cons (.nm 3) .nil)) [2, 3] (.zip (.var 1) (.sli (.var 1) (.int 1) .omit)) (.cmp .GtE (.var 2) (.var 3)) (.int 1)) (.lst .nil))) .skip)))
def f34 : Fn := ⟨["many", "value"], ["many", "value", "one", "other"], b34⟩
def d34 : Def := ⟨"_law_is_lot", f34, defArgs (top 44), defBody (top 44), defScope (top 44)⟩
/-- _law_are_facts -/
def b35 : Sm := (.seq (.ite (.or (.not (.bi .isi (.cons (.var 1) (.cons (.bty "tuple") .nil)))) (.cmp .Gt (.bi .len (.cons (.var 1) .nil)) (.int 6))) (.seq (.ret (.bl false)) .skip) .skip) (.seq (.for (.nm 2) (.sq (.var 1)) (.seq (.ite (.or (.not (.bi .isi (.cons (.var 2) (.cons (.bty "tuple") .nil)))) (.or (.cmp .NotEq (.bi .len (.cons (.var 2) .nil)) (.int 3)) (.not (.bi .isi (.cons (.idx (.var 2) (.int 0)) (.cons (.bty "str") .nil)))))) (.seq (.ret (.bl false)) .skip) .skip) (.seq (.ite (.cmp .NotIn (.idx (.var 2) (.int 0)) (.tup (.cons (.str ("more" : Str)) (.cons (.str ("atleast" : Str)) (.cons (.str ("same" : Str)) .nil))))) (.seq (.ret (.bl false)) .skip) .skip) (.seq (.ite (.or (.not (.call .sto 34 (.cons (.var 0) (.cons (.idx (.var 2) (.int 1)) .nil)))) (.not (.call .sto 34 (.cons (.var 0) (.cons (.idx (.var 2) (.int 2)) .nil))))) (.seq (.ret (.bl false)) .skip) .skip) .skip)))) (.seq (.ret (.bl true)) .skip)))
def f35 : Fn := ⟨["many", "value"], ["many", "value", "fact"], b35⟩
def d35 : Def := ⟨"_law_are_facts", f35, defArgs (top 45), defBody (top 45), defScope (top 45)⟩
/-- _law_is_script -/
def b36 : Sm := (.seq (.ite (.or (.not (.bi .isi (.cons (.var 1) (.cons (.bty "tuple") .nil)))) (.cmp .Gt (.bi .len (.cons (.var 1) .nil)) (.int 6))) (.seq (.ret (.bl false)) .skip) .skip) (.seq (.for (.nm 2) (.sq (.var 1)) (.seq (.ite (.or (.not (.bi .isi (.cons (.var 2) (.cons (.bty "tuple") .nil)))) (.or (.cmp .NotEq (.bi .len (.cons (.var 2) .nil)) (.int 2)) (.not (.bi .isi (.cons (.idx (.var 2) (.int 0)) (.cons (.bty "str") .nil)))))) (.seq (.ret (.bl false)) .skip) .skip) (.seq (.ite (.cmp .NotIn (.idx (.var 2) (.int 0)) (.tup (.cons (.str ("left" : Str)) (.cons (.str ("right" : Str)) (.cons (.str ("take" : Str)) (.cons (.str ("stand" : Str)) (.cons (.str ("hold" : Str)) (.cons (.str ("free" : Str)) .nil)))))))) (.seq (.ret (.bl false)) .skip) .skip) (.seq (.ite (.not (.call .sto 33 (.cons (.idx (.var 2) (.int 1)) (.cons (.int 0) (.cons (.bin .Sub (.var 0) (.int 1)) .nil))))) (.seq (.ret (.bl false)) .skip) .skip) .skip)))) (.seq (.ret (.bl true)) .skip)))
def f36 : Fn := ⟨["many", "value"], ["many", "value", "deed"], b36⟩
def d36 : Def := ⟨"_law_is_script", f36, defArgs (top 46), defBody (top 46), defScope (top 46)⟩
/-- _law_told_right -/
def b37 : Sm := (.seq (.set 2 (.and (.bi .isi (.cons (.var 1) (.cons (.bty "tuple") .nil))) (.cmp .Eq (.bi .len (.cons (.var 1) .nil)) (.bin .Sub (.bin .Mult (.int 2) (.var 0)) (.int 1))))) (.seq (.ite (.var 2) (.seq (.set 2 (.cmp .Eq (.comp (.nm 3) [3] (.sq (.var 1)) (.not (.call .sto 33 (.cons (.var 3) (.cons (.int 1) (.cons (.bin .Pow (.int 10) (.int 12)) .nil))))) (.var 3)) (.lst .nil))) .skip) .skip) (.seq (.ite (.cmp .NotEq (.call .sto 18 (.cons (.var 0) (.cons (.var 1) .nil))) (.var 2)) (.seq (.ret (.bl false)) .skip) .skip) (.seq (.ite (.cmp .NotEq (.call .sto 17 (.cons (.var 0) (.cons (.var 1) .nil))) (.call .sto 35 (.cons (.var 0) (.cons (.var 1) .nil)))) (.seq (.ret (.bl false)) .skip) .skip) (.seq (.ret (.cmp .Eq (.call .sto 19 (.cons (.var 0) (.cons (.var 1) .nil))) (.call .sto 36 (.cons (.var 0) (.cons (.var 1) .nil))))) .skip)))))
def f37 : Fn := ⟨["many", "value"], ["many", "value", "good", "one"], b37⟩
def d37 : Def := ⟨"_law_told_right", f37, defArgs (top 47), defBody (top 47), defScope (top 47)⟩
/-- _law_odd -/
def b38 : Sm := (.seq (.set 1 (.lst (.cons .non (.cons (.bl true) (.cons (.bl false) (.cons (.int 0) (.cons (.int 1) (.cons (.int 3) (.cons (.int 4) (.cons (.int 6) (.cons (.int 7) (.cons (.neg (.int 1)) (.cons (.str ("" : Str)) (.cons (.str ("more" : Str)) (.cons (.str ("left" : Str)) (.cons (.str ("take" : Str)) (.cons (.str ("push" : Str)) (.cons (.tup .nil) (.cons (.lst .nil) (.cons (.tup (.cons (.int 0) .nil)) (.cons (.tup (.cons (.int 1) (.cons (.int 0) .nil))) .nil))))))))))))))))))))) (.seq (.ret (.call .sto 23 (.cons (.var 0) (.cons (.bin .Add (.var 1) (.lst (.cons (.tup (.cons (.int 0) (.cons (.int 1) .nil))) (.cons (.tup (.cons (.int 2) (.cons (.int 2) .nil))) (.cons (.tup (.cons (.str ("left" : Str)) (.cons (.int 0) .nil))) (.cons (.tup (.cons (.str ("right" : Str)) (.cons (.bl true) .nil))) (.cons (.bin .Pow (.int 10) (.int 13)) (.cons (.str ("atleast" : Str)) .nil)))))))) .nil)))) .skip))
def f38 : Fn := ⟨["source"], ["source", "items"], b38⟩
def d38 : Def := ⟨"_law_odd", f38, defArgs (top 48), defBody (top 48), defScope (top 48)⟩
/-- _law_spoilt -/
def b39 : Sm := (.seq (.ite (.or (.not (.bi .isi (.cons (.var 1) (.cons (.bty "tuple") .nil)))) (.or (.cmp .Eq (.var 1) (.tup .nil)) (.cmp .Eq (.call .sto 22 (.cons (.var 0) (.cons (.int 6) .nil))) (.int 0)))) (.seq (.ret (.call .sto 38 (.cons (.var 0) .nil))) .skip) .skip) (.seq (.setT (.cons (.nm 2) (.cons (.nm 3) .nil)) (.tup (.cons (.call .sto 22 (.cons (.var 0) (.cons (.bi .len (.cons (.var 1) .nil)) .nil))) (.cons (.call .sto 22 (.cons (.var 0) (.cons (.int 9) .nil))) .nil)))) (.seq (.ite (.cmp .Eq (.var 3) (.int 0)) (.seq (.ret (.bin .Add (.sli (.var 1) .omit (.var 2)) (.sli (.var 1) (.bin .Add (.var 2) (.int 1)) .omit))) .skip) .skip) (.seq (.ite (.cmp .Eq (.var 3) (.int 1)) (.seq (.ret (.bin .Add (.sli (.var 1) .omit (.bin .Add (.var 2) (.int 1))) (.sli (.var 1) (.var 2) .omit))) .skip) .skip) (.seq (.ite (.cmp .Eq (.var 3) (.int 2)) (.seq (.ret (.bin .Add (.bin .Add (.sli (.var 1) .omit (.var 2)) (.tup (.cons (.call .sto 38 (.cons (.var 0) .nil)) .nil))) (.sli (.var 1) (.var 2) .omit))) .skip) .skip) (.seq (.ite (.cmp .Eq (.var 3) (.int 3)) (.seq (.ret (.bi .list (.cons (.var 1) .nil))) .skip) .skip) (.seq (.ite (.and (.bi .isi (.cons (.idx (.var 1) (.var 2)) (.cons (.bty "int") .nil))) (.cmp .Lt (.var 3) (.int 6))) (.seq (.ret (.bin .Add (.bin .Add (.sli (.var 1) .omit (.var 2)) (.tup (.cons (.bin .Sub (.bin .Add (.idx (.var 1) (.var 2)) (.call .sto 22 (.cons (.var 0) (.cons (.int 3) .nil)))) (.int 1)) .nil))) (.sli (.var 1) (.bin .Add (.var 2) (.int 1)) .omit))) .skip) .skip) (.seq (.ret (.bin .Add (.bin .Add (.sli (.var 1) .omit (.var 2)) (.tup (.cons (.call .sto 39 (.cons (.var 0) (.cons (.idx (.var 1) (.var 2)) .nil))) .nil))) (.sli (.var 1) (.bin .Add (.var 2) (.int 1)) .omit))) .skip))))))))
def f39 : Fn := ⟨["source", "value"], ["source", "value", "at", "mode"], b39⟩
def d39 : Def := ⟨"_law_spoilt", f39, defArgs (top 49), defBody (top 49), defScope (top 49)⟩
/-- law -/
def b40 : Sm := (.seq (.for (.nm 1) (.rng1 (.bin .Add (.int 1) (.bi .min2 (.cons (.bi .len (.cons (.var 0) .nil)) (.cons (.int 10) .nil))))) (.seq (.set 3 (.call .sto 21 (.cons (.var 0) (.cons (.var 1) .nil)))) (.seq (.set 4 (.bin .Add (.int 2) (.call .sto 22 (.cons (.var 3) (.cons (.int 3) .nil))))) (.seq (.setT (.cons (.nm 2) (.cons (.nm 6) .nil)) (.tup (.cons (.call .sto 29 (.cons (.var 3) (.cons (.var 4) (.cons (.int 6) .nil)))) (.cons (.call .sto 26 (.cons (.var 3) (.cons (.var 4) .nil))) .nil)))) (.seq (.ite (.cmp .NotEq (.call .sto 20 (.cons (.var 4) (.cons (.var 2) (.cons (.var 6) .nil)))) (.call .sto 31 (.cons (.var 4) (.cons (.var 2) (.cons (.var 6) .nil))))) (.seq (.ret (.bl false)) .skip) .skip) (.seq (.for (.nm 5) (.sq (.lst (.cons (.var 2) (.cons (.var 6) (.cons (.call .sto 32 (.cons (.var 3) (.cons (.var 4) (.cons (.int 6) .nil)))) .nil))))) (.seq (.for (.nm 7) (.rng1 (.int 5)) (.seq (.ite (.not (.call .sto 37 (.cons (.var 4) (.cons (.var 5) .nil)))) (.seq (.ret (.bl false)) .skip) .skip) (.seq (.set 5 (.call .sto 39 (.cons (.var 3) (.cons (.var 5) .nil)))) .skip))) .skip)) .skip)))))) (.seq (.set 2 (.tup (.cons (.tup (.cons (.str ("more" : Str)) (.cons (.tup (.cons (.int 0) .nil)) (.cons (.tup (.cons (.int 3) .nil)) .nil)))) (.cons (.tup (.cons (.str ("more" : Str)) (.cons (.tup (.cons (.int 1) .nil)) (.cons (.tup (.cons (.int 4) .nil)) .nil)))) .nil)))) (.seq (.ite (.or (.call .sto 20 (.cons (.int 3) (.cons (.var 2) (.cons (.tup (.cons (.int 3) (.cons (.int 2) (.cons (.int 1) (.cons (.int 2) (.cons (.int 2) .nil)))))) .nil)))) (.call .sto 19 (.cons (.int 3) (.cons (.tup (.cons (.tup (.cons (.str ("left" : Str)) (.cons (.int 3) .nil))) .nil)) .nil)))) (.seq (.ret (.bl false)) .skip) .skip) (.seq (.ret (.call .sto 20 (.cons (.int 3) (.cons (.var 2) (.cons (.tup (.cons (.int 3) (.cons (.int 3) (.cons (.int 1) (.cons (.int 2) (.cons (.int 2) .nil)))))) .nil))))) .skip))))
def f40 : Fn := ⟨["script"], ["script", "k", "facts", "source", "many", "value", "sizes", "turn"], b40⟩
def d40 : Def := ⟨"law", f40, defArgs (top 50), defBody (top 50), defScope (top 50)⟩
def defs : List Def := [d0, d1, d2, d3, d4, d5, d6, d7, d8, d9, d10, d11, d12, d13, d14, d15, d16, d17, d18, d19, d20, d21, d22, d23, d24, d25, d26, d27, d28, d29, d30, d31, d32, d33, d34, d35, d36, d37, d38, d39, d40]
def loose : List Str := (["is_number", "is_tuple", "is_word", "is_lot", "is_fact", "are_good_facts", "are_good_sizes", "is_deed", "is_good_script", "fact_line", "summed", "is_so", "keeps_all", "need_many", "need_facts", "need_sizes"] : List Str) ++ (["need_asked", "are_facts", "are_sizes", "is_script", "keeps", "_law_source", "_law_draw", "_law_of", "_law_sum", "_law_fact_line", "_law_sizes", "_law_lot", "_law_fact", "_law_facts", "_law_holds", "_law_keeps"] : List Str) ++ (["_law_script", "_law_is_int", "_law_is_lot", "_law_are_facts", "_law_is_script", "_law_told_right", "_law_odd", "_law_spoilt", "FallError", "InvalidRow", "InvalidFacts", "InvalidSizes", "FACT_WORDS", "DEED_WORDS", "LARGEST"] : List Str)
def names : List Str := (["is_number", "is_tuple", "is_word", "is_lot", "is_fact", "are_good_facts", "are_good_sizes", "is_deed", "is_good_script", "fact_line", "summed", "is_so", "keeps_all", "need_many", "need_facts", "need_sizes"] : List Str) ++ (["need_asked", "are_facts", "are_sizes", "is_script", "keeps", "_law_source", "_law_draw", "_law_of", "_law_sum", "_law_fact_line", "_law_sizes", "_law_lot", "_law_fact", "_law_facts", "_law_holds", "_law_keeps"] : List Str) ++ (["_law_script", "_law_is_int", "_law_is_lot", "_law_are_facts", "_law_is_script", "_law_told_right", "_law_odd", "_law_spoilt", "law", "FallError", "InvalidRow", "InvalidFacts", "InvalidSizes", "FACT_WORDS", "DEED_WORDS", "LARGEST"] : List Str)
def txt : Txt := ⟨defs, names, [41, 42, 43, 44], [(45, (.tup [(.str ("more" : Str)), (.str ("atleast" : Str)), (.str ("same" : Str))])), (46, (.tup [(.str ("left" : Str)), (.str ("right" : Str)), (.str ("take" : Str)), (.str ("stand" : Str)), (.str ("hold" : Str)), (.str ("free" : Str))])), (47, (.int 1000000000000))]⟩
theorem bd0 : d0.Bd := fun _ _ _ _ _ _ us hl => match us, hl with | [_, _, _], _ => rfl
theorem bd1 : d1.Bd := fun _ _ _ _ _ _ us hl => match us, hl with | [_, _, _], _ => rfl
theorem bd2 : d2.Bd := fun _ _ _ _ _ _ us hl => match us, hl with | [_, _], _ => rfl
theorem bd3 : d3.Bd := fun _ _ _ _ _ _ us hl => match us, hl with | [_, _], _ => rfl
theorem bd4 : d4.Bd := fun _ _ _ _ _ _ us hl => match us, hl with | [_, _], _ => rfl
theorem bd5 : d5.Bd := fun _ _ _ _ _ _ us hl => match us, hl with | [_, _, _], _ => rfl
theorem bd6 : d6.Bd := fun _ _ _ _ _ _ us hl => match us, hl with | [_, _], _ => rfl
theorem bd7 : d7.Bd := fun _ _ _ _ _ _ us hl => match us, hl with | [_, _], _ => rfl
theorem bd8 : d8.Bd := fun _ _ _ _ _ _ us hl => match us, hl with | [_, _], _ => rfl
theorem bd9 : d9.Bd := fun _ _ _ _ _ _ us hl => match us, hl with | [_, _], _ => rfl
theorem bd10 : d10.Bd := fun _ _ _ _ _ _ us hl => match us, hl with | [_, _], _ => rfl
theorem bd11 : d11.Bd := fun _ _ _ _ _ _ us hl => match us, hl with | [_, _], _ => rfl
theorem bd12 : d12.Bd := fun _ _ _ _ _ _ us hl => match us, hl with | [_, _, _], _ => rfl
theorem bd13 : d13.Bd := fun _ _ _ _ _ _ us hl => match us, hl with | [_], _ => rfl
theorem bd14 : d14.Bd := fun _ _ _ _ _ _ us hl => match us, hl with | [_, _], _ => rfl
theorem bd15 : d15.Bd := fun _ _ _ _ _ _ us hl => match us, hl with | [_, _], _ => rfl
theorem bd16 : d16.Bd := fun _ _ _ _ _ _ us hl => match us, hl with | [_, _], _ => rfl
theorem bd17 : d17.Bd := fun _ _ _ _ _ _ us hl => match us, hl with | [_, _], _ => rfl
theorem bd18 : d18.Bd := fun _ _ _ _ _ _ us hl => match us, hl with | [_, _], _ => rfl
theorem bd19 : d19.Bd := fun _ _ _ _ _ _ us hl => match us, hl with | [_, _], _ => rfl
theorem bd20 : d20.Bd := fun _ _ _ _ _ _ us hl => match us, hl with | [_, _, _], _ => rfl
theorem bd21 : d21.Bd := fun _ _ _ _ _ _ us hl => match us, hl with | [_, _], _ => rfl
theorem bd22 : d22.Bd := fun _ _ _ _ _ _ us hl => match us, hl with | [_, _], _ => rfl
theorem bd23 : d23.Bd := fun _ _ _ _ _ _ us hl => match us, hl with | [_, _], _ => rfl
theorem bd24 : d24.Bd := fun _ _ _ _ _ _ us hl => match us, hl with | [_, _], _ => rfl
theorem bd25 : d25.Bd := fun _ _ _ _ _ _ us hl => match us, hl with | [_, _], _ => rfl
theorem bd26 : d26.Bd := fun _ _ _ _ _ _ us hl => match us, hl with | [_, _], _ => rfl
theorem bd27 : d27.Bd := fun _ _ _ _ _ _ us hl => match us, hl with | [_, _, _], _ => rfl
theorem bd28 : d28.Bd := fun _ _ _ _ _ _ us hl => match us, hl with | [_, _, _], _ => rfl
theorem bd29 : d29.Bd := fun _ _ _ _ _ _ us hl => match us, hl with | [_, _, _], _ => rfl
theorem bd30 : d30.Bd := fun _ _ _ _ _ _ us hl => match us, hl with | [_, _], _ => rfl
theorem bd31 : d31.Bd := fun _ _ _ _ _ _ us hl => match us, hl with | [_, _, _], _ => rfl
theorem bd32 : d32.Bd := fun _ _ _ _ _ _ us hl => match us, hl with | [_, _, _], _ => rfl
theorem bd33 : d33.Bd := fun _ _ _ _ _ _ us hl => match us, hl with | [_, _, _], _ => rfl
theorem bd34 : d34.Bd := fun _ _ _ _ _ _ us hl => match us, hl with | [_, _], _ => rfl
theorem bd35 : d35.Bd := fun _ _ _ _ _ _ us hl => match us, hl with | [_, _], _ => rfl
theorem bd36 : d36.Bd := fun _ _ _ _ _ _ us hl => match us, hl with | [_, _], _ => rfl
theorem bd37 : d37.Bd := fun _ _ _ _ _ _ us hl => match us, hl with | [_, _], _ => rfl
theorem bd38 : d38.Bd := fun _ _ _ _ _ _ us hl => match us, hl with | [_], _ => rfl
theorem bd39 : d39.Bd := fun _ _ _ _ _ _ us hl => match us, hl with | [_, _], _ => rfl
theorem bd40 : d40.Bd := fun _ _ _ _ _ _ us hl => match us, hl with | [_], _ => rfl
theorem u0 (N d : Nat) (v0 v1 v2 : PV) (st : Sto) : runF txt.mdl.G txt.mdl.T N (d + 1) 0 [v0, v1, v2] st = (evS txt.mdl.G (runF txt.mdl.G txt.mdl.T N d) N b0 [some v0, some v1, some v2] st).bind Fl.val := rfl
theorem u1 (N d : Nat) (v0 v1 v2 : PV) (st : Sto) : runF txt.mdl.G txt.mdl.T N (d + 1) 1 [v0, v1, v2] st = (evS txt.mdl.G (runF txt.mdl.G txt.mdl.T N d) N b1 [some v0, some v1, some v2] st).bind Fl.val := rfl
theorem u2 (N d : Nat) (v0 v1 : PV) (st : Sto) : runF txt.mdl.G txt.mdl.T N (d + 1) 2 [v0, v1] st = (evS txt.mdl.G (runF txt.mdl.G txt.mdl.T N d) N b2 [some v0, some v1] st).bind Fl.val := rfl
theorem u3 (N d : Nat) (v0 v1 : PV) (st : Sto) : runF txt.mdl.G txt.mdl.T N (d + 1) 3 [v0, v1] st = (evS txt.mdl.G (runF txt.mdl.G txt.mdl.T N d) N b3 [some v0, some v1, none, none] st).bind Fl.val := rfl
theorem u4 (N d : Nat) (v0 v1 : PV) (st : Sto) : runF txt.mdl.G txt.mdl.T N (d + 1) 4 [v0, v1] st = (evS txt.mdl.G (runF txt.mdl.G txt.mdl.T N d) N b4 [some v0, some v1] st).bind Fl.val := rfl
theorem u5 (N d : Nat) (v0 v1 v2 : PV) (st : Sto) : runF txt.mdl.G txt.mdl.T N (d + 1) 5 [v0, v1, v2] st = (evS txt.mdl.G (runF txt.mdl.G txt.mdl.T N d) N b5 [some v0, some v1, some v2, none] st).bind Fl.val := rfl
theorem u6 (N d : Nat) (v0 v1 : PV) (st : Sto) : runF txt.mdl.G txt.mdl.T N (d + 1) 6 [v0, v1] st = (evS txt.mdl.G (runF txt.mdl.G txt.mdl.T N d) N b6 [some v0, some v1, none] st).bind Fl.val := rfl
theorem u7 (N d : Nat) (v0 v1 : PV) (st : Sto) : runF txt.mdl.G txt.mdl.T N (d + 1) 7 [v0, v1] st = (evS txt.mdl.G (runF txt.mdl.G txt.mdl.T N d) N b7 [some v0, some v1] st).bind Fl.val := rfl
theorem u8 (N d : Nat) (v0 v1 : PV) (st : Sto) : runF txt.mdl.G txt.mdl.T N (d + 1) 8 [v0, v1] st = (evS txt.mdl.G (runF txt.mdl.G txt.mdl.T N d) N b8 [some v0, some v1, none] st).bind Fl.val := rfl
theorem u9 (N d : Nat) (v0 v1 : PV) (st : Sto) : runF txt.mdl.G txt.mdl.T N (d + 1) 9 [v0, v1] st = (evS txt.mdl.G (runF txt.mdl.G txt.mdl.T N d) N b9 [some v0, some v1, none] st).bind Fl.val := rfl
theorem u10 (N d : Nat) (v0 v1 : PV) (st : Sto) : runF txt.mdl.G txt.mdl.T N (d + 1) 10 [v0, v1] st = (evS txt.mdl.G (runF txt.mdl.G txt.mdl.T N d) N b10 [some v0, some v1, none, none] st).bind Fl.val := rfl
theorem u11 (N d : Nat) (v0 v1 : PV) (st : Sto) : runF txt.mdl.G txt.mdl.T N (d + 1) 11 [v0, v1] st = (evS txt.mdl.G (runF txt.mdl.G txt.mdl.T N d) N b11 [some v0, some v1] st).bind Fl.val := rfl
theorem u12 (N d : Nat) (v0 v1 v2 : PV) (st : Sto) : runF txt.mdl.G txt.mdl.T N (d + 1) 12 [v0, v1, v2] st = (evS txt.mdl.G (runF txt.mdl.G txt.mdl.T N d) N b12 [some v0, some v1, some v2, none] st).bind Fl.val := rfl
theorem u13 (N d : Nat) (v0 : PV) (st : Sto) : runF txt.mdl.G txt.mdl.T N (d + 1) 13 [v0] st = (evS txt.mdl.G (runF txt.mdl.G txt.mdl.T N d) N b13 [some v0] st).bind Fl.val := rfl
theorem u14 (N d : Nat) (v0 v1 : PV) (st : Sto) : runF txt.mdl.G txt.mdl.T N (d + 1) 14 [v0, v1] st = (evS txt.mdl.G (runF txt.mdl.G txt.mdl.T N d) N b14 [some v0, some v1] st).bind Fl.val := rfl
theorem u15 (N d : Nat) (v0 v1 : PV) (st : Sto) : runF txt.mdl.G txt.mdl.T N (d + 1) 15 [v0, v1] st = (evS txt.mdl.G (runF txt.mdl.G txt.mdl.T N d) N b15 [some v0, some v1] st).bind Fl.val := rfl
theorem u16 (N d : Nat) (v0 v1 : PV) (st : Sto) : runF txt.mdl.G txt.mdl.T N (d + 1) 16 [v0, v1] st = (evS txt.mdl.G (runF txt.mdl.G txt.mdl.T N d) N b16 [some v0, some v1] st).bind Fl.val := rfl
theorem u17 (N d : Nat) (v0 v1 : PV) (st : Sto) : runF txt.mdl.G txt.mdl.T N (d + 1) 17 [v0, v1] st = (evS txt.mdl.G (runF txt.mdl.G txt.mdl.T N d) N b17 [some v0, some v1] st).bind Fl.val := rfl
theorem u18 (N d : Nat) (v0 v1 : PV) (st : Sto) : runF txt.mdl.G txt.mdl.T N (d + 1) 18 [v0, v1] st = (evS txt.mdl.G (runF txt.mdl.G txt.mdl.T N d) N b18 [some v0, some v1] st).bind Fl.val := rfl
theorem u19 (N d : Nat) (v0 v1 : PV) (st : Sto) : runF txt.mdl.G txt.mdl.T N (d + 1) 19 [v0, v1] st = (evS txt.mdl.G (runF txt.mdl.G txt.mdl.T N d) N b19 [some v0, some v1] st).bind Fl.val := rfl
theorem u20 (N d : Nat) (v0 v1 v2 : PV) (st : Sto) : runF txt.mdl.G txt.mdl.T N (d + 1) 20 [v0, v1, v2] st = (evS txt.mdl.G (runF txt.mdl.G txt.mdl.T N d) N b20 [some v0, some v1, some v2] st).bind Fl.val := rfl
theorem u21 (N d : Nat) (v0 v1 : PV) (st : Sto) : runF txt.mdl.G txt.mdl.T N (d + 1) 21 [v0, v1] st = (evS txt.mdl.G (runF txt.mdl.G txt.mdl.T N d) N b21 [some v0, some v1, none] st).bind Fl.val := rfl
theorem u22 (N d : Nat) (v0 v1 : PV) (st : Sto) : runF txt.mdl.G txt.mdl.T N (d + 1) 22 [v0, v1] st = (evS txt.mdl.G (runF txt.mdl.G txt.mdl.T N d) N b22 [some v0, some v1, none] st).bind Fl.val := rfl
theorem u23 (N d : Nat) (v0 v1 : PV) (st : Sto) : runF txt.mdl.G txt.mdl.T N (d + 1) 23 [v0, v1] st = (evS txt.mdl.G (runF txt.mdl.G txt.mdl.T N d) N b23 [some v0, some v1] st).bind Fl.val := rfl
theorem u24 (N d : Nat) (v0 v1 : PV) (st : Sto) : runF txt.mdl.G txt.mdl.T N (d + 1) 24 [v0, v1] st = (evS txt.mdl.G (runF txt.mdl.G txt.mdl.T N d) N b24 [some v0, some v1, none, none] st).bind Fl.val := rfl
theorem u25 (N d : Nat) (v0 v1 : PV) (st : Sto) : runF txt.mdl.G txt.mdl.T N (d + 1) 25 [v0, v1] st = (evS txt.mdl.G (runF txt.mdl.G txt.mdl.T N d) N b25 [some v0, some v1, none, none, none, none] st).bind Fl.val := rfl
theorem u26 (N d : Nat) (v0 v1 : PV) (st : Sto) : runF txt.mdl.G txt.mdl.T N (d + 1) 26 [v0, v1] st = (evS txt.mdl.G (runF txt.mdl.G txt.mdl.T N d) N b26 [some v0, some v1, none, none] st).bind Fl.val := rfl
theorem u27 (N d : Nat) (v0 v1 v2 : PV) (st : Sto) : runF txt.mdl.G txt.mdl.T N (d + 1) 27 [v0, v1, v2] st = (evS txt.mdl.G (runF txt.mdl.G txt.mdl.T N d) N b27 [some v0, some v1, some v2, none, none] st).bind Fl.val := rfl
theorem u28 (N d : Nat) (v0 v1 v2 : PV) (st : Sto) : runF txt.mdl.G txt.mdl.T N (d + 1) 28 [v0, v1, v2] st = (evS txt.mdl.G (runF txt.mdl.G txt.mdl.T N d) N b28 [some v0, some v1, some v2, none, none, none, none, none] st).bind Fl.val := rfl
theorem u29 (N d : Nat) (v0 v1 v2 : PV) (st : Sto) : runF txt.mdl.G txt.mdl.T N (d + 1) 29 [v0, v1, v2] st = (evS txt.mdl.G (runF txt.mdl.G txt.mdl.T N d) N b29 [some v0, some v1, some v2, none, none, none] st).bind Fl.val := rfl
theorem u30 (N d : Nat) (v0 v1 : PV) (st : Sto) : runF txt.mdl.G txt.mdl.T N (d + 1) 30 [v0, v1] st = (evS txt.mdl.G (runF txt.mdl.G txt.mdl.T N d) N b30 [some v0, some v1] st).bind Fl.val := rfl
theorem u31 (N d : Nat) (v0 v1 v2 : PV) (st : Sto) : runF txt.mdl.G txt.mdl.T N (d + 1) 31 [v0, v1, v2] st = (evS txt.mdl.G (runF txt.mdl.G txt.mdl.T N d) N b31 [some v0, some v1, some v2, none, none] st).bind Fl.val := rfl
theorem u32 (N d : Nat) (v0 v1 v2 : PV) (st : Sto) : runF txt.mdl.G txt.mdl.T N (d + 1) 32 [v0, v1, v2] st = (evS txt.mdl.G (runF txt.mdl.G txt.mdl.T N d) N b32 [some v0, some v1, some v2, none, none, none] st).bind Fl.val := rfl
theorem u33 (N d : Nat) (v0 v1 v2 : PV) (st : Sto) : runF txt.mdl.G txt.mdl.T N (d + 1) 33 [v0, v1, v2] st = (evS txt.mdl.G (runF txt.mdl.G txt.mdl.T N d) N b33 [some v0, some v1, some v2] st).bind Fl.val := rfl
theorem u34 (N d : Nat) (v0 v1 : PV) (st : Sto) : runF txt.mdl.G txt.mdl.T N (d + 1) 34 [v0, v1] st = (evS txt.mdl.G (runF txt.mdl.G txt.mdl.T N d) N b34 [some v0, some v1, none, none] st).bind Fl.val := rfl
theorem u35 (N d : Nat) (v0 v1 : PV) (st : Sto) : runF txt.mdl.G txt.mdl.T N (d + 1) 35 [v0, v1] st = (evS txt.mdl.G (runF txt.mdl.G txt.mdl.T N d) N b35 [some v0, some v1, none] st).bind Fl.val := rfl
theorem u36 (N d : Nat) (v0 v1 : PV) (st : Sto) : runF txt.mdl.G txt.mdl.T N (d + 1) 36 [v0, v1] st = (evS txt.mdl.G (runF txt.mdl.G txt.mdl.T N d) N b36 [some v0, some v1, none] st).bind Fl.val := rfl
theorem u37 (N d : Nat) (v0 v1 : PV) (st : Sto) : runF txt.mdl.G txt.mdl.T N (d + 1) 37 [v0, v1] st = (evS txt.mdl.G (runF txt.mdl.G txt.mdl.T N d) N b37 [some v0, some v1, none, none] st).bind Fl.val := rfl
theorem u38 (N d : Nat) (v0 : PV) (st : Sto) : runF txt.mdl.G txt.mdl.T N (d + 1) 38 [v0] st = (evS txt.mdl.G (runF txt.mdl.G txt.mdl.T N d) N b38 [some v0, none] st).bind Fl.val := rfl
theorem u39 (N d : Nat) (v0 v1 : PV) (st : Sto) : runF txt.mdl.G txt.mdl.T N (d + 1) 39 [v0, v1] st = (evS txt.mdl.G (runF txt.mdl.G txt.mdl.T N d) N b39 [some v0, some v1, none, none] st).bind Fl.val := rfl
theorem u40 (N d : Nat) (v0 : PV) (st : Sto) : runF txt.mdl.G txt.mdl.T N (d + 1) 40 [v0] st = (evS txt.mdl.G (runF txt.mdl.G txt.mdl.T N d) N b40 [some v0, none, none, none, none, none, none, none] st).bind Fl.val := rfl
theorem bds : AllBd txt.defs := ⟨bd0, bd1, bd2, bd3, bd4, bd5, bd6, bd7, bd8, bd9, bd10, bd11, bd12, bd13, bd14, bd15, bd16, bd17, bd18, bd19, bd20, bd21, bd22, bd23, bd24, bd25, bd26, bd27, bd28, bd29, bd30, bd31, bd32, bd33, bd34, bd35, bd36, bd37, bd38, bd39, bd40, trivial⟩
end K01

namespace K01
open PySem PySem.Spec PyProof.Rows L2 Mi
theorem ok : txt.ok = true := by decide +kernel
end K01

end

section
set_option linter.all false
set_option maxRecDepth 100000
namespace K01
open PySem L2 Mi
abbrev G := txt.mdl.G
abbrev RU (N d : Nat) : CallF := runF txt.mdl.G txt.mdl.T N d
section
variable {N d : Nat} {st : Sto}

theorem gLARGEST : txt.mdl.G 47 = some (.int 1000000000000) := rfl
theorem is_number (i a b : Int) : RU N (d + 1) 0 [.int i, .int a, .int b] st = .ok (.bl (decide (a ≤ i) && decide (i ≤ b))) st := by
  rw [RU, u0]
  simp (implicitDefEqProofs := false) only [Mi.seqK_nx, Mi.seqK_rt, Mi.andK_t, Mi.andK_f, Mi.orK_t, Mi.orK_f, Mi.forB_nm, Mi.forB_2, Mi.binK2_d, Mi.binK1_d, Mi.negK_d, Mi.truK_d, Mi.tstK_d, Mi.notK_d, Mi.cmpK2_d, Mi.cmpK1_d, Mi.chnK3_t, Mi.chnK3_f, Mi.chnK2_d, Mi.chnK1_d, Mi.iteK_t, Mi.iteK_f, Mi.tupK_d, Mi.lstK_d, Mi.cellK_d, Mi.callK_d, Mi.biK_d, Mi.idxK2_d, Mi.idxK1_d, Mi.sliK3_t, Mi.sliK3_l, Mi.oIntK_i, Mi.sliK2_d, Mi.sliK1_d, Mi.lcT_d, Mi.lcE_d, Mi.lcK_d, Mi.lrgK2_d, Mi.lrgK1_d, Mi.consK2_d, Mi.consK1_d, Mi.rng1K_d, Mi.rng2K2_d, Mi.rng2K1_d, Mi.zipO_d, Mi.zipK2_d, Mi.zipK1_d, Mi.enuK_d, Mi.sqK_d, Mi.setK_d, Mi.setTK_d, Mi.putK3_d, Mi.putK2_d, Mi.putK1_d, Mi.appK2_d, Mi.appK1_d, Mi.dropK_d, Mi.retK_d, Mi.iteS_t, Mi.iteS_f, Mi.forK_d, Mi.turnK2_d, Mi.turnK1_t, Mi.turnK1_f, Mi.whK_t, Mi.whK_f, Mi.lcB_nm, Mi.lcB_2, Mi.evE_var, Mi.evE_non, Mi.evE_bl, Mi.evE_int, Mi.evE_str, Mi.evE_gl, Mi.evE_bty, Mi.evE_bin, Mi.evE_neg, Mi.evE_not, Mi.evE_and, Mi.evE_or, Mi.evE_cmp, Mi.evE_chn, Mi.evE_ite, Mi.evE_tup, Mi.evE_lst, Mi.evE_cell, Mi.evE_call, Mi.callP_sto, Mi.evE_bi, Mi.evE_idx, Mi.evE_sli, Mi.evE_lc, Mi.evE_lrg, Mi.evE_lrd, Mi.evA_nil, Mi.evA_cons, Mi.evI_rng1, Mi.evI_rng2, Mi.evI_zip, Mi.evI_enu, Mi.evI_sq, Mi.tstR_false, Mi.tstR_true, Mi.optR_false, Mi.optR_true, Mi.oInt_int, Mi.isOmit_omit, Mi.evS_skip, Mi.evS_seq, Mi.evS_set, Mi.evS_setT, Mi.evS_put, Mi.evS_app, Mi.evS_drop, Mi.evS_ret, Mi.evS_ite, Mi.evS_for, Mi.evS_while, Mi.evS_raise, Mi.sto_some, Mi.sto_none, Mi.val_nx, Mi.val_rt, Mi.setTg_nm, Mi.setTg_nil, Mi.setTg_cons, Mi.wipe_nil, Mi.wipe_cons, Mi.forR_nil, Mi.truV_bl, Mi.truV_non, Mi.truV_int, Mi.add_ii, Mi.sub_ii, Mi.lt_ii, Mi.le_ii, Mi.gt_ii, Mi.ge_ii, Mi.isn_v, Mi.notn_v, Mi.isN_non, Mi.isN_int, Mi.isN_tup, Mi.isN_bl, Mi.isN_str, Mi.eq_ii, Mi.ne_ii, Mi.eq_ss, Mi.ne_ss, Mi.neg_i, Mi.walk_lst, Mi.walk_tup, Mi.walk_scr, Mi.len_tup, Mi.len_lst, Mi.len_scr, Mi.tuple_lst, Mi.tuple_tup, Mi.list_tup, Mi.list_lst, Mi.int_int, Mi.int_bl, Mi.abs_int, Mi.min_int, Mi.max_int, Mi.isi_def, Mi.sum_lst, Mi.all_lst, Mi.any_lst, Mi.ints_map, Mi.bools_map, R.bind_ok, R.bind_ex, R.bind_bad, R.lift_some, R.noEx_ok, List.getElem?_cons_zero, List.getElem?_cons_succ, Option.bind_some, Option.map_some, Option.bind_eq_bind, id_eq, List.set_cons_zero, List.set_cons_succ, if_true, if_false, Bool.false_eq_true, reduceIte, Bool.not_true, Bool.not_false, Ex.isOmit, b0, show isiV (.int i) "int" = some true from rfl, show isiV (.int i) "bool" = some false from rfl]
  cases decide (a ≤ i) <;> simp (implicitDefEqProofs := false) only [Mi.seqK_nx, Mi.seqK_rt, Mi.andK_t, Mi.andK_f, Mi.orK_t, Mi.orK_f, Mi.forB_nm, Mi.forB_2, Mi.binK2_d, Mi.binK1_d, Mi.negK_d, Mi.truK_d, Mi.tstK_d, Mi.notK_d, Mi.cmpK2_d, Mi.cmpK1_d, Mi.chnK3_t, Mi.chnK3_f, Mi.chnK2_d, Mi.chnK1_d, Mi.iteK_t, Mi.iteK_f, Mi.tupK_d, Mi.lstK_d, Mi.cellK_d, Mi.callK_d, Mi.biK_d, Mi.idxK2_d, Mi.idxK1_d, Mi.sliK3_t, Mi.sliK3_l, Mi.oIntK_i, Mi.sliK2_d, Mi.sliK1_d, Mi.lcT_d, Mi.lcE_d, Mi.lcK_d, Mi.lrgK2_d, Mi.lrgK1_d, Mi.consK2_d, Mi.consK1_d, Mi.rng1K_d, Mi.rng2K2_d, Mi.rng2K1_d, Mi.zipO_d, Mi.zipK2_d, Mi.zipK1_d, Mi.enuK_d, Mi.sqK_d, Mi.setK_d, Mi.setTK_d, Mi.putK3_d, Mi.putK2_d, Mi.putK1_d, Mi.appK2_d, Mi.appK1_d, Mi.dropK_d, Mi.retK_d, Mi.iteS_t, Mi.iteS_f, Mi.forK_d, Mi.turnK2_d, Mi.turnK1_t, Mi.turnK1_f, Mi.whK_t, Mi.whK_f, Mi.lcB_nm, Mi.lcB_2, Mi.evE_var, Mi.evE_non, Mi.evE_bl, Mi.evE_int, Mi.evE_str, Mi.evE_gl, Mi.evE_bty, Mi.evE_bin, Mi.evE_neg, Mi.evE_not, Mi.evE_and, Mi.evE_or, Mi.evE_cmp, Mi.evE_chn, Mi.evE_ite, Mi.evE_tup, Mi.evE_lst, Mi.evE_cell, Mi.evE_call, Mi.callP_sto, Mi.evE_bi, Mi.evE_idx, Mi.evE_sli, Mi.evE_lc, Mi.evE_lrg, Mi.evE_lrd, Mi.evA_nil, Mi.evA_cons, Mi.evI_rng1, Mi.evI_rng2, Mi.evI_zip, Mi.evI_enu, Mi.evI_sq, Mi.tstR_false, Mi.tstR_true, Mi.optR_false, Mi.optR_true, Mi.oInt_int, Mi.isOmit_omit, Mi.evS_skip, Mi.evS_seq, Mi.evS_set, Mi.evS_setT, Mi.evS_put, Mi.evS_app, Mi.evS_drop, Mi.evS_ret, Mi.evS_ite, Mi.evS_for, Mi.evS_while, Mi.evS_raise, Mi.sto_some, Mi.sto_none, Mi.val_nx, Mi.val_rt, Mi.setTg_nm, Mi.setTg_nil, Mi.setTg_cons, Mi.wipe_nil, Mi.wipe_cons, Mi.forR_nil, Mi.truV_bl, Mi.truV_non, Mi.truV_int, Mi.add_ii, Mi.sub_ii, Mi.lt_ii, Mi.le_ii, Mi.gt_ii, Mi.ge_ii, Mi.isn_v, Mi.notn_v, Mi.isN_non, Mi.isN_int, Mi.isN_tup, Mi.isN_bl, Mi.isN_str, Mi.eq_ii, Mi.ne_ii, Mi.eq_ss, Mi.ne_ss, Mi.neg_i, Mi.walk_lst, Mi.walk_tup, Mi.walk_scr, Mi.len_tup, Mi.len_lst, Mi.len_scr, Mi.tuple_lst, Mi.tuple_tup, Mi.list_tup, Mi.list_lst, Mi.int_int, Mi.int_bl, Mi.abs_int, Mi.min_int, Mi.max_int, Mi.isi_def, Mi.sum_lst, Mi.all_lst, Mi.any_lst, Mi.ints_map, Mi.bools_map, R.bind_ok, R.bind_ex, R.bind_bad, R.lift_some, R.noEx_ok, List.getElem?_cons_zero, List.getElem?_cons_succ, Option.bind_some, Option.map_some, Option.bind_eq_bind, id_eq, List.set_cons_zero, List.set_cons_succ, if_true, if_false, Bool.false_eq_true, reduceIte, Bool.not_true, Bool.not_false, Ex.isOmit, Bool.true_and, Bool.false_and]
theorem is_tuple (xs : List PV) (a b : Int) : RU N (d + 1) 1 [.tup xs, .int a, .int b] st = .ok (.bl (decide (a ≤ xs.length) && decide ((xs.length : Int) ≤ b))) st := by
  rw [RU, u1]
  simp (implicitDefEqProofs := false) only [Mi.seqK_nx, Mi.seqK_rt, Mi.andK_t, Mi.andK_f, Mi.orK_t, Mi.orK_f, Mi.forB_nm, Mi.forB_2, Mi.binK2_d, Mi.binK1_d, Mi.negK_d, Mi.truK_d, Mi.tstK_d, Mi.notK_d, Mi.cmpK2_d, Mi.cmpK1_d, Mi.chnK3_t, Mi.chnK3_f, Mi.chnK2_d, Mi.chnK1_d, Mi.iteK_t, Mi.iteK_f, Mi.tupK_d, Mi.lstK_d, Mi.cellK_d, Mi.callK_d, Mi.biK_d, Mi.idxK2_d, Mi.idxK1_d, Mi.sliK3_t, Mi.sliK3_l, Mi.oIntK_i, Mi.sliK2_d, Mi.sliK1_d, Mi.lcT_d, Mi.lcE_d, Mi.lcK_d, Mi.lrgK2_d, Mi.lrgK1_d, Mi.consK2_d, Mi.consK1_d, Mi.rng1K_d, Mi.rng2K2_d, Mi.rng2K1_d, Mi.zipO_d, Mi.zipK2_d, Mi.zipK1_d, Mi.enuK_d, Mi.sqK_d, Mi.setK_d, Mi.setTK_d, Mi.putK3_d, Mi.putK2_d, Mi.putK1_d, Mi.appK2_d, Mi.appK1_d, Mi.dropK_d, Mi.retK_d, Mi.iteS_t, Mi.iteS_f, Mi.forK_d, Mi.turnK2_d, Mi.turnK1_t, Mi.turnK1_f, Mi.whK_t, Mi.whK_f, Mi.lcB_nm, Mi.lcB_2, Mi.evE_var, Mi.evE_non, Mi.evE_bl, Mi.evE_int, Mi.evE_str, Mi.evE_gl, Mi.evE_bty, Mi.evE_bin, Mi.evE_neg, Mi.evE_not, Mi.evE_and, Mi.evE_or, Mi.evE_cmp, Mi.evE_chn, Mi.evE_ite, Mi.evE_tup, Mi.evE_lst, Mi.evE_cell, Mi.evE_call, Mi.callP_sto, Mi.evE_bi, Mi.evE_idx, Mi.evE_sli, Mi.evE_lc, Mi.evE_lrg, Mi.evE_lrd, Mi.evA_nil, Mi.evA_cons, Mi.evI_rng1, Mi.evI_rng2, Mi.evI_zip, Mi.evI_enu, Mi.evI_sq, Mi.tstR_false, Mi.tstR_true, Mi.optR_false, Mi.optR_true, Mi.oInt_int, Mi.isOmit_omit, Mi.evS_skip, Mi.evS_seq, Mi.evS_set, Mi.evS_setT, Mi.evS_put, Mi.evS_app, Mi.evS_drop, Mi.evS_ret, Mi.evS_ite, Mi.evS_for, Mi.evS_while, Mi.evS_raise, Mi.sto_some, Mi.sto_none, Mi.val_nx, Mi.val_rt, Mi.setTg_nm, Mi.setTg_nil, Mi.setTg_cons, Mi.wipe_nil, Mi.wipe_cons, Mi.forR_nil, Mi.truV_bl, Mi.truV_non, Mi.truV_int, Mi.add_ii, Mi.sub_ii, Mi.lt_ii, Mi.le_ii, Mi.gt_ii, Mi.ge_ii, Mi.isn_v, Mi.notn_v, Mi.isN_non, Mi.isN_int, Mi.isN_tup, Mi.isN_bl, Mi.isN_str, Mi.eq_ii, Mi.ne_ii, Mi.eq_ss, Mi.ne_ss, Mi.neg_i, Mi.walk_lst, Mi.walk_tup, Mi.walk_scr, Mi.len_tup, Mi.len_lst, Mi.len_scr, Mi.tuple_lst, Mi.tuple_tup, Mi.list_tup, Mi.list_lst, Mi.int_int, Mi.int_bl, Mi.abs_int, Mi.min_int, Mi.max_int, Mi.isi_def, Mi.sum_lst, Mi.all_lst, Mi.any_lst, Mi.ints_map, Mi.bools_map, R.bind_ok, R.bind_ex, R.bind_bad, R.lift_some, R.noEx_ok, List.getElem?_cons_zero, List.getElem?_cons_succ, Option.bind_some, Option.map_some, Option.bind_eq_bind, id_eq, List.set_cons_zero, List.set_cons_succ, if_true, if_false, Bool.false_eq_true, reduceIte, Bool.not_true, Bool.not_false, Ex.isOmit, b1, show isiV (.tup xs) "tuple" = some true from rfl]
  cases decide (a ≤ (xs.length : Int)) <;> simp (implicitDefEqProofs := false) only [Mi.seqK_nx, Mi.seqK_rt, Mi.andK_t, Mi.andK_f, Mi.orK_t, Mi.orK_f, Mi.forB_nm, Mi.forB_2, Mi.binK2_d, Mi.binK1_d, Mi.negK_d, Mi.truK_d, Mi.tstK_d, Mi.notK_d, Mi.cmpK2_d, Mi.cmpK1_d, Mi.chnK3_t, Mi.chnK3_f, Mi.chnK2_d, Mi.chnK1_d, Mi.iteK_t, Mi.iteK_f, Mi.tupK_d, Mi.lstK_d, Mi.cellK_d, Mi.callK_d, Mi.biK_d, Mi.idxK2_d, Mi.idxK1_d, Mi.sliK3_t, Mi.sliK3_l, Mi.oIntK_i, Mi.sliK2_d, Mi.sliK1_d, Mi.lcT_d, Mi.lcE_d, Mi.lcK_d, Mi.lrgK2_d, Mi.lrgK1_d, Mi.consK2_d, Mi.consK1_d, Mi.rng1K_d, Mi.rng2K2_d, Mi.rng2K1_d, Mi.zipO_d, Mi.zipK2_d, Mi.zipK1_d, Mi.enuK_d, Mi.sqK_d, Mi.setK_d, Mi.setTK_d, Mi.putK3_d, Mi.putK2_d, Mi.putK1_d, Mi.appK2_d, Mi.appK1_d, Mi.dropK_d, Mi.retK_d, Mi.iteS_t, Mi.iteS_f, Mi.forK_d, Mi.turnK2_d, Mi.turnK1_t, Mi.turnK1_f, Mi.whK_t, Mi.whK_f, Mi.lcB_nm, Mi.lcB_2, Mi.evE_var, Mi.evE_non, Mi.evE_bl, Mi.evE_int, Mi.evE_str, Mi.evE_gl, Mi.evE_bty, Mi.evE_bin, Mi.evE_neg, Mi.evE_not, Mi.evE_and, Mi.evE_or, Mi.evE_cmp, Mi.evE_chn, Mi.evE_ite, Mi.evE_tup, Mi.evE_lst, Mi.evE_cell, Mi.evE_call, Mi.callP_sto, Mi.evE_bi, Mi.evE_idx, Mi.evE_sli, Mi.evE_lc, Mi.evE_lrg, Mi.evE_lrd, Mi.evA_nil, Mi.evA_cons, Mi.evI_rng1, Mi.evI_rng2, Mi.evI_zip, Mi.evI_enu, Mi.evI_sq, Mi.tstR_false, Mi.tstR_true, Mi.optR_false, Mi.optR_true, Mi.oInt_int, Mi.isOmit_omit, Mi.evS_skip, Mi.evS_seq, Mi.evS_set, Mi.evS_setT, Mi.evS_put, Mi.evS_app, Mi.evS_drop, Mi.evS_ret, Mi.evS_ite, Mi.evS_for, Mi.evS_while, Mi.evS_raise, Mi.sto_some, Mi.sto_none, Mi.val_nx, Mi.val_rt, Mi.setTg_nm, Mi.setTg_nil, Mi.setTg_cons, Mi.wipe_nil, Mi.wipe_cons, Mi.forR_nil, Mi.truV_bl, Mi.truV_non, Mi.truV_int, Mi.add_ii, Mi.sub_ii, Mi.lt_ii, Mi.le_ii, Mi.gt_ii, Mi.ge_ii, Mi.isn_v, Mi.notn_v, Mi.isN_non, Mi.isN_int, Mi.isN_tup, Mi.isN_bl, Mi.isN_str, Mi.eq_ii, Mi.ne_ii, Mi.eq_ss, Mi.ne_ss, Mi.neg_i, Mi.walk_lst, Mi.walk_tup, Mi.walk_scr, Mi.len_tup, Mi.len_lst, Mi.len_scr, Mi.tuple_lst, Mi.tuple_tup, Mi.list_tup, Mi.list_lst, Mi.int_int, Mi.int_bl, Mi.abs_int, Mi.min_int, Mi.max_int, Mi.isi_def, Mi.sum_lst, Mi.all_lst, Mi.any_lst, Mi.ints_map, Mi.bools_map, R.bind_ok, R.bind_ex, R.bind_bad, R.lift_some, R.noEx_ok, List.getElem?_cons_zero, List.getElem?_cons_succ, Option.bind_some, Option.map_some, Option.bind_eq_bind, id_eq, List.set_cons_zero, List.set_cons_succ, if_true, if_false, Bool.false_eq_true, reduceIte, Bool.not_true, Bool.not_false, Ex.isOmit, Bool.true_and, Bool.false_and]
theorem need_many (many : Nat) (h : 2 ≤ many ∧ many ≤ 4) : RU N (d + 2) 13 [.int many] st = .ok .non st := by
  rw [RU, u13]
  simp (implicitDefEqProofs := false) only [Mi.seqK_nx, Mi.seqK_rt, Mi.andK_t, Mi.andK_f, Mi.orK_t, Mi.orK_f, Mi.forB_nm, Mi.forB_2, Mi.binK2_d, Mi.binK1_d, Mi.negK_d, Mi.truK_d, Mi.tstK_d, Mi.notK_d, Mi.cmpK2_d, Mi.cmpK1_d, Mi.chnK3_t, Mi.chnK3_f, Mi.chnK2_d, Mi.chnK1_d, Mi.iteK_t, Mi.iteK_f, Mi.tupK_d, Mi.lstK_d, Mi.cellK_d, Mi.callK_d, Mi.biK_d, Mi.idxK2_d, Mi.idxK1_d, Mi.sliK3_t, Mi.sliK3_l, Mi.oIntK_i, Mi.sliK2_d, Mi.sliK1_d, Mi.lcT_d, Mi.lcE_d, Mi.lcK_d, Mi.lrgK2_d, Mi.lrgK1_d, Mi.consK2_d, Mi.consK1_d, Mi.rng1K_d, Mi.rng2K2_d, Mi.rng2K1_d, Mi.zipO_d, Mi.zipK2_d, Mi.zipK1_d, Mi.enuK_d, Mi.sqK_d, Mi.setK_d, Mi.setTK_d, Mi.putK3_d, Mi.putK2_d, Mi.putK1_d, Mi.appK2_d, Mi.appK1_d, Mi.dropK_d, Mi.retK_d, Mi.iteS_t, Mi.iteS_f, Mi.forK_d, Mi.turnK2_d, Mi.turnK1_t, Mi.turnK1_f, Mi.whK_t, Mi.whK_f, Mi.lcB_nm, Mi.lcB_2, Mi.evE_var, Mi.evE_non, Mi.evE_bl, Mi.evE_int, Mi.evE_str, Mi.evE_gl, Mi.evE_bty, Mi.evE_bin, Mi.evE_neg, Mi.evE_not, Mi.evE_and, Mi.evE_or, Mi.evE_cmp, Mi.evE_chn, Mi.evE_ite, Mi.evE_tup, Mi.evE_lst, Mi.evE_cell, Mi.evE_call, Mi.callP_sto, Mi.evE_bi, Mi.evE_idx, Mi.evE_sli, Mi.evE_lc, Mi.evE_lrg, Mi.evE_lrd, Mi.evA_nil, Mi.evA_cons, Mi.evI_rng1, Mi.evI_rng2, Mi.evI_zip, Mi.evI_enu, Mi.evI_sq, Mi.tstR_false, Mi.tstR_true, Mi.optR_false, Mi.optR_true, Mi.oInt_int, Mi.isOmit_omit, Mi.evS_skip, Mi.evS_seq, Mi.evS_set, Mi.evS_setT, Mi.evS_put, Mi.evS_app, Mi.evS_drop, Mi.evS_ret, Mi.evS_ite, Mi.evS_for, Mi.evS_while, Mi.evS_raise, Mi.sto_some, Mi.sto_none, Mi.val_nx, Mi.val_rt, Mi.setTg_nm, Mi.setTg_nil, Mi.setTg_cons, Mi.wipe_nil, Mi.wipe_cons, Mi.forR_nil, Mi.truV_bl, Mi.truV_non, Mi.truV_int, Mi.add_ii, Mi.sub_ii, Mi.lt_ii, Mi.le_ii, Mi.gt_ii, Mi.ge_ii, Mi.isn_v, Mi.notn_v, Mi.isN_non, Mi.isN_int, Mi.isN_tup, Mi.isN_bl, Mi.isN_str, Mi.eq_ii, Mi.ne_ii, Mi.eq_ss, Mi.ne_ss, Mi.neg_i, Mi.walk_lst, Mi.walk_tup, Mi.walk_scr, Mi.len_tup, Mi.len_lst, Mi.len_scr, Mi.tuple_lst, Mi.tuple_tup, Mi.list_tup, Mi.list_lst, Mi.int_int, Mi.int_bl, Mi.abs_int, Mi.min_int, Mi.max_int, Mi.isi_def, Mi.sum_lst, Mi.all_lst, Mi.any_lst, Mi.ints_map, Mi.bools_map, R.bind_ok, R.bind_ex, R.bind_bad, R.lift_some, R.noEx_ok, List.getElem?_cons_zero, List.getElem?_cons_succ, Option.bind_some, Option.map_some, Option.bind_eq_bind, id_eq, List.set_cons_zero, List.set_cons_succ, if_true, if_false, Bool.false_eq_true, reduceIte, Bool.not_true, Bool.not_false, Ex.isOmit, b13, is_number, decide_eq_true (show (2 : Int) ≤ many by omega), decide_eq_true (show (many : Int) ≤ 4 by omega), Bool.and_self]
theorem are_good_sizes (many : Nat) (sizes : List Int) (h : 2 ≤ many ∧ many ≤ 4) (hs : SzOk many sizes) : RU N (d + 2) 6 [.int many, .tup (sizes.map .int)] st = .ok (.bl true) st := by
  have hb := big_lt
  have hl := hs.len
  rw [RU, u6]
  have e1 : is_tuple (N := N) (d := d) (st := st) (sizes.map .int) (2 * (many : Int) - 1) (2 * (many : Int) - 1) = is_tuple (sizes.map .int) (2 * (many : Int) - 1) (2 * (many : Int) - 1) := rfl
  have c : (decide (2 * (many : Int) - 1 ≤ ((sizes.map PV.int).length : Nat)) && decide (((sizes.map PV.int).length : Int) ≤ 2 * (many : Int) - 1)) = true := by
    rw [List.length_map, hl, decide_eq_true (by omega), decide_eq_true (by omega)]; rfl
  simp (implicitDefEqProofs := false) only [Mi.seqK_nx, Mi.seqK_rt, Mi.andK_t, Mi.andK_f, Mi.orK_t, Mi.orK_f, Mi.forB_nm, Mi.forB_2, Mi.binK2_d, Mi.binK1_d, Mi.negK_d, Mi.truK_d, Mi.tstK_d, Mi.notK_d, Mi.cmpK2_d, Mi.cmpK1_d, Mi.chnK3_t, Mi.chnK3_f, Mi.chnK2_d, Mi.chnK1_d, Mi.iteK_t, Mi.iteK_f, Mi.tupK_d, Mi.lstK_d, Mi.cellK_d, Mi.callK_d, Mi.biK_d, Mi.idxK2_d, Mi.idxK1_d, Mi.sliK3_t, Mi.sliK3_l, Mi.oIntK_i, Mi.sliK2_d, Mi.sliK1_d, Mi.lcT_d, Mi.lcE_d, Mi.lcK_d, Mi.lrgK2_d, Mi.lrgK1_d, Mi.consK2_d, Mi.consK1_d, Mi.rng1K_d, Mi.rng2K2_d, Mi.rng2K1_d, Mi.zipO_d, Mi.zipK2_d, Mi.zipK1_d, Mi.enuK_d, Mi.sqK_d, Mi.setK_d, Mi.setTK_d, Mi.putK3_d, Mi.putK2_d, Mi.putK1_d, Mi.appK2_d, Mi.appK1_d, Mi.dropK_d, Mi.retK_d, Mi.iteS_t, Mi.iteS_f, Mi.forK_d, Mi.turnK2_d, Mi.turnK1_t, Mi.turnK1_f, Mi.whK_t, Mi.whK_f, Mi.lcB_nm, Mi.lcB_2, Mi.evE_var, Mi.evE_non, Mi.evE_bl, Mi.evE_int, Mi.evE_str, Mi.evE_gl, Mi.evE_bty, Mi.evE_bin, Mi.evE_neg, Mi.evE_not, Mi.evE_and, Mi.evE_or, Mi.evE_cmp, Mi.evE_chn, Mi.evE_ite, Mi.evE_tup, Mi.evE_lst, Mi.evE_cell, Mi.evE_call, Mi.callP_sto, Mi.evE_bi, Mi.evE_idx, Mi.evE_sli, Mi.evE_lc, Mi.evE_lrg, Mi.evE_lrd, Mi.evA_nil, Mi.evA_cons, Mi.evI_rng1, Mi.evI_rng2, Mi.evI_zip, Mi.evI_enu, Mi.evI_sq, Mi.tstR_false, Mi.tstR_true, Mi.optR_false, Mi.optR_true, Mi.oInt_int, Mi.isOmit_omit, Mi.evS_skip, Mi.evS_seq, Mi.evS_set, Mi.evS_setT, Mi.evS_put, Mi.evS_app, Mi.evS_drop, Mi.evS_ret, Mi.evS_ite, Mi.evS_for, Mi.evS_while, Mi.evS_raise, Mi.sto_some, Mi.sto_none, Mi.val_nx, Mi.val_rt, Mi.setTg_nm, Mi.setTg_nil, Mi.setTg_cons, Mi.wipe_nil, Mi.wipe_cons, Mi.forR_nil, Mi.truV_bl, Mi.truV_non, Mi.truV_int, Mi.add_ii, Mi.sub_ii, Mi.lt_ii, Mi.le_ii, Mi.gt_ii, Mi.ge_ii, Mi.isn_v, Mi.notn_v, Mi.isN_non, Mi.isN_int, Mi.isN_tup, Mi.isN_bl, Mi.isN_str, Mi.eq_ii, Mi.ne_ii, Mi.eq_ss, Mi.ne_ss, Mi.neg_i, Mi.walk_lst, Mi.walk_tup, Mi.walk_scr, Mi.len_tup, Mi.len_lst, Mi.len_scr, Mi.tuple_lst, Mi.tuple_tup, Mi.list_tup, Mi.list_lst, Mi.int_int, Mi.int_bl, Mi.abs_int, Mi.min_int, Mi.max_int, Mi.isi_def, Mi.sum_lst, Mi.all_lst, Mi.any_lst, Mi.ints_map, Mi.bools_map, R.bind_ok, R.bind_ex, R.bind_bad, R.lift_some, R.noEx_ok, List.getElem?_cons_zero, List.getElem?_cons_succ, Option.bind_some, Option.map_some, Option.bind_eq_bind, id_eq, List.set_cons_zero, List.set_cons_succ, if_true, if_false, Bool.false_eq_true, reduceIte, Bool.not_true, Bool.not_false, Ex.isOmit, b6, mul_ii (mulOk_l (i := 2) (j := (many : Int)) (by decide) (by decide)), is_tuple, c]
  rw [compR_map sizes PV.int (fun x => PV.bl (decide (1 ≤ x) && decide (x ≤ 1000000000000)))]
  · have l1 : (sizes.map fun x => PV.bl (decide (1 ≤ x) && decide (x ≤ 1000000000000))).length ≤ big := by rw [List.length_map]; omega
    simp (implicitDefEqProofs := false) only [Mi.seqK_nx, Mi.seqK_rt, Mi.andK_t, Mi.andK_f, Mi.orK_t, Mi.orK_f, Mi.forB_nm, Mi.forB_2, Mi.binK2_d, Mi.binK1_d, Mi.negK_d, Mi.truK_d, Mi.tstK_d, Mi.notK_d, Mi.cmpK2_d, Mi.cmpK1_d, Mi.chnK3_t, Mi.chnK3_f, Mi.chnK2_d, Mi.chnK1_d, Mi.iteK_t, Mi.iteK_f, Mi.tupK_d, Mi.lstK_d, Mi.cellK_d, Mi.callK_d, Mi.biK_d, Mi.idxK2_d, Mi.idxK1_d, Mi.sliK3_t, Mi.sliK3_l, Mi.oIntK_i, Mi.sliK2_d, Mi.sliK1_d, Mi.lcT_d, Mi.lcE_d, Mi.lcK_d, Mi.lrgK2_d, Mi.lrgK1_d, Mi.consK2_d, Mi.consK1_d, Mi.rng1K_d, Mi.rng2K2_d, Mi.rng2K1_d, Mi.zipO_d, Mi.zipK2_d, Mi.zipK1_d, Mi.enuK_d, Mi.sqK_d, Mi.setK_d, Mi.setTK_d, Mi.putK3_d, Mi.putK2_d, Mi.putK1_d, Mi.appK2_d, Mi.appK1_d, Mi.dropK_d, Mi.retK_d, Mi.iteS_t, Mi.iteS_f, Mi.forK_d, Mi.turnK2_d, Mi.turnK1_t, Mi.turnK1_f, Mi.whK_t, Mi.whK_f, Mi.lcB_nm, Mi.lcB_2, Mi.evE_var, Mi.evE_non, Mi.evE_bl, Mi.evE_int, Mi.evE_str, Mi.evE_gl, Mi.evE_bty, Mi.evE_bin, Mi.evE_neg, Mi.evE_not, Mi.evE_and, Mi.evE_or, Mi.evE_cmp, Mi.evE_chn, Mi.evE_ite, Mi.evE_tup, Mi.evE_lst, Mi.evE_cell, Mi.evE_call, Mi.callP_sto, Mi.evE_bi, Mi.evE_idx, Mi.evE_sli, Mi.evE_lc, Mi.evE_lrg, Mi.evE_lrd, Mi.evA_nil, Mi.evA_cons, Mi.evI_rng1, Mi.evI_rng2, Mi.evI_zip, Mi.evI_enu, Mi.evI_sq, Mi.tstR_false, Mi.tstR_true, Mi.optR_false, Mi.optR_true, Mi.oInt_int, Mi.isOmit_omit, Mi.evS_skip, Mi.evS_seq, Mi.evS_set, Mi.evS_setT, Mi.evS_put, Mi.evS_app, Mi.evS_drop, Mi.evS_ret, Mi.evS_ite, Mi.evS_for, Mi.evS_while, Mi.evS_raise, Mi.sto_some, Mi.sto_none, Mi.val_nx, Mi.val_rt, Mi.setTg_nm, Mi.setTg_nil, Mi.setTg_cons, Mi.wipe_nil, Mi.wipe_cons, Mi.forR_nil, Mi.truV_bl, Mi.truV_non, Mi.truV_int, Mi.add_ii, Mi.sub_ii, Mi.lt_ii, Mi.le_ii, Mi.gt_ii, Mi.ge_ii, Mi.isn_v, Mi.notn_v, Mi.isN_non, Mi.isN_int, Mi.isN_tup, Mi.isN_bl, Mi.isN_str, Mi.eq_ii, Mi.ne_ii, Mi.eq_ss, Mi.ne_ss, Mi.neg_i, Mi.walk_lst, Mi.walk_tup, Mi.walk_scr, Mi.len_tup, Mi.len_lst, Mi.len_scr, Mi.tuple_lst, Mi.tuple_tup, Mi.list_tup, Mi.list_lst, Mi.int_int, Mi.int_bl, Mi.abs_int, Mi.min_int, Mi.max_int, Mi.isi_def, Mi.sum_lst, Mi.all_lst, Mi.any_lst, Mi.ints_map, Mi.bools_map, R.bind_ok, R.bind_ex, R.bind_bad, R.lift_some, R.noEx_ok, List.getElem?_cons_zero, List.getElem?_cons_succ, Option.bind_some, Option.map_some, Option.bind_eq_bind, id_eq, List.set_cons_zero, List.set_cons_succ, if_true, if_false, Bool.false_eq_true, reduceIte, Bool.not_true, Bool.not_false, Ex.isOmit, l1]
    rw [show (sizes.map fun x => PV.bl (decide (1 ≤ x) && decide (x ≤ 1000000000000))) = (sizes.map fun x => decide (1 ≤ x) && decide (x ≤ 1000000000000)).map PV.bl from by rw [List.map_map]; rfl]
    simp (implicitDefEqProofs := false) only [Mi.seqK_nx, Mi.seqK_rt, Mi.andK_t, Mi.andK_f, Mi.orK_t, Mi.orK_f, Mi.forB_nm, Mi.forB_2, Mi.binK2_d, Mi.binK1_d, Mi.negK_d, Mi.truK_d, Mi.tstK_d, Mi.notK_d, Mi.cmpK2_d, Mi.cmpK1_d, Mi.chnK3_t, Mi.chnK3_f, Mi.chnK2_d, Mi.chnK1_d, Mi.iteK_t, Mi.iteK_f, Mi.tupK_d, Mi.lstK_d, Mi.cellK_d, Mi.callK_d, Mi.biK_d, Mi.idxK2_d, Mi.idxK1_d, Mi.sliK3_t, Mi.sliK3_l, Mi.oIntK_i, Mi.sliK2_d, Mi.sliK1_d, Mi.lcT_d, Mi.lcE_d, Mi.lcK_d, Mi.lrgK2_d, Mi.lrgK1_d, Mi.consK2_d, Mi.consK1_d, Mi.rng1K_d, Mi.rng2K2_d, Mi.rng2K1_d, Mi.zipO_d, Mi.zipK2_d, Mi.zipK1_d, Mi.enuK_d, Mi.sqK_d, Mi.setK_d, Mi.setTK_d, Mi.putK3_d, Mi.putK2_d, Mi.putK1_d, Mi.appK2_d, Mi.appK1_d, Mi.dropK_d, Mi.retK_d, Mi.iteS_t, Mi.iteS_f, Mi.forK_d, Mi.turnK2_d, Mi.turnK1_t, Mi.turnK1_f, Mi.whK_t, Mi.whK_f, Mi.lcB_nm, Mi.lcB_2, Mi.evE_var, Mi.evE_non, Mi.evE_bl, Mi.evE_int, Mi.evE_str, Mi.evE_gl, Mi.evE_bty, Mi.evE_bin, Mi.evE_neg, Mi.evE_not, Mi.evE_and, Mi.evE_or, Mi.evE_cmp, Mi.evE_chn, Mi.evE_ite, Mi.evE_tup, Mi.evE_lst, Mi.evE_cell, Mi.evE_call, Mi.callP_sto, Mi.evE_bi, Mi.evE_idx, Mi.evE_sli, Mi.evE_lc, Mi.evE_lrg, Mi.evE_lrd, Mi.evA_nil, Mi.evA_cons, Mi.evI_rng1, Mi.evI_rng2, Mi.evI_zip, Mi.evI_enu, Mi.evI_sq, Mi.tstR_false, Mi.tstR_true, Mi.optR_false, Mi.optR_true, Mi.oInt_int, Mi.isOmit_omit, Mi.evS_skip, Mi.evS_seq, Mi.evS_set, Mi.evS_setT, Mi.evS_put, Mi.evS_app, Mi.evS_drop, Mi.evS_ret, Mi.evS_ite, Mi.evS_for, Mi.evS_while, Mi.evS_raise, Mi.sto_some, Mi.sto_none, Mi.val_nx, Mi.val_rt, Mi.setTg_nm, Mi.setTg_nil, Mi.setTg_cons, Mi.wipe_nil, Mi.wipe_cons, Mi.forR_nil, Mi.truV_bl, Mi.truV_non, Mi.truV_int, Mi.add_ii, Mi.sub_ii, Mi.lt_ii, Mi.le_ii, Mi.gt_ii, Mi.ge_ii, Mi.isn_v, Mi.notn_v, Mi.isN_non, Mi.isN_int, Mi.isN_tup, Mi.isN_bl, Mi.isN_str, Mi.eq_ii, Mi.ne_ii, Mi.eq_ss, Mi.ne_ss, Mi.neg_i, Mi.walk_lst, Mi.walk_tup, Mi.walk_scr, Mi.len_tup, Mi.len_lst, Mi.len_scr, Mi.tuple_lst, Mi.tuple_tup, Mi.list_tup, Mi.list_lst, Mi.int_int, Mi.int_bl, Mi.abs_int, Mi.min_int, Mi.max_int, Mi.isi_def, Mi.sum_lst, Mi.all_lst, Mi.any_lst, Mi.ints_map, Mi.bools_map, R.bind_ok, R.bind_ex, R.bind_bad, R.lift_some, R.noEx_ok, List.getElem?_cons_zero, List.getElem?_cons_succ, Option.bind_some, Option.map_some, Option.bind_eq_bind, id_eq, List.set_cons_zero, List.set_cons_succ, if_true, if_false, Bool.false_eq_true, reduceIte, Bool.not_true, Bool.not_false, Ex.isOmit, bools_map, all_map sizes (fun x => decide (1 ≤ x) && decide (x ≤ 1000000000000)) (fun a ha => by have := hs.lo a ha; rw [decide_eq_true this.1, decide_eq_true this.2]; rfl)]
  · intro a ha
    simp (implicitDefEqProofs := false) only [Mi.seqK_nx, Mi.seqK_rt, Mi.andK_t, Mi.andK_f, Mi.orK_t, Mi.orK_f, Mi.forB_nm, Mi.forB_2, Mi.binK2_d, Mi.binK1_d, Mi.negK_d, Mi.truK_d, Mi.tstK_d, Mi.notK_d, Mi.cmpK2_d, Mi.cmpK1_d, Mi.chnK3_t, Mi.chnK3_f, Mi.chnK2_d, Mi.chnK1_d, Mi.iteK_t, Mi.iteK_f, Mi.tupK_d, Mi.lstK_d, Mi.cellK_d, Mi.callK_d, Mi.biK_d, Mi.idxK2_d, Mi.idxK1_d, Mi.sliK3_t, Mi.sliK3_l, Mi.oIntK_i, Mi.sliK2_d, Mi.sliK1_d, Mi.lcT_d, Mi.lcE_d, Mi.lcK_d, Mi.lrgK2_d, Mi.lrgK1_d, Mi.consK2_d, Mi.consK1_d, Mi.rng1K_d, Mi.rng2K2_d, Mi.rng2K1_d, Mi.zipO_d, Mi.zipK2_d, Mi.zipK1_d, Mi.enuK_d, Mi.sqK_d, Mi.setK_d, Mi.setTK_d, Mi.putK3_d, Mi.putK2_d, Mi.putK1_d, Mi.appK2_d, Mi.appK1_d, Mi.dropK_d, Mi.retK_d, Mi.iteS_t, Mi.iteS_f, Mi.forK_d, Mi.turnK2_d, Mi.turnK1_t, Mi.turnK1_f, Mi.whK_t, Mi.whK_f, Mi.lcB_nm, Mi.lcB_2, Mi.evE_var, Mi.evE_non, Mi.evE_bl, Mi.evE_int, Mi.evE_str, Mi.evE_gl, Mi.evE_bty, Mi.evE_bin, Mi.evE_neg, Mi.evE_not, Mi.evE_and, Mi.evE_or, Mi.evE_cmp, Mi.evE_chn, Mi.evE_ite, Mi.evE_tup, Mi.evE_lst, Mi.evE_cell, Mi.evE_call, Mi.callP_sto, Mi.evE_bi, Mi.evE_idx, Mi.evE_sli, Mi.evE_lc, Mi.evE_lrg, Mi.evE_lrd, Mi.evA_nil, Mi.evA_cons, Mi.evI_rng1, Mi.evI_rng2, Mi.evI_zip, Mi.evI_enu, Mi.evI_sq, Mi.tstR_false, Mi.tstR_true, Mi.optR_false, Mi.optR_true, Mi.oInt_int, Mi.isOmit_omit, Mi.evS_skip, Mi.evS_seq, Mi.evS_set, Mi.evS_setT, Mi.evS_put, Mi.evS_app, Mi.evS_drop, Mi.evS_ret, Mi.evS_ite, Mi.evS_for, Mi.evS_while, Mi.evS_raise, Mi.sto_some, Mi.sto_none, Mi.val_nx, Mi.val_rt, Mi.setTg_nm, Mi.setTg_nil, Mi.setTg_cons, Mi.wipe_nil, Mi.wipe_cons, Mi.forR_nil, Mi.truV_bl, Mi.truV_non, Mi.truV_int, Mi.add_ii, Mi.sub_ii, Mi.lt_ii, Mi.le_ii, Mi.gt_ii, Mi.ge_ii, Mi.isn_v, Mi.notn_v, Mi.isN_non, Mi.isN_int, Mi.isN_tup, Mi.isN_bl, Mi.isN_str, Mi.eq_ii, Mi.ne_ii, Mi.eq_ss, Mi.ne_ss, Mi.neg_i, Mi.walk_lst, Mi.walk_tup, Mi.walk_scr, Mi.len_tup, Mi.len_lst, Mi.len_scr, Mi.tuple_lst, Mi.tuple_tup, Mi.list_tup, Mi.list_lst, Mi.int_int, Mi.int_bl, Mi.abs_int, Mi.min_int, Mi.max_int, Mi.isi_def, Mi.sum_lst, Mi.all_lst, Mi.any_lst, Mi.ints_map, Mi.bools_map, R.bind_ok, R.bind_ex, R.bind_bad, R.lift_some, R.noEx_ok, List.getElem?_cons_zero, List.getElem?_cons_succ, Option.bind_some, Option.map_some, Option.bind_eq_bind, id_eq, List.set_cons_zero, List.set_cons_succ, if_true, if_false, Bool.false_eq_true, reduceIte, Bool.not_true, Bool.not_false, Ex.isOmit, gLARGEST, is_number]
theorem need_sizes (many : Nat) (sizes : List Int) (h : 2 ≤ many ∧ many ≤ 4) (hs : SzOk many sizes) : RU N (d + 3) 15 [.int many, .tup (sizes.map .int)] st = .ok .non st := by
  rw [RU, u15]
  simp (implicitDefEqProofs := false) only [Mi.seqK_nx, Mi.seqK_rt, Mi.andK_t, Mi.andK_f, Mi.orK_t, Mi.orK_f, Mi.forB_nm, Mi.forB_2, Mi.binK2_d, Mi.binK1_d, Mi.negK_d, Mi.truK_d, Mi.tstK_d, Mi.notK_d, Mi.cmpK2_d, Mi.cmpK1_d, Mi.chnK3_t, Mi.chnK3_f, Mi.chnK2_d, Mi.chnK1_d, Mi.iteK_t, Mi.iteK_f, Mi.tupK_d, Mi.lstK_d, Mi.cellK_d, Mi.callK_d, Mi.biK_d, Mi.idxK2_d, Mi.idxK1_d, Mi.sliK3_t, Mi.sliK3_l, Mi.oIntK_i, Mi.sliK2_d, Mi.sliK1_d, Mi.lcT_d, Mi.lcE_d, Mi.lcK_d, Mi.lrgK2_d, Mi.lrgK1_d, Mi.consK2_d, Mi.consK1_d, Mi.rng1K_d, Mi.rng2K2_d, Mi.rng2K1_d, Mi.zipO_d, Mi.zipK2_d, Mi.zipK1_d, Mi.enuK_d, Mi.sqK_d, Mi.setK_d, Mi.setTK_d, Mi.putK3_d, Mi.putK2_d, Mi.putK1_d, Mi.appK2_d, Mi.appK1_d, Mi.dropK_d, Mi.retK_d, Mi.iteS_t, Mi.iteS_f, Mi.forK_d, Mi.turnK2_d, Mi.turnK1_t, Mi.turnK1_f, Mi.whK_t, Mi.whK_f, Mi.lcB_nm, Mi.lcB_2, Mi.evE_var, Mi.evE_non, Mi.evE_bl, Mi.evE_int, Mi.evE_str, Mi.evE_gl, Mi.evE_bty, Mi.evE_bin, Mi.evE_neg, Mi.evE_not, Mi.evE_and, Mi.evE_or, Mi.evE_cmp, Mi.evE_chn, Mi.evE_ite, Mi.evE_tup, Mi.evE_lst, Mi.evE_cell, Mi.evE_call, Mi.callP_sto, Mi.evE_bi, Mi.evE_idx, Mi.evE_sli, Mi.evE_lc, Mi.evE_lrg, Mi.evE_lrd, Mi.evA_nil, Mi.evA_cons, Mi.evI_rng1, Mi.evI_rng2, Mi.evI_zip, Mi.evI_enu, Mi.evI_sq, Mi.tstR_false, Mi.tstR_true, Mi.optR_false, Mi.optR_true, Mi.oInt_int, Mi.isOmit_omit, Mi.evS_skip, Mi.evS_seq, Mi.evS_set, Mi.evS_setT, Mi.evS_put, Mi.evS_app, Mi.evS_drop, Mi.evS_ret, Mi.evS_ite, Mi.evS_for, Mi.evS_while, Mi.evS_raise, Mi.sto_some, Mi.sto_none, Mi.val_nx, Mi.val_rt, Mi.setTg_nm, Mi.setTg_nil, Mi.setTg_cons, Mi.wipe_nil, Mi.wipe_cons, Mi.forR_nil, Mi.truV_bl, Mi.truV_non, Mi.truV_int, Mi.add_ii, Mi.sub_ii, Mi.lt_ii, Mi.le_ii, Mi.gt_ii, Mi.ge_ii, Mi.isn_v, Mi.notn_v, Mi.isN_non, Mi.isN_int, Mi.isN_tup, Mi.isN_bl, Mi.isN_str, Mi.eq_ii, Mi.ne_ii, Mi.eq_ss, Mi.ne_ss, Mi.neg_i, Mi.walk_lst, Mi.walk_tup, Mi.walk_scr, Mi.len_tup, Mi.len_lst, Mi.len_scr, Mi.tuple_lst, Mi.tuple_tup, Mi.list_tup, Mi.list_lst, Mi.int_int, Mi.int_bl, Mi.abs_int, Mi.min_int, Mi.max_int, Mi.isi_def, Mi.sum_lst, Mi.all_lst, Mi.any_lst, Mi.ints_map, Mi.bools_map, R.bind_ok, R.bind_ex, R.bind_bad, R.lift_some, R.noEx_ok, List.getElem?_cons_zero, List.getElem?_cons_succ, Option.bind_some, Option.map_some, Option.bind_eq_bind, id_eq, List.set_cons_zero, List.set_cons_succ, if_true, if_false, Bool.false_eq_true, reduceIte, Bool.not_true, Bool.not_false, Ex.isOmit, b15, are_good_sizes (N := N) (d := d) (st := st) many sizes h hs]

theorem is_number_v (v : PV) (a b : Int) (h : sh1 v = true) : RU N (d + 1) 0 [v, .int a, .int b] st = .ok (.bl (numB v a b)) st := by
  rw [RU, u0]
  cases v <;> first | (cases h; done) | skip
  · simp (implicitDefEqProofs := false) only [Mi.seqK_nx, Mi.seqK_rt, Mi.andK_t, Mi.andK_f, Mi.orK_t, Mi.orK_f, Mi.forB_nm, Mi.forB_2, Mi.binK2_d, Mi.binK1_d, Mi.negK_d, Mi.truK_d, Mi.tstK_d, Mi.notK_d, Mi.cmpK2_d, Mi.cmpK1_d, Mi.chnK3_t, Mi.chnK3_f, Mi.chnK2_d, Mi.chnK1_d, Mi.iteK_t, Mi.iteK_f, Mi.tupK_d, Mi.lstK_d, Mi.cellK_d, Mi.callK_d, Mi.biK_d, Mi.idxK2_d, Mi.idxK1_d, Mi.sliK3_t, Mi.sliK3_l, Mi.oIntK_i, Mi.sliK2_d, Mi.sliK1_d, Mi.lcT_d, Mi.lcE_d, Mi.lcK_d, Mi.lrgK2_d, Mi.lrgK1_d, Mi.consK2_d, Mi.consK1_d, Mi.rng1K_d, Mi.rng2K2_d, Mi.rng2K1_d, Mi.zipO_d, Mi.zipK2_d, Mi.zipK1_d, Mi.enuK_d, Mi.sqK_d, Mi.setK_d, Mi.setTK_d, Mi.putK3_d, Mi.putK2_d, Mi.putK1_d, Mi.appK2_d, Mi.appK1_d, Mi.dropK_d, Mi.retK_d, Mi.iteS_t, Mi.iteS_f, Mi.forK_d, Mi.turnK2_d, Mi.turnK1_t, Mi.turnK1_f, Mi.whK_t, Mi.whK_f, Mi.lcB_nm, Mi.lcB_2, Mi.evE_var, Mi.evE_non, Mi.evE_bl, Mi.evE_int, Mi.evE_str, Mi.evE_gl, Mi.evE_bty, Mi.evE_bin, Mi.evE_neg, Mi.evE_not, Mi.evE_and, Mi.evE_or, Mi.evE_cmp, Mi.evE_chn, Mi.evE_ite, Mi.evE_tup, Mi.evE_lst, Mi.evE_cell, Mi.evE_call, Mi.callP_sto, Mi.evE_bi, Mi.evE_idx, Mi.evE_sli, Mi.evE_lc, Mi.evE_lrg, Mi.evE_lrd, Mi.evA_nil, Mi.evA_cons, Mi.evI_rng1, Mi.evI_rng2, Mi.evI_zip, Mi.evI_enu, Mi.evI_sq, Mi.tstR_false, Mi.tstR_true, Mi.optR_false, Mi.optR_true, Mi.oInt_int, Mi.isOmit_omit, Mi.evS_skip, Mi.evS_seq, Mi.evS_set, Mi.evS_setT, Mi.evS_put, Mi.evS_app, Mi.evS_drop, Mi.evS_ret, Mi.evS_ite, Mi.evS_for, Mi.evS_while, Mi.evS_raise, Mi.sto_some, Mi.sto_none, Mi.val_nx, Mi.val_rt, Mi.setTg_nm, Mi.setTg_nil, Mi.setTg_cons, Mi.wipe_nil, Mi.wipe_cons, Mi.forR_nil, Mi.truV_bl, Mi.truV_non, Mi.truV_int, Mi.add_ii, Mi.sub_ii, Mi.lt_ii, Mi.le_ii, Mi.gt_ii, Mi.ge_ii, Mi.isn_v, Mi.notn_v, Mi.isN_non, Mi.isN_int, Mi.isN_tup, Mi.isN_bl, Mi.isN_str, Mi.eq_ii, Mi.ne_ii, Mi.eq_ss, Mi.ne_ss, Mi.neg_i, Mi.walk_lst, Mi.walk_tup, Mi.walk_scr, Mi.len_tup, Mi.len_lst, Mi.len_scr, Mi.tuple_lst, Mi.tuple_tup, Mi.list_tup, Mi.list_lst, Mi.int_int, Mi.int_bl, Mi.abs_int, Mi.min_int, Mi.max_int, Mi.isi_def, Mi.sum_lst, Mi.all_lst, Mi.any_lst, Mi.ints_map, Mi.bools_map, R.bind_ok, R.bind_ex, R.bind_bad, R.lift_some, R.noEx_ok, List.getElem?_cons_zero, List.getElem?_cons_succ, Option.bind_some, Option.map_some, Option.bind_eq_bind, id_eq, List.set_cons_zero, List.set_cons_succ, if_true, if_false, Bool.false_eq_true, reduceIte, Bool.not_true, Bool.not_false, Ex.isOmit, b0, show isiV .non "int" = some false from rfl, numB]
  · simp (implicitDefEqProofs := false) only [Mi.seqK_nx, Mi.seqK_rt, Mi.andK_t, Mi.andK_f, Mi.orK_t, Mi.orK_f, Mi.forB_nm, Mi.forB_2, Mi.binK2_d, Mi.binK1_d, Mi.negK_d, Mi.truK_d, Mi.tstK_d, Mi.notK_d, Mi.cmpK2_d, Mi.cmpK1_d, Mi.chnK3_t, Mi.chnK3_f, Mi.chnK2_d, Mi.chnK1_d, Mi.iteK_t, Mi.iteK_f, Mi.tupK_d, Mi.lstK_d, Mi.cellK_d, Mi.callK_d, Mi.biK_d, Mi.idxK2_d, Mi.idxK1_d, Mi.sliK3_t, Mi.sliK3_l, Mi.oIntK_i, Mi.sliK2_d, Mi.sliK1_d, Mi.lcT_d, Mi.lcE_d, Mi.lcK_d, Mi.lrgK2_d, Mi.lrgK1_d, Mi.consK2_d, Mi.consK1_d, Mi.rng1K_d, Mi.rng2K2_d, Mi.rng2K1_d, Mi.zipO_d, Mi.zipK2_d, Mi.zipK1_d, Mi.enuK_d, Mi.sqK_d, Mi.setK_d, Mi.setTK_d, Mi.putK3_d, Mi.putK2_d, Mi.putK1_d, Mi.appK2_d, Mi.appK1_d, Mi.dropK_d, Mi.retK_d, Mi.iteS_t, Mi.iteS_f, Mi.forK_d, Mi.turnK2_d, Mi.turnK1_t, Mi.turnK1_f, Mi.whK_t, Mi.whK_f, Mi.lcB_nm, Mi.lcB_2, Mi.evE_var, Mi.evE_non, Mi.evE_bl, Mi.evE_int, Mi.evE_str, Mi.evE_gl, Mi.evE_bty, Mi.evE_bin, Mi.evE_neg, Mi.evE_not, Mi.evE_and, Mi.evE_or, Mi.evE_cmp, Mi.evE_chn, Mi.evE_ite, Mi.evE_tup, Mi.evE_lst, Mi.evE_cell, Mi.evE_call, Mi.callP_sto, Mi.evE_bi, Mi.evE_idx, Mi.evE_sli, Mi.evE_lc, Mi.evE_lrg, Mi.evE_lrd, Mi.evA_nil, Mi.evA_cons, Mi.evI_rng1, Mi.evI_rng2, Mi.evI_zip, Mi.evI_enu, Mi.evI_sq, Mi.tstR_false, Mi.tstR_true, Mi.optR_false, Mi.optR_true, Mi.oInt_int, Mi.isOmit_omit, Mi.evS_skip, Mi.evS_seq, Mi.evS_set, Mi.evS_setT, Mi.evS_put, Mi.evS_app, Mi.evS_drop, Mi.evS_ret, Mi.evS_ite, Mi.evS_for, Mi.evS_while, Mi.evS_raise, Mi.sto_some, Mi.sto_none, Mi.val_nx, Mi.val_rt, Mi.setTg_nm, Mi.setTg_nil, Mi.setTg_cons, Mi.wipe_nil, Mi.wipe_cons, Mi.forR_nil, Mi.truV_bl, Mi.truV_non, Mi.truV_int, Mi.add_ii, Mi.sub_ii, Mi.lt_ii, Mi.le_ii, Mi.gt_ii, Mi.ge_ii, Mi.isn_v, Mi.notn_v, Mi.isN_non, Mi.isN_int, Mi.isN_tup, Mi.isN_bl, Mi.isN_str, Mi.eq_ii, Mi.ne_ii, Mi.eq_ss, Mi.ne_ss, Mi.neg_i, Mi.walk_lst, Mi.walk_tup, Mi.walk_scr, Mi.len_tup, Mi.len_lst, Mi.len_scr, Mi.tuple_lst, Mi.tuple_tup, Mi.list_tup, Mi.list_lst, Mi.int_int, Mi.int_bl, Mi.abs_int, Mi.min_int, Mi.max_int, Mi.isi_def, Mi.sum_lst, Mi.all_lst, Mi.any_lst, Mi.ints_map, Mi.bools_map, R.bind_ok, R.bind_ex, R.bind_bad, R.lift_some, R.noEx_ok, List.getElem?_cons_zero, List.getElem?_cons_succ, Option.bind_some, Option.map_some, Option.bind_eq_bind, id_eq, List.set_cons_zero, List.set_cons_succ, if_true, if_false, Bool.false_eq_true, reduceIte, Bool.not_true, Bool.not_false, Ex.isOmit, b0, show ∀ b, isiV (.bl b) "int" = some true from fun _ => rfl, show ∀ b, isiV (.bl b) "bool" = some true from fun _ => rfl, numB]
  · rename_i i
    simp (implicitDefEqProofs := false) only [Mi.seqK_nx, Mi.seqK_rt, Mi.andK_t, Mi.andK_f, Mi.orK_t, Mi.orK_f, Mi.forB_nm, Mi.forB_2, Mi.binK2_d, Mi.binK1_d, Mi.negK_d, Mi.truK_d, Mi.tstK_d, Mi.notK_d, Mi.cmpK2_d, Mi.cmpK1_d, Mi.chnK3_t, Mi.chnK3_f, Mi.chnK2_d, Mi.chnK1_d, Mi.iteK_t, Mi.iteK_f, Mi.tupK_d, Mi.lstK_d, Mi.cellK_d, Mi.callK_d, Mi.biK_d, Mi.idxK2_d, Mi.idxK1_d, Mi.sliK3_t, Mi.sliK3_l, Mi.oIntK_i, Mi.sliK2_d, Mi.sliK1_d, Mi.lcT_d, Mi.lcE_d, Mi.lcK_d, Mi.lrgK2_d, Mi.lrgK1_d, Mi.consK2_d, Mi.consK1_d, Mi.rng1K_d, Mi.rng2K2_d, Mi.rng2K1_d, Mi.zipO_d, Mi.zipK2_d, Mi.zipK1_d, Mi.enuK_d, Mi.sqK_d, Mi.setK_d, Mi.setTK_d, Mi.putK3_d, Mi.putK2_d, Mi.putK1_d, Mi.appK2_d, Mi.appK1_d, Mi.dropK_d, Mi.retK_d, Mi.iteS_t, Mi.iteS_f, Mi.forK_d, Mi.turnK2_d, Mi.turnK1_t, Mi.turnK1_f, Mi.whK_t, Mi.whK_f, Mi.lcB_nm, Mi.lcB_2, Mi.evE_var, Mi.evE_non, Mi.evE_bl, Mi.evE_int, Mi.evE_str, Mi.evE_gl, Mi.evE_bty, Mi.evE_bin, Mi.evE_neg, Mi.evE_not, Mi.evE_and, Mi.evE_or, Mi.evE_cmp, Mi.evE_chn, Mi.evE_ite, Mi.evE_tup, Mi.evE_lst, Mi.evE_cell, Mi.evE_call, Mi.callP_sto, Mi.evE_bi, Mi.evE_idx, Mi.evE_sli, Mi.evE_lc, Mi.evE_lrg, Mi.evE_lrd, Mi.evA_nil, Mi.evA_cons, Mi.evI_rng1, Mi.evI_rng2, Mi.evI_zip, Mi.evI_enu, Mi.evI_sq, Mi.tstR_false, Mi.tstR_true, Mi.optR_false, Mi.optR_true, Mi.oInt_int, Mi.isOmit_omit, Mi.evS_skip, Mi.evS_seq, Mi.evS_set, Mi.evS_setT, Mi.evS_put, Mi.evS_app, Mi.evS_drop, Mi.evS_ret, Mi.evS_ite, Mi.evS_for, Mi.evS_while, Mi.evS_raise, Mi.sto_some, Mi.sto_none, Mi.val_nx, Mi.val_rt, Mi.setTg_nm, Mi.setTg_nil, Mi.setTg_cons, Mi.wipe_nil, Mi.wipe_cons, Mi.forR_nil, Mi.truV_bl, Mi.truV_non, Mi.truV_int, Mi.add_ii, Mi.sub_ii, Mi.lt_ii, Mi.le_ii, Mi.gt_ii, Mi.ge_ii, Mi.isn_v, Mi.notn_v, Mi.isN_non, Mi.isN_int, Mi.isN_tup, Mi.isN_bl, Mi.isN_str, Mi.eq_ii, Mi.ne_ii, Mi.eq_ss, Mi.ne_ss, Mi.neg_i, Mi.walk_lst, Mi.walk_tup, Mi.walk_scr, Mi.len_tup, Mi.len_lst, Mi.len_scr, Mi.tuple_lst, Mi.tuple_tup, Mi.list_tup, Mi.list_lst, Mi.int_int, Mi.int_bl, Mi.abs_int, Mi.min_int, Mi.max_int, Mi.isi_def, Mi.sum_lst, Mi.all_lst, Mi.any_lst, Mi.ints_map, Mi.bools_map, R.bind_ok, R.bind_ex, R.bind_bad, R.lift_some, R.noEx_ok, List.getElem?_cons_zero, List.getElem?_cons_succ, Option.bind_some, Option.map_some, Option.bind_eq_bind, id_eq, List.set_cons_zero, List.set_cons_succ, if_true, if_false, Bool.false_eq_true, reduceIte, Bool.not_true, Bool.not_false, Ex.isOmit, b0, show isiV (.int i) "int" = some true from rfl, show isiV (.int i) "bool" = some false from rfl, numB]
    cases decide (a ≤ i) <;> simp (implicitDefEqProofs := false) only [Mi.seqK_nx, Mi.seqK_rt, Mi.andK_t, Mi.andK_f, Mi.orK_t, Mi.orK_f, Mi.forB_nm, Mi.forB_2, Mi.binK2_d, Mi.binK1_d, Mi.negK_d, Mi.truK_d, Mi.tstK_d, Mi.notK_d, Mi.cmpK2_d, Mi.cmpK1_d, Mi.chnK3_t, Mi.chnK3_f, Mi.chnK2_d, Mi.chnK1_d, Mi.iteK_t, Mi.iteK_f, Mi.tupK_d, Mi.lstK_d, Mi.cellK_d, Mi.callK_d, Mi.biK_d, Mi.idxK2_d, Mi.idxK1_d, Mi.sliK3_t, Mi.sliK3_l, Mi.oIntK_i, Mi.sliK2_d, Mi.sliK1_d, Mi.lcT_d, Mi.lcE_d, Mi.lcK_d, Mi.lrgK2_d, Mi.lrgK1_d, Mi.consK2_d, Mi.consK1_d, Mi.rng1K_d, Mi.rng2K2_d, Mi.rng2K1_d, Mi.zipO_d, Mi.zipK2_d, Mi.zipK1_d, Mi.enuK_d, Mi.sqK_d, Mi.setK_d, Mi.setTK_d, Mi.putK3_d, Mi.putK2_d, Mi.putK1_d, Mi.appK2_d, Mi.appK1_d, Mi.dropK_d, Mi.retK_d, Mi.iteS_t, Mi.iteS_f, Mi.forK_d, Mi.turnK2_d, Mi.turnK1_t, Mi.turnK1_f, Mi.whK_t, Mi.whK_f, Mi.lcB_nm, Mi.lcB_2, Mi.evE_var, Mi.evE_non, Mi.evE_bl, Mi.evE_int, Mi.evE_str, Mi.evE_gl, Mi.evE_bty, Mi.evE_bin, Mi.evE_neg, Mi.evE_not, Mi.evE_and, Mi.evE_or, Mi.evE_cmp, Mi.evE_chn, Mi.evE_ite, Mi.evE_tup, Mi.evE_lst, Mi.evE_cell, Mi.evE_call, Mi.callP_sto, Mi.evE_bi, Mi.evE_idx, Mi.evE_sli, Mi.evE_lc, Mi.evE_lrg, Mi.evE_lrd, Mi.evA_nil, Mi.evA_cons, Mi.evI_rng1, Mi.evI_rng2, Mi.evI_zip, Mi.evI_enu, Mi.evI_sq, Mi.tstR_false, Mi.tstR_true, Mi.optR_false, Mi.optR_true, Mi.oInt_int, Mi.isOmit_omit, Mi.evS_skip, Mi.evS_seq, Mi.evS_set, Mi.evS_setT, Mi.evS_put, Mi.evS_app, Mi.evS_drop, Mi.evS_ret, Mi.evS_ite, Mi.evS_for, Mi.evS_while, Mi.evS_raise, Mi.sto_some, Mi.sto_none, Mi.val_nx, Mi.val_rt, Mi.setTg_nm, Mi.setTg_nil, Mi.setTg_cons, Mi.wipe_nil, Mi.wipe_cons, Mi.forR_nil, Mi.truV_bl, Mi.truV_non, Mi.truV_int, Mi.add_ii, Mi.sub_ii, Mi.lt_ii, Mi.le_ii, Mi.gt_ii, Mi.ge_ii, Mi.isn_v, Mi.notn_v, Mi.isN_non, Mi.isN_int, Mi.isN_tup, Mi.isN_bl, Mi.isN_str, Mi.eq_ii, Mi.ne_ii, Mi.eq_ss, Mi.ne_ss, Mi.neg_i, Mi.walk_lst, Mi.walk_tup, Mi.walk_scr, Mi.len_tup, Mi.len_lst, Mi.len_scr, Mi.tuple_lst, Mi.tuple_tup, Mi.list_tup, Mi.list_lst, Mi.int_int, Mi.int_bl, Mi.abs_int, Mi.min_int, Mi.max_int, Mi.isi_def, Mi.sum_lst, Mi.all_lst, Mi.any_lst, Mi.ints_map, Mi.bools_map, R.bind_ok, R.bind_ex, R.bind_bad, R.lift_some, R.noEx_ok, List.getElem?_cons_zero, List.getElem?_cons_succ, Option.bind_some, Option.map_some, Option.bind_eq_bind, id_eq, List.set_cons_zero, List.set_cons_succ, if_true, if_false, Bool.false_eq_true, reduceIte, Bool.not_true, Bool.not_false, Ex.isOmit, Bool.true_and, Bool.false_and]
  · simp (implicitDefEqProofs := false) only [Mi.seqK_nx, Mi.seqK_rt, Mi.andK_t, Mi.andK_f, Mi.orK_t, Mi.orK_f, Mi.forB_nm, Mi.forB_2, Mi.binK2_d, Mi.binK1_d, Mi.negK_d, Mi.truK_d, Mi.tstK_d, Mi.notK_d, Mi.cmpK2_d, Mi.cmpK1_d, Mi.chnK3_t, Mi.chnK3_f, Mi.chnK2_d, Mi.chnK1_d, Mi.iteK_t, Mi.iteK_f, Mi.tupK_d, Mi.lstK_d, Mi.cellK_d, Mi.callK_d, Mi.biK_d, Mi.idxK2_d, Mi.idxK1_d, Mi.sliK3_t, Mi.sliK3_l, Mi.oIntK_i, Mi.sliK2_d, Mi.sliK1_d, Mi.lcT_d, Mi.lcE_d, Mi.lcK_d, Mi.lrgK2_d, Mi.lrgK1_d, Mi.consK2_d, Mi.consK1_d, Mi.rng1K_d, Mi.rng2K2_d, Mi.rng2K1_d, Mi.zipO_d, Mi.zipK2_d, Mi.zipK1_d, Mi.enuK_d, Mi.sqK_d, Mi.setK_d, Mi.setTK_d, Mi.putK3_d, Mi.putK2_d, Mi.putK1_d, Mi.appK2_d, Mi.appK1_d, Mi.dropK_d, Mi.retK_d, Mi.iteS_t, Mi.iteS_f, Mi.forK_d, Mi.turnK2_d, Mi.turnK1_t, Mi.turnK1_f, Mi.whK_t, Mi.whK_f, Mi.lcB_nm, Mi.lcB_2, Mi.evE_var, Mi.evE_non, Mi.evE_bl, Mi.evE_int, Mi.evE_str, Mi.evE_gl, Mi.evE_bty, Mi.evE_bin, Mi.evE_neg, Mi.evE_not, Mi.evE_and, Mi.evE_or, Mi.evE_cmp, Mi.evE_chn, Mi.evE_ite, Mi.evE_tup, Mi.evE_lst, Mi.evE_cell, Mi.evE_call, Mi.callP_sto, Mi.evE_bi, Mi.evE_idx, Mi.evE_sli, Mi.evE_lc, Mi.evE_lrg, Mi.evE_lrd, Mi.evA_nil, Mi.evA_cons, Mi.evI_rng1, Mi.evI_rng2, Mi.evI_zip, Mi.evI_enu, Mi.evI_sq, Mi.tstR_false, Mi.tstR_true, Mi.optR_false, Mi.optR_true, Mi.oInt_int, Mi.isOmit_omit, Mi.evS_skip, Mi.evS_seq, Mi.evS_set, Mi.evS_setT, Mi.evS_put, Mi.evS_app, Mi.evS_drop, Mi.evS_ret, Mi.evS_ite, Mi.evS_for, Mi.evS_while, Mi.evS_raise, Mi.sto_some, Mi.sto_none, Mi.val_nx, Mi.val_rt, Mi.setTg_nm, Mi.setTg_nil, Mi.setTg_cons, Mi.wipe_nil, Mi.wipe_cons, Mi.forR_nil, Mi.truV_bl, Mi.truV_non, Mi.truV_int, Mi.add_ii, Mi.sub_ii, Mi.lt_ii, Mi.le_ii, Mi.gt_ii, Mi.ge_ii, Mi.isn_v, Mi.notn_v, Mi.isN_non, Mi.isN_int, Mi.isN_tup, Mi.isN_bl, Mi.isN_str, Mi.eq_ii, Mi.ne_ii, Mi.eq_ss, Mi.ne_ss, Mi.neg_i, Mi.walk_lst, Mi.walk_tup, Mi.walk_scr, Mi.len_tup, Mi.len_lst, Mi.len_scr, Mi.tuple_lst, Mi.tuple_tup, Mi.list_tup, Mi.list_lst, Mi.int_int, Mi.int_bl, Mi.abs_int, Mi.min_int, Mi.max_int, Mi.isi_def, Mi.sum_lst, Mi.all_lst, Mi.any_lst, Mi.ints_map, Mi.bools_map, R.bind_ok, R.bind_ex, R.bind_bad, R.lift_some, R.noEx_ok, List.getElem?_cons_zero, List.getElem?_cons_succ, Option.bind_some, Option.map_some, Option.bind_eq_bind, id_eq, List.set_cons_zero, List.set_cons_succ, if_true, if_false, Bool.false_eq_true, reduceIte, Bool.not_true, Bool.not_false, Ex.isOmit, b0, show ∀ s, isiV (.str s) "int" = some false from fun _ => rfl, numB]
  · simp (implicitDefEqProofs := false) only [Mi.seqK_nx, Mi.seqK_rt, Mi.andK_t, Mi.andK_f, Mi.orK_t, Mi.orK_f, Mi.forB_nm, Mi.forB_2, Mi.binK2_d, Mi.binK1_d, Mi.negK_d, Mi.truK_d, Mi.tstK_d, Mi.notK_d, Mi.cmpK2_d, Mi.cmpK1_d, Mi.chnK3_t, Mi.chnK3_f, Mi.chnK2_d, Mi.chnK1_d, Mi.iteK_t, Mi.iteK_f, Mi.tupK_d, Mi.lstK_d, Mi.cellK_d, Mi.callK_d, Mi.biK_d, Mi.idxK2_d, Mi.idxK1_d, Mi.sliK3_t, Mi.sliK3_l, Mi.oIntK_i, Mi.sliK2_d, Mi.sliK1_d, Mi.lcT_d, Mi.lcE_d, Mi.lcK_d, Mi.lrgK2_d, Mi.lrgK1_d, Mi.consK2_d, Mi.consK1_d, Mi.rng1K_d, Mi.rng2K2_d, Mi.rng2K1_d, Mi.zipO_d, Mi.zipK2_d, Mi.zipK1_d, Mi.enuK_d, Mi.sqK_d, Mi.setK_d, Mi.setTK_d, Mi.putK3_d, Mi.putK2_d, Mi.putK1_d, Mi.appK2_d, Mi.appK1_d, Mi.dropK_d, Mi.retK_d, Mi.iteS_t, Mi.iteS_f, Mi.forK_d, Mi.turnK2_d, Mi.turnK1_t, Mi.turnK1_f, Mi.whK_t, Mi.whK_f, Mi.lcB_nm, Mi.lcB_2, Mi.evE_var, Mi.evE_non, Mi.evE_bl, Mi.evE_int, Mi.evE_str, Mi.evE_gl, Mi.evE_bty, Mi.evE_bin, Mi.evE_neg, Mi.evE_not, Mi.evE_and, Mi.evE_or, Mi.evE_cmp, Mi.evE_chn, Mi.evE_ite, Mi.evE_tup, Mi.evE_lst, Mi.evE_cell, Mi.evE_call, Mi.callP_sto, Mi.evE_bi, Mi.evE_idx, Mi.evE_sli, Mi.evE_lc, Mi.evE_lrg, Mi.evE_lrd, Mi.evA_nil, Mi.evA_cons, Mi.evI_rng1, Mi.evI_rng2, Mi.evI_zip, Mi.evI_enu, Mi.evI_sq, Mi.tstR_false, Mi.tstR_true, Mi.optR_false, Mi.optR_true, Mi.oInt_int, Mi.isOmit_omit, Mi.evS_skip, Mi.evS_seq, Mi.evS_set, Mi.evS_setT, Mi.evS_put, Mi.evS_app, Mi.evS_drop, Mi.evS_ret, Mi.evS_ite, Mi.evS_for, Mi.evS_while, Mi.evS_raise, Mi.sto_some, Mi.sto_none, Mi.val_nx, Mi.val_rt, Mi.setTg_nm, Mi.setTg_nil, Mi.setTg_cons, Mi.wipe_nil, Mi.wipe_cons, Mi.forR_nil, Mi.truV_bl, Mi.truV_non, Mi.truV_int, Mi.add_ii, Mi.sub_ii, Mi.lt_ii, Mi.le_ii, Mi.gt_ii, Mi.ge_ii, Mi.isn_v, Mi.notn_v, Mi.isN_non, Mi.isN_int, Mi.isN_tup, Mi.isN_bl, Mi.isN_str, Mi.eq_ii, Mi.ne_ii, Mi.eq_ss, Mi.ne_ss, Mi.neg_i, Mi.walk_lst, Mi.walk_tup, Mi.walk_scr, Mi.len_tup, Mi.len_lst, Mi.len_scr, Mi.tuple_lst, Mi.tuple_tup, Mi.list_tup, Mi.list_lst, Mi.int_int, Mi.int_bl, Mi.abs_int, Mi.min_int, Mi.max_int, Mi.isi_def, Mi.sum_lst, Mi.all_lst, Mi.any_lst, Mi.ints_map, Mi.bools_map, R.bind_ok, R.bind_ex, R.bind_bad, R.lift_some, R.noEx_ok, List.getElem?_cons_zero, List.getElem?_cons_succ, Option.bind_some, Option.map_some, Option.bind_eq_bind, id_eq, List.set_cons_zero, List.set_cons_succ, if_true, if_false, Bool.false_eq_true, reduceIte, Bool.not_true, Bool.not_false, Ex.isOmit, b0, show ∀ s, isiV (.tup s) "int" = some false from fun _ => rfl, numB]
  · simp (implicitDefEqProofs := false) only [Mi.seqK_nx, Mi.seqK_rt, Mi.andK_t, Mi.andK_f, Mi.orK_t, Mi.orK_f, Mi.forB_nm, Mi.forB_2, Mi.binK2_d, Mi.binK1_d, Mi.negK_d, Mi.truK_d, Mi.tstK_d, Mi.notK_d, Mi.cmpK2_d, Mi.cmpK1_d, Mi.chnK3_t, Mi.chnK3_f, Mi.chnK2_d, Mi.chnK1_d, Mi.iteK_t, Mi.iteK_f, Mi.tupK_d, Mi.lstK_d, Mi.cellK_d, Mi.callK_d, Mi.biK_d, Mi.idxK2_d, Mi.idxK1_d, Mi.sliK3_t, Mi.sliK3_l, Mi.oIntK_i, Mi.sliK2_d, Mi.sliK1_d, Mi.lcT_d, Mi.lcE_d, Mi.lcK_d, Mi.lrgK2_d, Mi.lrgK1_d, Mi.consK2_d, Mi.consK1_d, Mi.rng1K_d, Mi.rng2K2_d, Mi.rng2K1_d, Mi.zipO_d, Mi.zipK2_d, Mi.zipK1_d, Mi.enuK_d, Mi.sqK_d, Mi.setK_d, Mi.setTK_d, Mi.putK3_d, Mi.putK2_d, Mi.putK1_d, Mi.appK2_d, Mi.appK1_d, Mi.dropK_d, Mi.retK_d, Mi.iteS_t, Mi.iteS_f, Mi.forK_d, Mi.turnK2_d, Mi.turnK1_t, Mi.turnK1_f, Mi.whK_t, Mi.whK_f, Mi.lcB_nm, Mi.lcB_2, Mi.evE_var, Mi.evE_non, Mi.evE_bl, Mi.evE_int, Mi.evE_str, Mi.evE_gl, Mi.evE_bty, Mi.evE_bin, Mi.evE_neg, Mi.evE_not, Mi.evE_and, Mi.evE_or, Mi.evE_cmp, Mi.evE_chn, Mi.evE_ite, Mi.evE_tup, Mi.evE_lst, Mi.evE_cell, Mi.evE_call, Mi.callP_sto, Mi.evE_bi, Mi.evE_idx, Mi.evE_sli, Mi.evE_lc, Mi.evE_lrg, Mi.evE_lrd, Mi.evA_nil, Mi.evA_cons, Mi.evI_rng1, Mi.evI_rng2, Mi.evI_zip, Mi.evI_enu, Mi.evI_sq, Mi.tstR_false, Mi.tstR_true, Mi.optR_false, Mi.optR_true, Mi.oInt_int, Mi.isOmit_omit, Mi.evS_skip, Mi.evS_seq, Mi.evS_set, Mi.evS_setT, Mi.evS_put, Mi.evS_app, Mi.evS_drop, Mi.evS_ret, Mi.evS_ite, Mi.evS_for, Mi.evS_while, Mi.evS_raise, Mi.sto_some, Mi.sto_none, Mi.val_nx, Mi.val_rt, Mi.setTg_nm, Mi.setTg_nil, Mi.setTg_cons, Mi.wipe_nil, Mi.wipe_cons, Mi.forR_nil, Mi.truV_bl, Mi.truV_non, Mi.truV_int, Mi.add_ii, Mi.sub_ii, Mi.lt_ii, Mi.le_ii, Mi.gt_ii, Mi.ge_ii, Mi.isn_v, Mi.notn_v, Mi.isN_non, Mi.isN_int, Mi.isN_tup, Mi.isN_bl, Mi.isN_str, Mi.eq_ii, Mi.ne_ii, Mi.eq_ss, Mi.ne_ss, Mi.neg_i, Mi.walk_lst, Mi.walk_tup, Mi.walk_scr, Mi.len_tup, Mi.len_lst, Mi.len_scr, Mi.tuple_lst, Mi.tuple_tup, Mi.list_tup, Mi.list_lst, Mi.int_int, Mi.int_bl, Mi.abs_int, Mi.min_int, Mi.max_int, Mi.isi_def, Mi.sum_lst, Mi.all_lst, Mi.any_lst, Mi.ints_map, Mi.bools_map, R.bind_ok, R.bind_ex, R.bind_bad, R.lift_some, R.noEx_ok, List.getElem?_cons_zero, List.getElem?_cons_succ, Option.bind_some, Option.map_some, Option.bind_eq_bind, id_eq, List.set_cons_zero, List.set_cons_succ, if_true, if_false, Bool.false_eq_true, reduceIte, Bool.not_true, Bool.not_false, Ex.isOmit, b0, show ∀ s, isiV (.lst s) "int" = some false from fun _ => rfl, numB]
theorem is_tuple_v (v : PV) (a b : Int) (h : sh1 v = true) : RU N (d + 1) 1 [v, .int a, .int b] st = .ok (.bl (tupN v a b)) st := by
  rw [RU, u1]
  cases v <;> first | (cases h; done) | skip
  · simp (implicitDefEqProofs := false) only [Mi.seqK_nx, Mi.seqK_rt, Mi.andK_t, Mi.andK_f, Mi.orK_t, Mi.orK_f, Mi.forB_nm, Mi.forB_2, Mi.binK2_d, Mi.binK1_d, Mi.negK_d, Mi.truK_d, Mi.tstK_d, Mi.notK_d, Mi.cmpK2_d, Mi.cmpK1_d, Mi.chnK3_t, Mi.chnK3_f, Mi.chnK2_d, Mi.chnK1_d, Mi.iteK_t, Mi.iteK_f, Mi.tupK_d, Mi.lstK_d, Mi.cellK_d, Mi.callK_d, Mi.biK_d, Mi.idxK2_d, Mi.idxK1_d, Mi.sliK3_t, Mi.sliK3_l, Mi.oIntK_i, Mi.sliK2_d, Mi.sliK1_d, Mi.lcT_d, Mi.lcE_d, Mi.lcK_d, Mi.lrgK2_d, Mi.lrgK1_d, Mi.consK2_d, Mi.consK1_d, Mi.rng1K_d, Mi.rng2K2_d, Mi.rng2K1_d, Mi.zipO_d, Mi.zipK2_d, Mi.zipK1_d, Mi.enuK_d, Mi.sqK_d, Mi.setK_d, Mi.setTK_d, Mi.putK3_d, Mi.putK2_d, Mi.putK1_d, Mi.appK2_d, Mi.appK1_d, Mi.dropK_d, Mi.retK_d, Mi.iteS_t, Mi.iteS_f, Mi.forK_d, Mi.turnK2_d, Mi.turnK1_t, Mi.turnK1_f, Mi.whK_t, Mi.whK_f, Mi.lcB_nm, Mi.lcB_2, Mi.evE_var, Mi.evE_non, Mi.evE_bl, Mi.evE_int, Mi.evE_str, Mi.evE_gl, Mi.evE_bty, Mi.evE_bin, Mi.evE_neg, Mi.evE_not, Mi.evE_and, Mi.evE_or, Mi.evE_cmp, Mi.evE_chn, Mi.evE_ite, Mi.evE_tup, Mi.evE_lst, Mi.evE_cell, Mi.evE_call, Mi.callP_sto, Mi.evE_bi, Mi.evE_idx, Mi.evE_sli, Mi.evE_lc, Mi.evE_lrg, Mi.evE_lrd, Mi.evA_nil, Mi.evA_cons, Mi.evI_rng1, Mi.evI_rng2, Mi.evI_zip, Mi.evI_enu, Mi.evI_sq, Mi.tstR_false, Mi.tstR_true, Mi.optR_false, Mi.optR_true, Mi.oInt_int, Mi.isOmit_omit, Mi.evS_skip, Mi.evS_seq, Mi.evS_set, Mi.evS_setT, Mi.evS_put, Mi.evS_app, Mi.evS_drop, Mi.evS_ret, Mi.evS_ite, Mi.evS_for, Mi.evS_while, Mi.evS_raise, Mi.sto_some, Mi.sto_none, Mi.val_nx, Mi.val_rt, Mi.setTg_nm, Mi.setTg_nil, Mi.setTg_cons, Mi.wipe_nil, Mi.wipe_cons, Mi.forR_nil, Mi.truV_bl, Mi.truV_non, Mi.truV_int, Mi.add_ii, Mi.sub_ii, Mi.lt_ii, Mi.le_ii, Mi.gt_ii, Mi.ge_ii, Mi.isn_v, Mi.notn_v, Mi.isN_non, Mi.isN_int, Mi.isN_tup, Mi.isN_bl, Mi.isN_str, Mi.eq_ii, Mi.ne_ii, Mi.eq_ss, Mi.ne_ss, Mi.neg_i, Mi.walk_lst, Mi.walk_tup, Mi.walk_scr, Mi.len_tup, Mi.len_lst, Mi.len_scr, Mi.tuple_lst, Mi.tuple_tup, Mi.list_tup, Mi.list_lst, Mi.int_int, Mi.int_bl, Mi.abs_int, Mi.min_int, Mi.max_int, Mi.isi_def, Mi.sum_lst, Mi.all_lst, Mi.any_lst, Mi.ints_map, Mi.bools_map, R.bind_ok, R.bind_ex, R.bind_bad, R.lift_some, R.noEx_ok, List.getElem?_cons_zero, List.getElem?_cons_succ, Option.bind_some, Option.map_some, Option.bind_eq_bind, id_eq, List.set_cons_zero, List.set_cons_succ, if_true, if_false, Bool.false_eq_true, reduceIte, Bool.not_true, Bool.not_false, Ex.isOmit, b1, show isiV .non "tuple" = some false from rfl, tupN]
  · simp (implicitDefEqProofs := false) only [Mi.seqK_nx, Mi.seqK_rt, Mi.andK_t, Mi.andK_f, Mi.orK_t, Mi.orK_f, Mi.forB_nm, Mi.forB_2, Mi.binK2_d, Mi.binK1_d, Mi.negK_d, Mi.truK_d, Mi.tstK_d, Mi.notK_d, Mi.cmpK2_d, Mi.cmpK1_d, Mi.chnK3_t, Mi.chnK3_f, Mi.chnK2_d, Mi.chnK1_d, Mi.iteK_t, Mi.iteK_f, Mi.tupK_d, Mi.lstK_d, Mi.cellK_d, Mi.callK_d, Mi.biK_d, Mi.idxK2_d, Mi.idxK1_d, Mi.sliK3_t, Mi.sliK3_l, Mi.oIntK_i, Mi.sliK2_d, Mi.sliK1_d, Mi.lcT_d, Mi.lcE_d, Mi.lcK_d, Mi.lrgK2_d, Mi.lrgK1_d, Mi.consK2_d, Mi.consK1_d, Mi.rng1K_d, Mi.rng2K2_d, Mi.rng2K1_d, Mi.zipO_d, Mi.zipK2_d, Mi.zipK1_d, Mi.enuK_d, Mi.sqK_d, Mi.setK_d, Mi.setTK_d, Mi.putK3_d, Mi.putK2_d, Mi.putK1_d, Mi.appK2_d, Mi.appK1_d, Mi.dropK_d, Mi.retK_d, Mi.iteS_t, Mi.iteS_f, Mi.forK_d, Mi.turnK2_d, Mi.turnK1_t, Mi.turnK1_f, Mi.whK_t, Mi.whK_f, Mi.lcB_nm, Mi.lcB_2, Mi.evE_var, Mi.evE_non, Mi.evE_bl, Mi.evE_int, Mi.evE_str, Mi.evE_gl, Mi.evE_bty, Mi.evE_bin, Mi.evE_neg, Mi.evE_not, Mi.evE_and, Mi.evE_or, Mi.evE_cmp, Mi.evE_chn, Mi.evE_ite, Mi.evE_tup, Mi.evE_lst, Mi.evE_cell, Mi.evE_call, Mi.callP_sto, Mi.evE_bi, Mi.evE_idx, Mi.evE_sli, Mi.evE_lc, Mi.evE_lrg, Mi.evE_lrd, Mi.evA_nil, Mi.evA_cons, Mi.evI_rng1, Mi.evI_rng2, Mi.evI_zip, Mi.evI_enu, Mi.evI_sq, Mi.tstR_false, Mi.tstR_true, Mi.optR_false, Mi.optR_true, Mi.oInt_int, Mi.isOmit_omit, Mi.evS_skip, Mi.evS_seq, Mi.evS_set, Mi.evS_setT, Mi.evS_put, Mi.evS_app, Mi.evS_drop, Mi.evS_ret, Mi.evS_ite, Mi.evS_for, Mi.evS_while, Mi.evS_raise, Mi.sto_some, Mi.sto_none, Mi.val_nx, Mi.val_rt, Mi.setTg_nm, Mi.setTg_nil, Mi.setTg_cons, Mi.wipe_nil, Mi.wipe_cons, Mi.forR_nil, Mi.truV_bl, Mi.truV_non, Mi.truV_int, Mi.add_ii, Mi.sub_ii, Mi.lt_ii, Mi.le_ii, Mi.gt_ii, Mi.ge_ii, Mi.isn_v, Mi.notn_v, Mi.isN_non, Mi.isN_int, Mi.isN_tup, Mi.isN_bl, Mi.isN_str, Mi.eq_ii, Mi.ne_ii, Mi.eq_ss, Mi.ne_ss, Mi.neg_i, Mi.walk_lst, Mi.walk_tup, Mi.walk_scr, Mi.len_tup, Mi.len_lst, Mi.len_scr, Mi.tuple_lst, Mi.tuple_tup, Mi.list_tup, Mi.list_lst, Mi.int_int, Mi.int_bl, Mi.abs_int, Mi.min_int, Mi.max_int, Mi.isi_def, Mi.sum_lst, Mi.all_lst, Mi.any_lst, Mi.ints_map, Mi.bools_map, R.bind_ok, R.bind_ex, R.bind_bad, R.lift_some, R.noEx_ok, List.getElem?_cons_zero, List.getElem?_cons_succ, Option.bind_some, Option.map_some, Option.bind_eq_bind, id_eq, List.set_cons_zero, List.set_cons_succ, if_true, if_false, Bool.false_eq_true, reduceIte, Bool.not_true, Bool.not_false, Ex.isOmit, b1, show ∀ b, isiV (.bl b) "tuple" = some false from fun _ => rfl, tupN]
  · simp (implicitDefEqProofs := false) only [Mi.seqK_nx, Mi.seqK_rt, Mi.andK_t, Mi.andK_f, Mi.orK_t, Mi.orK_f, Mi.forB_nm, Mi.forB_2, Mi.binK2_d, Mi.binK1_d, Mi.negK_d, Mi.truK_d, Mi.tstK_d, Mi.notK_d, Mi.cmpK2_d, Mi.cmpK1_d, Mi.chnK3_t, Mi.chnK3_f, Mi.chnK2_d, Mi.chnK1_d, Mi.iteK_t, Mi.iteK_f, Mi.tupK_d, Mi.lstK_d, Mi.cellK_d, Mi.callK_d, Mi.biK_d, Mi.idxK2_d, Mi.idxK1_d, Mi.sliK3_t, Mi.sliK3_l, Mi.oIntK_i, Mi.sliK2_d, Mi.sliK1_d, Mi.lcT_d, Mi.lcE_d, Mi.lcK_d, Mi.lrgK2_d, Mi.lrgK1_d, Mi.consK2_d, Mi.consK1_d, Mi.rng1K_d, Mi.rng2K2_d, Mi.rng2K1_d, Mi.zipO_d, Mi.zipK2_d, Mi.zipK1_d, Mi.enuK_d, Mi.sqK_d, Mi.setK_d, Mi.setTK_d, Mi.putK3_d, Mi.putK2_d, Mi.putK1_d, Mi.appK2_d, Mi.appK1_d, Mi.dropK_d, Mi.retK_d, Mi.iteS_t, Mi.iteS_f, Mi.forK_d, Mi.turnK2_d, Mi.turnK1_t, Mi.turnK1_f, Mi.whK_t, Mi.whK_f, Mi.lcB_nm, Mi.lcB_2, Mi.evE_var, Mi.evE_non, Mi.evE_bl, Mi.evE_int, Mi.evE_str, Mi.evE_gl, Mi.evE_bty, Mi.evE_bin, Mi.evE_neg, Mi.evE_not, Mi.evE_and, Mi.evE_or, Mi.evE_cmp, Mi.evE_chn, Mi.evE_ite, Mi.evE_tup, Mi.evE_lst, Mi.evE_cell, Mi.evE_call, Mi.callP_sto, Mi.evE_bi, Mi.evE_idx, Mi.evE_sli, Mi.evE_lc, Mi.evE_lrg, Mi.evE_lrd, Mi.evA_nil, Mi.evA_cons, Mi.evI_rng1, Mi.evI_rng2, Mi.evI_zip, Mi.evI_enu, Mi.evI_sq, Mi.tstR_false, Mi.tstR_true, Mi.optR_false, Mi.optR_true, Mi.oInt_int, Mi.isOmit_omit, Mi.evS_skip, Mi.evS_seq, Mi.evS_set, Mi.evS_setT, Mi.evS_put, Mi.evS_app, Mi.evS_drop, Mi.evS_ret, Mi.evS_ite, Mi.evS_for, Mi.evS_while, Mi.evS_raise, Mi.sto_some, Mi.sto_none, Mi.val_nx, Mi.val_rt, Mi.setTg_nm, Mi.setTg_nil, Mi.setTg_cons, Mi.wipe_nil, Mi.wipe_cons, Mi.forR_nil, Mi.truV_bl, Mi.truV_non, Mi.truV_int, Mi.add_ii, Mi.sub_ii, Mi.lt_ii, Mi.le_ii, Mi.gt_ii, Mi.ge_ii, Mi.isn_v, Mi.notn_v, Mi.isN_non, Mi.isN_int, Mi.isN_tup, Mi.isN_bl, Mi.isN_str, Mi.eq_ii, Mi.ne_ii, Mi.eq_ss, Mi.ne_ss, Mi.neg_i, Mi.walk_lst, Mi.walk_tup, Mi.walk_scr, Mi.len_tup, Mi.len_lst, Mi.len_scr, Mi.tuple_lst, Mi.tuple_tup, Mi.list_tup, Mi.list_lst, Mi.int_int, Mi.int_bl, Mi.abs_int, Mi.min_int, Mi.max_int, Mi.isi_def, Mi.sum_lst, Mi.all_lst, Mi.any_lst, Mi.ints_map, Mi.bools_map, R.bind_ok, R.bind_ex, R.bind_bad, R.lift_some, R.noEx_ok, List.getElem?_cons_zero, List.getElem?_cons_succ, Option.bind_some, Option.map_some, Option.bind_eq_bind, id_eq, List.set_cons_zero, List.set_cons_succ, if_true, if_false, Bool.false_eq_true, reduceIte, Bool.not_true, Bool.not_false, Ex.isOmit, b1, show ∀ b, isiV (.int b) "tuple" = some false from fun _ => rfl, tupN]
  · simp (implicitDefEqProofs := false) only [Mi.seqK_nx, Mi.seqK_rt, Mi.andK_t, Mi.andK_f, Mi.orK_t, Mi.orK_f, Mi.forB_nm, Mi.forB_2, Mi.binK2_d, Mi.binK1_d, Mi.negK_d, Mi.truK_d, Mi.tstK_d, Mi.notK_d, Mi.cmpK2_d, Mi.cmpK1_d, Mi.chnK3_t, Mi.chnK3_f, Mi.chnK2_d, Mi.chnK1_d, Mi.iteK_t, Mi.iteK_f, Mi.tupK_d, Mi.lstK_d, Mi.cellK_d, Mi.callK_d, Mi.biK_d, Mi.idxK2_d, Mi.idxK1_d, Mi.sliK3_t, Mi.sliK3_l, Mi.oIntK_i, Mi.sliK2_d, Mi.sliK1_d, Mi.lcT_d, Mi.lcE_d, Mi.lcK_d, Mi.lrgK2_d, Mi.lrgK1_d, Mi.consK2_d, Mi.consK1_d, Mi.rng1K_d, Mi.rng2K2_d, Mi.rng2K1_d, Mi.zipO_d, Mi.zipK2_d, Mi.zipK1_d, Mi.enuK_d, Mi.sqK_d, Mi.setK_d, Mi.setTK_d, Mi.putK3_d, Mi.putK2_d, Mi.putK1_d, Mi.appK2_d, Mi.appK1_d, Mi.dropK_d, Mi.retK_d, Mi.iteS_t, Mi.iteS_f, Mi.forK_d, Mi.turnK2_d, Mi.turnK1_t, Mi.turnK1_f, Mi.whK_t, Mi.whK_f, Mi.lcB_nm, Mi.lcB_2, Mi.evE_var, Mi.evE_non, Mi.evE_bl, Mi.evE_int, Mi.evE_str, Mi.evE_gl, Mi.evE_bty, Mi.evE_bin, Mi.evE_neg, Mi.evE_not, Mi.evE_and, Mi.evE_or, Mi.evE_cmp, Mi.evE_chn, Mi.evE_ite, Mi.evE_tup, Mi.evE_lst, Mi.evE_cell, Mi.evE_call, Mi.callP_sto, Mi.evE_bi, Mi.evE_idx, Mi.evE_sli, Mi.evE_lc, Mi.evE_lrg, Mi.evE_lrd, Mi.evA_nil, Mi.evA_cons, Mi.evI_rng1, Mi.evI_rng2, Mi.evI_zip, Mi.evI_enu, Mi.evI_sq, Mi.tstR_false, Mi.tstR_true, Mi.optR_false, Mi.optR_true, Mi.oInt_int, Mi.isOmit_omit, Mi.evS_skip, Mi.evS_seq, Mi.evS_set, Mi.evS_setT, Mi.evS_put, Mi.evS_app, Mi.evS_drop, Mi.evS_ret, Mi.evS_ite, Mi.evS_for, Mi.evS_while, Mi.evS_raise, Mi.sto_some, Mi.sto_none, Mi.val_nx, Mi.val_rt, Mi.setTg_nm, Mi.setTg_nil, Mi.setTg_cons, Mi.wipe_nil, Mi.wipe_cons, Mi.forR_nil, Mi.truV_bl, Mi.truV_non, Mi.truV_int, Mi.add_ii, Mi.sub_ii, Mi.lt_ii, Mi.le_ii, Mi.gt_ii, Mi.ge_ii, Mi.isn_v, Mi.notn_v, Mi.isN_non, Mi.isN_int, Mi.isN_tup, Mi.isN_bl, Mi.isN_str, Mi.eq_ii, Mi.ne_ii, Mi.eq_ss, Mi.ne_ss, Mi.neg_i, Mi.walk_lst, Mi.walk_tup, Mi.walk_scr, Mi.len_tup, Mi.len_lst, Mi.len_scr, Mi.tuple_lst, Mi.tuple_tup, Mi.list_tup, Mi.list_lst, Mi.int_int, Mi.int_bl, Mi.abs_int, Mi.min_int, Mi.max_int, Mi.isi_def, Mi.sum_lst, Mi.all_lst, Mi.any_lst, Mi.ints_map, Mi.bools_map, R.bind_ok, R.bind_ex, R.bind_bad, R.lift_some, R.noEx_ok, List.getElem?_cons_zero, List.getElem?_cons_succ, Option.bind_some, Option.map_some, Option.bind_eq_bind, id_eq, List.set_cons_zero, List.set_cons_succ, if_true, if_false, Bool.false_eq_true, reduceIte, Bool.not_true, Bool.not_false, Ex.isOmit, b1, show ∀ b, isiV (.str b) "tuple" = some false from fun _ => rfl, tupN]
  · rename_i xs
    simp (implicitDefEqProofs := false) only [Mi.seqK_nx, Mi.seqK_rt, Mi.andK_t, Mi.andK_f, Mi.orK_t, Mi.orK_f, Mi.forB_nm, Mi.forB_2, Mi.binK2_d, Mi.binK1_d, Mi.negK_d, Mi.truK_d, Mi.tstK_d, Mi.notK_d, Mi.cmpK2_d, Mi.cmpK1_d, Mi.chnK3_t, Mi.chnK3_f, Mi.chnK2_d, Mi.chnK1_d, Mi.iteK_t, Mi.iteK_f, Mi.tupK_d, Mi.lstK_d, Mi.cellK_d, Mi.callK_d, Mi.biK_d, Mi.idxK2_d, Mi.idxK1_d, Mi.sliK3_t, Mi.sliK3_l, Mi.oIntK_i, Mi.sliK2_d, Mi.sliK1_d, Mi.lcT_d, Mi.lcE_d, Mi.lcK_d, Mi.lrgK2_d, Mi.lrgK1_d, Mi.consK2_d, Mi.consK1_d, Mi.rng1K_d, Mi.rng2K2_d, Mi.rng2K1_d, Mi.zipO_d, Mi.zipK2_d, Mi.zipK1_d, Mi.enuK_d, Mi.sqK_d, Mi.setK_d, Mi.setTK_d, Mi.putK3_d, Mi.putK2_d, Mi.putK1_d, Mi.appK2_d, Mi.appK1_d, Mi.dropK_d, Mi.retK_d, Mi.iteS_t, Mi.iteS_f, Mi.forK_d, Mi.turnK2_d, Mi.turnK1_t, Mi.turnK1_f, Mi.whK_t, Mi.whK_f, Mi.lcB_nm, Mi.lcB_2, Mi.evE_var, Mi.evE_non, Mi.evE_bl, Mi.evE_int, Mi.evE_str, Mi.evE_gl, Mi.evE_bty, Mi.evE_bin, Mi.evE_neg, Mi.evE_not, Mi.evE_and, Mi.evE_or, Mi.evE_cmp, Mi.evE_chn, Mi.evE_ite, Mi.evE_tup, Mi.evE_lst, Mi.evE_cell, Mi.evE_call, Mi.callP_sto, Mi.evE_bi, Mi.evE_idx, Mi.evE_sli, Mi.evE_lc, Mi.evE_lrg, Mi.evE_lrd, Mi.evA_nil, Mi.evA_cons, Mi.evI_rng1, Mi.evI_rng2, Mi.evI_zip, Mi.evI_enu, Mi.evI_sq, Mi.tstR_false, Mi.tstR_true, Mi.optR_false, Mi.optR_true, Mi.oInt_int, Mi.isOmit_omit, Mi.evS_skip, Mi.evS_seq, Mi.evS_set, Mi.evS_setT, Mi.evS_put, Mi.evS_app, Mi.evS_drop, Mi.evS_ret, Mi.evS_ite, Mi.evS_for, Mi.evS_while, Mi.evS_raise, Mi.sto_some, Mi.sto_none, Mi.val_nx, Mi.val_rt, Mi.setTg_nm, Mi.setTg_nil, Mi.setTg_cons, Mi.wipe_nil, Mi.wipe_cons, Mi.forR_nil, Mi.truV_bl, Mi.truV_non, Mi.truV_int, Mi.add_ii, Mi.sub_ii, Mi.lt_ii, Mi.le_ii, Mi.gt_ii, Mi.ge_ii, Mi.isn_v, Mi.notn_v, Mi.isN_non, Mi.isN_int, Mi.isN_tup, Mi.isN_bl, Mi.isN_str, Mi.eq_ii, Mi.ne_ii, Mi.eq_ss, Mi.ne_ss, Mi.neg_i, Mi.walk_lst, Mi.walk_tup, Mi.walk_scr, Mi.len_tup, Mi.len_lst, Mi.len_scr, Mi.tuple_lst, Mi.tuple_tup, Mi.list_tup, Mi.list_lst, Mi.int_int, Mi.int_bl, Mi.abs_int, Mi.min_int, Mi.max_int, Mi.isi_def, Mi.sum_lst, Mi.all_lst, Mi.any_lst, Mi.ints_map, Mi.bools_map, R.bind_ok, R.bind_ex, R.bind_bad, R.lift_some, R.noEx_ok, List.getElem?_cons_zero, List.getElem?_cons_succ, Option.bind_some, Option.map_some, Option.bind_eq_bind, id_eq, List.set_cons_zero, List.set_cons_succ, if_true, if_false, Bool.false_eq_true, reduceIte, Bool.not_true, Bool.not_false, Ex.isOmit, b1, show isiV (.tup xs) "tuple" = some true from rfl, tupN]
    cases decide (a ≤ (xs.length : Int)) <;> simp (implicitDefEqProofs := false) only [Mi.seqK_nx, Mi.seqK_rt, Mi.andK_t, Mi.andK_f, Mi.orK_t, Mi.orK_f, Mi.forB_nm, Mi.forB_2, Mi.binK2_d, Mi.binK1_d, Mi.negK_d, Mi.truK_d, Mi.tstK_d, Mi.notK_d, Mi.cmpK2_d, Mi.cmpK1_d, Mi.chnK3_t, Mi.chnK3_f, Mi.chnK2_d, Mi.chnK1_d, Mi.iteK_t, Mi.iteK_f, Mi.tupK_d, Mi.lstK_d, Mi.cellK_d, Mi.callK_d, Mi.biK_d, Mi.idxK2_d, Mi.idxK1_d, Mi.sliK3_t, Mi.sliK3_l, Mi.oIntK_i, Mi.sliK2_d, Mi.sliK1_d, Mi.lcT_d, Mi.lcE_d, Mi.lcK_d, Mi.lrgK2_d, Mi.lrgK1_d, Mi.consK2_d, Mi.consK1_d, Mi.rng1K_d, Mi.rng2K2_d, Mi.rng2K1_d, Mi.zipO_d, Mi.zipK2_d, Mi.zipK1_d, Mi.enuK_d, Mi.sqK_d, Mi.setK_d, Mi.setTK_d, Mi.putK3_d, Mi.putK2_d, Mi.putK1_d, Mi.appK2_d, Mi.appK1_d, Mi.dropK_d, Mi.retK_d, Mi.iteS_t, Mi.iteS_f, Mi.forK_d, Mi.turnK2_d, Mi.turnK1_t, Mi.turnK1_f, Mi.whK_t, Mi.whK_f, Mi.lcB_nm, Mi.lcB_2, Mi.evE_var, Mi.evE_non, Mi.evE_bl, Mi.evE_int, Mi.evE_str, Mi.evE_gl, Mi.evE_bty, Mi.evE_bin, Mi.evE_neg, Mi.evE_not, Mi.evE_and, Mi.evE_or, Mi.evE_cmp, Mi.evE_chn, Mi.evE_ite, Mi.evE_tup, Mi.evE_lst, Mi.evE_cell, Mi.evE_call, Mi.callP_sto, Mi.evE_bi, Mi.evE_idx, Mi.evE_sli, Mi.evE_lc, Mi.evE_lrg, Mi.evE_lrd, Mi.evA_nil, Mi.evA_cons, Mi.evI_rng1, Mi.evI_rng2, Mi.evI_zip, Mi.evI_enu, Mi.evI_sq, Mi.tstR_false, Mi.tstR_true, Mi.optR_false, Mi.optR_true, Mi.oInt_int, Mi.isOmit_omit, Mi.evS_skip, Mi.evS_seq, Mi.evS_set, Mi.evS_setT, Mi.evS_put, Mi.evS_app, Mi.evS_drop, Mi.evS_ret, Mi.evS_ite, Mi.evS_for, Mi.evS_while, Mi.evS_raise, Mi.sto_some, Mi.sto_none, Mi.val_nx, Mi.val_rt, Mi.setTg_nm, Mi.setTg_nil, Mi.setTg_cons, Mi.wipe_nil, Mi.wipe_cons, Mi.forR_nil, Mi.truV_bl, Mi.truV_non, Mi.truV_int, Mi.add_ii, Mi.sub_ii, Mi.lt_ii, Mi.le_ii, Mi.gt_ii, Mi.ge_ii, Mi.isn_v, Mi.notn_v, Mi.isN_non, Mi.isN_int, Mi.isN_tup, Mi.isN_bl, Mi.isN_str, Mi.eq_ii, Mi.ne_ii, Mi.eq_ss, Mi.ne_ss, Mi.neg_i, Mi.walk_lst, Mi.walk_tup, Mi.walk_scr, Mi.len_tup, Mi.len_lst, Mi.len_scr, Mi.tuple_lst, Mi.tuple_tup, Mi.list_tup, Mi.list_lst, Mi.int_int, Mi.int_bl, Mi.abs_int, Mi.min_int, Mi.max_int, Mi.isi_def, Mi.sum_lst, Mi.all_lst, Mi.any_lst, Mi.ints_map, Mi.bools_map, R.bind_ok, R.bind_ex, R.bind_bad, R.lift_some, R.noEx_ok, List.getElem?_cons_zero, List.getElem?_cons_succ, Option.bind_some, Option.map_some, Option.bind_eq_bind, id_eq, List.set_cons_zero, List.set_cons_succ, if_true, if_false, Bool.false_eq_true, reduceIte, Bool.not_true, Bool.not_false, Ex.isOmit, Bool.true_and, Bool.false_and]
  · simp (implicitDefEqProofs := false) only [Mi.seqK_nx, Mi.seqK_rt, Mi.andK_t, Mi.andK_f, Mi.orK_t, Mi.orK_f, Mi.forB_nm, Mi.forB_2, Mi.binK2_d, Mi.binK1_d, Mi.negK_d, Mi.truK_d, Mi.tstK_d, Mi.notK_d, Mi.cmpK2_d, Mi.cmpK1_d, Mi.chnK3_t, Mi.chnK3_f, Mi.chnK2_d, Mi.chnK1_d, Mi.iteK_t, Mi.iteK_f, Mi.tupK_d, Mi.lstK_d, Mi.cellK_d, Mi.callK_d, Mi.biK_d, Mi.idxK2_d, Mi.idxK1_d, Mi.sliK3_t, Mi.sliK3_l, Mi.oIntK_i, Mi.sliK2_d, Mi.sliK1_d, Mi.lcT_d, Mi.lcE_d, Mi.lcK_d, Mi.lrgK2_d, Mi.lrgK1_d, Mi.consK2_d, Mi.consK1_d, Mi.rng1K_d, Mi.rng2K2_d, Mi.rng2K1_d, Mi.zipO_d, Mi.zipK2_d, Mi.zipK1_d, Mi.enuK_d, Mi.sqK_d, Mi.setK_d, Mi.setTK_d, Mi.putK3_d, Mi.putK2_d, Mi.putK1_d, Mi.appK2_d, Mi.appK1_d, Mi.dropK_d, Mi.retK_d, Mi.iteS_t, Mi.iteS_f, Mi.forK_d, Mi.turnK2_d, Mi.turnK1_t, Mi.turnK1_f, Mi.whK_t, Mi.whK_f, Mi.lcB_nm, Mi.lcB_2, Mi.evE_var, Mi.evE_non, Mi.evE_bl, Mi.evE_int, Mi.evE_str, Mi.evE_gl, Mi.evE_bty, Mi.evE_bin, Mi.evE_neg, Mi.evE_not, Mi.evE_and, Mi.evE_or, Mi.evE_cmp, Mi.evE_chn, Mi.evE_ite, Mi.evE_tup, Mi.evE_lst, Mi.evE_cell, Mi.evE_call, Mi.callP_sto, Mi.evE_bi, Mi.evE_idx, Mi.evE_sli, Mi.evE_lc, Mi.evE_lrg, Mi.evE_lrd, Mi.evA_nil, Mi.evA_cons, Mi.evI_rng1, Mi.evI_rng2, Mi.evI_zip, Mi.evI_enu, Mi.evI_sq, Mi.tstR_false, Mi.tstR_true, Mi.optR_false, Mi.optR_true, Mi.oInt_int, Mi.isOmit_omit, Mi.evS_skip, Mi.evS_seq, Mi.evS_set, Mi.evS_setT, Mi.evS_put, Mi.evS_app, Mi.evS_drop, Mi.evS_ret, Mi.evS_ite, Mi.evS_for, Mi.evS_while, Mi.evS_raise, Mi.sto_some, Mi.sto_none, Mi.val_nx, Mi.val_rt, Mi.setTg_nm, Mi.setTg_nil, Mi.setTg_cons, Mi.wipe_nil, Mi.wipe_cons, Mi.forR_nil, Mi.truV_bl, Mi.truV_non, Mi.truV_int, Mi.add_ii, Mi.sub_ii, Mi.lt_ii, Mi.le_ii, Mi.gt_ii, Mi.ge_ii, Mi.isn_v, Mi.notn_v, Mi.isN_non, Mi.isN_int, Mi.isN_tup, Mi.isN_bl, Mi.isN_str, Mi.eq_ii, Mi.ne_ii, Mi.eq_ss, Mi.ne_ss, Mi.neg_i, Mi.walk_lst, Mi.walk_tup, Mi.walk_scr, Mi.len_tup, Mi.len_lst, Mi.len_scr, Mi.tuple_lst, Mi.tuple_tup, Mi.list_tup, Mi.list_lst, Mi.int_int, Mi.int_bl, Mi.abs_int, Mi.min_int, Mi.max_int, Mi.isi_def, Mi.sum_lst, Mi.all_lst, Mi.any_lst, Mi.ints_map, Mi.bools_map, R.bind_ok, R.bind_ex, R.bind_bad, R.lift_some, R.noEx_ok, List.getElem?_cons_zero, List.getElem?_cons_succ, Option.bind_some, Option.map_some, Option.bind_eq_bind, id_eq, List.set_cons_zero, List.set_cons_succ, if_true, if_false, Bool.false_eq_true, reduceIte, Bool.not_true, Bool.not_false, Ex.isOmit, b1, show ∀ b, isiV (.lst b) "tuple" = some false from fun _ => rfl, tupN]
theorem is_word_v (v : PV) (ws : List Str) (h : sh1 v = true) : RU N (d + 1) 2 [v, .tup (ws.map .str)] st = .ok (.bl (wordB v ws)) st := by
  rw [RU, u2]
  cases v <;> first | (cases h; done) | skip
  · simp (implicitDefEqProofs := false) only [Mi.seqK_nx, Mi.seqK_rt, Mi.andK_t, Mi.andK_f, Mi.orK_t, Mi.orK_f, Mi.forB_nm, Mi.forB_2, Mi.binK2_d, Mi.binK1_d, Mi.negK_d, Mi.truK_d, Mi.tstK_d, Mi.notK_d, Mi.cmpK2_d, Mi.cmpK1_d, Mi.chnK3_t, Mi.chnK3_f, Mi.chnK2_d, Mi.chnK1_d, Mi.iteK_t, Mi.iteK_f, Mi.tupK_d, Mi.lstK_d, Mi.cellK_d, Mi.callK_d, Mi.biK_d, Mi.idxK2_d, Mi.idxK1_d, Mi.sliK3_t, Mi.sliK3_l, Mi.oIntK_i, Mi.sliK2_d, Mi.sliK1_d, Mi.lcT_d, Mi.lcE_d, Mi.lcK_d, Mi.lrgK2_d, Mi.lrgK1_d, Mi.consK2_d, Mi.consK1_d, Mi.rng1K_d, Mi.rng2K2_d, Mi.rng2K1_d, Mi.zipO_d, Mi.zipK2_d, Mi.zipK1_d, Mi.enuK_d, Mi.sqK_d, Mi.setK_d, Mi.setTK_d, Mi.putK3_d, Mi.putK2_d, Mi.putK1_d, Mi.appK2_d, Mi.appK1_d, Mi.dropK_d, Mi.retK_d, Mi.iteS_t, Mi.iteS_f, Mi.forK_d, Mi.turnK2_d, Mi.turnK1_t, Mi.turnK1_f, Mi.whK_t, Mi.whK_f, Mi.lcB_nm, Mi.lcB_2, Mi.evE_var, Mi.evE_non, Mi.evE_bl, Mi.evE_int, Mi.evE_str, Mi.evE_gl, Mi.evE_bty, Mi.evE_bin, Mi.evE_neg, Mi.evE_not, Mi.evE_and, Mi.evE_or, Mi.evE_cmp, Mi.evE_chn, Mi.evE_ite, Mi.evE_tup, Mi.evE_lst, Mi.evE_cell, Mi.evE_call, Mi.callP_sto, Mi.evE_bi, Mi.evE_idx, Mi.evE_sli, Mi.evE_lc, Mi.evE_lrg, Mi.evE_lrd, Mi.evA_nil, Mi.evA_cons, Mi.evI_rng1, Mi.evI_rng2, Mi.evI_zip, Mi.evI_enu, Mi.evI_sq, Mi.tstR_false, Mi.tstR_true, Mi.optR_false, Mi.optR_true, Mi.oInt_int, Mi.isOmit_omit, Mi.evS_skip, Mi.evS_seq, Mi.evS_set, Mi.evS_setT, Mi.evS_put, Mi.evS_app, Mi.evS_drop, Mi.evS_ret, Mi.evS_ite, Mi.evS_for, Mi.evS_while, Mi.evS_raise, Mi.sto_some, Mi.sto_none, Mi.val_nx, Mi.val_rt, Mi.setTg_nm, Mi.setTg_nil, Mi.setTg_cons, Mi.wipe_nil, Mi.wipe_cons, Mi.forR_nil, Mi.truV_bl, Mi.truV_non, Mi.truV_int, Mi.add_ii, Mi.sub_ii, Mi.lt_ii, Mi.le_ii, Mi.gt_ii, Mi.ge_ii, Mi.isn_v, Mi.notn_v, Mi.isN_non, Mi.isN_int, Mi.isN_tup, Mi.isN_bl, Mi.isN_str, Mi.eq_ii, Mi.ne_ii, Mi.eq_ss, Mi.ne_ss, Mi.neg_i, Mi.walk_lst, Mi.walk_tup, Mi.walk_scr, Mi.len_tup, Mi.len_lst, Mi.len_scr, Mi.tuple_lst, Mi.tuple_tup, Mi.list_tup, Mi.list_lst, Mi.int_int, Mi.int_bl, Mi.abs_int, Mi.min_int, Mi.max_int, Mi.isi_def, Mi.sum_lst, Mi.all_lst, Mi.any_lst, Mi.ints_map, Mi.bools_map, R.bind_ok, R.bind_ex, R.bind_bad, R.lift_some, R.noEx_ok, List.getElem?_cons_zero, List.getElem?_cons_succ, Option.bind_some, Option.map_some, Option.bind_eq_bind, id_eq, List.set_cons_zero, List.set_cons_succ, if_true, if_false, Bool.false_eq_true, reduceIte, Bool.not_true, Bool.not_false, Ex.isOmit, b2, show isiV .non "str" = some false from rfl, wordB]
  · simp (implicitDefEqProofs := false) only [Mi.seqK_nx, Mi.seqK_rt, Mi.andK_t, Mi.andK_f, Mi.orK_t, Mi.orK_f, Mi.forB_nm, Mi.forB_2, Mi.binK2_d, Mi.binK1_d, Mi.negK_d, Mi.truK_d, Mi.tstK_d, Mi.notK_d, Mi.cmpK2_d, Mi.cmpK1_d, Mi.chnK3_t, Mi.chnK3_f, Mi.chnK2_d, Mi.chnK1_d, Mi.iteK_t, Mi.iteK_f, Mi.tupK_d, Mi.lstK_d, Mi.cellK_d, Mi.callK_d, Mi.biK_d, Mi.idxK2_d, Mi.idxK1_d, Mi.sliK3_t, Mi.sliK3_l, Mi.oIntK_i, Mi.sliK2_d, Mi.sliK1_d, Mi.lcT_d, Mi.lcE_d, Mi.lcK_d, Mi.lrgK2_d, Mi.lrgK1_d, Mi.consK2_d, Mi.consK1_d, Mi.rng1K_d, Mi.rng2K2_d, Mi.rng2K1_d, Mi.zipO_d, Mi.zipK2_d, Mi.zipK1_d, Mi.enuK_d, Mi.sqK_d, Mi.setK_d, Mi.setTK_d, Mi.putK3_d, Mi.putK2_d, Mi.putK1_d, Mi.appK2_d, Mi.appK1_d, Mi.dropK_d, Mi.retK_d, Mi.iteS_t, Mi.iteS_f, Mi.forK_d, Mi.turnK2_d, Mi.turnK1_t, Mi.turnK1_f, Mi.whK_t, Mi.whK_f, Mi.lcB_nm, Mi.lcB_2, Mi.evE_var, Mi.evE_non, Mi.evE_bl, Mi.evE_int, Mi.evE_str, Mi.evE_gl, Mi.evE_bty, Mi.evE_bin, Mi.evE_neg, Mi.evE_not, Mi.evE_and, Mi.evE_or, Mi.evE_cmp, Mi.evE_chn, Mi.evE_ite, Mi.evE_tup, Mi.evE_lst, Mi.evE_cell, Mi.evE_call, Mi.callP_sto, Mi.evE_bi, Mi.evE_idx, Mi.evE_sli, Mi.evE_lc, Mi.evE_lrg, Mi.evE_lrd, Mi.evA_nil, Mi.evA_cons, Mi.evI_rng1, Mi.evI_rng2, Mi.evI_zip, Mi.evI_enu, Mi.evI_sq, Mi.tstR_false, Mi.tstR_true, Mi.optR_false, Mi.optR_true, Mi.oInt_int, Mi.isOmit_omit, Mi.evS_skip, Mi.evS_seq, Mi.evS_set, Mi.evS_setT, Mi.evS_put, Mi.evS_app, Mi.evS_drop, Mi.evS_ret, Mi.evS_ite, Mi.evS_for, Mi.evS_while, Mi.evS_raise, Mi.sto_some, Mi.sto_none, Mi.val_nx, Mi.val_rt, Mi.setTg_nm, Mi.setTg_nil, Mi.setTg_cons, Mi.wipe_nil, Mi.wipe_cons, Mi.forR_nil, Mi.truV_bl, Mi.truV_non, Mi.truV_int, Mi.add_ii, Mi.sub_ii, Mi.lt_ii, Mi.le_ii, Mi.gt_ii, Mi.ge_ii, Mi.isn_v, Mi.notn_v, Mi.isN_non, Mi.isN_int, Mi.isN_tup, Mi.isN_bl, Mi.isN_str, Mi.eq_ii, Mi.ne_ii, Mi.eq_ss, Mi.ne_ss, Mi.neg_i, Mi.walk_lst, Mi.walk_tup, Mi.walk_scr, Mi.len_tup, Mi.len_lst, Mi.len_scr, Mi.tuple_lst, Mi.tuple_tup, Mi.list_tup, Mi.list_lst, Mi.int_int, Mi.int_bl, Mi.abs_int, Mi.min_int, Mi.max_int, Mi.isi_def, Mi.sum_lst, Mi.all_lst, Mi.any_lst, Mi.ints_map, Mi.bools_map, R.bind_ok, R.bind_ex, R.bind_bad, R.lift_some, R.noEx_ok, List.getElem?_cons_zero, List.getElem?_cons_succ, Option.bind_some, Option.map_some, Option.bind_eq_bind, id_eq, List.set_cons_zero, List.set_cons_succ, if_true, if_false, Bool.false_eq_true, reduceIte, Bool.not_true, Bool.not_false, Ex.isOmit, b2, show ∀ b, isiV (.bl b) "str" = some false from fun _ => rfl, wordB]
  · simp (implicitDefEqProofs := false) only [Mi.seqK_nx, Mi.seqK_rt, Mi.andK_t, Mi.andK_f, Mi.orK_t, Mi.orK_f, Mi.forB_nm, Mi.forB_2, Mi.binK2_d, Mi.binK1_d, Mi.negK_d, Mi.truK_d, Mi.tstK_d, Mi.notK_d, Mi.cmpK2_d, Mi.cmpK1_d, Mi.chnK3_t, Mi.chnK3_f, Mi.chnK2_d, Mi.chnK1_d, Mi.iteK_t, Mi.iteK_f, Mi.tupK_d, Mi.lstK_d, Mi.cellK_d, Mi.callK_d, Mi.biK_d, Mi.idxK2_d, Mi.idxK1_d, Mi.sliK3_t, Mi.sliK3_l, Mi.oIntK_i, Mi.sliK2_d, Mi.sliK1_d, Mi.lcT_d, Mi.lcE_d, Mi.lcK_d, Mi.lrgK2_d, Mi.lrgK1_d, Mi.consK2_d, Mi.consK1_d, Mi.rng1K_d, Mi.rng2K2_d, Mi.rng2K1_d, Mi.zipO_d, Mi.zipK2_d, Mi.zipK1_d, Mi.enuK_d, Mi.sqK_d, Mi.setK_d, Mi.setTK_d, Mi.putK3_d, Mi.putK2_d, Mi.putK1_d, Mi.appK2_d, Mi.appK1_d, Mi.dropK_d, Mi.retK_d, Mi.iteS_t, Mi.iteS_f, Mi.forK_d, Mi.turnK2_d, Mi.turnK1_t, Mi.turnK1_f, Mi.whK_t, Mi.whK_f, Mi.lcB_nm, Mi.lcB_2, Mi.evE_var, Mi.evE_non, Mi.evE_bl, Mi.evE_int, Mi.evE_str, Mi.evE_gl, Mi.evE_bty, Mi.evE_bin, Mi.evE_neg, Mi.evE_not, Mi.evE_and, Mi.evE_or, Mi.evE_cmp, Mi.evE_chn, Mi.evE_ite, Mi.evE_tup, Mi.evE_lst, Mi.evE_cell, Mi.evE_call, Mi.callP_sto, Mi.evE_bi, Mi.evE_idx, Mi.evE_sli, Mi.evE_lc, Mi.evE_lrg, Mi.evE_lrd, Mi.evA_nil, Mi.evA_cons, Mi.evI_rng1, Mi.evI_rng2, Mi.evI_zip, Mi.evI_enu, Mi.evI_sq, Mi.tstR_false, Mi.tstR_true, Mi.optR_false, Mi.optR_true, Mi.oInt_int, Mi.isOmit_omit, Mi.evS_skip, Mi.evS_seq, Mi.evS_set, Mi.evS_setT, Mi.evS_put, Mi.evS_app, Mi.evS_drop, Mi.evS_ret, Mi.evS_ite, Mi.evS_for, Mi.evS_while, Mi.evS_raise, Mi.sto_some, Mi.sto_none, Mi.val_nx, Mi.val_rt, Mi.setTg_nm, Mi.setTg_nil, Mi.setTg_cons, Mi.wipe_nil, Mi.wipe_cons, Mi.forR_nil, Mi.truV_bl, Mi.truV_non, Mi.truV_int, Mi.add_ii, Mi.sub_ii, Mi.lt_ii, Mi.le_ii, Mi.gt_ii, Mi.ge_ii, Mi.isn_v, Mi.notn_v, Mi.isN_non, Mi.isN_int, Mi.isN_tup, Mi.isN_bl, Mi.isN_str, Mi.eq_ii, Mi.ne_ii, Mi.eq_ss, Mi.ne_ss, Mi.neg_i, Mi.walk_lst, Mi.walk_tup, Mi.walk_scr, Mi.len_tup, Mi.len_lst, Mi.len_scr, Mi.tuple_lst, Mi.tuple_tup, Mi.list_tup, Mi.list_lst, Mi.int_int, Mi.int_bl, Mi.abs_int, Mi.min_int, Mi.max_int, Mi.isi_def, Mi.sum_lst, Mi.all_lst, Mi.any_lst, Mi.ints_map, Mi.bools_map, R.bind_ok, R.bind_ex, R.bind_bad, R.lift_some, R.noEx_ok, List.getElem?_cons_zero, List.getElem?_cons_succ, Option.bind_some, Option.map_some, Option.bind_eq_bind, id_eq, List.set_cons_zero, List.set_cons_succ, if_true, if_false, Bool.false_eq_true, reduceIte, Bool.not_true, Bool.not_false, Ex.isOmit, b2, show ∀ b, isiV (.int b) "str" = some false from fun _ => rfl, wordB]
  · simp (implicitDefEqProofs := false) only [Mi.seqK_nx, Mi.seqK_rt, Mi.andK_t, Mi.andK_f, Mi.orK_t, Mi.orK_f, Mi.forB_nm, Mi.forB_2, Mi.binK2_d, Mi.binK1_d, Mi.negK_d, Mi.truK_d, Mi.tstK_d, Mi.notK_d, Mi.cmpK2_d, Mi.cmpK1_d, Mi.chnK3_t, Mi.chnK3_f, Mi.chnK2_d, Mi.chnK1_d, Mi.iteK_t, Mi.iteK_f, Mi.tupK_d, Mi.lstK_d, Mi.cellK_d, Mi.callK_d, Mi.biK_d, Mi.idxK2_d, Mi.idxK1_d, Mi.sliK3_t, Mi.sliK3_l, Mi.oIntK_i, Mi.sliK2_d, Mi.sliK1_d, Mi.lcT_d, Mi.lcE_d, Mi.lcK_d, Mi.lrgK2_d, Mi.lrgK1_d, Mi.consK2_d, Mi.consK1_d, Mi.rng1K_d, Mi.rng2K2_d, Mi.rng2K1_d, Mi.zipO_d, Mi.zipK2_d, Mi.zipK1_d, Mi.enuK_d, Mi.sqK_d, Mi.setK_d, Mi.setTK_d, Mi.putK3_d, Mi.putK2_d, Mi.putK1_d, Mi.appK2_d, Mi.appK1_d, Mi.dropK_d, Mi.retK_d, Mi.iteS_t, Mi.iteS_f, Mi.forK_d, Mi.turnK2_d, Mi.turnK1_t, Mi.turnK1_f, Mi.whK_t, Mi.whK_f, Mi.lcB_nm, Mi.lcB_2, Mi.evE_var, Mi.evE_non, Mi.evE_bl, Mi.evE_int, Mi.evE_str, Mi.evE_gl, Mi.evE_bty, Mi.evE_bin, Mi.evE_neg, Mi.evE_not, Mi.evE_and, Mi.evE_or, Mi.evE_cmp, Mi.evE_chn, Mi.evE_ite, Mi.evE_tup, Mi.evE_lst, Mi.evE_cell, Mi.evE_call, Mi.callP_sto, Mi.evE_bi, Mi.evE_idx, Mi.evE_sli, Mi.evE_lc, Mi.evE_lrg, Mi.evE_lrd, Mi.evA_nil, Mi.evA_cons, Mi.evI_rng1, Mi.evI_rng2, Mi.evI_zip, Mi.evI_enu, Mi.evI_sq, Mi.tstR_false, Mi.tstR_true, Mi.optR_false, Mi.optR_true, Mi.oInt_int, Mi.isOmit_omit, Mi.evS_skip, Mi.evS_seq, Mi.evS_set, Mi.evS_setT, Mi.evS_put, Mi.evS_app, Mi.evS_drop, Mi.evS_ret, Mi.evS_ite, Mi.evS_for, Mi.evS_while, Mi.evS_raise, Mi.sto_some, Mi.sto_none, Mi.val_nx, Mi.val_rt, Mi.setTg_nm, Mi.setTg_nil, Mi.setTg_cons, Mi.wipe_nil, Mi.wipe_cons, Mi.forR_nil, Mi.truV_bl, Mi.truV_non, Mi.truV_int, Mi.add_ii, Mi.sub_ii, Mi.lt_ii, Mi.le_ii, Mi.gt_ii, Mi.ge_ii, Mi.isn_v, Mi.notn_v, Mi.isN_non, Mi.isN_int, Mi.isN_tup, Mi.isN_bl, Mi.isN_str, Mi.eq_ii, Mi.ne_ii, Mi.eq_ss, Mi.ne_ss, Mi.neg_i, Mi.walk_lst, Mi.walk_tup, Mi.walk_scr, Mi.len_tup, Mi.len_lst, Mi.len_scr, Mi.tuple_lst, Mi.tuple_tup, Mi.list_tup, Mi.list_lst, Mi.int_int, Mi.int_bl, Mi.abs_int, Mi.min_int, Mi.max_int, Mi.isi_def, Mi.sum_lst, Mi.all_lst, Mi.any_lst, Mi.ints_map, Mi.bools_map, R.bind_ok, R.bind_ex, R.bind_bad, R.lift_some, R.noEx_ok, List.getElem?_cons_zero, List.getElem?_cons_succ, Option.bind_some, Option.map_some, Option.bind_eq_bind, id_eq, List.set_cons_zero, List.set_cons_succ, if_true, if_false, Bool.false_eq_true, reduceIte, Bool.not_true, Bool.not_false, Ex.isOmit, b2, show ∀ b, isiV (.str b) "str" = some true from fun _ => rfl, wordB, in_strs]
  · simp (implicitDefEqProofs := false) only [Mi.seqK_nx, Mi.seqK_rt, Mi.andK_t, Mi.andK_f, Mi.orK_t, Mi.orK_f, Mi.forB_nm, Mi.forB_2, Mi.binK2_d, Mi.binK1_d, Mi.negK_d, Mi.truK_d, Mi.tstK_d, Mi.notK_d, Mi.cmpK2_d, Mi.cmpK1_d, Mi.chnK3_t, Mi.chnK3_f, Mi.chnK2_d, Mi.chnK1_d, Mi.iteK_t, Mi.iteK_f, Mi.tupK_d, Mi.lstK_d, Mi.cellK_d, Mi.callK_d, Mi.biK_d, Mi.idxK2_d, Mi.idxK1_d, Mi.sliK3_t, Mi.sliK3_l, Mi.oIntK_i, Mi.sliK2_d, Mi.sliK1_d, Mi.lcT_d, Mi.lcE_d, Mi.lcK_d, Mi.lrgK2_d, Mi.lrgK1_d, Mi.consK2_d, Mi.consK1_d, Mi.rng1K_d, Mi.rng2K2_d, Mi.rng2K1_d, Mi.zipO_d, Mi.zipK2_d, Mi.zipK1_d, Mi.enuK_d, Mi.sqK_d, Mi.setK_d, Mi.setTK_d, Mi.putK3_d, Mi.putK2_d, Mi.putK1_d, Mi.appK2_d, Mi.appK1_d, Mi.dropK_d, Mi.retK_d, Mi.iteS_t, Mi.iteS_f, Mi.forK_d, Mi.turnK2_d, Mi.turnK1_t, Mi.turnK1_f, Mi.whK_t, Mi.whK_f, Mi.lcB_nm, Mi.lcB_2, Mi.evE_var, Mi.evE_non, Mi.evE_bl, Mi.evE_int, Mi.evE_str, Mi.evE_gl, Mi.evE_bty, Mi.evE_bin, Mi.evE_neg, Mi.evE_not, Mi.evE_and, Mi.evE_or, Mi.evE_cmp, Mi.evE_chn, Mi.evE_ite, Mi.evE_tup, Mi.evE_lst, Mi.evE_cell, Mi.evE_call, Mi.callP_sto, Mi.evE_bi, Mi.evE_idx, Mi.evE_sli, Mi.evE_lc, Mi.evE_lrg, Mi.evE_lrd, Mi.evA_nil, Mi.evA_cons, Mi.evI_rng1, Mi.evI_rng2, Mi.evI_zip, Mi.evI_enu, Mi.evI_sq, Mi.tstR_false, Mi.tstR_true, Mi.optR_false, Mi.optR_true, Mi.oInt_int, Mi.isOmit_omit, Mi.evS_skip, Mi.evS_seq, Mi.evS_set, Mi.evS_setT, Mi.evS_put, Mi.evS_app, Mi.evS_drop, Mi.evS_ret, Mi.evS_ite, Mi.evS_for, Mi.evS_while, Mi.evS_raise, Mi.sto_some, Mi.sto_none, Mi.val_nx, Mi.val_rt, Mi.setTg_nm, Mi.setTg_nil, Mi.setTg_cons, Mi.wipe_nil, Mi.wipe_cons, Mi.forR_nil, Mi.truV_bl, Mi.truV_non, Mi.truV_int, Mi.add_ii, Mi.sub_ii, Mi.lt_ii, Mi.le_ii, Mi.gt_ii, Mi.ge_ii, Mi.isn_v, Mi.notn_v, Mi.isN_non, Mi.isN_int, Mi.isN_tup, Mi.isN_bl, Mi.isN_str, Mi.eq_ii, Mi.ne_ii, Mi.eq_ss, Mi.ne_ss, Mi.neg_i, Mi.walk_lst, Mi.walk_tup, Mi.walk_scr, Mi.len_tup, Mi.len_lst, Mi.len_scr, Mi.tuple_lst, Mi.tuple_tup, Mi.list_tup, Mi.list_lst, Mi.int_int, Mi.int_bl, Mi.abs_int, Mi.min_int, Mi.max_int, Mi.isi_def, Mi.sum_lst, Mi.all_lst, Mi.any_lst, Mi.ints_map, Mi.bools_map, R.bind_ok, R.bind_ex, R.bind_bad, R.lift_some, R.noEx_ok, List.getElem?_cons_zero, List.getElem?_cons_succ, Option.bind_some, Option.map_some, Option.bind_eq_bind, id_eq, List.set_cons_zero, List.set_cons_succ, if_true, if_false, Bool.false_eq_true, reduceIte, Bool.not_true, Bool.not_false, Ex.isOmit, b2, show ∀ b, isiV (.tup b) "str" = some false from fun _ => rfl, wordB]
  · simp (implicitDefEqProofs := false) only [Mi.seqK_nx, Mi.seqK_rt, Mi.andK_t, Mi.andK_f, Mi.orK_t, Mi.orK_f, Mi.forB_nm, Mi.forB_2, Mi.binK2_d, Mi.binK1_d, Mi.negK_d, Mi.truK_d, Mi.tstK_d, Mi.notK_d, Mi.cmpK2_d, Mi.cmpK1_d, Mi.chnK3_t, Mi.chnK3_f, Mi.chnK2_d, Mi.chnK1_d, Mi.iteK_t, Mi.iteK_f, Mi.tupK_d, Mi.lstK_d, Mi.cellK_d, Mi.callK_d, Mi.biK_d, Mi.idxK2_d, Mi.idxK1_d, Mi.sliK3_t, Mi.sliK3_l, Mi.oIntK_i, Mi.sliK2_d, Mi.sliK1_d, Mi.lcT_d, Mi.lcE_d, Mi.lcK_d, Mi.lrgK2_d, Mi.lrgK1_d, Mi.consK2_d, Mi.consK1_d, Mi.rng1K_d, Mi.rng2K2_d, Mi.rng2K1_d, Mi.zipO_d, Mi.zipK2_d, Mi.zipK1_d, Mi.enuK_d, Mi.sqK_d, Mi.setK_d, Mi.setTK_d, Mi.putK3_d, Mi.putK2_d, Mi.putK1_d, Mi.appK2_d, Mi.appK1_d, Mi.dropK_d, Mi.retK_d, Mi.iteS_t, Mi.iteS_f, Mi.forK_d, Mi.turnK2_d, Mi.turnK1_t, Mi.turnK1_f, Mi.whK_t, Mi.whK_f, Mi.lcB_nm, Mi.lcB_2, Mi.evE_var, Mi.evE_non, Mi.evE_bl, Mi.evE_int, Mi.evE_str, Mi.evE_gl, Mi.evE_bty, Mi.evE_bin, Mi.evE_neg, Mi.evE_not, Mi.evE_and, Mi.evE_or, Mi.evE_cmp, Mi.evE_chn, Mi.evE_ite, Mi.evE_tup, Mi.evE_lst, Mi.evE_cell, Mi.evE_call, Mi.callP_sto, Mi.evE_bi, Mi.evE_idx, Mi.evE_sli, Mi.evE_lc, Mi.evE_lrg, Mi.evE_lrd, Mi.evA_nil, Mi.evA_cons, Mi.evI_rng1, Mi.evI_rng2, Mi.evI_zip, Mi.evI_enu, Mi.evI_sq, Mi.tstR_false, Mi.tstR_true, Mi.optR_false, Mi.optR_true, Mi.oInt_int, Mi.isOmit_omit, Mi.evS_skip, Mi.evS_seq, Mi.evS_set, Mi.evS_setT, Mi.evS_put, Mi.evS_app, Mi.evS_drop, Mi.evS_ret, Mi.evS_ite, Mi.evS_for, Mi.evS_while, Mi.evS_raise, Mi.sto_some, Mi.sto_none, Mi.val_nx, Mi.val_rt, Mi.setTg_nm, Mi.setTg_nil, Mi.setTg_cons, Mi.wipe_nil, Mi.wipe_cons, Mi.forR_nil, Mi.truV_bl, Mi.truV_non, Mi.truV_int, Mi.add_ii, Mi.sub_ii, Mi.lt_ii, Mi.le_ii, Mi.gt_ii, Mi.ge_ii, Mi.isn_v, Mi.notn_v, Mi.isN_non, Mi.isN_int, Mi.isN_tup, Mi.isN_bl, Mi.isN_str, Mi.eq_ii, Mi.ne_ii, Mi.eq_ss, Mi.ne_ss, Mi.neg_i, Mi.walk_lst, Mi.walk_tup, Mi.walk_scr, Mi.len_tup, Mi.len_lst, Mi.len_scr, Mi.tuple_lst, Mi.tuple_tup, Mi.list_tup, Mi.list_lst, Mi.int_int, Mi.int_bl, Mi.abs_int, Mi.min_int, Mi.max_int, Mi.isi_def, Mi.sum_lst, Mi.all_lst, Mi.any_lst, Mi.ints_map, Mi.bools_map, R.bind_ok, R.bind_ex, R.bind_bad, R.lift_some, R.noEx_ok, List.getElem?_cons_zero, List.getElem?_cons_succ, Option.bind_some, Option.map_some, Option.bind_eq_bind, id_eq, List.set_cons_zero, List.set_cons_succ, if_true, if_false, Bool.false_eq_true, reduceIte, Bool.not_true, Bool.not_false, Ex.isOmit, b2, show ∀ b, isiV (.lst b) "str" = some false from fun _ => rfl, wordB]
theorem all_id {α : Type} (l : List α) (p : α → Bool) : (l.map p).all id = l.all p := by rw [List.all_map]; rfl
/-- all of a comprehension's answers -/
theorem all_ofm {α : Type} (l : List α) (e : α → PV) (f : PV → Sto → R (Option PV)) (p : α → Bool) (hl : l.length ≤ 1000) (h : ∀ x ∈ l, f (e x) st = .ok (some (.bl (p x))) st) : ((compR f (l.map e) st).bind lcE) = .ok (.lst ((l.map p).map .bl)) st := by
  have q := compR_map l e (fun x => PV.bl (p x)) h
  have hb := big_lt
  have l1 : (l.map fun x => PV.bl (p x)).length ≤ big := by rw [List.length_map]; omega
  rw [q]
  simp (implicitDefEqProofs := false) only [Mi.seqK_nx, Mi.seqK_rt, Mi.andK_t, Mi.andK_f, Mi.orK_t, Mi.orK_f, Mi.forB_nm, Mi.forB_2, Mi.binK2_d, Mi.binK1_d, Mi.negK_d, Mi.truK_d, Mi.tstK_d, Mi.notK_d, Mi.cmpK2_d, Mi.cmpK1_d, Mi.chnK3_t, Mi.chnK3_f, Mi.chnK2_d, Mi.chnK1_d, Mi.iteK_t, Mi.iteK_f, Mi.tupK_d, Mi.lstK_d, Mi.cellK_d, Mi.callK_d, Mi.biK_d, Mi.idxK2_d, Mi.idxK1_d, Mi.sliK3_t, Mi.sliK3_l, Mi.oIntK_i, Mi.sliK2_d, Mi.sliK1_d, Mi.lcT_d, Mi.lcE_d, Mi.lcK_d, Mi.lrgK2_d, Mi.lrgK1_d, Mi.consK2_d, Mi.consK1_d, Mi.rng1K_d, Mi.rng2K2_d, Mi.rng2K1_d, Mi.zipO_d, Mi.zipK2_d, Mi.zipK1_d, Mi.enuK_d, Mi.sqK_d, Mi.setK_d, Mi.setTK_d, Mi.putK3_d, Mi.putK2_d, Mi.putK1_d, Mi.appK2_d, Mi.appK1_d, Mi.dropK_d, Mi.retK_d, Mi.iteS_t, Mi.iteS_f, Mi.forK_d, Mi.turnK2_d, Mi.turnK1_t, Mi.turnK1_f, Mi.whK_t, Mi.whK_f, Mi.lcB_nm, Mi.lcB_2, Mi.evE_var, Mi.evE_non, Mi.evE_bl, Mi.evE_int, Mi.evE_str, Mi.evE_gl, Mi.evE_bty, Mi.evE_bin, Mi.evE_neg, Mi.evE_not, Mi.evE_and, Mi.evE_or, Mi.evE_cmp, Mi.evE_chn, Mi.evE_ite, Mi.evE_tup, Mi.evE_lst, Mi.evE_cell, Mi.evE_call, Mi.callP_sto, Mi.evE_bi, Mi.evE_idx, Mi.evE_sli, Mi.evE_lc, Mi.evE_lrg, Mi.evE_lrd, Mi.evA_nil, Mi.evA_cons, Mi.evI_rng1, Mi.evI_rng2, Mi.evI_zip, Mi.evI_enu, Mi.evI_sq, Mi.tstR_false, Mi.tstR_true, Mi.optR_false, Mi.optR_true, Mi.oInt_int, Mi.isOmit_omit, Mi.evS_skip, Mi.evS_seq, Mi.evS_set, Mi.evS_setT, Mi.evS_put, Mi.evS_app, Mi.evS_drop, Mi.evS_ret, Mi.evS_ite, Mi.evS_for, Mi.evS_while, Mi.evS_raise, Mi.sto_some, Mi.sto_none, Mi.val_nx, Mi.val_rt, Mi.setTg_nm, Mi.setTg_nil, Mi.setTg_cons, Mi.wipe_nil, Mi.wipe_cons, Mi.forR_nil, Mi.truV_bl, Mi.truV_non, Mi.truV_int, Mi.add_ii, Mi.sub_ii, Mi.lt_ii, Mi.le_ii, Mi.gt_ii, Mi.ge_ii, Mi.isn_v, Mi.notn_v, Mi.isN_non, Mi.isN_int, Mi.isN_tup, Mi.isN_bl, Mi.isN_str, Mi.eq_ii, Mi.ne_ii, Mi.eq_ss, Mi.ne_ss, Mi.neg_i, Mi.walk_lst, Mi.walk_tup, Mi.walk_scr, Mi.len_tup, Mi.len_lst, Mi.len_scr, Mi.tuple_lst, Mi.tuple_tup, Mi.list_tup, Mi.list_lst, Mi.int_int, Mi.int_bl, Mi.abs_int, Mi.min_int, Mi.max_int, Mi.isi_def, Mi.sum_lst, Mi.all_lst, Mi.any_lst, Mi.ints_map, Mi.bools_map, R.bind_ok, R.bind_ex, R.bind_bad, R.lift_some, R.noEx_ok, List.getElem?_cons_zero, List.getElem?_cons_succ, Option.bind_some, Option.map_some, Option.bind_eq_bind, id_eq, List.set_cons_zero, List.set_cons_succ, if_true, if_false, Bool.false_eq_true, reduceIte, Bool.not_true, Bool.not_false, Ex.isOmit, l1]
  rw [show (l.map fun x => PV.bl (p x)) = (l.map p).map PV.bl from by rw [List.map_map]; rfl]
theorem all_of (xs : List PV) (f : PV → Sto → R (Option PV)) (p : PV → Bool) (hl : xs.length ≤ 1000) (h : ∀ x ∈ xs, f x st = .ok (some (.bl (p x))) st) : ((compR f xs st).bind lcE) = .ok (.lst ((xs.map p).map .bl)) st := by
  have e := all_ofm xs id f p hl h
  rwa [List.map_id] at e
theorem is_lot_v (many : Nat) (v : PV) (h : vW v) : RU N (d + 2) 3 [.int many, v] st = .ok (.bl (lotB many v)) st := by
  have hb := big_lt
  rw [RU, u3]
  have m2 : ∀ st : Sto, binV st .Mult (.int 2) (.int (many : Nat)) = some (.int (2 * many)) := fun st => mul_ii (mulOk_l (i := 2) (j := (many : Int)) (by decide) (by decide))
  cases q : tupN v 0 (2 * (many : Int) - 1) with
  | false =>
    have e : lotB many v = false := by
      cases v <;> first | rfl | skip
      rename_i xs
      have q : decide ((xs.length : Int) ≤ 2 * many - 1) = false := by
        have q : (decide ((0 : Int) ≤ xs.length) && decide ((xs.length : Int) ≤ 2 * many - 1)) = false := q
        rwa [decide_eq_true (by omega), Bool.true_and] at q
      show (decide ((xs.length : Int) ≤ 2 * many - 1) && _) = false
      rw [q]; rfl
    simp (implicitDefEqProofs := false) only [Mi.seqK_nx, Mi.seqK_rt, Mi.andK_t, Mi.andK_f, Mi.orK_t, Mi.orK_f, Mi.forB_nm, Mi.forB_2, Mi.binK2_d, Mi.binK1_d, Mi.negK_d, Mi.truK_d, Mi.tstK_d, Mi.notK_d, Mi.cmpK2_d, Mi.cmpK1_d, Mi.chnK3_t, Mi.chnK3_f, Mi.chnK2_d, Mi.chnK1_d, Mi.iteK_t, Mi.iteK_f, Mi.tupK_d, Mi.lstK_d, Mi.cellK_d, Mi.callK_d, Mi.biK_d, Mi.idxK2_d, Mi.idxK1_d, Mi.sliK3_t, Mi.sliK3_l, Mi.oIntK_i, Mi.sliK2_d, Mi.sliK1_d, Mi.lcT_d, Mi.lcE_d, Mi.lcK_d, Mi.lrgK2_d, Mi.lrgK1_d, Mi.consK2_d, Mi.consK1_d, Mi.rng1K_d, Mi.rng2K2_d, Mi.rng2K1_d, Mi.zipO_d, Mi.zipK2_d, Mi.zipK1_d, Mi.enuK_d, Mi.sqK_d, Mi.setK_d, Mi.setTK_d, Mi.putK3_d, Mi.putK2_d, Mi.putK1_d, Mi.appK2_d, Mi.appK1_d, Mi.dropK_d, Mi.retK_d, Mi.iteS_t, Mi.iteS_f, Mi.forK_d, Mi.turnK2_d, Mi.turnK1_t, Mi.turnK1_f, Mi.whK_t, Mi.whK_f, Mi.lcB_nm, Mi.lcB_2, Mi.evE_var, Mi.evE_non, Mi.evE_bl, Mi.evE_int, Mi.evE_str, Mi.evE_gl, Mi.evE_bty, Mi.evE_bin, Mi.evE_neg, Mi.evE_not, Mi.evE_and, Mi.evE_or, Mi.evE_cmp, Mi.evE_chn, Mi.evE_ite, Mi.evE_tup, Mi.evE_lst, Mi.evE_cell, Mi.evE_call, Mi.callP_sto, Mi.evE_bi, Mi.evE_idx, Mi.evE_sli, Mi.evE_lc, Mi.evE_lrg, Mi.evE_lrd, Mi.evA_nil, Mi.evA_cons, Mi.evI_rng1, Mi.evI_rng2, Mi.evI_zip, Mi.evI_enu, Mi.evI_sq, Mi.tstR_false, Mi.tstR_true, Mi.optR_false, Mi.optR_true, Mi.oInt_int, Mi.isOmit_omit, Mi.evS_skip, Mi.evS_seq, Mi.evS_set, Mi.evS_setT, Mi.evS_put, Mi.evS_app, Mi.evS_drop, Mi.evS_ret, Mi.evS_ite, Mi.evS_for, Mi.evS_while, Mi.evS_raise, Mi.sto_some, Mi.sto_none, Mi.val_nx, Mi.val_rt, Mi.setTg_nm, Mi.setTg_nil, Mi.setTg_cons, Mi.wipe_nil, Mi.wipe_cons, Mi.forR_nil, Mi.truV_bl, Mi.truV_non, Mi.truV_int, Mi.add_ii, Mi.sub_ii, Mi.lt_ii, Mi.le_ii, Mi.gt_ii, Mi.ge_ii, Mi.isn_v, Mi.notn_v, Mi.isN_non, Mi.isN_int, Mi.isN_tup, Mi.isN_bl, Mi.isN_str, Mi.eq_ii, Mi.ne_ii, Mi.eq_ss, Mi.ne_ss, Mi.neg_i, Mi.walk_lst, Mi.walk_tup, Mi.walk_scr, Mi.len_tup, Mi.len_lst, Mi.len_scr, Mi.tuple_lst, Mi.tuple_tup, Mi.list_tup, Mi.list_lst, Mi.int_int, Mi.int_bl, Mi.abs_int, Mi.min_int, Mi.max_int, Mi.isi_def, Mi.sum_lst, Mi.all_lst, Mi.any_lst, Mi.ints_map, Mi.bools_map, R.bind_ok, R.bind_ex, R.bind_bad, R.lift_some, R.noEx_ok, List.getElem?_cons_zero, List.getElem?_cons_succ, Option.bind_some, Option.map_some, Option.bind_eq_bind, id_eq, List.set_cons_zero, List.set_cons_succ, if_true, if_false, Bool.false_eq_true, reduceIte, Bool.not_true, Bool.not_false, Ex.isOmit, b3, m2, is_tuple_v _ _ _ h.sh, q, e]
  | true =>
    cases v <;> first | (cases q; done) | skip
    rename_i xs
    obtain ⟨hl, hx⟩ := h.tup
    have q2 : decide ((xs.length : Int) ≤ 2 * many - 1) = true := (Bool.and_eq_true_iff.mp (show (decide ((0 : Int) ≤ xs.length) && decide ((xs.length : Int) ≤ 2 * many - 1)) = true from q)).2
    have e : lotB many (.tup xs) = (xs.all (fun x => numB x 0 (2 * many - 2)) && incB xs) := by
      show (decide ((xs.length : Int) ≤ 2 * many - 1) && _) = _
      rw [q2, Bool.true_and]
    rw [e]
    simp (implicitDefEqProofs := false) only [Mi.seqK_nx, Mi.seqK_rt, Mi.andK_t, Mi.andK_f, Mi.orK_t, Mi.orK_f, Mi.forB_nm, Mi.forB_2, Mi.binK2_d, Mi.binK1_d, Mi.negK_d, Mi.truK_d, Mi.tstK_d, Mi.notK_d, Mi.cmpK2_d, Mi.cmpK1_d, Mi.chnK3_t, Mi.chnK3_f, Mi.chnK2_d, Mi.chnK1_d, Mi.iteK_t, Mi.iteK_f, Mi.tupK_d, Mi.lstK_d, Mi.cellK_d, Mi.callK_d, Mi.biK_d, Mi.idxK2_d, Mi.idxK1_d, Mi.sliK3_t, Mi.sliK3_l, Mi.oIntK_i, Mi.sliK2_d, Mi.sliK1_d, Mi.lcT_d, Mi.lcE_d, Mi.lcK_d, Mi.lrgK2_d, Mi.lrgK1_d, Mi.consK2_d, Mi.consK1_d, Mi.rng1K_d, Mi.rng2K2_d, Mi.rng2K1_d, Mi.zipO_d, Mi.zipK2_d, Mi.zipK1_d, Mi.enuK_d, Mi.sqK_d, Mi.setK_d, Mi.setTK_d, Mi.putK3_d, Mi.putK2_d, Mi.putK1_d, Mi.appK2_d, Mi.appK1_d, Mi.dropK_d, Mi.retK_d, Mi.iteS_t, Mi.iteS_f, Mi.forK_d, Mi.turnK2_d, Mi.turnK1_t, Mi.turnK1_f, Mi.whK_t, Mi.whK_f, Mi.lcB_nm, Mi.lcB_2, Mi.evE_var, Mi.evE_non, Mi.evE_bl, Mi.evE_int, Mi.evE_str, Mi.evE_gl, Mi.evE_bty, Mi.evE_bin, Mi.evE_neg, Mi.evE_not, Mi.evE_and, Mi.evE_or, Mi.evE_cmp, Mi.evE_chn, Mi.evE_ite, Mi.evE_tup, Mi.evE_lst, Mi.evE_cell, Mi.evE_call, Mi.callP_sto, Mi.evE_bi, Mi.evE_idx, Mi.evE_sli, Mi.evE_lc, Mi.evE_lrg, Mi.evE_lrd, Mi.evA_nil, Mi.evA_cons, Mi.evI_rng1, Mi.evI_rng2, Mi.evI_zip, Mi.evI_enu, Mi.evI_sq, Mi.tstR_false, Mi.tstR_true, Mi.optR_false, Mi.optR_true, Mi.oInt_int, Mi.isOmit_omit, Mi.evS_skip, Mi.evS_seq, Mi.evS_set, Mi.evS_setT, Mi.evS_put, Mi.evS_app, Mi.evS_drop, Mi.evS_ret, Mi.evS_ite, Mi.evS_for, Mi.evS_while, Mi.evS_raise, Mi.sto_some, Mi.sto_none, Mi.val_nx, Mi.val_rt, Mi.setTg_nm, Mi.setTg_nil, Mi.setTg_cons, Mi.wipe_nil, Mi.wipe_cons, Mi.forR_nil, Mi.truV_bl, Mi.truV_non, Mi.truV_int, Mi.add_ii, Mi.sub_ii, Mi.lt_ii, Mi.le_ii, Mi.gt_ii, Mi.ge_ii, Mi.isn_v, Mi.notn_v, Mi.isN_non, Mi.isN_int, Mi.isN_tup, Mi.isN_bl, Mi.isN_str, Mi.eq_ii, Mi.ne_ii, Mi.eq_ss, Mi.ne_ss, Mi.neg_i, Mi.walk_lst, Mi.walk_tup, Mi.walk_scr, Mi.len_tup, Mi.len_lst, Mi.len_scr, Mi.tuple_lst, Mi.tuple_tup, Mi.list_tup, Mi.list_lst, Mi.int_int, Mi.int_bl, Mi.abs_int, Mi.min_int, Mi.max_int, Mi.isi_def, Mi.sum_lst, Mi.all_lst, Mi.any_lst, Mi.ints_map, Mi.bools_map, R.bind_ok, R.bind_ex, R.bind_bad, R.lift_some, R.noEx_ok, List.getElem?_cons_zero, List.getElem?_cons_succ, Option.bind_some, Option.map_some, Option.bind_eq_bind, id_eq, List.set_cons_zero, List.set_cons_succ, if_true, if_false, Bool.false_eq_true, reduceIte, Bool.not_true, Bool.not_false, Ex.isOmit, b3, m2, is_tuple_v _ _ _ h.sh, q]
    rw [all_of xs _ (fun x => numB x 0 (2 * many - 2)) (by omega) (fun x hm => by simp (implicitDefEqProofs := false) only [Mi.seqK_nx, Mi.seqK_rt, Mi.andK_t, Mi.andK_f, Mi.orK_t, Mi.orK_f, Mi.forB_nm, Mi.forB_2, Mi.binK2_d, Mi.binK1_d, Mi.negK_d, Mi.truK_d, Mi.tstK_d, Mi.notK_d, Mi.cmpK2_d, Mi.cmpK1_d, Mi.chnK3_t, Mi.chnK3_f, Mi.chnK2_d, Mi.chnK1_d, Mi.iteK_t, Mi.iteK_f, Mi.tupK_d, Mi.lstK_d, Mi.cellK_d, Mi.callK_d, Mi.biK_d, Mi.idxK2_d, Mi.idxK1_d, Mi.sliK3_t, Mi.sliK3_l, Mi.oIntK_i, Mi.sliK2_d, Mi.sliK1_d, Mi.lcT_d, Mi.lcE_d, Mi.lcK_d, Mi.lrgK2_d, Mi.lrgK1_d, Mi.consK2_d, Mi.consK1_d, Mi.rng1K_d, Mi.rng2K2_d, Mi.rng2K1_d, Mi.zipO_d, Mi.zipK2_d, Mi.zipK1_d, Mi.enuK_d, Mi.sqK_d, Mi.setK_d, Mi.setTK_d, Mi.putK3_d, Mi.putK2_d, Mi.putK1_d, Mi.appK2_d, Mi.appK1_d, Mi.dropK_d, Mi.retK_d, Mi.iteS_t, Mi.iteS_f, Mi.forK_d, Mi.turnK2_d, Mi.turnK1_t, Mi.turnK1_f, Mi.whK_t, Mi.whK_f, Mi.lcB_nm, Mi.lcB_2, Mi.evE_var, Mi.evE_non, Mi.evE_bl, Mi.evE_int, Mi.evE_str, Mi.evE_gl, Mi.evE_bty, Mi.evE_bin, Mi.evE_neg, Mi.evE_not, Mi.evE_and, Mi.evE_or, Mi.evE_cmp, Mi.evE_chn, Mi.evE_ite, Mi.evE_tup, Mi.evE_lst, Mi.evE_cell, Mi.evE_call, Mi.callP_sto, Mi.evE_bi, Mi.evE_idx, Mi.evE_sli, Mi.evE_lc, Mi.evE_lrg, Mi.evE_lrd, Mi.evA_nil, Mi.evA_cons, Mi.evI_rng1, Mi.evI_rng2, Mi.evI_zip, Mi.evI_enu, Mi.evI_sq, Mi.tstR_false, Mi.tstR_true, Mi.optR_false, Mi.optR_true, Mi.oInt_int, Mi.isOmit_omit, Mi.evS_skip, Mi.evS_seq, Mi.evS_set, Mi.evS_setT, Mi.evS_put, Mi.evS_app, Mi.evS_drop, Mi.evS_ret, Mi.evS_ite, Mi.evS_for, Mi.evS_while, Mi.evS_raise, Mi.sto_some, Mi.sto_none, Mi.val_nx, Mi.val_rt, Mi.setTg_nm, Mi.setTg_nil, Mi.setTg_cons, Mi.wipe_nil, Mi.wipe_cons, Mi.forR_nil, Mi.truV_bl, Mi.truV_non, Mi.truV_int, Mi.add_ii, Mi.sub_ii, Mi.lt_ii, Mi.le_ii, Mi.gt_ii, Mi.ge_ii, Mi.isn_v, Mi.notn_v, Mi.isN_non, Mi.isN_int, Mi.isN_tup, Mi.isN_bl, Mi.isN_str, Mi.eq_ii, Mi.ne_ii, Mi.eq_ss, Mi.ne_ss, Mi.neg_i, Mi.walk_lst, Mi.walk_tup, Mi.walk_scr, Mi.len_tup, Mi.len_lst, Mi.len_scr, Mi.tuple_lst, Mi.tuple_tup, Mi.list_tup, Mi.list_lst, Mi.int_int, Mi.int_bl, Mi.abs_int, Mi.min_int, Mi.max_int, Mi.isi_def, Mi.sum_lst, Mi.all_lst, Mi.any_lst, Mi.ints_map, Mi.bools_map, R.bind_ok, R.bind_ex, R.bind_bad, R.lift_some, R.noEx_ok, List.getElem?_cons_zero, List.getElem?_cons_succ, Option.bind_some, Option.map_some, Option.bind_eq_bind, id_eq, List.set_cons_zero, List.set_cons_succ, if_true, if_false, Bool.false_eq_true, reduceIte, Bool.not_true, Bool.not_false, Ex.isOmit, m2, is_number_v _ _ _ (hx x hm).sh])]
    cases q3 : xs.all (fun x => numB x 0 (2 * many - 2)) with
    | false => simp (implicitDefEqProofs := false) only [Mi.seqK_nx, Mi.seqK_rt, Mi.andK_t, Mi.andK_f, Mi.orK_t, Mi.orK_f, Mi.forB_nm, Mi.forB_2, Mi.binK2_d, Mi.binK1_d, Mi.negK_d, Mi.truK_d, Mi.tstK_d, Mi.notK_d, Mi.cmpK2_d, Mi.cmpK1_d, Mi.chnK3_t, Mi.chnK3_f, Mi.chnK2_d, Mi.chnK1_d, Mi.iteK_t, Mi.iteK_f, Mi.tupK_d, Mi.lstK_d, Mi.cellK_d, Mi.callK_d, Mi.biK_d, Mi.idxK2_d, Mi.idxK1_d, Mi.sliK3_t, Mi.sliK3_l, Mi.oIntK_i, Mi.sliK2_d, Mi.sliK1_d, Mi.lcT_d, Mi.lcE_d, Mi.lcK_d, Mi.lrgK2_d, Mi.lrgK1_d, Mi.consK2_d, Mi.consK1_d, Mi.rng1K_d, Mi.rng2K2_d, Mi.rng2K1_d, Mi.zipO_d, Mi.zipK2_d, Mi.zipK1_d, Mi.enuK_d, Mi.sqK_d, Mi.setK_d, Mi.setTK_d, Mi.putK3_d, Mi.putK2_d, Mi.putK1_d, Mi.appK2_d, Mi.appK1_d, Mi.dropK_d, Mi.retK_d, Mi.iteS_t, Mi.iteS_f, Mi.forK_d, Mi.turnK2_d, Mi.turnK1_t, Mi.turnK1_f, Mi.whK_t, Mi.whK_f, Mi.lcB_nm, Mi.lcB_2, Mi.evE_var, Mi.evE_non, Mi.evE_bl, Mi.evE_int, Mi.evE_str, Mi.evE_gl, Mi.evE_bty, Mi.evE_bin, Mi.evE_neg, Mi.evE_not, Mi.evE_and, Mi.evE_or, Mi.evE_cmp, Mi.evE_chn, Mi.evE_ite, Mi.evE_tup, Mi.evE_lst, Mi.evE_cell, Mi.evE_call, Mi.callP_sto, Mi.evE_bi, Mi.evE_idx, Mi.evE_sli, Mi.evE_lc, Mi.evE_lrg, Mi.evE_lrd, Mi.evA_nil, Mi.evA_cons, Mi.evI_rng1, Mi.evI_rng2, Mi.evI_zip, Mi.evI_enu, Mi.evI_sq, Mi.tstR_false, Mi.tstR_true, Mi.optR_false, Mi.optR_true, Mi.oInt_int, Mi.isOmit_omit, Mi.evS_skip, Mi.evS_seq, Mi.evS_set, Mi.evS_setT, Mi.evS_put, Mi.evS_app, Mi.evS_drop, Mi.evS_ret, Mi.evS_ite, Mi.evS_for, Mi.evS_while, Mi.evS_raise, Mi.sto_some, Mi.sto_none, Mi.val_nx, Mi.val_rt, Mi.setTg_nm, Mi.setTg_nil, Mi.setTg_cons, Mi.wipe_nil, Mi.wipe_cons, Mi.forR_nil, Mi.truV_bl, Mi.truV_non, Mi.truV_int, Mi.add_ii, Mi.sub_ii, Mi.lt_ii, Mi.le_ii, Mi.gt_ii, Mi.ge_ii, Mi.isn_v, Mi.notn_v, Mi.isN_non, Mi.isN_int, Mi.isN_tup, Mi.isN_bl, Mi.isN_str, Mi.eq_ii, Mi.ne_ii, Mi.eq_ss, Mi.ne_ss, Mi.neg_i, Mi.walk_lst, Mi.walk_tup, Mi.walk_scr, Mi.len_tup, Mi.len_lst, Mi.len_scr, Mi.tuple_lst, Mi.tuple_tup, Mi.list_tup, Mi.list_lst, Mi.int_int, Mi.int_bl, Mi.abs_int, Mi.min_int, Mi.max_int, Mi.isi_def, Mi.sum_lst, Mi.all_lst, Mi.any_lst, Mi.ints_map, Mi.bools_map, R.bind_ok, R.bind_ex, R.bind_bad, R.lift_some, R.noEx_ok, List.getElem?_cons_zero, List.getElem?_cons_succ, Option.bind_some, Option.map_some, Option.bind_eq_bind, id_eq, List.set_cons_zero, List.set_cons_succ, if_true, if_false, Bool.false_eq_true, reduceIte, Bool.not_true, Bool.not_false, Ex.isOmit, all_id, q3, Bool.false_and]
    | true =>
      obtain ⟨ns, rfl, hn⟩ := nums_of q3
      simp (implicitDefEqProofs := false) only [Mi.seqK_nx, Mi.seqK_rt, Mi.andK_t, Mi.andK_f, Mi.orK_t, Mi.orK_f, Mi.forB_nm, Mi.forB_2, Mi.binK2_d, Mi.binK1_d, Mi.negK_d, Mi.truK_d, Mi.tstK_d, Mi.notK_d, Mi.cmpK2_d, Mi.cmpK1_d, Mi.chnK3_t, Mi.chnK3_f, Mi.chnK2_d, Mi.chnK1_d, Mi.iteK_t, Mi.iteK_f, Mi.tupK_d, Mi.lstK_d, Mi.cellK_d, Mi.callK_d, Mi.biK_d, Mi.idxK2_d, Mi.idxK1_d, Mi.sliK3_t, Mi.sliK3_l, Mi.oIntK_i, Mi.sliK2_d, Mi.sliK1_d, Mi.lcT_d, Mi.lcE_d, Mi.lcK_d, Mi.lrgK2_d, Mi.lrgK1_d, Mi.consK2_d, Mi.consK1_d, Mi.rng1K_d, Mi.rng2K2_d, Mi.rng2K1_d, Mi.zipO_d, Mi.zipK2_d, Mi.zipK1_d, Mi.enuK_d, Mi.sqK_d, Mi.setK_d, Mi.setTK_d, Mi.putK3_d, Mi.putK2_d, Mi.putK1_d, Mi.appK2_d, Mi.appK1_d, Mi.dropK_d, Mi.retK_d, Mi.iteS_t, Mi.iteS_f, Mi.forK_d, Mi.turnK2_d, Mi.turnK1_t, Mi.turnK1_f, Mi.whK_t, Mi.whK_f, Mi.lcB_nm, Mi.lcB_2, Mi.evE_var, Mi.evE_non, Mi.evE_bl, Mi.evE_int, Mi.evE_str, Mi.evE_gl, Mi.evE_bty, Mi.evE_bin, Mi.evE_neg, Mi.evE_not, Mi.evE_and, Mi.evE_or, Mi.evE_cmp, Mi.evE_chn, Mi.evE_ite, Mi.evE_tup, Mi.evE_lst, Mi.evE_cell, Mi.evE_call, Mi.callP_sto, Mi.evE_bi, Mi.evE_idx, Mi.evE_sli, Mi.evE_lc, Mi.evE_lrg, Mi.evE_lrd, Mi.evA_nil, Mi.evA_cons, Mi.evI_rng1, Mi.evI_rng2, Mi.evI_zip, Mi.evI_enu, Mi.evI_sq, Mi.tstR_false, Mi.tstR_true, Mi.optR_false, Mi.optR_true, Mi.oInt_int, Mi.isOmit_omit, Mi.evS_skip, Mi.evS_seq, Mi.evS_set, Mi.evS_setT, Mi.evS_put, Mi.evS_app, Mi.evS_drop, Mi.evS_ret, Mi.evS_ite, Mi.evS_for, Mi.evS_while, Mi.evS_raise, Mi.sto_some, Mi.sto_none, Mi.val_nx, Mi.val_rt, Mi.setTg_nm, Mi.setTg_nil, Mi.setTg_cons, Mi.wipe_nil, Mi.wipe_cons, Mi.forR_nil, Mi.truV_bl, Mi.truV_non, Mi.truV_int, Mi.add_ii, Mi.sub_ii, Mi.lt_ii, Mi.le_ii, Mi.gt_ii, Mi.ge_ii, Mi.isn_v, Mi.notn_v, Mi.isN_non, Mi.isN_int, Mi.isN_tup, Mi.isN_bl, Mi.isN_str, Mi.eq_ii, Mi.ne_ii, Mi.eq_ss, Mi.ne_ss, Mi.neg_i, Mi.walk_lst, Mi.walk_tup, Mi.walk_scr, Mi.len_tup, Mi.len_lst, Mi.len_scr, Mi.tuple_lst, Mi.tuple_tup, Mi.list_tup, Mi.list_lst, Mi.int_int, Mi.int_bl, Mi.abs_int, Mi.min_int, Mi.max_int, Mi.isi_def, Mi.sum_lst, Mi.all_lst, Mi.any_lst, Mi.ints_map, Mi.bools_map, R.bind_ok, R.bind_ex, R.bind_bad, R.lift_some, R.noEx_ok, List.getElem?_cons_zero, List.getElem?_cons_succ, Option.bind_some, Option.map_some, Option.bind_eq_bind, id_eq, List.set_cons_zero, List.set_cons_succ, if_true, if_false, Bool.false_eq_true, reduceIte, Bool.not_true, Bool.not_false, Ex.isOmit, all_id, q3, cut_tail, Bool.true_and]
      unfold zipL
      rw [all_ofm _ _ _ (fun p => ltB p.1 p.2) (Nat.le_trans (zip_len _) (by omega)) (fun p hp => by obtain ⟨i, j, rfl⟩ := mem_zip_int hp; simp (implicitDefEqProofs := false) only [Mi.seqK_nx, Mi.seqK_rt, Mi.andK_t, Mi.andK_f, Mi.orK_t, Mi.orK_f, Mi.forB_nm, Mi.forB_2, Mi.binK2_d, Mi.binK1_d, Mi.negK_d, Mi.truK_d, Mi.tstK_d, Mi.notK_d, Mi.cmpK2_d, Mi.cmpK1_d, Mi.chnK3_t, Mi.chnK3_f, Mi.chnK2_d, Mi.chnK1_d, Mi.iteK_t, Mi.iteK_f, Mi.tupK_d, Mi.lstK_d, Mi.cellK_d, Mi.callK_d, Mi.biK_d, Mi.idxK2_d, Mi.idxK1_d, Mi.sliK3_t, Mi.sliK3_l, Mi.oIntK_i, Mi.sliK2_d, Mi.sliK1_d, Mi.lcT_d, Mi.lcE_d, Mi.lcK_d, Mi.lrgK2_d, Mi.lrgK1_d, Mi.consK2_d, Mi.consK1_d, Mi.rng1K_d, Mi.rng2K2_d, Mi.rng2K1_d, Mi.zipO_d, Mi.zipK2_d, Mi.zipK1_d, Mi.enuK_d, Mi.sqK_d, Mi.setK_d, Mi.setTK_d, Mi.putK3_d, Mi.putK2_d, Mi.putK1_d, Mi.appK2_d, Mi.appK1_d, Mi.dropK_d, Mi.retK_d, Mi.iteS_t, Mi.iteS_f, Mi.forK_d, Mi.turnK2_d, Mi.turnK1_t, Mi.turnK1_f, Mi.whK_t, Mi.whK_f, Mi.lcB_nm, Mi.lcB_2, Mi.evE_var, Mi.evE_non, Mi.evE_bl, Mi.evE_int, Mi.evE_str, Mi.evE_gl, Mi.evE_bty, Mi.evE_bin, Mi.evE_neg, Mi.evE_not, Mi.evE_and, Mi.evE_or, Mi.evE_cmp, Mi.evE_chn, Mi.evE_ite, Mi.evE_tup, Mi.evE_lst, Mi.evE_cell, Mi.evE_call, Mi.callP_sto, Mi.evE_bi, Mi.evE_idx, Mi.evE_sli, Mi.evE_lc, Mi.evE_lrg, Mi.evE_lrd, Mi.evA_nil, Mi.evA_cons, Mi.evI_rng1, Mi.evI_rng2, Mi.evI_zip, Mi.evI_enu, Mi.evI_sq, Mi.tstR_false, Mi.tstR_true, Mi.optR_false, Mi.optR_true, Mi.oInt_int, Mi.isOmit_omit, Mi.evS_skip, Mi.evS_seq, Mi.evS_set, Mi.evS_setT, Mi.evS_put, Mi.evS_app, Mi.evS_drop, Mi.evS_ret, Mi.evS_ite, Mi.evS_for, Mi.evS_while, Mi.evS_raise, Mi.sto_some, Mi.sto_none, Mi.val_nx, Mi.val_rt, Mi.setTg_nm, Mi.setTg_nil, Mi.setTg_cons, Mi.wipe_nil, Mi.wipe_cons, Mi.forR_nil, Mi.truV_bl, Mi.truV_non, Mi.truV_int, Mi.add_ii, Mi.sub_ii, Mi.lt_ii, Mi.le_ii, Mi.gt_ii, Mi.ge_ii, Mi.isn_v, Mi.notn_v, Mi.isN_non, Mi.isN_int, Mi.isN_tup, Mi.isN_bl, Mi.isN_str, Mi.eq_ii, Mi.ne_ii, Mi.eq_ss, Mi.ne_ss, Mi.neg_i, Mi.walk_lst, Mi.walk_tup, Mi.walk_scr, Mi.len_tup, Mi.len_lst, Mi.len_scr, Mi.tuple_lst, Mi.tuple_tup, Mi.list_tup, Mi.list_lst, Mi.int_int, Mi.int_bl, Mi.abs_int, Mi.min_int, Mi.max_int, Mi.isi_def, Mi.sum_lst, Mi.all_lst, Mi.any_lst, Mi.ints_map, Mi.bools_map, R.bind_ok, R.bind_ex, R.bind_bad, R.lift_some, R.noEx_ok, List.getElem?_cons_zero, List.getElem?_cons_succ, Option.bind_some, Option.map_some, Option.bind_eq_bind, id_eq, List.set_cons_zero, List.set_cons_succ, if_true, if_false, Bool.false_eq_true, reduceIte, Bool.not_true, Bool.not_false, Ex.isOmit, ltB])]
      simp (implicitDefEqProofs := false) only [Mi.seqK_nx, Mi.seqK_rt, Mi.andK_t, Mi.andK_f, Mi.orK_t, Mi.orK_f, Mi.forB_nm, Mi.forB_2, Mi.binK2_d, Mi.binK1_d, Mi.negK_d, Mi.truK_d, Mi.tstK_d, Mi.notK_d, Mi.cmpK2_d, Mi.cmpK1_d, Mi.chnK3_t, Mi.chnK3_f, Mi.chnK2_d, Mi.chnK1_d, Mi.iteK_t, Mi.iteK_f, Mi.tupK_d, Mi.lstK_d, Mi.cellK_d, Mi.callK_d, Mi.biK_d, Mi.idxK2_d, Mi.idxK1_d, Mi.sliK3_t, Mi.sliK3_l, Mi.oIntK_i, Mi.sliK2_d, Mi.sliK1_d, Mi.lcT_d, Mi.lcE_d, Mi.lcK_d, Mi.lrgK2_d, Mi.lrgK1_d, Mi.consK2_d, Mi.consK1_d, Mi.rng1K_d, Mi.rng2K2_d, Mi.rng2K1_d, Mi.zipO_d, Mi.zipK2_d, Mi.zipK1_d, Mi.enuK_d, Mi.sqK_d, Mi.setK_d, Mi.setTK_d, Mi.putK3_d, Mi.putK2_d, Mi.putK1_d, Mi.appK2_d, Mi.appK1_d, Mi.dropK_d, Mi.retK_d, Mi.iteS_t, Mi.iteS_f, Mi.forK_d, Mi.turnK2_d, Mi.turnK1_t, Mi.turnK1_f, Mi.whK_t, Mi.whK_f, Mi.lcB_nm, Mi.lcB_2, Mi.evE_var, Mi.evE_non, Mi.evE_bl, Mi.evE_int, Mi.evE_str, Mi.evE_gl, Mi.evE_bty, Mi.evE_bin, Mi.evE_neg, Mi.evE_not, Mi.evE_and, Mi.evE_or, Mi.evE_cmp, Mi.evE_chn, Mi.evE_ite, Mi.evE_tup, Mi.evE_lst, Mi.evE_cell, Mi.evE_call, Mi.callP_sto, Mi.evE_bi, Mi.evE_idx, Mi.evE_sli, Mi.evE_lc, Mi.evE_lrg, Mi.evE_lrd, Mi.evA_nil, Mi.evA_cons, Mi.evI_rng1, Mi.evI_rng2, Mi.evI_zip, Mi.evI_enu, Mi.evI_sq, Mi.tstR_false, Mi.tstR_true, Mi.optR_false, Mi.optR_true, Mi.oInt_int, Mi.isOmit_omit, Mi.evS_skip, Mi.evS_seq, Mi.evS_set, Mi.evS_setT, Mi.evS_put, Mi.evS_app, Mi.evS_drop, Mi.evS_ret, Mi.evS_ite, Mi.evS_for, Mi.evS_while, Mi.evS_raise, Mi.sto_some, Mi.sto_none, Mi.val_nx, Mi.val_rt, Mi.setTg_nm, Mi.setTg_nil, Mi.setTg_cons, Mi.wipe_nil, Mi.wipe_cons, Mi.forR_nil, Mi.truV_bl, Mi.truV_non, Mi.truV_int, Mi.add_ii, Mi.sub_ii, Mi.lt_ii, Mi.le_ii, Mi.gt_ii, Mi.ge_ii, Mi.isn_v, Mi.notn_v, Mi.isN_non, Mi.isN_int, Mi.isN_tup, Mi.isN_bl, Mi.isN_str, Mi.eq_ii, Mi.ne_ii, Mi.eq_ss, Mi.ne_ss, Mi.neg_i, Mi.walk_lst, Mi.walk_tup, Mi.walk_scr, Mi.len_tup, Mi.len_lst, Mi.len_scr, Mi.tuple_lst, Mi.tuple_tup, Mi.list_tup, Mi.list_lst, Mi.int_int, Mi.int_bl, Mi.abs_int, Mi.min_int, Mi.max_int, Mi.isi_def, Mi.sum_lst, Mi.all_lst, Mi.any_lst, Mi.ints_map, Mi.bools_map, R.bind_ok, R.bind_ex, R.bind_bad, R.lift_some, R.noEx_ok, List.getElem?_cons_zero, List.getElem?_cons_succ, Option.bind_some, Option.map_some, Option.bind_eq_bind, id_eq, List.set_cons_zero, List.set_cons_succ, if_true, if_false, Bool.false_eq_true, reduceIte, Bool.not_true, Bool.not_false, Ex.isOmit, all_id, incB]
theorem gFWORDS : txt.mdl.G 45 = some (.tup (fwords.map .str)) := rfl
theorem gDWORDS : txt.mdl.G 46 = some (.tup (words.map .str)) := rfl
theorem tupN_out {xs : List PV} {k : Nat} (q : tupN (.tup xs) k k = true) : xs.length = k := by
  obtain ⟨h1, h2⟩ := Bool.and_eq_true_iff.mp (show (decide ((k : Int) ≤ xs.length) && decide ((xs.length : Int) ≤ k)) = true from q)
  have h1 := of_decide_eq_true h1
  have h2 := of_decide_eq_true h2
  omega
theorem tupN_off {xs : List PV} {k : Nat} (q : tupN (.tup xs) k k = false) : xs.length ≠ k := by
  intro e
  have : tupN (.tup xs) k k = true := by
    show (decide ((k : Int) ≤ xs.length) && decide ((xs.length : Int) ≤ k)) = true
    rw [e, decide_eq_true (Int.le_refl _)]; rfl
  rw [this] at q; cases q
theorem is_fact_v (many : Nat) (v : PV) (h : vW v) : RU N (d + 3) 4 [.int many, v] st = .ok (.bl (factB many v)) st := by
  rw [RU, u4]
  cases q : tupN v 3 3 with
  | false =>
    have e : factB many v = false := by
      cases v <;> first | rfl | skip
      rename_i xs
      have q := tupN_off (k := 3) q
      match xs, q with
      | [], _ => rfl
      | [_], _ => rfl
      | [_, _], _ => rfl
      | [_, _, _], q => exact absurd rfl q
      | _ :: _ :: _ :: _ :: _, _ => rfl
    simp (implicitDefEqProofs := false) only [Mi.seqK_nx, Mi.seqK_rt, Mi.andK_t, Mi.andK_f, Mi.orK_t, Mi.orK_f, Mi.forB_nm, Mi.forB_2, Mi.binK2_d, Mi.binK1_d, Mi.negK_d, Mi.truK_d, Mi.tstK_d, Mi.notK_d, Mi.cmpK2_d, Mi.cmpK1_d, Mi.chnK3_t, Mi.chnK3_f, Mi.chnK2_d, Mi.chnK1_d, Mi.iteK_t, Mi.iteK_f, Mi.tupK_d, Mi.lstK_d, Mi.cellK_d, Mi.callK_d, Mi.biK_d, Mi.idxK2_d, Mi.idxK1_d, Mi.sliK3_t, Mi.sliK3_l, Mi.oIntK_i, Mi.sliK2_d, Mi.sliK1_d, Mi.lcT_d, Mi.lcE_d, Mi.lcK_d, Mi.lrgK2_d, Mi.lrgK1_d, Mi.consK2_d, Mi.consK1_d, Mi.rng1K_d, Mi.rng2K2_d, Mi.rng2K1_d, Mi.zipO_d, Mi.zipK2_d, Mi.zipK1_d, Mi.enuK_d, Mi.sqK_d, Mi.setK_d, Mi.setTK_d, Mi.putK3_d, Mi.putK2_d, Mi.putK1_d, Mi.appK2_d, Mi.appK1_d, Mi.dropK_d, Mi.retK_d, Mi.iteS_t, Mi.iteS_f, Mi.forK_d, Mi.turnK2_d, Mi.turnK1_t, Mi.turnK1_f, Mi.whK_t, Mi.whK_f, Mi.lcB_nm, Mi.lcB_2, Mi.evE_var, Mi.evE_non, Mi.evE_bl, Mi.evE_int, Mi.evE_str, Mi.evE_gl, Mi.evE_bty, Mi.evE_bin, Mi.evE_neg, Mi.evE_not, Mi.evE_and, Mi.evE_or, Mi.evE_cmp, Mi.evE_chn, Mi.evE_ite, Mi.evE_tup, Mi.evE_lst, Mi.evE_cell, Mi.evE_call, Mi.callP_sto, Mi.evE_bi, Mi.evE_idx, Mi.evE_sli, Mi.evE_lc, Mi.evE_lrg, Mi.evE_lrd, Mi.evA_nil, Mi.evA_cons, Mi.evI_rng1, Mi.evI_rng2, Mi.evI_zip, Mi.evI_enu, Mi.evI_sq, Mi.tstR_false, Mi.tstR_true, Mi.optR_false, Mi.optR_true, Mi.oInt_int, Mi.isOmit_omit, Mi.evS_skip, Mi.evS_seq, Mi.evS_set, Mi.evS_setT, Mi.evS_put, Mi.evS_app, Mi.evS_drop, Mi.evS_ret, Mi.evS_ite, Mi.evS_for, Mi.evS_while, Mi.evS_raise, Mi.sto_some, Mi.sto_none, Mi.val_nx, Mi.val_rt, Mi.setTg_nm, Mi.setTg_nil, Mi.setTg_cons, Mi.wipe_nil, Mi.wipe_cons, Mi.forR_nil, Mi.truV_bl, Mi.truV_non, Mi.truV_int, Mi.add_ii, Mi.sub_ii, Mi.lt_ii, Mi.le_ii, Mi.gt_ii, Mi.ge_ii, Mi.isn_v, Mi.notn_v, Mi.isN_non, Mi.isN_int, Mi.isN_tup, Mi.isN_bl, Mi.isN_str, Mi.eq_ii, Mi.ne_ii, Mi.eq_ss, Mi.ne_ss, Mi.neg_i, Mi.walk_lst, Mi.walk_tup, Mi.walk_scr, Mi.len_tup, Mi.len_lst, Mi.len_scr, Mi.tuple_lst, Mi.tuple_tup, Mi.list_tup, Mi.list_lst, Mi.int_int, Mi.int_bl, Mi.abs_int, Mi.min_int, Mi.max_int, Mi.isi_def, Mi.sum_lst, Mi.all_lst, Mi.any_lst, Mi.ints_map, Mi.bools_map, R.bind_ok, R.bind_ex, R.bind_bad, R.lift_some, R.noEx_ok, List.getElem?_cons_zero, List.getElem?_cons_succ, Option.bind_some, Option.map_some, Option.bind_eq_bind, id_eq, List.set_cons_zero, List.set_cons_succ, if_true, if_false, Bool.false_eq_true, reduceIte, Bool.not_true, Bool.not_false, Ex.isOmit, b4, is_tuple_v _ _ _ h.sh, q, e]
  | true =>
    cases v <;> first | (cases q; done) | skip
    rename_i xs
    obtain ⟨a, b, c, rfl⟩ : ∃ a b c, xs = [a, b, c] := by
      have q := tupN_out (k := 3) q
      match xs, q with
      | [a, b, c], _ => exact ⟨a, b, c, rfl⟩
    obtain ⟨-, hx⟩ := h.tup
    have ha := hx a (by simp)
    have hb := hx b (by simp)
    have hc := hx c (by simp)
    have i0 : atI [a, b, c] 0 = some a := rfl
    have i1 : atI [a, b, c] 1 = some b := rfl
    have i2 : atI [a, b, c] 2 = some c := rfl
    simp (implicitDefEqProofs := false) only [Mi.seqK_nx, Mi.seqK_rt, Mi.andK_t, Mi.andK_f, Mi.orK_t, Mi.orK_f, Mi.forB_nm, Mi.forB_2, Mi.binK2_d, Mi.binK1_d, Mi.negK_d, Mi.truK_d, Mi.tstK_d, Mi.notK_d, Mi.cmpK2_d, Mi.cmpK1_d, Mi.chnK3_t, Mi.chnK3_f, Mi.chnK2_d, Mi.chnK1_d, Mi.iteK_t, Mi.iteK_f, Mi.tupK_d, Mi.lstK_d, Mi.cellK_d, Mi.callK_d, Mi.biK_d, Mi.idxK2_d, Mi.idxK1_d, Mi.sliK3_t, Mi.sliK3_l, Mi.oIntK_i, Mi.sliK2_d, Mi.sliK1_d, Mi.lcT_d, Mi.lcE_d, Mi.lcK_d, Mi.lrgK2_d, Mi.lrgK1_d, Mi.consK2_d, Mi.consK1_d, Mi.rng1K_d, Mi.rng2K2_d, Mi.rng2K1_d, Mi.zipO_d, Mi.zipK2_d, Mi.zipK1_d, Mi.enuK_d, Mi.sqK_d, Mi.setK_d, Mi.setTK_d, Mi.putK3_d, Mi.putK2_d, Mi.putK1_d, Mi.appK2_d, Mi.appK1_d, Mi.dropK_d, Mi.retK_d, Mi.iteS_t, Mi.iteS_f, Mi.forK_d, Mi.turnK2_d, Mi.turnK1_t, Mi.turnK1_f, Mi.whK_t, Mi.whK_f, Mi.lcB_nm, Mi.lcB_2, Mi.evE_var, Mi.evE_non, Mi.evE_bl, Mi.evE_int, Mi.evE_str, Mi.evE_gl, Mi.evE_bty, Mi.evE_bin, Mi.evE_neg, Mi.evE_not, Mi.evE_and, Mi.evE_or, Mi.evE_cmp, Mi.evE_chn, Mi.evE_ite, Mi.evE_tup, Mi.evE_lst, Mi.evE_cell, Mi.evE_call, Mi.callP_sto, Mi.evE_bi, Mi.evE_idx, Mi.evE_sli, Mi.evE_lc, Mi.evE_lrg, Mi.evE_lrd, Mi.evA_nil, Mi.evA_cons, Mi.evI_rng1, Mi.evI_rng2, Mi.evI_zip, Mi.evI_enu, Mi.evI_sq, Mi.tstR_false, Mi.tstR_true, Mi.optR_false, Mi.optR_true, Mi.oInt_int, Mi.isOmit_omit, Mi.evS_skip, Mi.evS_seq, Mi.evS_set, Mi.evS_setT, Mi.evS_put, Mi.evS_app, Mi.evS_drop, Mi.evS_ret, Mi.evS_ite, Mi.evS_for, Mi.evS_while, Mi.evS_raise, Mi.sto_some, Mi.sto_none, Mi.val_nx, Mi.val_rt, Mi.setTg_nm, Mi.setTg_nil, Mi.setTg_cons, Mi.wipe_nil, Mi.wipe_cons, Mi.forR_nil, Mi.truV_bl, Mi.truV_non, Mi.truV_int, Mi.add_ii, Mi.sub_ii, Mi.lt_ii, Mi.le_ii, Mi.gt_ii, Mi.ge_ii, Mi.isn_v, Mi.notn_v, Mi.isN_non, Mi.isN_int, Mi.isN_tup, Mi.isN_bl, Mi.isN_str, Mi.eq_ii, Mi.ne_ii, Mi.eq_ss, Mi.ne_ss, Mi.neg_i, Mi.walk_lst, Mi.walk_tup, Mi.walk_scr, Mi.len_tup, Mi.len_lst, Mi.len_scr, Mi.tuple_lst, Mi.tuple_tup, Mi.list_tup, Mi.list_lst, Mi.int_int, Mi.int_bl, Mi.abs_int, Mi.min_int, Mi.max_int, Mi.isi_def, Mi.sum_lst, Mi.all_lst, Mi.any_lst, Mi.ints_map, Mi.bools_map, R.bind_ok, R.bind_ex, R.bind_bad, R.lift_some, R.noEx_ok, List.getElem?_cons_zero, List.getElem?_cons_succ, Option.bind_some, Option.map_some, Option.bind_eq_bind, id_eq, List.set_cons_zero, List.set_cons_succ, if_true, if_false, Bool.false_eq_true, reduceIte, Bool.not_true, Bool.not_false, Ex.isOmit, b4, is_tuple_v _ _ _ h.sh, q, Mi.ix_tup, i0, i1, i2, gFWORDS, is_word_v _ _ ha.sh, factB]
    cases wordB a fwords
    · simp (implicitDefEqProofs := false) only [Mi.seqK_nx, Mi.seqK_rt, Mi.andK_t, Mi.andK_f, Mi.orK_t, Mi.orK_f, Mi.forB_nm, Mi.forB_2, Mi.binK2_d, Mi.binK1_d, Mi.negK_d, Mi.truK_d, Mi.tstK_d, Mi.notK_d, Mi.cmpK2_d, Mi.cmpK1_d, Mi.chnK3_t, Mi.chnK3_f, Mi.chnK2_d, Mi.chnK1_d, Mi.iteK_t, Mi.iteK_f, Mi.tupK_d, Mi.lstK_d, Mi.cellK_d, Mi.callK_d, Mi.biK_d, Mi.idxK2_d, Mi.idxK1_d, Mi.sliK3_t, Mi.sliK3_l, Mi.oIntK_i, Mi.sliK2_d, Mi.sliK1_d, Mi.lcT_d, Mi.lcE_d, Mi.lcK_d, Mi.lrgK2_d, Mi.lrgK1_d, Mi.consK2_d, Mi.consK1_d, Mi.rng1K_d, Mi.rng2K2_d, Mi.rng2K1_d, Mi.zipO_d, Mi.zipK2_d, Mi.zipK1_d, Mi.enuK_d, Mi.sqK_d, Mi.setK_d, Mi.setTK_d, Mi.putK3_d, Mi.putK2_d, Mi.putK1_d, Mi.appK2_d, Mi.appK1_d, Mi.dropK_d, Mi.retK_d, Mi.iteS_t, Mi.iteS_f, Mi.forK_d, Mi.turnK2_d, Mi.turnK1_t, Mi.turnK1_f, Mi.whK_t, Mi.whK_f, Mi.lcB_nm, Mi.lcB_2, Mi.evE_var, Mi.evE_non, Mi.evE_bl, Mi.evE_int, Mi.evE_str, Mi.evE_gl, Mi.evE_bty, Mi.evE_bin, Mi.evE_neg, Mi.evE_not, Mi.evE_and, Mi.evE_or, Mi.evE_cmp, Mi.evE_chn, Mi.evE_ite, Mi.evE_tup, Mi.evE_lst, Mi.evE_cell, Mi.evE_call, Mi.callP_sto, Mi.evE_bi, Mi.evE_idx, Mi.evE_sli, Mi.evE_lc, Mi.evE_lrg, Mi.evE_lrd, Mi.evA_nil, Mi.evA_cons, Mi.evI_rng1, Mi.evI_rng2, Mi.evI_zip, Mi.evI_enu, Mi.evI_sq, Mi.tstR_false, Mi.tstR_true, Mi.optR_false, Mi.optR_true, Mi.oInt_int, Mi.isOmit_omit, Mi.evS_skip, Mi.evS_seq, Mi.evS_set, Mi.evS_setT, Mi.evS_put, Mi.evS_app, Mi.evS_drop, Mi.evS_ret, Mi.evS_ite, Mi.evS_for, Mi.evS_while, Mi.evS_raise, Mi.sto_some, Mi.sto_none, Mi.val_nx, Mi.val_rt, Mi.setTg_nm, Mi.setTg_nil, Mi.setTg_cons, Mi.wipe_nil, Mi.wipe_cons, Mi.forR_nil, Mi.truV_bl, Mi.truV_non, Mi.truV_int, Mi.add_ii, Mi.sub_ii, Mi.lt_ii, Mi.le_ii, Mi.gt_ii, Mi.ge_ii, Mi.isn_v, Mi.notn_v, Mi.isN_non, Mi.isN_int, Mi.isN_tup, Mi.isN_bl, Mi.isN_str, Mi.eq_ii, Mi.ne_ii, Mi.eq_ss, Mi.ne_ss, Mi.neg_i, Mi.walk_lst, Mi.walk_tup, Mi.walk_scr, Mi.len_tup, Mi.len_lst, Mi.len_scr, Mi.tuple_lst, Mi.tuple_tup, Mi.list_tup, Mi.list_lst, Mi.int_int, Mi.int_bl, Mi.abs_int, Mi.min_int, Mi.max_int, Mi.isi_def, Mi.sum_lst, Mi.all_lst, Mi.any_lst, Mi.ints_map, Mi.bools_map, R.bind_ok, R.bind_ex, R.bind_bad, R.lift_some, R.noEx_ok, List.getElem?_cons_zero, List.getElem?_cons_succ, Option.bind_some, Option.map_some, Option.bind_eq_bind, id_eq, List.set_cons_zero, List.set_cons_succ, if_true, if_false, Bool.false_eq_true, reduceIte, Bool.not_true, Bool.not_false, Ex.isOmit, Bool.false_and]
    · simp (implicitDefEqProofs := false) only [Mi.seqK_nx, Mi.seqK_rt, Mi.andK_t, Mi.andK_f, Mi.orK_t, Mi.orK_f, Mi.forB_nm, Mi.forB_2, Mi.binK2_d, Mi.binK1_d, Mi.negK_d, Mi.truK_d, Mi.tstK_d, Mi.notK_d, Mi.cmpK2_d, Mi.cmpK1_d, Mi.chnK3_t, Mi.chnK3_f, Mi.chnK2_d, Mi.chnK1_d, Mi.iteK_t, Mi.iteK_f, Mi.tupK_d, Mi.lstK_d, Mi.cellK_d, Mi.callK_d, Mi.biK_d, Mi.idxK2_d, Mi.idxK1_d, Mi.sliK3_t, Mi.sliK3_l, Mi.oIntK_i, Mi.sliK2_d, Mi.sliK1_d, Mi.lcT_d, Mi.lcE_d, Mi.lcK_d, Mi.lrgK2_d, Mi.lrgK1_d, Mi.consK2_d, Mi.consK1_d, Mi.rng1K_d, Mi.rng2K2_d, Mi.rng2K1_d, Mi.zipO_d, Mi.zipK2_d, Mi.zipK1_d, Mi.enuK_d, Mi.sqK_d, Mi.setK_d, Mi.setTK_d, Mi.putK3_d, Mi.putK2_d, Mi.putK1_d, Mi.appK2_d, Mi.appK1_d, Mi.dropK_d, Mi.retK_d, Mi.iteS_t, Mi.iteS_f, Mi.forK_d, Mi.turnK2_d, Mi.turnK1_t, Mi.turnK1_f, Mi.whK_t, Mi.whK_f, Mi.lcB_nm, Mi.lcB_2, Mi.evE_var, Mi.evE_non, Mi.evE_bl, Mi.evE_int, Mi.evE_str, Mi.evE_gl, Mi.evE_bty, Mi.evE_bin, Mi.evE_neg, Mi.evE_not, Mi.evE_and, Mi.evE_or, Mi.evE_cmp, Mi.evE_chn, Mi.evE_ite, Mi.evE_tup, Mi.evE_lst, Mi.evE_cell, Mi.evE_call, Mi.callP_sto, Mi.evE_bi, Mi.evE_idx, Mi.evE_sli, Mi.evE_lc, Mi.evE_lrg, Mi.evE_lrd, Mi.evA_nil, Mi.evA_cons, Mi.evI_rng1, Mi.evI_rng2, Mi.evI_zip, Mi.evI_enu, Mi.evI_sq, Mi.tstR_false, Mi.tstR_true, Mi.optR_false, Mi.optR_true, Mi.oInt_int, Mi.isOmit_omit, Mi.evS_skip, Mi.evS_seq, Mi.evS_set, Mi.evS_setT, Mi.evS_put, Mi.evS_app, Mi.evS_drop, Mi.evS_ret, Mi.evS_ite, Mi.evS_for, Mi.evS_while, Mi.evS_raise, Mi.sto_some, Mi.sto_none, Mi.val_nx, Mi.val_rt, Mi.setTg_nm, Mi.setTg_nil, Mi.setTg_cons, Mi.wipe_nil, Mi.wipe_cons, Mi.forR_nil, Mi.truV_bl, Mi.truV_non, Mi.truV_int, Mi.add_ii, Mi.sub_ii, Mi.lt_ii, Mi.le_ii, Mi.gt_ii, Mi.ge_ii, Mi.isn_v, Mi.notn_v, Mi.isN_non, Mi.isN_int, Mi.isN_tup, Mi.isN_bl, Mi.isN_str, Mi.eq_ii, Mi.ne_ii, Mi.eq_ss, Mi.ne_ss, Mi.neg_i, Mi.walk_lst, Mi.walk_tup, Mi.walk_scr, Mi.len_tup, Mi.len_lst, Mi.len_scr, Mi.tuple_lst, Mi.tuple_tup, Mi.list_tup, Mi.list_lst, Mi.int_int, Mi.int_bl, Mi.abs_int, Mi.min_int, Mi.max_int, Mi.isi_def, Mi.sum_lst, Mi.all_lst, Mi.any_lst, Mi.ints_map, Mi.bools_map, R.bind_ok, R.bind_ex, R.bind_bad, R.lift_some, R.noEx_ok, List.getElem?_cons_zero, List.getElem?_cons_succ, Option.bind_some, Option.map_some, Option.bind_eq_bind, id_eq, List.set_cons_zero, List.set_cons_succ, if_true, if_false, Bool.false_eq_true, reduceIte, Bool.not_true, Bool.not_false, Ex.isOmit, Bool.true_and, Mi.ix_tup, i1, i2, is_lot_v _ _ hb]
      cases lotB many b
      · simp (implicitDefEqProofs := false) only [Mi.seqK_nx, Mi.seqK_rt, Mi.andK_t, Mi.andK_f, Mi.orK_t, Mi.orK_f, Mi.forB_nm, Mi.forB_2, Mi.binK2_d, Mi.binK1_d, Mi.negK_d, Mi.truK_d, Mi.tstK_d, Mi.notK_d, Mi.cmpK2_d, Mi.cmpK1_d, Mi.chnK3_t, Mi.chnK3_f, Mi.chnK2_d, Mi.chnK1_d, Mi.iteK_t, Mi.iteK_f, Mi.tupK_d, Mi.lstK_d, Mi.cellK_d, Mi.callK_d, Mi.biK_d, Mi.idxK2_d, Mi.idxK1_d, Mi.sliK3_t, Mi.sliK3_l, Mi.oIntK_i, Mi.sliK2_d, Mi.sliK1_d, Mi.lcT_d, Mi.lcE_d, Mi.lcK_d, Mi.lrgK2_d, Mi.lrgK1_d, Mi.consK2_d, Mi.consK1_d, Mi.rng1K_d, Mi.rng2K2_d, Mi.rng2K1_d, Mi.zipO_d, Mi.zipK2_d, Mi.zipK1_d, Mi.enuK_d, Mi.sqK_d, Mi.setK_d, Mi.setTK_d, Mi.putK3_d, Mi.putK2_d, Mi.putK1_d, Mi.appK2_d, Mi.appK1_d, Mi.dropK_d, Mi.retK_d, Mi.iteS_t, Mi.iteS_f, Mi.forK_d, Mi.turnK2_d, Mi.turnK1_t, Mi.turnK1_f, Mi.whK_t, Mi.whK_f, Mi.lcB_nm, Mi.lcB_2, Mi.evE_var, Mi.evE_non, Mi.evE_bl, Mi.evE_int, Mi.evE_str, Mi.evE_gl, Mi.evE_bty, Mi.evE_bin, Mi.evE_neg, Mi.evE_not, Mi.evE_and, Mi.evE_or, Mi.evE_cmp, Mi.evE_chn, Mi.evE_ite, Mi.evE_tup, Mi.evE_lst, Mi.evE_cell, Mi.evE_call, Mi.callP_sto, Mi.evE_bi, Mi.evE_idx, Mi.evE_sli, Mi.evE_lc, Mi.evE_lrg, Mi.evE_lrd, Mi.evA_nil, Mi.evA_cons, Mi.evI_rng1, Mi.evI_rng2, Mi.evI_zip, Mi.evI_enu, Mi.evI_sq, Mi.tstR_false, Mi.tstR_true, Mi.optR_false, Mi.optR_true, Mi.oInt_int, Mi.isOmit_omit, Mi.evS_skip, Mi.evS_seq, Mi.evS_set, Mi.evS_setT, Mi.evS_put, Mi.evS_app, Mi.evS_drop, Mi.evS_ret, Mi.evS_ite, Mi.evS_for, Mi.evS_while, Mi.evS_raise, Mi.sto_some, Mi.sto_none, Mi.val_nx, Mi.val_rt, Mi.setTg_nm, Mi.setTg_nil, Mi.setTg_cons, Mi.wipe_nil, Mi.wipe_cons, Mi.forR_nil, Mi.truV_bl, Mi.truV_non, Mi.truV_int, Mi.add_ii, Mi.sub_ii, Mi.lt_ii, Mi.le_ii, Mi.gt_ii, Mi.ge_ii, Mi.isn_v, Mi.notn_v, Mi.isN_non, Mi.isN_int, Mi.isN_tup, Mi.isN_bl, Mi.isN_str, Mi.eq_ii, Mi.ne_ii, Mi.eq_ss, Mi.ne_ss, Mi.neg_i, Mi.walk_lst, Mi.walk_tup, Mi.walk_scr, Mi.len_tup, Mi.len_lst, Mi.len_scr, Mi.tuple_lst, Mi.tuple_tup, Mi.list_tup, Mi.list_lst, Mi.int_int, Mi.int_bl, Mi.abs_int, Mi.min_int, Mi.max_int, Mi.isi_def, Mi.sum_lst, Mi.all_lst, Mi.any_lst, Mi.ints_map, Mi.bools_map, R.bind_ok, R.bind_ex, R.bind_bad, R.lift_some, R.noEx_ok, List.getElem?_cons_zero, List.getElem?_cons_succ, Option.bind_some, Option.map_some, Option.bind_eq_bind, id_eq, List.set_cons_zero, List.set_cons_succ, if_true, if_false, Bool.false_eq_true, reduceIte, Bool.not_true, Bool.not_false, Ex.isOmit, Bool.false_and]
      · simp (implicitDefEqProofs := false) only [Mi.seqK_nx, Mi.seqK_rt, Mi.andK_t, Mi.andK_f, Mi.orK_t, Mi.orK_f, Mi.forB_nm, Mi.forB_2, Mi.binK2_d, Mi.binK1_d, Mi.negK_d, Mi.truK_d, Mi.tstK_d, Mi.notK_d, Mi.cmpK2_d, Mi.cmpK1_d, Mi.chnK3_t, Mi.chnK3_f, Mi.chnK2_d, Mi.chnK1_d, Mi.iteK_t, Mi.iteK_f, Mi.tupK_d, Mi.lstK_d, Mi.cellK_d, Mi.callK_d, Mi.biK_d, Mi.idxK2_d, Mi.idxK1_d, Mi.sliK3_t, Mi.sliK3_l, Mi.oIntK_i, Mi.sliK2_d, Mi.sliK1_d, Mi.lcT_d, Mi.lcE_d, Mi.lcK_d, Mi.lrgK2_d, Mi.lrgK1_d, Mi.consK2_d, Mi.consK1_d, Mi.rng1K_d, Mi.rng2K2_d, Mi.rng2K1_d, Mi.zipO_d, Mi.zipK2_d, Mi.zipK1_d, Mi.enuK_d, Mi.sqK_d, Mi.setK_d, Mi.setTK_d, Mi.putK3_d, Mi.putK2_d, Mi.putK1_d, Mi.appK2_d, Mi.appK1_d, Mi.dropK_d, Mi.retK_d, Mi.iteS_t, Mi.iteS_f, Mi.forK_d, Mi.turnK2_d, Mi.turnK1_t, Mi.turnK1_f, Mi.whK_t, Mi.whK_f, Mi.lcB_nm, Mi.lcB_2, Mi.evE_var, Mi.evE_non, Mi.evE_bl, Mi.evE_int, Mi.evE_str, Mi.evE_gl, Mi.evE_bty, Mi.evE_bin, Mi.evE_neg, Mi.evE_not, Mi.evE_and, Mi.evE_or, Mi.evE_cmp, Mi.evE_chn, Mi.evE_ite, Mi.evE_tup, Mi.evE_lst, Mi.evE_cell, Mi.evE_call, Mi.callP_sto, Mi.evE_bi, Mi.evE_idx, Mi.evE_sli, Mi.evE_lc, Mi.evE_lrg, Mi.evE_lrd, Mi.evA_nil, Mi.evA_cons, Mi.evI_rng1, Mi.evI_rng2, Mi.evI_zip, Mi.evI_enu, Mi.evI_sq, Mi.tstR_false, Mi.tstR_true, Mi.optR_false, Mi.optR_true, Mi.oInt_int, Mi.isOmit_omit, Mi.evS_skip, Mi.evS_seq, Mi.evS_set, Mi.evS_setT, Mi.evS_put, Mi.evS_app, Mi.evS_drop, Mi.evS_ret, Mi.evS_ite, Mi.evS_for, Mi.evS_while, Mi.evS_raise, Mi.sto_some, Mi.sto_none, Mi.val_nx, Mi.val_rt, Mi.setTg_nm, Mi.setTg_nil, Mi.setTg_cons, Mi.wipe_nil, Mi.wipe_cons, Mi.forR_nil, Mi.truV_bl, Mi.truV_non, Mi.truV_int, Mi.add_ii, Mi.sub_ii, Mi.lt_ii, Mi.le_ii, Mi.gt_ii, Mi.ge_ii, Mi.isn_v, Mi.notn_v, Mi.isN_non, Mi.isN_int, Mi.isN_tup, Mi.isN_bl, Mi.isN_str, Mi.eq_ii, Mi.ne_ii, Mi.eq_ss, Mi.ne_ss, Mi.neg_i, Mi.walk_lst, Mi.walk_tup, Mi.walk_scr, Mi.len_tup, Mi.len_lst, Mi.len_scr, Mi.tuple_lst, Mi.tuple_tup, Mi.list_tup, Mi.list_lst, Mi.int_int, Mi.int_bl, Mi.abs_int, Mi.min_int, Mi.max_int, Mi.isi_def, Mi.sum_lst, Mi.all_lst, Mi.any_lst, Mi.ints_map, Mi.bools_map, R.bind_ok, R.bind_ex, R.bind_bad, R.lift_some, R.noEx_ok, List.getElem?_cons_zero, List.getElem?_cons_succ, Option.bind_some, Option.map_some, Option.bind_eq_bind, id_eq, List.set_cons_zero, List.set_cons_succ, if_true, if_false, Bool.false_eq_true, reduceIte, Bool.not_true, Bool.not_false, Ex.isOmit, Bool.true_and, Mi.ix_tup, i2, is_lot_v _ _ hc]
theorem are_good_facts_v (many : Nat) (v : PV) (h : vW v) : RU N (d + 4) 5 [.int many, v, .int 6] st = .ok (.bl (factsB many v)) st := by
  rw [RU, u5]
  cases q : tupN v 0 6 with
  | false =>
    have e : factsB many v = false := by
      cases v <;> first | rfl | skip
      rename_i xs
      have q : (decide ((0 : Int) ≤ xs.length) && decide ((xs.length : Int) ≤ 6)) = false := q
      rw [decide_eq_true (by omega), Bool.true_and] at q
      have q := of_decide_eq_false q
      show (decide (xs.length ≤ 6) && _) = false
      rw [decide_eq_false (by omega)]; rfl
    simp (implicitDefEqProofs := false) only [Mi.seqK_nx, Mi.seqK_rt, Mi.andK_t, Mi.andK_f, Mi.orK_t, Mi.orK_f, Mi.forB_nm, Mi.forB_2, Mi.binK2_d, Mi.binK1_d, Mi.negK_d, Mi.truK_d, Mi.tstK_d, Mi.notK_d, Mi.cmpK2_d, Mi.cmpK1_d, Mi.chnK3_t, Mi.chnK3_f, Mi.chnK2_d, Mi.chnK1_d, Mi.iteK_t, Mi.iteK_f, Mi.tupK_d, Mi.lstK_d, Mi.cellK_d, Mi.callK_d, Mi.biK_d, Mi.idxK2_d, Mi.idxK1_d, Mi.sliK3_t, Mi.sliK3_l, Mi.oIntK_i, Mi.sliK2_d, Mi.sliK1_d, Mi.lcT_d, Mi.lcE_d, Mi.lcK_d, Mi.lrgK2_d, Mi.lrgK1_d, Mi.consK2_d, Mi.consK1_d, Mi.rng1K_d, Mi.rng2K2_d, Mi.rng2K1_d, Mi.zipO_d, Mi.zipK2_d, Mi.zipK1_d, Mi.enuK_d, Mi.sqK_d, Mi.setK_d, Mi.setTK_d, Mi.putK3_d, Mi.putK2_d, Mi.putK1_d, Mi.appK2_d, Mi.appK1_d, Mi.dropK_d, Mi.retK_d, Mi.iteS_t, Mi.iteS_f, Mi.forK_d, Mi.turnK2_d, Mi.turnK1_t, Mi.turnK1_f, Mi.whK_t, Mi.whK_f, Mi.lcB_nm, Mi.lcB_2, Mi.evE_var, Mi.evE_non, Mi.evE_bl, Mi.evE_int, Mi.evE_str, Mi.evE_gl, Mi.evE_bty, Mi.evE_bin, Mi.evE_neg, Mi.evE_not, Mi.evE_and, Mi.evE_or, Mi.evE_cmp, Mi.evE_chn, Mi.evE_ite, Mi.evE_tup, Mi.evE_lst, Mi.evE_cell, Mi.evE_call, Mi.callP_sto, Mi.evE_bi, Mi.evE_idx, Mi.evE_sli, Mi.evE_lc, Mi.evE_lrg, Mi.evE_lrd, Mi.evA_nil, Mi.evA_cons, Mi.evI_rng1, Mi.evI_rng2, Mi.evI_zip, Mi.evI_enu, Mi.evI_sq, Mi.tstR_false, Mi.tstR_true, Mi.optR_false, Mi.optR_true, Mi.oInt_int, Mi.isOmit_omit, Mi.evS_skip, Mi.evS_seq, Mi.evS_set, Mi.evS_setT, Mi.evS_put, Mi.evS_app, Mi.evS_drop, Mi.evS_ret, Mi.evS_ite, Mi.evS_for, Mi.evS_while, Mi.evS_raise, Mi.sto_some, Mi.sto_none, Mi.val_nx, Mi.val_rt, Mi.setTg_nm, Mi.setTg_nil, Mi.setTg_cons, Mi.wipe_nil, Mi.wipe_cons, Mi.forR_nil, Mi.truV_bl, Mi.truV_non, Mi.truV_int, Mi.add_ii, Mi.sub_ii, Mi.lt_ii, Mi.le_ii, Mi.gt_ii, Mi.ge_ii, Mi.isn_v, Mi.notn_v, Mi.isN_non, Mi.isN_int, Mi.isN_tup, Mi.isN_bl, Mi.isN_str, Mi.eq_ii, Mi.ne_ii, Mi.eq_ss, Mi.ne_ss, Mi.neg_i, Mi.walk_lst, Mi.walk_tup, Mi.walk_scr, Mi.len_tup, Mi.len_lst, Mi.len_scr, Mi.tuple_lst, Mi.tuple_tup, Mi.list_tup, Mi.list_lst, Mi.int_int, Mi.int_bl, Mi.abs_int, Mi.min_int, Mi.max_int, Mi.isi_def, Mi.sum_lst, Mi.all_lst, Mi.any_lst, Mi.ints_map, Mi.bools_map, R.bind_ok, R.bind_ex, R.bind_bad, R.lift_some, R.noEx_ok, List.getElem?_cons_zero, List.getElem?_cons_succ, Option.bind_some, Option.map_some, Option.bind_eq_bind, id_eq, List.set_cons_zero, List.set_cons_succ, if_true, if_false, Bool.false_eq_true, reduceIte, Bool.not_true, Bool.not_false, Ex.isOmit, b5, is_tuple_v _ _ _ h.sh, q, e]
  | true =>
    cases v <;> first | (cases q; done) | skip
    rename_i xs
    obtain ⟨hl, hx⟩ := h.tup
    have q2 := of_decide_eq_true (Bool.and_eq_true_iff.mp (show (decide ((0 : Int) ≤ xs.length) && decide ((xs.length : Int) ≤ 6)) = true from q)).2
    have e : factsB many (.tup xs) = xs.all (factB many) := by
      show (decide (xs.length ≤ 6) && _) = _
      rw [decide_eq_true (by omega), Bool.true_and]
    simp (implicitDefEqProofs := false) only [Mi.seqK_nx, Mi.seqK_rt, Mi.andK_t, Mi.andK_f, Mi.orK_t, Mi.orK_f, Mi.forB_nm, Mi.forB_2, Mi.binK2_d, Mi.binK1_d, Mi.negK_d, Mi.truK_d, Mi.tstK_d, Mi.notK_d, Mi.cmpK2_d, Mi.cmpK1_d, Mi.chnK3_t, Mi.chnK3_f, Mi.chnK2_d, Mi.chnK1_d, Mi.iteK_t, Mi.iteK_f, Mi.tupK_d, Mi.lstK_d, Mi.cellK_d, Mi.callK_d, Mi.biK_d, Mi.idxK2_d, Mi.idxK1_d, Mi.sliK3_t, Mi.sliK3_l, Mi.oIntK_i, Mi.sliK2_d, Mi.sliK1_d, Mi.lcT_d, Mi.lcE_d, Mi.lcK_d, Mi.lrgK2_d, Mi.lrgK1_d, Mi.consK2_d, Mi.consK1_d, Mi.rng1K_d, Mi.rng2K2_d, Mi.rng2K1_d, Mi.zipO_d, Mi.zipK2_d, Mi.zipK1_d, Mi.enuK_d, Mi.sqK_d, Mi.setK_d, Mi.setTK_d, Mi.putK3_d, Mi.putK2_d, Mi.putK1_d, Mi.appK2_d, Mi.appK1_d, Mi.dropK_d, Mi.retK_d, Mi.iteS_t, Mi.iteS_f, Mi.forK_d, Mi.turnK2_d, Mi.turnK1_t, Mi.turnK1_f, Mi.whK_t, Mi.whK_f, Mi.lcB_nm, Mi.lcB_2, Mi.evE_var, Mi.evE_non, Mi.evE_bl, Mi.evE_int, Mi.evE_str, Mi.evE_gl, Mi.evE_bty, Mi.evE_bin, Mi.evE_neg, Mi.evE_not, Mi.evE_and, Mi.evE_or, Mi.evE_cmp, Mi.evE_chn, Mi.evE_ite, Mi.evE_tup, Mi.evE_lst, Mi.evE_cell, Mi.evE_call, Mi.callP_sto, Mi.evE_bi, Mi.evE_idx, Mi.evE_sli, Mi.evE_lc, Mi.evE_lrg, Mi.evE_lrd, Mi.evA_nil, Mi.evA_cons, Mi.evI_rng1, Mi.evI_rng2, Mi.evI_zip, Mi.evI_enu, Mi.evI_sq, Mi.tstR_false, Mi.tstR_true, Mi.optR_false, Mi.optR_true, Mi.oInt_int, Mi.isOmit_omit, Mi.evS_skip, Mi.evS_seq, Mi.evS_set, Mi.evS_setT, Mi.evS_put, Mi.evS_app, Mi.evS_drop, Mi.evS_ret, Mi.evS_ite, Mi.evS_for, Mi.evS_while, Mi.evS_raise, Mi.sto_some, Mi.sto_none, Mi.val_nx, Mi.val_rt, Mi.setTg_nm, Mi.setTg_nil, Mi.setTg_cons, Mi.wipe_nil, Mi.wipe_cons, Mi.forR_nil, Mi.truV_bl, Mi.truV_non, Mi.truV_int, Mi.add_ii, Mi.sub_ii, Mi.lt_ii, Mi.le_ii, Mi.gt_ii, Mi.ge_ii, Mi.isn_v, Mi.notn_v, Mi.isN_non, Mi.isN_int, Mi.isN_tup, Mi.isN_bl, Mi.isN_str, Mi.eq_ii, Mi.ne_ii, Mi.eq_ss, Mi.ne_ss, Mi.neg_i, Mi.walk_lst, Mi.walk_tup, Mi.walk_scr, Mi.len_tup, Mi.len_lst, Mi.len_scr, Mi.tuple_lst, Mi.tuple_tup, Mi.list_tup, Mi.list_lst, Mi.int_int, Mi.int_bl, Mi.abs_int, Mi.min_int, Mi.max_int, Mi.isi_def, Mi.sum_lst, Mi.all_lst, Mi.any_lst, Mi.ints_map, Mi.bools_map, R.bind_ok, R.bind_ex, R.bind_bad, R.lift_some, R.noEx_ok, List.getElem?_cons_zero, List.getElem?_cons_succ, Option.bind_some, Option.map_some, Option.bind_eq_bind, id_eq, List.set_cons_zero, List.set_cons_succ, if_true, if_false, Bool.false_eq_true, reduceIte, Bool.not_true, Bool.not_false, Ex.isOmit, b5, is_tuple_v _ _ _ h.sh, q]
    rw [all_of xs _ (factB many) (by omega) (fun x hm => by simp (implicitDefEqProofs := false) only [Mi.seqK_nx, Mi.seqK_rt, Mi.andK_t, Mi.andK_f, Mi.orK_t, Mi.orK_f, Mi.forB_nm, Mi.forB_2, Mi.binK2_d, Mi.binK1_d, Mi.negK_d, Mi.truK_d, Mi.tstK_d, Mi.notK_d, Mi.cmpK2_d, Mi.cmpK1_d, Mi.chnK3_t, Mi.chnK3_f, Mi.chnK2_d, Mi.chnK1_d, Mi.iteK_t, Mi.iteK_f, Mi.tupK_d, Mi.lstK_d, Mi.cellK_d, Mi.callK_d, Mi.biK_d, Mi.idxK2_d, Mi.idxK1_d, Mi.sliK3_t, Mi.sliK3_l, Mi.oIntK_i, Mi.sliK2_d, Mi.sliK1_d, Mi.lcT_d, Mi.lcE_d, Mi.lcK_d, Mi.lrgK2_d, Mi.lrgK1_d, Mi.consK2_d, Mi.consK1_d, Mi.rng1K_d, Mi.rng2K2_d, Mi.rng2K1_d, Mi.zipO_d, Mi.zipK2_d, Mi.zipK1_d, Mi.enuK_d, Mi.sqK_d, Mi.setK_d, Mi.setTK_d, Mi.putK3_d, Mi.putK2_d, Mi.putK1_d, Mi.appK2_d, Mi.appK1_d, Mi.dropK_d, Mi.retK_d, Mi.iteS_t, Mi.iteS_f, Mi.forK_d, Mi.turnK2_d, Mi.turnK1_t, Mi.turnK1_f, Mi.whK_t, Mi.whK_f, Mi.lcB_nm, Mi.lcB_2, Mi.evE_var, Mi.evE_non, Mi.evE_bl, Mi.evE_int, Mi.evE_str, Mi.evE_gl, Mi.evE_bty, Mi.evE_bin, Mi.evE_neg, Mi.evE_not, Mi.evE_and, Mi.evE_or, Mi.evE_cmp, Mi.evE_chn, Mi.evE_ite, Mi.evE_tup, Mi.evE_lst, Mi.evE_cell, Mi.evE_call, Mi.callP_sto, Mi.evE_bi, Mi.evE_idx, Mi.evE_sli, Mi.evE_lc, Mi.evE_lrg, Mi.evE_lrd, Mi.evA_nil, Mi.evA_cons, Mi.evI_rng1, Mi.evI_rng2, Mi.evI_zip, Mi.evI_enu, Mi.evI_sq, Mi.tstR_false, Mi.tstR_true, Mi.optR_false, Mi.optR_true, Mi.oInt_int, Mi.isOmit_omit, Mi.evS_skip, Mi.evS_seq, Mi.evS_set, Mi.evS_setT, Mi.evS_put, Mi.evS_app, Mi.evS_drop, Mi.evS_ret, Mi.evS_ite, Mi.evS_for, Mi.evS_while, Mi.evS_raise, Mi.sto_some, Mi.sto_none, Mi.val_nx, Mi.val_rt, Mi.setTg_nm, Mi.setTg_nil, Mi.setTg_cons, Mi.wipe_nil, Mi.wipe_cons, Mi.forR_nil, Mi.truV_bl, Mi.truV_non, Mi.truV_int, Mi.add_ii, Mi.sub_ii, Mi.lt_ii, Mi.le_ii, Mi.gt_ii, Mi.ge_ii, Mi.isn_v, Mi.notn_v, Mi.isN_non, Mi.isN_int, Mi.isN_tup, Mi.isN_bl, Mi.isN_str, Mi.eq_ii, Mi.ne_ii, Mi.eq_ss, Mi.ne_ss, Mi.neg_i, Mi.walk_lst, Mi.walk_tup, Mi.walk_scr, Mi.len_tup, Mi.len_lst, Mi.len_scr, Mi.tuple_lst, Mi.tuple_tup, Mi.list_tup, Mi.list_lst, Mi.int_int, Mi.int_bl, Mi.abs_int, Mi.min_int, Mi.max_int, Mi.isi_def, Mi.sum_lst, Mi.all_lst, Mi.any_lst, Mi.ints_map, Mi.bools_map, R.bind_ok, R.bind_ex, R.bind_bad, R.lift_some, R.noEx_ok, List.getElem?_cons_zero, List.getElem?_cons_succ, Option.bind_some, Option.map_some, Option.bind_eq_bind, id_eq, List.set_cons_zero, List.set_cons_succ, if_true, if_false, Bool.false_eq_true, reduceIte, Bool.not_true, Bool.not_false, Ex.isOmit, is_fact_v _ _ (hx x hm)])]
    simp (implicitDefEqProofs := false) only [Mi.seqK_nx, Mi.seqK_rt, Mi.andK_t, Mi.andK_f, Mi.orK_t, Mi.orK_f, Mi.forB_nm, Mi.forB_2, Mi.binK2_d, Mi.binK1_d, Mi.negK_d, Mi.truK_d, Mi.tstK_d, Mi.notK_d, Mi.cmpK2_d, Mi.cmpK1_d, Mi.chnK3_t, Mi.chnK3_f, Mi.chnK2_d, Mi.chnK1_d, Mi.iteK_t, Mi.iteK_f, Mi.tupK_d, Mi.lstK_d, Mi.cellK_d, Mi.callK_d, Mi.biK_d, Mi.idxK2_d, Mi.idxK1_d, Mi.sliK3_t, Mi.sliK3_l, Mi.oIntK_i, Mi.sliK2_d, Mi.sliK1_d, Mi.lcT_d, Mi.lcE_d, Mi.lcK_d, Mi.lrgK2_d, Mi.lrgK1_d, Mi.consK2_d, Mi.consK1_d, Mi.rng1K_d, Mi.rng2K2_d, Mi.rng2K1_d, Mi.zipO_d, Mi.zipK2_d, Mi.zipK1_d, Mi.enuK_d, Mi.sqK_d, Mi.setK_d, Mi.setTK_d, Mi.putK3_d, Mi.putK2_d, Mi.putK1_d, Mi.appK2_d, Mi.appK1_d, Mi.dropK_d, Mi.retK_d, Mi.iteS_t, Mi.iteS_f, Mi.forK_d, Mi.turnK2_d, Mi.turnK1_t, Mi.turnK1_f, Mi.whK_t, Mi.whK_f, Mi.lcB_nm, Mi.lcB_2, Mi.evE_var, Mi.evE_non, Mi.evE_bl, Mi.evE_int, Mi.evE_str, Mi.evE_gl, Mi.evE_bty, Mi.evE_bin, Mi.evE_neg, Mi.evE_not, Mi.evE_and, Mi.evE_or, Mi.evE_cmp, Mi.evE_chn, Mi.evE_ite, Mi.evE_tup, Mi.evE_lst, Mi.evE_cell, Mi.evE_call, Mi.callP_sto, Mi.evE_bi, Mi.evE_idx, Mi.evE_sli, Mi.evE_lc, Mi.evE_lrg, Mi.evE_lrd, Mi.evA_nil, Mi.evA_cons, Mi.evI_rng1, Mi.evI_rng2, Mi.evI_zip, Mi.evI_enu, Mi.evI_sq, Mi.tstR_false, Mi.tstR_true, Mi.optR_false, Mi.optR_true, Mi.oInt_int, Mi.isOmit_omit, Mi.evS_skip, Mi.evS_seq, Mi.evS_set, Mi.evS_setT, Mi.evS_put, Mi.evS_app, Mi.evS_drop, Mi.evS_ret, Mi.evS_ite, Mi.evS_for, Mi.evS_while, Mi.evS_raise, Mi.sto_some, Mi.sto_none, Mi.val_nx, Mi.val_rt, Mi.setTg_nm, Mi.setTg_nil, Mi.setTg_cons, Mi.wipe_nil, Mi.wipe_cons, Mi.forR_nil, Mi.truV_bl, Mi.truV_non, Mi.truV_int, Mi.add_ii, Mi.sub_ii, Mi.lt_ii, Mi.le_ii, Mi.gt_ii, Mi.ge_ii, Mi.isn_v, Mi.notn_v, Mi.isN_non, Mi.isN_int, Mi.isN_tup, Mi.isN_bl, Mi.isN_str, Mi.eq_ii, Mi.ne_ii, Mi.eq_ss, Mi.ne_ss, Mi.neg_i, Mi.walk_lst, Mi.walk_tup, Mi.walk_scr, Mi.len_tup, Mi.len_lst, Mi.len_scr, Mi.tuple_lst, Mi.tuple_tup, Mi.list_tup, Mi.list_lst, Mi.int_int, Mi.int_bl, Mi.abs_int, Mi.min_int, Mi.max_int, Mi.isi_def, Mi.sum_lst, Mi.all_lst, Mi.any_lst, Mi.ints_map, Mi.bools_map, R.bind_ok, R.bind_ex, R.bind_bad, R.lift_some, R.noEx_ok, List.getElem?_cons_zero, List.getElem?_cons_succ, Option.bind_some, Option.map_some, Option.bind_eq_bind, id_eq, List.set_cons_zero, List.set_cons_succ, if_true, if_false, Bool.false_eq_true, reduceIte, Bool.not_true, Bool.not_false, Ex.isOmit, all_id, e]
theorem are_good_sizes_v (many : Nat) (v : PV) (h : vW v) : RU N (d + 2) 6 [.int many, v] st = .ok (.bl (sizesB many v)) st := by
  rw [RU, u6]
  have m2 : ∀ st : Sto, binV st .Mult (.int 2) (.int (many : Nat)) = some (.int (2 * many)) := fun st => mul_ii (mulOk_l (i := 2) (j := (many : Int)) (by decide) (by decide))
  cases q : tupN v (2 * (many : Int) - 1) (2 * (many : Int) - 1) with
  | false =>
    have e : sizesB many v = false := by
      cases v <;> first | rfl | skip
      rename_i xs
      have q : (decide (2 * (many : Int) - 1 ≤ (xs.length : Int)) && decide ((xs.length : Int) ≤ 2 * many - 1)) = false := q
      show (decide ((xs.length : Int) = 2 * many - 1) && _) = false
      rw [decide_eq_false (fun e => by rw [e, decide_eq_true (Int.le_refl _)] at q; cases q)]; rfl
    simp (implicitDefEqProofs := false) only [Mi.seqK_nx, Mi.seqK_rt, Mi.andK_t, Mi.andK_f, Mi.orK_t, Mi.orK_f, Mi.forB_nm, Mi.forB_2, Mi.binK2_d, Mi.binK1_d, Mi.negK_d, Mi.truK_d, Mi.tstK_d, Mi.notK_d, Mi.cmpK2_d, Mi.cmpK1_d, Mi.chnK3_t, Mi.chnK3_f, Mi.chnK2_d, Mi.chnK1_d, Mi.iteK_t, Mi.iteK_f, Mi.tupK_d, Mi.lstK_d, Mi.cellK_d, Mi.callK_d, Mi.biK_d, Mi.idxK2_d, Mi.idxK1_d, Mi.sliK3_t, Mi.sliK3_l, Mi.oIntK_i, Mi.sliK2_d, Mi.sliK1_d, Mi.lcT_d, Mi.lcE_d, Mi.lcK_d, Mi.lrgK2_d, Mi.lrgK1_d, Mi.consK2_d, Mi.consK1_d, Mi.rng1K_d, Mi.rng2K2_d, Mi.rng2K1_d, Mi.zipO_d, Mi.zipK2_d, Mi.zipK1_d, Mi.enuK_d, Mi.sqK_d, Mi.setK_d, Mi.setTK_d, Mi.putK3_d, Mi.putK2_d, Mi.putK1_d, Mi.appK2_d, Mi.appK1_d, Mi.dropK_d, Mi.retK_d, Mi.iteS_t, Mi.iteS_f, Mi.forK_d, Mi.turnK2_d, Mi.turnK1_t, Mi.turnK1_f, Mi.whK_t, Mi.whK_f, Mi.lcB_nm, Mi.lcB_2, Mi.evE_var, Mi.evE_non, Mi.evE_bl, Mi.evE_int, Mi.evE_str, Mi.evE_gl, Mi.evE_bty, Mi.evE_bin, Mi.evE_neg, Mi.evE_not, Mi.evE_and, Mi.evE_or, Mi.evE_cmp, Mi.evE_chn, Mi.evE_ite, Mi.evE_tup, Mi.evE_lst, Mi.evE_cell, Mi.evE_call, Mi.callP_sto, Mi.evE_bi, Mi.evE_idx, Mi.evE_sli, Mi.evE_lc, Mi.evE_lrg, Mi.evE_lrd, Mi.evA_nil, Mi.evA_cons, Mi.evI_rng1, Mi.evI_rng2, Mi.evI_zip, Mi.evI_enu, Mi.evI_sq, Mi.tstR_false, Mi.tstR_true, Mi.optR_false, Mi.optR_true, Mi.oInt_int, Mi.isOmit_omit, Mi.evS_skip, Mi.evS_seq, Mi.evS_set, Mi.evS_setT, Mi.evS_put, Mi.evS_app, Mi.evS_drop, Mi.evS_ret, Mi.evS_ite, Mi.evS_for, Mi.evS_while, Mi.evS_raise, Mi.sto_some, Mi.sto_none, Mi.val_nx, Mi.val_rt, Mi.setTg_nm, Mi.setTg_nil, Mi.setTg_cons, Mi.wipe_nil, Mi.wipe_cons, Mi.forR_nil, Mi.truV_bl, Mi.truV_non, Mi.truV_int, Mi.add_ii, Mi.sub_ii, Mi.lt_ii, Mi.le_ii, Mi.gt_ii, Mi.ge_ii, Mi.isn_v, Mi.notn_v, Mi.isN_non, Mi.isN_int, Mi.isN_tup, Mi.isN_bl, Mi.isN_str, Mi.eq_ii, Mi.ne_ii, Mi.eq_ss, Mi.ne_ss, Mi.neg_i, Mi.walk_lst, Mi.walk_tup, Mi.walk_scr, Mi.len_tup, Mi.len_lst, Mi.len_scr, Mi.tuple_lst, Mi.tuple_tup, Mi.list_tup, Mi.list_lst, Mi.int_int, Mi.int_bl, Mi.abs_int, Mi.min_int, Mi.max_int, Mi.isi_def, Mi.sum_lst, Mi.all_lst, Mi.any_lst, Mi.ints_map, Mi.bools_map, R.bind_ok, R.bind_ex, R.bind_bad, R.lift_some, R.noEx_ok, List.getElem?_cons_zero, List.getElem?_cons_succ, Option.bind_some, Option.map_some, Option.bind_eq_bind, id_eq, List.set_cons_zero, List.set_cons_succ, if_true, if_false, Bool.false_eq_true, reduceIte, Bool.not_true, Bool.not_false, Ex.isOmit, b6, m2, is_tuple_v _ _ _ h.sh, q, e]
  | true =>
    cases v <;> first | (cases q; done) | skip
    rename_i xs
    obtain ⟨hl, hx⟩ := h.tup
    obtain ⟨q2, q3⟩ := Bool.and_eq_true_iff.mp (show (decide (2 * (many : Int) - 1 ≤ (xs.length : Int)) && decide ((xs.length : Int) ≤ 2 * many - 1)) = true from q)
    have q2 := of_decide_eq_true q2
    have q3 := of_decide_eq_true q3
    have e : sizesB many (.tup xs) = xs.all (fun x => numB x 1 1000000000000) := by
      show (decide ((xs.length : Int) = 2 * many - 1) && _) = _
      rw [decide_eq_true (by omega), Bool.true_and]
    simp (implicitDefEqProofs := false) only [Mi.seqK_nx, Mi.seqK_rt, Mi.andK_t, Mi.andK_f, Mi.orK_t, Mi.orK_f, Mi.forB_nm, Mi.forB_2, Mi.binK2_d, Mi.binK1_d, Mi.negK_d, Mi.truK_d, Mi.tstK_d, Mi.notK_d, Mi.cmpK2_d, Mi.cmpK1_d, Mi.chnK3_t, Mi.chnK3_f, Mi.chnK2_d, Mi.chnK1_d, Mi.iteK_t, Mi.iteK_f, Mi.tupK_d, Mi.lstK_d, Mi.cellK_d, Mi.callK_d, Mi.biK_d, Mi.idxK2_d, Mi.idxK1_d, Mi.sliK3_t, Mi.sliK3_l, Mi.oIntK_i, Mi.sliK2_d, Mi.sliK1_d, Mi.lcT_d, Mi.lcE_d, Mi.lcK_d, Mi.lrgK2_d, Mi.lrgK1_d, Mi.consK2_d, Mi.consK1_d, Mi.rng1K_d, Mi.rng2K2_d, Mi.rng2K1_d, Mi.zipO_d, Mi.zipK2_d, Mi.zipK1_d, Mi.enuK_d, Mi.sqK_d, Mi.setK_d, Mi.setTK_d, Mi.putK3_d, Mi.putK2_d, Mi.putK1_d, Mi.appK2_d, Mi.appK1_d, Mi.dropK_d, Mi.retK_d, Mi.iteS_t, Mi.iteS_f, Mi.forK_d, Mi.turnK2_d, Mi.turnK1_t, Mi.turnK1_f, Mi.whK_t, Mi.whK_f, Mi.lcB_nm, Mi.lcB_2, Mi.evE_var, Mi.evE_non, Mi.evE_bl, Mi.evE_int, Mi.evE_str, Mi.evE_gl, Mi.evE_bty, Mi.evE_bin, Mi.evE_neg, Mi.evE_not, Mi.evE_and, Mi.evE_or, Mi.evE_cmp, Mi.evE_chn, Mi.evE_ite, Mi.evE_tup, Mi.evE_lst, Mi.evE_cell, Mi.evE_call, Mi.callP_sto, Mi.evE_bi, Mi.evE_idx, Mi.evE_sli, Mi.evE_lc, Mi.evE_lrg, Mi.evE_lrd, Mi.evA_nil, Mi.evA_cons, Mi.evI_rng1, Mi.evI_rng2, Mi.evI_zip, Mi.evI_enu, Mi.evI_sq, Mi.tstR_false, Mi.tstR_true, Mi.optR_false, Mi.optR_true, Mi.oInt_int, Mi.isOmit_omit, Mi.evS_skip, Mi.evS_seq, Mi.evS_set, Mi.evS_setT, Mi.evS_put, Mi.evS_app, Mi.evS_drop, Mi.evS_ret, Mi.evS_ite, Mi.evS_for, Mi.evS_while, Mi.evS_raise, Mi.sto_some, Mi.sto_none, Mi.val_nx, Mi.val_rt, Mi.setTg_nm, Mi.setTg_nil, Mi.setTg_cons, Mi.wipe_nil, Mi.wipe_cons, Mi.forR_nil, Mi.truV_bl, Mi.truV_non, Mi.truV_int, Mi.add_ii, Mi.sub_ii, Mi.lt_ii, Mi.le_ii, Mi.gt_ii, Mi.ge_ii, Mi.isn_v, Mi.notn_v, Mi.isN_non, Mi.isN_int, Mi.isN_tup, Mi.isN_bl, Mi.isN_str, Mi.eq_ii, Mi.ne_ii, Mi.eq_ss, Mi.ne_ss, Mi.neg_i, Mi.walk_lst, Mi.walk_tup, Mi.walk_scr, Mi.len_tup, Mi.len_lst, Mi.len_scr, Mi.tuple_lst, Mi.tuple_tup, Mi.list_tup, Mi.list_lst, Mi.int_int, Mi.int_bl, Mi.abs_int, Mi.min_int, Mi.max_int, Mi.isi_def, Mi.sum_lst, Mi.all_lst, Mi.any_lst, Mi.ints_map, Mi.bools_map, R.bind_ok, R.bind_ex, R.bind_bad, R.lift_some, R.noEx_ok, List.getElem?_cons_zero, List.getElem?_cons_succ, Option.bind_some, Option.map_some, Option.bind_eq_bind, id_eq, List.set_cons_zero, List.set_cons_succ, if_true, if_false, Bool.false_eq_true, reduceIte, Bool.not_true, Bool.not_false, Ex.isOmit, b6, m2, is_tuple_v _ _ _ h.sh, q]
    rw [all_of xs _ (fun x => numB x 1 1000000000000) (by omega) (fun x hm => by simp (implicitDefEqProofs := false) only [Mi.seqK_nx, Mi.seqK_rt, Mi.andK_t, Mi.andK_f, Mi.orK_t, Mi.orK_f, Mi.forB_nm, Mi.forB_2, Mi.binK2_d, Mi.binK1_d, Mi.negK_d, Mi.truK_d, Mi.tstK_d, Mi.notK_d, Mi.cmpK2_d, Mi.cmpK1_d, Mi.chnK3_t, Mi.chnK3_f, Mi.chnK2_d, Mi.chnK1_d, Mi.iteK_t, Mi.iteK_f, Mi.tupK_d, Mi.lstK_d, Mi.cellK_d, Mi.callK_d, Mi.biK_d, Mi.idxK2_d, Mi.idxK1_d, Mi.sliK3_t, Mi.sliK3_l, Mi.oIntK_i, Mi.sliK2_d, Mi.sliK1_d, Mi.lcT_d, Mi.lcE_d, Mi.lcK_d, Mi.lrgK2_d, Mi.lrgK1_d, Mi.consK2_d, Mi.consK1_d, Mi.rng1K_d, Mi.rng2K2_d, Mi.rng2K1_d, Mi.zipO_d, Mi.zipK2_d, Mi.zipK1_d, Mi.enuK_d, Mi.sqK_d, Mi.setK_d, Mi.setTK_d, Mi.putK3_d, Mi.putK2_d, Mi.putK1_d, Mi.appK2_d, Mi.appK1_d, Mi.dropK_d, Mi.retK_d, Mi.iteS_t, Mi.iteS_f, Mi.forK_d, Mi.turnK2_d, Mi.turnK1_t, Mi.turnK1_f, Mi.whK_t, Mi.whK_f, Mi.lcB_nm, Mi.lcB_2, Mi.evE_var, Mi.evE_non, Mi.evE_bl, Mi.evE_int, Mi.evE_str, Mi.evE_gl, Mi.evE_bty, Mi.evE_bin, Mi.evE_neg, Mi.evE_not, Mi.evE_and, Mi.evE_or, Mi.evE_cmp, Mi.evE_chn, Mi.evE_ite, Mi.evE_tup, Mi.evE_lst, Mi.evE_cell, Mi.evE_call, Mi.callP_sto, Mi.evE_bi, Mi.evE_idx, Mi.evE_sli, Mi.evE_lc, Mi.evE_lrg, Mi.evE_lrd, Mi.evA_nil, Mi.evA_cons, Mi.evI_rng1, Mi.evI_rng2, Mi.evI_zip, Mi.evI_enu, Mi.evI_sq, Mi.tstR_false, Mi.tstR_true, Mi.optR_false, Mi.optR_true, Mi.oInt_int, Mi.isOmit_omit, Mi.evS_skip, Mi.evS_seq, Mi.evS_set, Mi.evS_setT, Mi.evS_put, Mi.evS_app, Mi.evS_drop, Mi.evS_ret, Mi.evS_ite, Mi.evS_for, Mi.evS_while, Mi.evS_raise, Mi.sto_some, Mi.sto_none, Mi.val_nx, Mi.val_rt, Mi.setTg_nm, Mi.setTg_nil, Mi.setTg_cons, Mi.wipe_nil, Mi.wipe_cons, Mi.forR_nil, Mi.truV_bl, Mi.truV_non, Mi.truV_int, Mi.add_ii, Mi.sub_ii, Mi.lt_ii, Mi.le_ii, Mi.gt_ii, Mi.ge_ii, Mi.isn_v, Mi.notn_v, Mi.isN_non, Mi.isN_int, Mi.isN_tup, Mi.isN_bl, Mi.isN_str, Mi.eq_ii, Mi.ne_ii, Mi.eq_ss, Mi.ne_ss, Mi.neg_i, Mi.walk_lst, Mi.walk_tup, Mi.walk_scr, Mi.len_tup, Mi.len_lst, Mi.len_scr, Mi.tuple_lst, Mi.tuple_tup, Mi.list_tup, Mi.list_lst, Mi.int_int, Mi.int_bl, Mi.abs_int, Mi.min_int, Mi.max_int, Mi.isi_def, Mi.sum_lst, Mi.all_lst, Mi.any_lst, Mi.ints_map, Mi.bools_map, R.bind_ok, R.bind_ex, R.bind_bad, R.lift_some, R.noEx_ok, List.getElem?_cons_zero, List.getElem?_cons_succ, Option.bind_some, Option.map_some, Option.bind_eq_bind, id_eq, List.set_cons_zero, List.set_cons_succ, if_true, if_false, Bool.false_eq_true, reduceIte, Bool.not_true, Bool.not_false, Ex.isOmit, gLARGEST, is_number_v _ _ _ (hx x hm).sh])]
    simp (implicitDefEqProofs := false) only [Mi.seqK_nx, Mi.seqK_rt, Mi.andK_t, Mi.andK_f, Mi.orK_t, Mi.orK_f, Mi.forB_nm, Mi.forB_2, Mi.binK2_d, Mi.binK1_d, Mi.negK_d, Mi.truK_d, Mi.tstK_d, Mi.notK_d, Mi.cmpK2_d, Mi.cmpK1_d, Mi.chnK3_t, Mi.chnK3_f, Mi.chnK2_d, Mi.chnK1_d, Mi.iteK_t, Mi.iteK_f, Mi.tupK_d, Mi.lstK_d, Mi.cellK_d, Mi.callK_d, Mi.biK_d, Mi.idxK2_d, Mi.idxK1_d, Mi.sliK3_t, Mi.sliK3_l, Mi.oIntK_i, Mi.sliK2_d, Mi.sliK1_d, Mi.lcT_d, Mi.lcE_d, Mi.lcK_d, Mi.lrgK2_d, Mi.lrgK1_d, Mi.consK2_d, Mi.consK1_d, Mi.rng1K_d, Mi.rng2K2_d, Mi.rng2K1_d, Mi.zipO_d, Mi.zipK2_d, Mi.zipK1_d, Mi.enuK_d, Mi.sqK_d, Mi.setK_d, Mi.setTK_d, Mi.putK3_d, Mi.putK2_d, Mi.putK1_d, Mi.appK2_d, Mi.appK1_d, Mi.dropK_d, Mi.retK_d, Mi.iteS_t, Mi.iteS_f, Mi.forK_d, Mi.turnK2_d, Mi.turnK1_t, Mi.turnK1_f, Mi.whK_t, Mi.whK_f, Mi.lcB_nm, Mi.lcB_2, Mi.evE_var, Mi.evE_non, Mi.evE_bl, Mi.evE_int, Mi.evE_str, Mi.evE_gl, Mi.evE_bty, Mi.evE_bin, Mi.evE_neg, Mi.evE_not, Mi.evE_and, Mi.evE_or, Mi.evE_cmp, Mi.evE_chn, Mi.evE_ite, Mi.evE_tup, Mi.evE_lst, Mi.evE_cell, Mi.evE_call, Mi.callP_sto, Mi.evE_bi, Mi.evE_idx, Mi.evE_sli, Mi.evE_lc, Mi.evE_lrg, Mi.evE_lrd, Mi.evA_nil, Mi.evA_cons, Mi.evI_rng1, Mi.evI_rng2, Mi.evI_zip, Mi.evI_enu, Mi.evI_sq, Mi.tstR_false, Mi.tstR_true, Mi.optR_false, Mi.optR_true, Mi.oInt_int, Mi.isOmit_omit, Mi.evS_skip, Mi.evS_seq, Mi.evS_set, Mi.evS_setT, Mi.evS_put, Mi.evS_app, Mi.evS_drop, Mi.evS_ret, Mi.evS_ite, Mi.evS_for, Mi.evS_while, Mi.evS_raise, Mi.sto_some, Mi.sto_none, Mi.val_nx, Mi.val_rt, Mi.setTg_nm, Mi.setTg_nil, Mi.setTg_cons, Mi.wipe_nil, Mi.wipe_cons, Mi.forR_nil, Mi.truV_bl, Mi.truV_non, Mi.truV_int, Mi.add_ii, Mi.sub_ii, Mi.lt_ii, Mi.le_ii, Mi.gt_ii, Mi.ge_ii, Mi.isn_v, Mi.notn_v, Mi.isN_non, Mi.isN_int, Mi.isN_tup, Mi.isN_bl, Mi.isN_str, Mi.eq_ii, Mi.ne_ii, Mi.eq_ss, Mi.ne_ss, Mi.neg_i, Mi.walk_lst, Mi.walk_tup, Mi.walk_scr, Mi.len_tup, Mi.len_lst, Mi.len_scr, Mi.tuple_lst, Mi.tuple_tup, Mi.list_tup, Mi.list_lst, Mi.int_int, Mi.int_bl, Mi.abs_int, Mi.min_int, Mi.max_int, Mi.isi_def, Mi.sum_lst, Mi.all_lst, Mi.any_lst, Mi.ints_map, Mi.bools_map, R.bind_ok, R.bind_ex, R.bind_bad, R.lift_some, R.noEx_ok, List.getElem?_cons_zero, List.getElem?_cons_succ, Option.bind_some, Option.map_some, Option.bind_eq_bind, id_eq, List.set_cons_zero, List.set_cons_succ, if_true, if_false, Bool.false_eq_true, reduceIte, Bool.not_true, Bool.not_false, Ex.isOmit, all_id, e]
theorem is_deed_v (many : Nat) (v : PV) (h : vW v) : RU N (d + 2) 7 [.int many, v] st = .ok (.bl (deedB many v)) st := by
  rw [RU, u7]
  cases q : tupN v 2 2 with
  | false =>
    have e : deedB many v = false := by
      cases v <;> first | rfl | skip
      rename_i xs
      have q := tupN_off (k := 2) q
      match xs, q with
      | [], _ => rfl
      | [_], _ => rfl
      | [_, _], q => exact absurd rfl q
      | _ :: _ :: _ :: _, _ => rfl
    simp (implicitDefEqProofs := false) only [Mi.seqK_nx, Mi.seqK_rt, Mi.andK_t, Mi.andK_f, Mi.orK_t, Mi.orK_f, Mi.forB_nm, Mi.forB_2, Mi.binK2_d, Mi.binK1_d, Mi.negK_d, Mi.truK_d, Mi.tstK_d, Mi.notK_d, Mi.cmpK2_d, Mi.cmpK1_d, Mi.chnK3_t, Mi.chnK3_f, Mi.chnK2_d, Mi.chnK1_d, Mi.iteK_t, Mi.iteK_f, Mi.tupK_d, Mi.lstK_d, Mi.cellK_d, Mi.callK_d, Mi.biK_d, Mi.idxK2_d, Mi.idxK1_d, Mi.sliK3_t, Mi.sliK3_l, Mi.oIntK_i, Mi.sliK2_d, Mi.sliK1_d, Mi.lcT_d, Mi.lcE_d, Mi.lcK_d, Mi.lrgK2_d, Mi.lrgK1_d, Mi.consK2_d, Mi.consK1_d, Mi.rng1K_d, Mi.rng2K2_d, Mi.rng2K1_d, Mi.zipO_d, Mi.zipK2_d, Mi.zipK1_d, Mi.enuK_d, Mi.sqK_d, Mi.setK_d, Mi.setTK_d, Mi.putK3_d, Mi.putK2_d, Mi.putK1_d, Mi.appK2_d, Mi.appK1_d, Mi.dropK_d, Mi.retK_d, Mi.iteS_t, Mi.iteS_f, Mi.forK_d, Mi.turnK2_d, Mi.turnK1_t, Mi.turnK1_f, Mi.whK_t, Mi.whK_f, Mi.lcB_nm, Mi.lcB_2, Mi.evE_var, Mi.evE_non, Mi.evE_bl, Mi.evE_int, Mi.evE_str, Mi.evE_gl, Mi.evE_bty, Mi.evE_bin, Mi.evE_neg, Mi.evE_not, Mi.evE_and, Mi.evE_or, Mi.evE_cmp, Mi.evE_chn, Mi.evE_ite, Mi.evE_tup, Mi.evE_lst, Mi.evE_cell, Mi.evE_call, Mi.callP_sto, Mi.evE_bi, Mi.evE_idx, Mi.evE_sli, Mi.evE_lc, Mi.evE_lrg, Mi.evE_lrd, Mi.evA_nil, Mi.evA_cons, Mi.evI_rng1, Mi.evI_rng2, Mi.evI_zip, Mi.evI_enu, Mi.evI_sq, Mi.tstR_false, Mi.tstR_true, Mi.optR_false, Mi.optR_true, Mi.oInt_int, Mi.isOmit_omit, Mi.evS_skip, Mi.evS_seq, Mi.evS_set, Mi.evS_setT, Mi.evS_put, Mi.evS_app, Mi.evS_drop, Mi.evS_ret, Mi.evS_ite, Mi.evS_for, Mi.evS_while, Mi.evS_raise, Mi.sto_some, Mi.sto_none, Mi.val_nx, Mi.val_rt, Mi.setTg_nm, Mi.setTg_nil, Mi.setTg_cons, Mi.wipe_nil, Mi.wipe_cons, Mi.forR_nil, Mi.truV_bl, Mi.truV_non, Mi.truV_int, Mi.add_ii, Mi.sub_ii, Mi.lt_ii, Mi.le_ii, Mi.gt_ii, Mi.ge_ii, Mi.isn_v, Mi.notn_v, Mi.isN_non, Mi.isN_int, Mi.isN_tup, Mi.isN_bl, Mi.isN_str, Mi.eq_ii, Mi.ne_ii, Mi.eq_ss, Mi.ne_ss, Mi.neg_i, Mi.walk_lst, Mi.walk_tup, Mi.walk_scr, Mi.len_tup, Mi.len_lst, Mi.len_scr, Mi.tuple_lst, Mi.tuple_tup, Mi.list_tup, Mi.list_lst, Mi.int_int, Mi.int_bl, Mi.abs_int, Mi.min_int, Mi.max_int, Mi.isi_def, Mi.sum_lst, Mi.all_lst, Mi.any_lst, Mi.ints_map, Mi.bools_map, R.bind_ok, R.bind_ex, R.bind_bad, R.lift_some, R.noEx_ok, List.getElem?_cons_zero, List.getElem?_cons_succ, Option.bind_some, Option.map_some, Option.bind_eq_bind, id_eq, List.set_cons_zero, List.set_cons_succ, if_true, if_false, Bool.false_eq_true, reduceIte, Bool.not_true, Bool.not_false, Ex.isOmit, b7, is_tuple_v _ _ _ h.sh, q, e]
  | true =>
    cases v <;> first | (cases q; done) | skip
    rename_i xs
    obtain ⟨a, b, rfl⟩ : ∃ a b, xs = [a, b] := by
      have q := tupN_out (k := 2) q
      match xs, q with
      | [a, b], _ => exact ⟨a, b, rfl⟩
    obtain ⟨-, hx⟩ := h.tup
    have ha := hx a (by simp)
    have hb := hx b (by simp)
    have i0 : atI [a, b] 0 = some a := rfl
    have i1 : atI [a, b] 1 = some b := rfl
    simp (implicitDefEqProofs := false) only [Mi.seqK_nx, Mi.seqK_rt, Mi.andK_t, Mi.andK_f, Mi.orK_t, Mi.orK_f, Mi.forB_nm, Mi.forB_2, Mi.binK2_d, Mi.binK1_d, Mi.negK_d, Mi.truK_d, Mi.tstK_d, Mi.notK_d, Mi.cmpK2_d, Mi.cmpK1_d, Mi.chnK3_t, Mi.chnK3_f, Mi.chnK2_d, Mi.chnK1_d, Mi.iteK_t, Mi.iteK_f, Mi.tupK_d, Mi.lstK_d, Mi.cellK_d, Mi.callK_d, Mi.biK_d, Mi.idxK2_d, Mi.idxK1_d, Mi.sliK3_t, Mi.sliK3_l, Mi.oIntK_i, Mi.sliK2_d, Mi.sliK1_d, Mi.lcT_d, Mi.lcE_d, Mi.lcK_d, Mi.lrgK2_d, Mi.lrgK1_d, Mi.consK2_d, Mi.consK1_d, Mi.rng1K_d, Mi.rng2K2_d, Mi.rng2K1_d, Mi.zipO_d, Mi.zipK2_d, Mi.zipK1_d, Mi.enuK_d, Mi.sqK_d, Mi.setK_d, Mi.setTK_d, Mi.putK3_d, Mi.putK2_d, Mi.putK1_d, Mi.appK2_d, Mi.appK1_d, Mi.dropK_d, Mi.retK_d, Mi.iteS_t, Mi.iteS_f, Mi.forK_d, Mi.turnK2_d, Mi.turnK1_t, Mi.turnK1_f, Mi.whK_t, Mi.whK_f, Mi.lcB_nm, Mi.lcB_2, Mi.evE_var, Mi.evE_non, Mi.evE_bl, Mi.evE_int, Mi.evE_str, Mi.evE_gl, Mi.evE_bty, Mi.evE_bin, Mi.evE_neg, Mi.evE_not, Mi.evE_and, Mi.evE_or, Mi.evE_cmp, Mi.evE_chn, Mi.evE_ite, Mi.evE_tup, Mi.evE_lst, Mi.evE_cell, Mi.evE_call, Mi.callP_sto, Mi.evE_bi, Mi.evE_idx, Mi.evE_sli, Mi.evE_lc, Mi.evE_lrg, Mi.evE_lrd, Mi.evA_nil, Mi.evA_cons, Mi.evI_rng1, Mi.evI_rng2, Mi.evI_zip, Mi.evI_enu, Mi.evI_sq, Mi.tstR_false, Mi.tstR_true, Mi.optR_false, Mi.optR_true, Mi.oInt_int, Mi.isOmit_omit, Mi.evS_skip, Mi.evS_seq, Mi.evS_set, Mi.evS_setT, Mi.evS_put, Mi.evS_app, Mi.evS_drop, Mi.evS_ret, Mi.evS_ite, Mi.evS_for, Mi.evS_while, Mi.evS_raise, Mi.sto_some, Mi.sto_none, Mi.val_nx, Mi.val_rt, Mi.setTg_nm, Mi.setTg_nil, Mi.setTg_cons, Mi.wipe_nil, Mi.wipe_cons, Mi.forR_nil, Mi.truV_bl, Mi.truV_non, Mi.truV_int, Mi.add_ii, Mi.sub_ii, Mi.lt_ii, Mi.le_ii, Mi.gt_ii, Mi.ge_ii, Mi.isn_v, Mi.notn_v, Mi.isN_non, Mi.isN_int, Mi.isN_tup, Mi.isN_bl, Mi.isN_str, Mi.eq_ii, Mi.ne_ii, Mi.eq_ss, Mi.ne_ss, Mi.neg_i, Mi.walk_lst, Mi.walk_tup, Mi.walk_scr, Mi.len_tup, Mi.len_lst, Mi.len_scr, Mi.tuple_lst, Mi.tuple_tup, Mi.list_tup, Mi.list_lst, Mi.int_int, Mi.int_bl, Mi.abs_int, Mi.min_int, Mi.max_int, Mi.isi_def, Mi.sum_lst, Mi.all_lst, Mi.any_lst, Mi.ints_map, Mi.bools_map, R.bind_ok, R.bind_ex, R.bind_bad, R.lift_some, R.noEx_ok, List.getElem?_cons_zero, List.getElem?_cons_succ, Option.bind_some, Option.map_some, Option.bind_eq_bind, id_eq, List.set_cons_zero, List.set_cons_succ, if_true, if_false, Bool.false_eq_true, reduceIte, Bool.not_true, Bool.not_false, Ex.isOmit, b7, is_tuple_v _ _ _ h.sh, q, Mi.ix_tup, i0, i1, gDWORDS, is_word_v _ _ ha.sh, deedB]
    cases wordB a words
    · simp (implicitDefEqProofs := false) only [Mi.seqK_nx, Mi.seqK_rt, Mi.andK_t, Mi.andK_f, Mi.orK_t, Mi.orK_f, Mi.forB_nm, Mi.forB_2, Mi.binK2_d, Mi.binK1_d, Mi.negK_d, Mi.truK_d, Mi.tstK_d, Mi.notK_d, Mi.cmpK2_d, Mi.cmpK1_d, Mi.chnK3_t, Mi.chnK3_f, Mi.chnK2_d, Mi.chnK1_d, Mi.iteK_t, Mi.iteK_f, Mi.tupK_d, Mi.lstK_d, Mi.cellK_d, Mi.callK_d, Mi.biK_d, Mi.idxK2_d, Mi.idxK1_d, Mi.sliK3_t, Mi.sliK3_l, Mi.oIntK_i, Mi.sliK2_d, Mi.sliK1_d, Mi.lcT_d, Mi.lcE_d, Mi.lcK_d, Mi.lrgK2_d, Mi.lrgK1_d, Mi.consK2_d, Mi.consK1_d, Mi.rng1K_d, Mi.rng2K2_d, Mi.rng2K1_d, Mi.zipO_d, Mi.zipK2_d, Mi.zipK1_d, Mi.enuK_d, Mi.sqK_d, Mi.setK_d, Mi.setTK_d, Mi.putK3_d, Mi.putK2_d, Mi.putK1_d, Mi.appK2_d, Mi.appK1_d, Mi.dropK_d, Mi.retK_d, Mi.iteS_t, Mi.iteS_f, Mi.forK_d, Mi.turnK2_d, Mi.turnK1_t, Mi.turnK1_f, Mi.whK_t, Mi.whK_f, Mi.lcB_nm, Mi.lcB_2, Mi.evE_var, Mi.evE_non, Mi.evE_bl, Mi.evE_int, Mi.evE_str, Mi.evE_gl, Mi.evE_bty, Mi.evE_bin, Mi.evE_neg, Mi.evE_not, Mi.evE_and, Mi.evE_or, Mi.evE_cmp, Mi.evE_chn, Mi.evE_ite, Mi.evE_tup, Mi.evE_lst, Mi.evE_cell, Mi.evE_call, Mi.callP_sto, Mi.evE_bi, Mi.evE_idx, Mi.evE_sli, Mi.evE_lc, Mi.evE_lrg, Mi.evE_lrd, Mi.evA_nil, Mi.evA_cons, Mi.evI_rng1, Mi.evI_rng2, Mi.evI_zip, Mi.evI_enu, Mi.evI_sq, Mi.tstR_false, Mi.tstR_true, Mi.optR_false, Mi.optR_true, Mi.oInt_int, Mi.isOmit_omit, Mi.evS_skip, Mi.evS_seq, Mi.evS_set, Mi.evS_setT, Mi.evS_put, Mi.evS_app, Mi.evS_drop, Mi.evS_ret, Mi.evS_ite, Mi.evS_for, Mi.evS_while, Mi.evS_raise, Mi.sto_some, Mi.sto_none, Mi.val_nx, Mi.val_rt, Mi.setTg_nm, Mi.setTg_nil, Mi.setTg_cons, Mi.wipe_nil, Mi.wipe_cons, Mi.forR_nil, Mi.truV_bl, Mi.truV_non, Mi.truV_int, Mi.add_ii, Mi.sub_ii, Mi.lt_ii, Mi.le_ii, Mi.gt_ii, Mi.ge_ii, Mi.isn_v, Mi.notn_v, Mi.isN_non, Mi.isN_int, Mi.isN_tup, Mi.isN_bl, Mi.isN_str, Mi.eq_ii, Mi.ne_ii, Mi.eq_ss, Mi.ne_ss, Mi.neg_i, Mi.walk_lst, Mi.walk_tup, Mi.walk_scr, Mi.len_tup, Mi.len_lst, Mi.len_scr, Mi.tuple_lst, Mi.tuple_tup, Mi.list_tup, Mi.list_lst, Mi.int_int, Mi.int_bl, Mi.abs_int, Mi.min_int, Mi.max_int, Mi.isi_def, Mi.sum_lst, Mi.all_lst, Mi.any_lst, Mi.ints_map, Mi.bools_map, R.bind_ok, R.bind_ex, R.bind_bad, R.lift_some, R.noEx_ok, List.getElem?_cons_zero, List.getElem?_cons_succ, Option.bind_some, Option.map_some, Option.bind_eq_bind, id_eq, List.set_cons_zero, List.set_cons_succ, if_true, if_false, Bool.false_eq_true, reduceIte, Bool.not_true, Bool.not_false, Ex.isOmit, Bool.false_and]
    · simp (implicitDefEqProofs := false) only [Mi.seqK_nx, Mi.seqK_rt, Mi.andK_t, Mi.andK_f, Mi.orK_t, Mi.orK_f, Mi.forB_nm, Mi.forB_2, Mi.binK2_d, Mi.binK1_d, Mi.negK_d, Mi.truK_d, Mi.tstK_d, Mi.notK_d, Mi.cmpK2_d, Mi.cmpK1_d, Mi.chnK3_t, Mi.chnK3_f, Mi.chnK2_d, Mi.chnK1_d, Mi.iteK_t, Mi.iteK_f, Mi.tupK_d, Mi.lstK_d, Mi.cellK_d, Mi.callK_d, Mi.biK_d, Mi.idxK2_d, Mi.idxK1_d, Mi.sliK3_t, Mi.sliK3_l, Mi.oIntK_i, Mi.sliK2_d, Mi.sliK1_d, Mi.lcT_d, Mi.lcE_d, Mi.lcK_d, Mi.lrgK2_d, Mi.lrgK1_d, Mi.consK2_d, Mi.consK1_d, Mi.rng1K_d, Mi.rng2K2_d, Mi.rng2K1_d, Mi.zipO_d, Mi.zipK2_d, Mi.zipK1_d, Mi.enuK_d, Mi.sqK_d, Mi.setK_d, Mi.setTK_d, Mi.putK3_d, Mi.putK2_d, Mi.putK1_d, Mi.appK2_d, Mi.appK1_d, Mi.dropK_d, Mi.retK_d, Mi.iteS_t, Mi.iteS_f, Mi.forK_d, Mi.turnK2_d, Mi.turnK1_t, Mi.turnK1_f, Mi.whK_t, Mi.whK_f, Mi.lcB_nm, Mi.lcB_2, Mi.evE_var, Mi.evE_non, Mi.evE_bl, Mi.evE_int, Mi.evE_str, Mi.evE_gl, Mi.evE_bty, Mi.evE_bin, Mi.evE_neg, Mi.evE_not, Mi.evE_and, Mi.evE_or, Mi.evE_cmp, Mi.evE_chn, Mi.evE_ite, Mi.evE_tup, Mi.evE_lst, Mi.evE_cell, Mi.evE_call, Mi.callP_sto, Mi.evE_bi, Mi.evE_idx, Mi.evE_sli, Mi.evE_lc, Mi.evE_lrg, Mi.evE_lrd, Mi.evA_nil, Mi.evA_cons, Mi.evI_rng1, Mi.evI_rng2, Mi.evI_zip, Mi.evI_enu, Mi.evI_sq, Mi.tstR_false, Mi.tstR_true, Mi.optR_false, Mi.optR_true, Mi.oInt_int, Mi.isOmit_omit, Mi.evS_skip, Mi.evS_seq, Mi.evS_set, Mi.evS_setT, Mi.evS_put, Mi.evS_app, Mi.evS_drop, Mi.evS_ret, Mi.evS_ite, Mi.evS_for, Mi.evS_while, Mi.evS_raise, Mi.sto_some, Mi.sto_none, Mi.val_nx, Mi.val_rt, Mi.setTg_nm, Mi.setTg_nil, Mi.setTg_cons, Mi.wipe_nil, Mi.wipe_cons, Mi.forR_nil, Mi.truV_bl, Mi.truV_non, Mi.truV_int, Mi.add_ii, Mi.sub_ii, Mi.lt_ii, Mi.le_ii, Mi.gt_ii, Mi.ge_ii, Mi.isn_v, Mi.notn_v, Mi.isN_non, Mi.isN_int, Mi.isN_tup, Mi.isN_bl, Mi.isN_str, Mi.eq_ii, Mi.ne_ii, Mi.eq_ss, Mi.ne_ss, Mi.neg_i, Mi.walk_lst, Mi.walk_tup, Mi.walk_scr, Mi.len_tup, Mi.len_lst, Mi.len_scr, Mi.tuple_lst, Mi.tuple_tup, Mi.list_tup, Mi.list_lst, Mi.int_int, Mi.int_bl, Mi.abs_int, Mi.min_int, Mi.max_int, Mi.isi_def, Mi.sum_lst, Mi.all_lst, Mi.any_lst, Mi.ints_map, Mi.bools_map, R.bind_ok, R.bind_ex, R.bind_bad, R.lift_some, R.noEx_ok, List.getElem?_cons_zero, List.getElem?_cons_succ, Option.bind_some, Option.map_some, Option.bind_eq_bind, id_eq, List.set_cons_zero, List.set_cons_succ, if_true, if_false, Bool.false_eq_true, reduceIte, Bool.not_true, Bool.not_false, Ex.isOmit, Bool.true_and, Mi.ix_tup, i1, is_number_v _ _ _ hb.sh]
theorem is_good_script_v (many : Nat) (v : PV) (h : vW v) : RU N (d + 3) 8 [.int many, v] st = .ok (.bl (scriptB many v)) st := by
  rw [RU, u8]
  cases q : tupN v 0 6 with
  | false =>
    have e : scriptB many v = false := by
      cases v <;> first | rfl | skip
      rename_i xs
      have q : (decide ((0 : Int) ≤ xs.length) && decide ((xs.length : Int) ≤ 6)) = false := q
      rw [decide_eq_true (by omega), Bool.true_and] at q
      have q := of_decide_eq_false q
      show (decide (xs.length ≤ 6) && _) = false
      rw [decide_eq_false (by omega)]; rfl
    simp (implicitDefEqProofs := false) only [Mi.seqK_nx, Mi.seqK_rt, Mi.andK_t, Mi.andK_f, Mi.orK_t, Mi.orK_f, Mi.forB_nm, Mi.forB_2, Mi.binK2_d, Mi.binK1_d, Mi.negK_d, Mi.truK_d, Mi.tstK_d, Mi.notK_d, Mi.cmpK2_d, Mi.cmpK1_d, Mi.chnK3_t, Mi.chnK3_f, Mi.chnK2_d, Mi.chnK1_d, Mi.iteK_t, Mi.iteK_f, Mi.tupK_d, Mi.lstK_d, Mi.cellK_d, Mi.callK_d, Mi.biK_d, Mi.idxK2_d, Mi.idxK1_d, Mi.sliK3_t, Mi.sliK3_l, Mi.oIntK_i, Mi.sliK2_d, Mi.sliK1_d, Mi.lcT_d, Mi.lcE_d, Mi.lcK_d, Mi.lrgK2_d, Mi.lrgK1_d, Mi.consK2_d, Mi.consK1_d, Mi.rng1K_d, Mi.rng2K2_d, Mi.rng2K1_d, Mi.zipO_d, Mi.zipK2_d, Mi.zipK1_d, Mi.enuK_d, Mi.sqK_d, Mi.setK_d, Mi.setTK_d, Mi.putK3_d, Mi.putK2_d, Mi.putK1_d, Mi.appK2_d, Mi.appK1_d, Mi.dropK_d, Mi.retK_d, Mi.iteS_t, Mi.iteS_f, Mi.forK_d, Mi.turnK2_d, Mi.turnK1_t, Mi.turnK1_f, Mi.whK_t, Mi.whK_f, Mi.lcB_nm, Mi.lcB_2, Mi.evE_var, Mi.evE_non, Mi.evE_bl, Mi.evE_int, Mi.evE_str, Mi.evE_gl, Mi.evE_bty, Mi.evE_bin, Mi.evE_neg, Mi.evE_not, Mi.evE_and, Mi.evE_or, Mi.evE_cmp, Mi.evE_chn, Mi.evE_ite, Mi.evE_tup, Mi.evE_lst, Mi.evE_cell, Mi.evE_call, Mi.callP_sto, Mi.evE_bi, Mi.evE_idx, Mi.evE_sli, Mi.evE_lc, Mi.evE_lrg, Mi.evE_lrd, Mi.evA_nil, Mi.evA_cons, Mi.evI_rng1, Mi.evI_rng2, Mi.evI_zip, Mi.evI_enu, Mi.evI_sq, Mi.tstR_false, Mi.tstR_true, Mi.optR_false, Mi.optR_true, Mi.oInt_int, Mi.isOmit_omit, Mi.evS_skip, Mi.evS_seq, Mi.evS_set, Mi.evS_setT, Mi.evS_put, Mi.evS_app, Mi.evS_drop, Mi.evS_ret, Mi.evS_ite, Mi.evS_for, Mi.evS_while, Mi.evS_raise, Mi.sto_some, Mi.sto_none, Mi.val_nx, Mi.val_rt, Mi.setTg_nm, Mi.setTg_nil, Mi.setTg_cons, Mi.wipe_nil, Mi.wipe_cons, Mi.forR_nil, Mi.truV_bl, Mi.truV_non, Mi.truV_int, Mi.add_ii, Mi.sub_ii, Mi.lt_ii, Mi.le_ii, Mi.gt_ii, Mi.ge_ii, Mi.isn_v, Mi.notn_v, Mi.isN_non, Mi.isN_int, Mi.isN_tup, Mi.isN_bl, Mi.isN_str, Mi.eq_ii, Mi.ne_ii, Mi.eq_ss, Mi.ne_ss, Mi.neg_i, Mi.walk_lst, Mi.walk_tup, Mi.walk_scr, Mi.len_tup, Mi.len_lst, Mi.len_scr, Mi.tuple_lst, Mi.tuple_tup, Mi.list_tup, Mi.list_lst, Mi.int_int, Mi.int_bl, Mi.abs_int, Mi.min_int, Mi.max_int, Mi.isi_def, Mi.sum_lst, Mi.all_lst, Mi.any_lst, Mi.ints_map, Mi.bools_map, R.bind_ok, R.bind_ex, R.bind_bad, R.lift_some, R.noEx_ok, List.getElem?_cons_zero, List.getElem?_cons_succ, Option.bind_some, Option.map_some, Option.bind_eq_bind, id_eq, List.set_cons_zero, List.set_cons_succ, if_true, if_false, Bool.false_eq_true, reduceIte, Bool.not_true, Bool.not_false, Ex.isOmit, b8, is_tuple_v _ _ _ h.sh, q, e]
  | true =>
    cases v <;> first | (cases q; done) | skip
    rename_i xs
    obtain ⟨hl, hx⟩ := h.tup
    have q2 := of_decide_eq_true (Bool.and_eq_true_iff.mp (show (decide ((0 : Int) ≤ xs.length) && decide ((xs.length : Int) ≤ 6)) = true from q)).2
    have e : scriptB many (.tup xs) = xs.all (deedB many) := by
      show (decide (xs.length ≤ 6) && _) = _
      rw [decide_eq_true (by omega), Bool.true_and]
    simp (implicitDefEqProofs := false) only [Mi.seqK_nx, Mi.seqK_rt, Mi.andK_t, Mi.andK_f, Mi.orK_t, Mi.orK_f, Mi.forB_nm, Mi.forB_2, Mi.binK2_d, Mi.binK1_d, Mi.negK_d, Mi.truK_d, Mi.tstK_d, Mi.notK_d, Mi.cmpK2_d, Mi.cmpK1_d, Mi.chnK3_t, Mi.chnK3_f, Mi.chnK2_d, Mi.chnK1_d, Mi.iteK_t, Mi.iteK_f, Mi.tupK_d, Mi.lstK_d, Mi.cellK_d, Mi.callK_d, Mi.biK_d, Mi.idxK2_d, Mi.idxK1_d, Mi.sliK3_t, Mi.sliK3_l, Mi.oIntK_i, Mi.sliK2_d, Mi.sliK1_d, Mi.lcT_d, Mi.lcE_d, Mi.lcK_d, Mi.lrgK2_d, Mi.lrgK1_d, Mi.consK2_d, Mi.consK1_d, Mi.rng1K_d, Mi.rng2K2_d, Mi.rng2K1_d, Mi.zipO_d, Mi.zipK2_d, Mi.zipK1_d, Mi.enuK_d, Mi.sqK_d, Mi.setK_d, Mi.setTK_d, Mi.putK3_d, Mi.putK2_d, Mi.putK1_d, Mi.appK2_d, Mi.appK1_d, Mi.dropK_d, Mi.retK_d, Mi.iteS_t, Mi.iteS_f, Mi.forK_d, Mi.turnK2_d, Mi.turnK1_t, Mi.turnK1_f, Mi.whK_t, Mi.whK_f, Mi.lcB_nm, Mi.lcB_2, Mi.evE_var, Mi.evE_non, Mi.evE_bl, Mi.evE_int, Mi.evE_str, Mi.evE_gl, Mi.evE_bty, Mi.evE_bin, Mi.evE_neg, Mi.evE_not, Mi.evE_and, Mi.evE_or, Mi.evE_cmp, Mi.evE_chn, Mi.evE_ite, Mi.evE_tup, Mi.evE_lst, Mi.evE_cell, Mi.evE_call, Mi.callP_sto, Mi.evE_bi, Mi.evE_idx, Mi.evE_sli, Mi.evE_lc, Mi.evE_lrg, Mi.evE_lrd, Mi.evA_nil, Mi.evA_cons, Mi.evI_rng1, Mi.evI_rng2, Mi.evI_zip, Mi.evI_enu, Mi.evI_sq, Mi.tstR_false, Mi.tstR_true, Mi.optR_false, Mi.optR_true, Mi.oInt_int, Mi.isOmit_omit, Mi.evS_skip, Mi.evS_seq, Mi.evS_set, Mi.evS_setT, Mi.evS_put, Mi.evS_app, Mi.evS_drop, Mi.evS_ret, Mi.evS_ite, Mi.evS_for, Mi.evS_while, Mi.evS_raise, Mi.sto_some, Mi.sto_none, Mi.val_nx, Mi.val_rt, Mi.setTg_nm, Mi.setTg_nil, Mi.setTg_cons, Mi.wipe_nil, Mi.wipe_cons, Mi.forR_nil, Mi.truV_bl, Mi.truV_non, Mi.truV_int, Mi.add_ii, Mi.sub_ii, Mi.lt_ii, Mi.le_ii, Mi.gt_ii, Mi.ge_ii, Mi.isn_v, Mi.notn_v, Mi.isN_non, Mi.isN_int, Mi.isN_tup, Mi.isN_bl, Mi.isN_str, Mi.eq_ii, Mi.ne_ii, Mi.eq_ss, Mi.ne_ss, Mi.neg_i, Mi.walk_lst, Mi.walk_tup, Mi.walk_scr, Mi.len_tup, Mi.len_lst, Mi.len_scr, Mi.tuple_lst, Mi.tuple_tup, Mi.list_tup, Mi.list_lst, Mi.int_int, Mi.int_bl, Mi.abs_int, Mi.min_int, Mi.max_int, Mi.isi_def, Mi.sum_lst, Mi.all_lst, Mi.any_lst, Mi.ints_map, Mi.bools_map, R.bind_ok, R.bind_ex, R.bind_bad, R.lift_some, R.noEx_ok, List.getElem?_cons_zero, List.getElem?_cons_succ, Option.bind_some, Option.map_some, Option.bind_eq_bind, id_eq, List.set_cons_zero, List.set_cons_succ, if_true, if_false, Bool.false_eq_true, reduceIte, Bool.not_true, Bool.not_false, Ex.isOmit, b8, is_tuple_v _ _ _ h.sh, q]
    rw [all_of xs _ (deedB many) (by omega) (fun x hm => by simp (implicitDefEqProofs := false) only [Mi.seqK_nx, Mi.seqK_rt, Mi.andK_t, Mi.andK_f, Mi.orK_t, Mi.orK_f, Mi.forB_nm, Mi.forB_2, Mi.binK2_d, Mi.binK1_d, Mi.negK_d, Mi.truK_d, Mi.tstK_d, Mi.notK_d, Mi.cmpK2_d, Mi.cmpK1_d, Mi.chnK3_t, Mi.chnK3_f, Mi.chnK2_d, Mi.chnK1_d, Mi.iteK_t, Mi.iteK_f, Mi.tupK_d, Mi.lstK_d, Mi.cellK_d, Mi.callK_d, Mi.biK_d, Mi.idxK2_d, Mi.idxK1_d, Mi.sliK3_t, Mi.sliK3_l, Mi.oIntK_i, Mi.sliK2_d, Mi.sliK1_d, Mi.lcT_d, Mi.lcE_d, Mi.lcK_d, Mi.lrgK2_d, Mi.lrgK1_d, Mi.consK2_d, Mi.consK1_d, Mi.rng1K_d, Mi.rng2K2_d, Mi.rng2K1_d, Mi.zipO_d, Mi.zipK2_d, Mi.zipK1_d, Mi.enuK_d, Mi.sqK_d, Mi.setK_d, Mi.setTK_d, Mi.putK3_d, Mi.putK2_d, Mi.putK1_d, Mi.appK2_d, Mi.appK1_d, Mi.dropK_d, Mi.retK_d, Mi.iteS_t, Mi.iteS_f, Mi.forK_d, Mi.turnK2_d, Mi.turnK1_t, Mi.turnK1_f, Mi.whK_t, Mi.whK_f, Mi.lcB_nm, Mi.lcB_2, Mi.evE_var, Mi.evE_non, Mi.evE_bl, Mi.evE_int, Mi.evE_str, Mi.evE_gl, Mi.evE_bty, Mi.evE_bin, Mi.evE_neg, Mi.evE_not, Mi.evE_and, Mi.evE_or, Mi.evE_cmp, Mi.evE_chn, Mi.evE_ite, Mi.evE_tup, Mi.evE_lst, Mi.evE_cell, Mi.evE_call, Mi.callP_sto, Mi.evE_bi, Mi.evE_idx, Mi.evE_sli, Mi.evE_lc, Mi.evE_lrg, Mi.evE_lrd, Mi.evA_nil, Mi.evA_cons, Mi.evI_rng1, Mi.evI_rng2, Mi.evI_zip, Mi.evI_enu, Mi.evI_sq, Mi.tstR_false, Mi.tstR_true, Mi.optR_false, Mi.optR_true, Mi.oInt_int, Mi.isOmit_omit, Mi.evS_skip, Mi.evS_seq, Mi.evS_set, Mi.evS_setT, Mi.evS_put, Mi.evS_app, Mi.evS_drop, Mi.evS_ret, Mi.evS_ite, Mi.evS_for, Mi.evS_while, Mi.evS_raise, Mi.sto_some, Mi.sto_none, Mi.val_nx, Mi.val_rt, Mi.setTg_nm, Mi.setTg_nil, Mi.setTg_cons, Mi.wipe_nil, Mi.wipe_cons, Mi.forR_nil, Mi.truV_bl, Mi.truV_non, Mi.truV_int, Mi.add_ii, Mi.sub_ii, Mi.lt_ii, Mi.le_ii, Mi.gt_ii, Mi.ge_ii, Mi.isn_v, Mi.notn_v, Mi.isN_non, Mi.isN_int, Mi.isN_tup, Mi.isN_bl, Mi.isN_str, Mi.eq_ii, Mi.ne_ii, Mi.eq_ss, Mi.ne_ss, Mi.neg_i, Mi.walk_lst, Mi.walk_tup, Mi.walk_scr, Mi.len_tup, Mi.len_lst, Mi.len_scr, Mi.tuple_lst, Mi.tuple_tup, Mi.list_tup, Mi.list_lst, Mi.int_int, Mi.int_bl, Mi.abs_int, Mi.min_int, Mi.max_int, Mi.isi_def, Mi.sum_lst, Mi.all_lst, Mi.any_lst, Mi.ints_map, Mi.bools_map, R.bind_ok, R.bind_ex, R.bind_bad, R.lift_some, R.noEx_ok, List.getElem?_cons_zero, List.getElem?_cons_succ, Option.bind_some, Option.map_some, Option.bind_eq_bind, id_eq, List.set_cons_zero, List.set_cons_succ, if_true, if_false, Bool.false_eq_true, reduceIte, Bool.not_true, Bool.not_false, Ex.isOmit, is_deed_v _ _ (hx x hm)])]
    simp (implicitDefEqProofs := false) only [Mi.seqK_nx, Mi.seqK_rt, Mi.andK_t, Mi.andK_f, Mi.orK_t, Mi.orK_f, Mi.forB_nm, Mi.forB_2, Mi.binK2_d, Mi.binK1_d, Mi.negK_d, Mi.truK_d, Mi.tstK_d, Mi.notK_d, Mi.cmpK2_d, Mi.cmpK1_d, Mi.chnK3_t, Mi.chnK3_f, Mi.chnK2_d, Mi.chnK1_d, Mi.iteK_t, Mi.iteK_f, Mi.tupK_d, Mi.lstK_d, Mi.cellK_d, Mi.callK_d, Mi.biK_d, Mi.idxK2_d, Mi.idxK1_d, Mi.sliK3_t, Mi.sliK3_l, Mi.oIntK_i, Mi.sliK2_d, Mi.sliK1_d, Mi.lcT_d, Mi.lcE_d, Mi.lcK_d, Mi.lrgK2_d, Mi.lrgK1_d, Mi.consK2_d, Mi.consK1_d, Mi.rng1K_d, Mi.rng2K2_d, Mi.rng2K1_d, Mi.zipO_d, Mi.zipK2_d, Mi.zipK1_d, Mi.enuK_d, Mi.sqK_d, Mi.setK_d, Mi.setTK_d, Mi.putK3_d, Mi.putK2_d, Mi.putK1_d, Mi.appK2_d, Mi.appK1_d, Mi.dropK_d, Mi.retK_d, Mi.iteS_t, Mi.iteS_f, Mi.forK_d, Mi.turnK2_d, Mi.turnK1_t, Mi.turnK1_f, Mi.whK_t, Mi.whK_f, Mi.lcB_nm, Mi.lcB_2, Mi.evE_var, Mi.evE_non, Mi.evE_bl, Mi.evE_int, Mi.evE_str, Mi.evE_gl, Mi.evE_bty, Mi.evE_bin, Mi.evE_neg, Mi.evE_not, Mi.evE_and, Mi.evE_or, Mi.evE_cmp, Mi.evE_chn, Mi.evE_ite, Mi.evE_tup, Mi.evE_lst, Mi.evE_cell, Mi.evE_call, Mi.callP_sto, Mi.evE_bi, Mi.evE_idx, Mi.evE_sli, Mi.evE_lc, Mi.evE_lrg, Mi.evE_lrd, Mi.evA_nil, Mi.evA_cons, Mi.evI_rng1, Mi.evI_rng2, Mi.evI_zip, Mi.evI_enu, Mi.evI_sq, Mi.tstR_false, Mi.tstR_true, Mi.optR_false, Mi.optR_true, Mi.oInt_int, Mi.isOmit_omit, Mi.evS_skip, Mi.evS_seq, Mi.evS_set, Mi.evS_setT, Mi.evS_put, Mi.evS_app, Mi.evS_drop, Mi.evS_ret, Mi.evS_ite, Mi.evS_for, Mi.evS_while, Mi.evS_raise, Mi.sto_some, Mi.sto_none, Mi.val_nx, Mi.val_rt, Mi.setTg_nm, Mi.setTg_nil, Mi.setTg_cons, Mi.wipe_nil, Mi.wipe_cons, Mi.forR_nil, Mi.truV_bl, Mi.truV_non, Mi.truV_int, Mi.add_ii, Mi.sub_ii, Mi.lt_ii, Mi.le_ii, Mi.gt_ii, Mi.ge_ii, Mi.isn_v, Mi.notn_v, Mi.isN_non, Mi.isN_int, Mi.isN_tup, Mi.isN_bl, Mi.isN_str, Mi.eq_ii, Mi.ne_ii, Mi.eq_ss, Mi.ne_ss, Mi.neg_i, Mi.walk_lst, Mi.walk_tup, Mi.walk_scr, Mi.len_tup, Mi.len_lst, Mi.len_scr, Mi.tuple_lst, Mi.tuple_tup, Mi.list_tup, Mi.list_lst, Mi.int_int, Mi.int_bl, Mi.abs_int, Mi.min_int, Mi.max_int, Mi.isi_def, Mi.sum_lst, Mi.all_lst, Mi.any_lst, Mi.ints_map, Mi.bools_map, R.bind_ok, R.bind_ex, R.bind_bad, R.lift_some, R.noEx_ok, List.getElem?_cons_zero, List.getElem?_cons_succ, Option.bind_some, Option.map_some, Option.bind_eq_bind, id_eq, List.set_cons_zero, List.set_cons_succ, if_true, if_false, Bool.false_eq_true, reduceIte, Bool.not_true, Bool.not_false, Ex.isOmit, all_id, e]

theorem law_is_int_v (v : PV) (a b : Int) (h : sh1 v = true) : RU N (d + 1) 33 [v, .int a, .int b] st = .ok (.bl (numB v a b)) st := by
  rw [RU, u33]
  cases v <;> first | (cases h; done) | skip
  · simp (implicitDefEqProofs := false) only [Mi.seqK_nx, Mi.seqK_rt, Mi.andK_t, Mi.andK_f, Mi.orK_t, Mi.orK_f, Mi.forB_nm, Mi.forB_2, Mi.binK2_d, Mi.binK1_d, Mi.negK_d, Mi.truK_d, Mi.tstK_d, Mi.notK_d, Mi.cmpK2_d, Mi.cmpK1_d, Mi.chnK3_t, Mi.chnK3_f, Mi.chnK2_d, Mi.chnK1_d, Mi.iteK_t, Mi.iteK_f, Mi.tupK_d, Mi.lstK_d, Mi.cellK_d, Mi.callK_d, Mi.biK_d, Mi.idxK2_d, Mi.idxK1_d, Mi.sliK3_t, Mi.sliK3_l, Mi.oIntK_i, Mi.sliK2_d, Mi.sliK1_d, Mi.lcT_d, Mi.lcE_d, Mi.lcK_d, Mi.lrgK2_d, Mi.lrgK1_d, Mi.consK2_d, Mi.consK1_d, Mi.rng1K_d, Mi.rng2K2_d, Mi.rng2K1_d, Mi.zipO_d, Mi.zipK2_d, Mi.zipK1_d, Mi.enuK_d, Mi.sqK_d, Mi.setK_d, Mi.setTK_d, Mi.putK3_d, Mi.putK2_d, Mi.putK1_d, Mi.appK2_d, Mi.appK1_d, Mi.dropK_d, Mi.retK_d, Mi.iteS_t, Mi.iteS_f, Mi.forK_d, Mi.turnK2_d, Mi.turnK1_t, Mi.turnK1_f, Mi.whK_t, Mi.whK_f, Mi.lcB_nm, Mi.lcB_2, Mi.evE_var, Mi.evE_non, Mi.evE_bl, Mi.evE_int, Mi.evE_str, Mi.evE_gl, Mi.evE_bty, Mi.evE_bin, Mi.evE_neg, Mi.evE_not, Mi.evE_and, Mi.evE_or, Mi.evE_cmp, Mi.evE_chn, Mi.evE_ite, Mi.evE_tup, Mi.evE_lst, Mi.evE_cell, Mi.evE_call, Mi.callP_sto, Mi.evE_bi, Mi.evE_idx, Mi.evE_sli, Mi.evE_lc, Mi.evE_lrg, Mi.evE_lrd, Mi.evA_nil, Mi.evA_cons, Mi.evI_rng1, Mi.evI_rng2, Mi.evI_zip, Mi.evI_enu, Mi.evI_sq, Mi.tstR_false, Mi.tstR_true, Mi.optR_false, Mi.optR_true, Mi.oInt_int, Mi.isOmit_omit, Mi.evS_skip, Mi.evS_seq, Mi.evS_set, Mi.evS_setT, Mi.evS_put, Mi.evS_app, Mi.evS_drop, Mi.evS_ret, Mi.evS_ite, Mi.evS_for, Mi.evS_while, Mi.evS_raise, Mi.sto_some, Mi.sto_none, Mi.val_nx, Mi.val_rt, Mi.setTg_nm, Mi.setTg_nil, Mi.setTg_cons, Mi.wipe_nil, Mi.wipe_cons, Mi.forR_nil, Mi.truV_bl, Mi.truV_non, Mi.truV_int, Mi.add_ii, Mi.sub_ii, Mi.lt_ii, Mi.le_ii, Mi.gt_ii, Mi.ge_ii, Mi.isn_v, Mi.notn_v, Mi.isN_non, Mi.isN_int, Mi.isN_tup, Mi.isN_bl, Mi.isN_str, Mi.eq_ii, Mi.ne_ii, Mi.eq_ss, Mi.ne_ss, Mi.neg_i, Mi.walk_lst, Mi.walk_tup, Mi.walk_scr, Mi.len_tup, Mi.len_lst, Mi.len_scr, Mi.tuple_lst, Mi.tuple_tup, Mi.list_tup, Mi.list_lst, Mi.int_int, Mi.int_bl, Mi.abs_int, Mi.min_int, Mi.max_int, Mi.isi_def, Mi.sum_lst, Mi.all_lst, Mi.any_lst, Mi.ints_map, Mi.bools_map, R.bind_ok, R.bind_ex, R.bind_bad, R.lift_some, R.noEx_ok, List.getElem?_cons_zero, List.getElem?_cons_succ, Option.bind_some, Option.map_some, Option.bind_eq_bind, id_eq, List.set_cons_zero, List.set_cons_succ, if_true, if_false, Bool.false_eq_true, reduceIte, Bool.not_true, Bool.not_false, Ex.isOmit, b33, show isiV .non "int" = some false from rfl, numB]
  · simp (implicitDefEqProofs := false) only [Mi.seqK_nx, Mi.seqK_rt, Mi.andK_t, Mi.andK_f, Mi.orK_t, Mi.orK_f, Mi.forB_nm, Mi.forB_2, Mi.binK2_d, Mi.binK1_d, Mi.negK_d, Mi.truK_d, Mi.tstK_d, Mi.notK_d, Mi.cmpK2_d, Mi.cmpK1_d, Mi.chnK3_t, Mi.chnK3_f, Mi.chnK2_d, Mi.chnK1_d, Mi.iteK_t, Mi.iteK_f, Mi.tupK_d, Mi.lstK_d, Mi.cellK_d, Mi.callK_d, Mi.biK_d, Mi.idxK2_d, Mi.idxK1_d, Mi.sliK3_t, Mi.sliK3_l, Mi.oIntK_i, Mi.sliK2_d, Mi.sliK1_d, Mi.lcT_d, Mi.lcE_d, Mi.lcK_d, Mi.lrgK2_d, Mi.lrgK1_d, Mi.consK2_d, Mi.consK1_d, Mi.rng1K_d, Mi.rng2K2_d, Mi.rng2K1_d, Mi.zipO_d, Mi.zipK2_d, Mi.zipK1_d, Mi.enuK_d, Mi.sqK_d, Mi.setK_d, Mi.setTK_d, Mi.putK3_d, Mi.putK2_d, Mi.putK1_d, Mi.appK2_d, Mi.appK1_d, Mi.dropK_d, Mi.retK_d, Mi.iteS_t, Mi.iteS_f, Mi.forK_d, Mi.turnK2_d, Mi.turnK1_t, Mi.turnK1_f, Mi.whK_t, Mi.whK_f, Mi.lcB_nm, Mi.lcB_2, Mi.evE_var, Mi.evE_non, Mi.evE_bl, Mi.evE_int, Mi.evE_str, Mi.evE_gl, Mi.evE_bty, Mi.evE_bin, Mi.evE_neg, Mi.evE_not, Mi.evE_and, Mi.evE_or, Mi.evE_cmp, Mi.evE_chn, Mi.evE_ite, Mi.evE_tup, Mi.evE_lst, Mi.evE_cell, Mi.evE_call, Mi.callP_sto, Mi.evE_bi, Mi.evE_idx, Mi.evE_sli, Mi.evE_lc, Mi.evE_lrg, Mi.evE_lrd, Mi.evA_nil, Mi.evA_cons, Mi.evI_rng1, Mi.evI_rng2, Mi.evI_zip, Mi.evI_enu, Mi.evI_sq, Mi.tstR_false, Mi.tstR_true, Mi.optR_false, Mi.optR_true, Mi.oInt_int, Mi.isOmit_omit, Mi.evS_skip, Mi.evS_seq, Mi.evS_set, Mi.evS_setT, Mi.evS_put, Mi.evS_app, Mi.evS_drop, Mi.evS_ret, Mi.evS_ite, Mi.evS_for, Mi.evS_while, Mi.evS_raise, Mi.sto_some, Mi.sto_none, Mi.val_nx, Mi.val_rt, Mi.setTg_nm, Mi.setTg_nil, Mi.setTg_cons, Mi.wipe_nil, Mi.wipe_cons, Mi.forR_nil, Mi.truV_bl, Mi.truV_non, Mi.truV_int, Mi.add_ii, Mi.sub_ii, Mi.lt_ii, Mi.le_ii, Mi.gt_ii, Mi.ge_ii, Mi.isn_v, Mi.notn_v, Mi.isN_non, Mi.isN_int, Mi.isN_tup, Mi.isN_bl, Mi.isN_str, Mi.eq_ii, Mi.ne_ii, Mi.eq_ss, Mi.ne_ss, Mi.neg_i, Mi.walk_lst, Mi.walk_tup, Mi.walk_scr, Mi.len_tup, Mi.len_lst, Mi.len_scr, Mi.tuple_lst, Mi.tuple_tup, Mi.list_tup, Mi.list_lst, Mi.int_int, Mi.int_bl, Mi.abs_int, Mi.min_int, Mi.max_int, Mi.isi_def, Mi.sum_lst, Mi.all_lst, Mi.any_lst, Mi.ints_map, Mi.bools_map, R.bind_ok, R.bind_ex, R.bind_bad, R.lift_some, R.noEx_ok, List.getElem?_cons_zero, List.getElem?_cons_succ, Option.bind_some, Option.map_some, Option.bind_eq_bind, id_eq, List.set_cons_zero, List.set_cons_succ, if_true, if_false, Bool.false_eq_true, reduceIte, Bool.not_true, Bool.not_false, Ex.isOmit, b33, show ∀ b, isiV (.bl b) "int" = some true from fun _ => rfl, show ∀ b, isiV (.bl b) "bool" = some true from fun _ => rfl, numB]
  · rename_i i
    simp (implicitDefEqProofs := false) only [Mi.seqK_nx, Mi.seqK_rt, Mi.andK_t, Mi.andK_f, Mi.orK_t, Mi.orK_f, Mi.forB_nm, Mi.forB_2, Mi.binK2_d, Mi.binK1_d, Mi.negK_d, Mi.truK_d, Mi.tstK_d, Mi.notK_d, Mi.cmpK2_d, Mi.cmpK1_d, Mi.chnK3_t, Mi.chnK3_f, Mi.chnK2_d, Mi.chnK1_d, Mi.iteK_t, Mi.iteK_f, Mi.tupK_d, Mi.lstK_d, Mi.cellK_d, Mi.callK_d, Mi.biK_d, Mi.idxK2_d, Mi.idxK1_d, Mi.sliK3_t, Mi.sliK3_l, Mi.oIntK_i, Mi.sliK2_d, Mi.sliK1_d, Mi.lcT_d, Mi.lcE_d, Mi.lcK_d, Mi.lrgK2_d, Mi.lrgK1_d, Mi.consK2_d, Mi.consK1_d, Mi.rng1K_d, Mi.rng2K2_d, Mi.rng2K1_d, Mi.zipO_d, Mi.zipK2_d, Mi.zipK1_d, Mi.enuK_d, Mi.sqK_d, Mi.setK_d, Mi.setTK_d, Mi.putK3_d, Mi.putK2_d, Mi.putK1_d, Mi.appK2_d, Mi.appK1_d, Mi.dropK_d, Mi.retK_d, Mi.iteS_t, Mi.iteS_f, Mi.forK_d, Mi.turnK2_d, Mi.turnK1_t, Mi.turnK1_f, Mi.whK_t, Mi.whK_f, Mi.lcB_nm, Mi.lcB_2, Mi.evE_var, Mi.evE_non, Mi.evE_bl, Mi.evE_int, Mi.evE_str, Mi.evE_gl, Mi.evE_bty, Mi.evE_bin, Mi.evE_neg, Mi.evE_not, Mi.evE_and, Mi.evE_or, Mi.evE_cmp, Mi.evE_chn, Mi.evE_ite, Mi.evE_tup, Mi.evE_lst, Mi.evE_cell, Mi.evE_call, Mi.callP_sto, Mi.evE_bi, Mi.evE_idx, Mi.evE_sli, Mi.evE_lc, Mi.evE_lrg, Mi.evE_lrd, Mi.evA_nil, Mi.evA_cons, Mi.evI_rng1, Mi.evI_rng2, Mi.evI_zip, Mi.evI_enu, Mi.evI_sq, Mi.tstR_false, Mi.tstR_true, Mi.optR_false, Mi.optR_true, Mi.oInt_int, Mi.isOmit_omit, Mi.evS_skip, Mi.evS_seq, Mi.evS_set, Mi.evS_setT, Mi.evS_put, Mi.evS_app, Mi.evS_drop, Mi.evS_ret, Mi.evS_ite, Mi.evS_for, Mi.evS_while, Mi.evS_raise, Mi.sto_some, Mi.sto_none, Mi.val_nx, Mi.val_rt, Mi.setTg_nm, Mi.setTg_nil, Mi.setTg_cons, Mi.wipe_nil, Mi.wipe_cons, Mi.forR_nil, Mi.truV_bl, Mi.truV_non, Mi.truV_int, Mi.add_ii, Mi.sub_ii, Mi.lt_ii, Mi.le_ii, Mi.gt_ii, Mi.ge_ii, Mi.isn_v, Mi.notn_v, Mi.isN_non, Mi.isN_int, Mi.isN_tup, Mi.isN_bl, Mi.isN_str, Mi.eq_ii, Mi.ne_ii, Mi.eq_ss, Mi.ne_ss, Mi.neg_i, Mi.walk_lst, Mi.walk_tup, Mi.walk_scr, Mi.len_tup, Mi.len_lst, Mi.len_scr, Mi.tuple_lst, Mi.tuple_tup, Mi.list_tup, Mi.list_lst, Mi.int_int, Mi.int_bl, Mi.abs_int, Mi.min_int, Mi.max_int, Mi.isi_def, Mi.sum_lst, Mi.all_lst, Mi.any_lst, Mi.ints_map, Mi.bools_map, R.bind_ok, R.bind_ex, R.bind_bad, R.lift_some, R.noEx_ok, List.getElem?_cons_zero, List.getElem?_cons_succ, Option.bind_some, Option.map_some, Option.bind_eq_bind, id_eq, List.set_cons_zero, List.set_cons_succ, if_true, if_false, Bool.false_eq_true, reduceIte, Bool.not_true, Bool.not_false, Ex.isOmit, b33, show isiV (.int i) "int" = some true from rfl, show isiV (.int i) "bool" = some false from rfl, numB]
    cases decide (a ≤ i) <;> simp (implicitDefEqProofs := false) only [Mi.seqK_nx, Mi.seqK_rt, Mi.andK_t, Mi.andK_f, Mi.orK_t, Mi.orK_f, Mi.forB_nm, Mi.forB_2, Mi.binK2_d, Mi.binK1_d, Mi.negK_d, Mi.truK_d, Mi.tstK_d, Mi.notK_d, Mi.cmpK2_d, Mi.cmpK1_d, Mi.chnK3_t, Mi.chnK3_f, Mi.chnK2_d, Mi.chnK1_d, Mi.iteK_t, Mi.iteK_f, Mi.tupK_d, Mi.lstK_d, Mi.cellK_d, Mi.callK_d, Mi.biK_d, Mi.idxK2_d, Mi.idxK1_d, Mi.sliK3_t, Mi.sliK3_l, Mi.oIntK_i, Mi.sliK2_d, Mi.sliK1_d, Mi.lcT_d, Mi.lcE_d, Mi.lcK_d, Mi.lrgK2_d, Mi.lrgK1_d, Mi.consK2_d, Mi.consK1_d, Mi.rng1K_d, Mi.rng2K2_d, Mi.rng2K1_d, Mi.zipO_d, Mi.zipK2_d, Mi.zipK1_d, Mi.enuK_d, Mi.sqK_d, Mi.setK_d, Mi.setTK_d, Mi.putK3_d, Mi.putK2_d, Mi.putK1_d, Mi.appK2_d, Mi.appK1_d, Mi.dropK_d, Mi.retK_d, Mi.iteS_t, Mi.iteS_f, Mi.forK_d, Mi.turnK2_d, Mi.turnK1_t, Mi.turnK1_f, Mi.whK_t, Mi.whK_f, Mi.lcB_nm, Mi.lcB_2, Mi.evE_var, Mi.evE_non, Mi.evE_bl, Mi.evE_int, Mi.evE_str, Mi.evE_gl, Mi.evE_bty, Mi.evE_bin, Mi.evE_neg, Mi.evE_not, Mi.evE_and, Mi.evE_or, Mi.evE_cmp, Mi.evE_chn, Mi.evE_ite, Mi.evE_tup, Mi.evE_lst, Mi.evE_cell, Mi.evE_call, Mi.callP_sto, Mi.evE_bi, Mi.evE_idx, Mi.evE_sli, Mi.evE_lc, Mi.evE_lrg, Mi.evE_lrd, Mi.evA_nil, Mi.evA_cons, Mi.evI_rng1, Mi.evI_rng2, Mi.evI_zip, Mi.evI_enu, Mi.evI_sq, Mi.tstR_false, Mi.tstR_true, Mi.optR_false, Mi.optR_true, Mi.oInt_int, Mi.isOmit_omit, Mi.evS_skip, Mi.evS_seq, Mi.evS_set, Mi.evS_setT, Mi.evS_put, Mi.evS_app, Mi.evS_drop, Mi.evS_ret, Mi.evS_ite, Mi.evS_for, Mi.evS_while, Mi.evS_raise, Mi.sto_some, Mi.sto_none, Mi.val_nx, Mi.val_rt, Mi.setTg_nm, Mi.setTg_nil, Mi.setTg_cons, Mi.wipe_nil, Mi.wipe_cons, Mi.forR_nil, Mi.truV_bl, Mi.truV_non, Mi.truV_int, Mi.add_ii, Mi.sub_ii, Mi.lt_ii, Mi.le_ii, Mi.gt_ii, Mi.ge_ii, Mi.isn_v, Mi.notn_v, Mi.isN_non, Mi.isN_int, Mi.isN_tup, Mi.isN_bl, Mi.isN_str, Mi.eq_ii, Mi.ne_ii, Mi.eq_ss, Mi.ne_ss, Mi.neg_i, Mi.walk_lst, Mi.walk_tup, Mi.walk_scr, Mi.len_tup, Mi.len_lst, Mi.len_scr, Mi.tuple_lst, Mi.tuple_tup, Mi.list_tup, Mi.list_lst, Mi.int_int, Mi.int_bl, Mi.abs_int, Mi.min_int, Mi.max_int, Mi.isi_def, Mi.sum_lst, Mi.all_lst, Mi.any_lst, Mi.ints_map, Mi.bools_map, R.bind_ok, R.bind_ex, R.bind_bad, R.lift_some, R.noEx_ok, List.getElem?_cons_zero, List.getElem?_cons_succ, Option.bind_some, Option.map_some, Option.bind_eq_bind, id_eq, List.set_cons_zero, List.set_cons_succ, if_true, if_false, Bool.false_eq_true, reduceIte, Bool.not_true, Bool.not_false, Ex.isOmit, Bool.true_and, Bool.false_and]
  · simp (implicitDefEqProofs := false) only [Mi.seqK_nx, Mi.seqK_rt, Mi.andK_t, Mi.andK_f, Mi.orK_t, Mi.orK_f, Mi.forB_nm, Mi.forB_2, Mi.binK2_d, Mi.binK1_d, Mi.negK_d, Mi.truK_d, Mi.tstK_d, Mi.notK_d, Mi.cmpK2_d, Mi.cmpK1_d, Mi.chnK3_t, Mi.chnK3_f, Mi.chnK2_d, Mi.chnK1_d, Mi.iteK_t, Mi.iteK_f, Mi.tupK_d, Mi.lstK_d, Mi.cellK_d, Mi.callK_d, Mi.biK_d, Mi.idxK2_d, Mi.idxK1_d, Mi.sliK3_t, Mi.sliK3_l, Mi.oIntK_i, Mi.sliK2_d, Mi.sliK1_d, Mi.lcT_d, Mi.lcE_d, Mi.lcK_d, Mi.lrgK2_d, Mi.lrgK1_d, Mi.consK2_d, Mi.consK1_d, Mi.rng1K_d, Mi.rng2K2_d, Mi.rng2K1_d, Mi.zipO_d, Mi.zipK2_d, Mi.zipK1_d, Mi.enuK_d, Mi.sqK_d, Mi.setK_d, Mi.setTK_d, Mi.putK3_d, Mi.putK2_d, Mi.putK1_d, Mi.appK2_d, Mi.appK1_d, Mi.dropK_d, Mi.retK_d, Mi.iteS_t, Mi.iteS_f, Mi.forK_d, Mi.turnK2_d, Mi.turnK1_t, Mi.turnK1_f, Mi.whK_t, Mi.whK_f, Mi.lcB_nm, Mi.lcB_2, Mi.evE_var, Mi.evE_non, Mi.evE_bl, Mi.evE_int, Mi.evE_str, Mi.evE_gl, Mi.evE_bty, Mi.evE_bin, Mi.evE_neg, Mi.evE_not, Mi.evE_and, Mi.evE_or, Mi.evE_cmp, Mi.evE_chn, Mi.evE_ite, Mi.evE_tup, Mi.evE_lst, Mi.evE_cell, Mi.evE_call, Mi.callP_sto, Mi.evE_bi, Mi.evE_idx, Mi.evE_sli, Mi.evE_lc, Mi.evE_lrg, Mi.evE_lrd, Mi.evA_nil, Mi.evA_cons, Mi.evI_rng1, Mi.evI_rng2, Mi.evI_zip, Mi.evI_enu, Mi.evI_sq, Mi.tstR_false, Mi.tstR_true, Mi.optR_false, Mi.optR_true, Mi.oInt_int, Mi.isOmit_omit, Mi.evS_skip, Mi.evS_seq, Mi.evS_set, Mi.evS_setT, Mi.evS_put, Mi.evS_app, Mi.evS_drop, Mi.evS_ret, Mi.evS_ite, Mi.evS_for, Mi.evS_while, Mi.evS_raise, Mi.sto_some, Mi.sto_none, Mi.val_nx, Mi.val_rt, Mi.setTg_nm, Mi.setTg_nil, Mi.setTg_cons, Mi.wipe_nil, Mi.wipe_cons, Mi.forR_nil, Mi.truV_bl, Mi.truV_non, Mi.truV_int, Mi.add_ii, Mi.sub_ii, Mi.lt_ii, Mi.le_ii, Mi.gt_ii, Mi.ge_ii, Mi.isn_v, Mi.notn_v, Mi.isN_non, Mi.isN_int, Mi.isN_tup, Mi.isN_bl, Mi.isN_str, Mi.eq_ii, Mi.ne_ii, Mi.eq_ss, Mi.ne_ss, Mi.neg_i, Mi.walk_lst, Mi.walk_tup, Mi.walk_scr, Mi.len_tup, Mi.len_lst, Mi.len_scr, Mi.tuple_lst, Mi.tuple_tup, Mi.list_tup, Mi.list_lst, Mi.int_int, Mi.int_bl, Mi.abs_int, Mi.min_int, Mi.max_int, Mi.isi_def, Mi.sum_lst, Mi.all_lst, Mi.any_lst, Mi.ints_map, Mi.bools_map, R.bind_ok, R.bind_ex, R.bind_bad, R.lift_some, R.noEx_ok, List.getElem?_cons_zero, List.getElem?_cons_succ, Option.bind_some, Option.map_some, Option.bind_eq_bind, id_eq, List.set_cons_zero, List.set_cons_succ, if_true, if_false, Bool.false_eq_true, reduceIte, Bool.not_true, Bool.not_false, Ex.isOmit, b33, show ∀ s, isiV (.str s) "int" = some false from fun _ => rfl, numB]
  · simp (implicitDefEqProofs := false) only [Mi.seqK_nx, Mi.seqK_rt, Mi.andK_t, Mi.andK_f, Mi.orK_t, Mi.orK_f, Mi.forB_nm, Mi.forB_2, Mi.binK2_d, Mi.binK1_d, Mi.negK_d, Mi.truK_d, Mi.tstK_d, Mi.notK_d, Mi.cmpK2_d, Mi.cmpK1_d, Mi.chnK3_t, Mi.chnK3_f, Mi.chnK2_d, Mi.chnK1_d, Mi.iteK_t, Mi.iteK_f, Mi.tupK_d, Mi.lstK_d, Mi.cellK_d, Mi.callK_d, Mi.biK_d, Mi.idxK2_d, Mi.idxK1_d, Mi.sliK3_t, Mi.sliK3_l, Mi.oIntK_i, Mi.sliK2_d, Mi.sliK1_d, Mi.lcT_d, Mi.lcE_d, Mi.lcK_d, Mi.lrgK2_d, Mi.lrgK1_d, Mi.consK2_d, Mi.consK1_d, Mi.rng1K_d, Mi.rng2K2_d, Mi.rng2K1_d, Mi.zipO_d, Mi.zipK2_d, Mi.zipK1_d, Mi.enuK_d, Mi.sqK_d, Mi.setK_d, Mi.setTK_d, Mi.putK3_d, Mi.putK2_d, Mi.putK1_d, Mi.appK2_d, Mi.appK1_d, Mi.dropK_d, Mi.retK_d, Mi.iteS_t, Mi.iteS_f, Mi.forK_d, Mi.turnK2_d, Mi.turnK1_t, Mi.turnK1_f, Mi.whK_t, Mi.whK_f, Mi.lcB_nm, Mi.lcB_2, Mi.evE_var, Mi.evE_non, Mi.evE_bl, Mi.evE_int, Mi.evE_str, Mi.evE_gl, Mi.evE_bty, Mi.evE_bin, Mi.evE_neg, Mi.evE_not, Mi.evE_and, Mi.evE_or, Mi.evE_cmp, Mi.evE_chn, Mi.evE_ite, Mi.evE_tup, Mi.evE_lst, Mi.evE_cell, Mi.evE_call, Mi.callP_sto, Mi.evE_bi, Mi.evE_idx, Mi.evE_sli, Mi.evE_lc, Mi.evE_lrg, Mi.evE_lrd, Mi.evA_nil, Mi.evA_cons, Mi.evI_rng1, Mi.evI_rng2, Mi.evI_zip, Mi.evI_enu, Mi.evI_sq, Mi.tstR_false, Mi.tstR_true, Mi.optR_false, Mi.optR_true, Mi.oInt_int, Mi.isOmit_omit, Mi.evS_skip, Mi.evS_seq, Mi.evS_set, Mi.evS_setT, Mi.evS_put, Mi.evS_app, Mi.evS_drop, Mi.evS_ret, Mi.evS_ite, Mi.evS_for, Mi.evS_while, Mi.evS_raise, Mi.sto_some, Mi.sto_none, Mi.val_nx, Mi.val_rt, Mi.setTg_nm, Mi.setTg_nil, Mi.setTg_cons, Mi.wipe_nil, Mi.wipe_cons, Mi.forR_nil, Mi.truV_bl, Mi.truV_non, Mi.truV_int, Mi.add_ii, Mi.sub_ii, Mi.lt_ii, Mi.le_ii, Mi.gt_ii, Mi.ge_ii, Mi.isn_v, Mi.notn_v, Mi.isN_non, Mi.isN_int, Mi.isN_tup, Mi.isN_bl, Mi.isN_str, Mi.eq_ii, Mi.ne_ii, Mi.eq_ss, Mi.ne_ss, Mi.neg_i, Mi.walk_lst, Mi.walk_tup, Mi.walk_scr, Mi.len_tup, Mi.len_lst, Mi.len_scr, Mi.tuple_lst, Mi.tuple_tup, Mi.list_tup, Mi.list_lst, Mi.int_int, Mi.int_bl, Mi.abs_int, Mi.min_int, Mi.max_int, Mi.isi_def, Mi.sum_lst, Mi.all_lst, Mi.any_lst, Mi.ints_map, Mi.bools_map, R.bind_ok, R.bind_ex, R.bind_bad, R.lift_some, R.noEx_ok, List.getElem?_cons_zero, List.getElem?_cons_succ, Option.bind_some, Option.map_some, Option.bind_eq_bind, id_eq, List.set_cons_zero, List.set_cons_succ, if_true, if_false, Bool.false_eq_true, reduceIte, Bool.not_true, Bool.not_false, Ex.isOmit, b33, show ∀ s, isiV (.tup s) "int" = some false from fun _ => rfl, numB]
  · simp (implicitDefEqProofs := false) only [Mi.seqK_nx, Mi.seqK_rt, Mi.andK_t, Mi.andK_f, Mi.orK_t, Mi.orK_f, Mi.forB_nm, Mi.forB_2, Mi.binK2_d, Mi.binK1_d, Mi.negK_d, Mi.truK_d, Mi.tstK_d, Mi.notK_d, Mi.cmpK2_d, Mi.cmpK1_d, Mi.chnK3_t, Mi.chnK3_f, Mi.chnK2_d, Mi.chnK1_d, Mi.iteK_t, Mi.iteK_f, Mi.tupK_d, Mi.lstK_d, Mi.cellK_d, Mi.callK_d, Mi.biK_d, Mi.idxK2_d, Mi.idxK1_d, Mi.sliK3_t, Mi.sliK3_l, Mi.oIntK_i, Mi.sliK2_d, Mi.sliK1_d, Mi.lcT_d, Mi.lcE_d, Mi.lcK_d, Mi.lrgK2_d, Mi.lrgK1_d, Mi.consK2_d, Mi.consK1_d, Mi.rng1K_d, Mi.rng2K2_d, Mi.rng2K1_d, Mi.zipO_d, Mi.zipK2_d, Mi.zipK1_d, Mi.enuK_d, Mi.sqK_d, Mi.setK_d, Mi.setTK_d, Mi.putK3_d, Mi.putK2_d, Mi.putK1_d, Mi.appK2_d, Mi.appK1_d, Mi.dropK_d, Mi.retK_d, Mi.iteS_t, Mi.iteS_f, Mi.forK_d, Mi.turnK2_d, Mi.turnK1_t, Mi.turnK1_f, Mi.whK_t, Mi.whK_f, Mi.lcB_nm, Mi.lcB_2, Mi.evE_var, Mi.evE_non, Mi.evE_bl, Mi.evE_int, Mi.evE_str, Mi.evE_gl, Mi.evE_bty, Mi.evE_bin, Mi.evE_neg, Mi.evE_not, Mi.evE_and, Mi.evE_or, Mi.evE_cmp, Mi.evE_chn, Mi.evE_ite, Mi.evE_tup, Mi.evE_lst, Mi.evE_cell, Mi.evE_call, Mi.callP_sto, Mi.evE_bi, Mi.evE_idx, Mi.evE_sli, Mi.evE_lc, Mi.evE_lrg, Mi.evE_lrd, Mi.evA_nil, Mi.evA_cons, Mi.evI_rng1, Mi.evI_rng2, Mi.evI_zip, Mi.evI_enu, Mi.evI_sq, Mi.tstR_false, Mi.tstR_true, Mi.optR_false, Mi.optR_true, Mi.oInt_int, Mi.isOmit_omit, Mi.evS_skip, Mi.evS_seq, Mi.evS_set, Mi.evS_setT, Mi.evS_put, Mi.evS_app, Mi.evS_drop, Mi.evS_ret, Mi.evS_ite, Mi.evS_for, Mi.evS_while, Mi.evS_raise, Mi.sto_some, Mi.sto_none, Mi.val_nx, Mi.val_rt, Mi.setTg_nm, Mi.setTg_nil, Mi.setTg_cons, Mi.wipe_nil, Mi.wipe_cons, Mi.forR_nil, Mi.truV_bl, Mi.truV_non, Mi.truV_int, Mi.add_ii, Mi.sub_ii, Mi.lt_ii, Mi.le_ii, Mi.gt_ii, Mi.ge_ii, Mi.isn_v, Mi.notn_v, Mi.isN_non, Mi.isN_int, Mi.isN_tup, Mi.isN_bl, Mi.isN_str, Mi.eq_ii, Mi.ne_ii, Mi.eq_ss, Mi.ne_ss, Mi.neg_i, Mi.walk_lst, Mi.walk_tup, Mi.walk_scr, Mi.len_tup, Mi.len_lst, Mi.len_scr, Mi.tuple_lst, Mi.tuple_tup, Mi.list_tup, Mi.list_lst, Mi.int_int, Mi.int_bl, Mi.abs_int, Mi.min_int, Mi.max_int, Mi.isi_def, Mi.sum_lst, Mi.all_lst, Mi.any_lst, Mi.ints_map, Mi.bools_map, R.bind_ok, R.bind_ex, R.bind_bad, R.lift_some, R.noEx_ok, List.getElem?_cons_zero, List.getElem?_cons_succ, Option.bind_some, Option.map_some, Option.bind_eq_bind, id_eq, List.set_cons_zero, List.set_cons_succ, if_true, if_false, Bool.false_eq_true, reduceIte, Bool.not_true, Bool.not_false, Ex.isOmit, b33, show ∀ s, isiV (.lst s) "int" = some false from fun _ => rfl, numB]
theorem filt_ofm {α : Type} (l : List α) (e : α → PV) (f : PV → Sto → R (Option PV)) (p : α → Bool) (g : α → PV) (hl : l.length ≤ 1000) (h : ∀ x ∈ l, f (e x) st = .ok (if p x then some (g x) else none) st) : ((compR f (l.map e) st).bind lcE) = .ok (.lst ((l.filter p).map g)) st := by
  have q := compR_filter l e p g h
  have hb := big_lt
  have l1 : ((l.filter p).map g).length ≤ big := by rw [List.length_map]; exact Nat.le_trans (List.length_filter_le _ _) (by omega)
  rw [q]
  simp (implicitDefEqProofs := false) only [Mi.seqK_nx, Mi.seqK_rt, Mi.andK_t, Mi.andK_f, Mi.orK_t, Mi.orK_f, Mi.forB_nm, Mi.forB_2, Mi.binK2_d, Mi.binK1_d, Mi.negK_d, Mi.truK_d, Mi.tstK_d, Mi.notK_d, Mi.cmpK2_d, Mi.cmpK1_d, Mi.chnK3_t, Mi.chnK3_f, Mi.chnK2_d, Mi.chnK1_d, Mi.iteK_t, Mi.iteK_f, Mi.tupK_d, Mi.lstK_d, Mi.cellK_d, Mi.callK_d, Mi.biK_d, Mi.idxK2_d, Mi.idxK1_d, Mi.sliK3_t, Mi.sliK3_l, Mi.oIntK_i, Mi.sliK2_d, Mi.sliK1_d, Mi.lcT_d, Mi.lcE_d, Mi.lcK_d, Mi.lrgK2_d, Mi.lrgK1_d, Mi.consK2_d, Mi.consK1_d, Mi.rng1K_d, Mi.rng2K2_d, Mi.rng2K1_d, Mi.zipO_d, Mi.zipK2_d, Mi.zipK1_d, Mi.enuK_d, Mi.sqK_d, Mi.setK_d, Mi.setTK_d, Mi.putK3_d, Mi.putK2_d, Mi.putK1_d, Mi.appK2_d, Mi.appK1_d, Mi.dropK_d, Mi.retK_d, Mi.iteS_t, Mi.iteS_f, Mi.forK_d, Mi.turnK2_d, Mi.turnK1_t, Mi.turnK1_f, Mi.whK_t, Mi.whK_f, Mi.lcB_nm, Mi.lcB_2, Mi.evE_var, Mi.evE_non, Mi.evE_bl, Mi.evE_int, Mi.evE_str, Mi.evE_gl, Mi.evE_bty, Mi.evE_bin, Mi.evE_neg, Mi.evE_not, Mi.evE_and, Mi.evE_or, Mi.evE_cmp, Mi.evE_chn, Mi.evE_ite, Mi.evE_tup, Mi.evE_lst, Mi.evE_cell, Mi.evE_call, Mi.callP_sto, Mi.evE_bi, Mi.evE_idx, Mi.evE_sli, Mi.evE_lc, Mi.evE_lrg, Mi.evE_lrd, Mi.evA_nil, Mi.evA_cons, Mi.evI_rng1, Mi.evI_rng2, Mi.evI_zip, Mi.evI_enu, Mi.evI_sq, Mi.tstR_false, Mi.tstR_true, Mi.optR_false, Mi.optR_true, Mi.oInt_int, Mi.isOmit_omit, Mi.evS_skip, Mi.evS_seq, Mi.evS_set, Mi.evS_setT, Mi.evS_put, Mi.evS_app, Mi.evS_drop, Mi.evS_ret, Mi.evS_ite, Mi.evS_for, Mi.evS_while, Mi.evS_raise, Mi.sto_some, Mi.sto_none, Mi.val_nx, Mi.val_rt, Mi.setTg_nm, Mi.setTg_nil, Mi.setTg_cons, Mi.wipe_nil, Mi.wipe_cons, Mi.forR_nil, Mi.truV_bl, Mi.truV_non, Mi.truV_int, Mi.add_ii, Mi.sub_ii, Mi.lt_ii, Mi.le_ii, Mi.gt_ii, Mi.ge_ii, Mi.isn_v, Mi.notn_v, Mi.isN_non, Mi.isN_int, Mi.isN_tup, Mi.isN_bl, Mi.isN_str, Mi.eq_ii, Mi.ne_ii, Mi.eq_ss, Mi.ne_ss, Mi.neg_i, Mi.walk_lst, Mi.walk_tup, Mi.walk_scr, Mi.len_tup, Mi.len_lst, Mi.len_scr, Mi.tuple_lst, Mi.tuple_tup, Mi.list_tup, Mi.list_lst, Mi.int_int, Mi.int_bl, Mi.abs_int, Mi.min_int, Mi.max_int, Mi.isi_def, Mi.sum_lst, Mi.all_lst, Mi.any_lst, Mi.ints_map, Mi.bools_map, R.bind_ok, R.bind_ex, R.bind_bad, R.lift_some, R.noEx_ok, List.getElem?_cons_zero, List.getElem?_cons_succ, Option.bind_some, Option.map_some, Option.bind_eq_bind, id_eq, List.set_cons_zero, List.set_cons_succ, if_true, if_false, Bool.false_eq_true, reduceIte, Bool.not_true, Bool.not_false, Ex.isOmit, l1]
theorem filt_of (xs : List PV) (f : PV → Sto → R (Option PV)) (p : PV → Bool) (hl : xs.length ≤ 1000) (h : ∀ x ∈ xs, f x st = .ok (if p x then some x else none) st) : ((compR f xs st).bind lcE) = .ok (.lst (xs.filter p)) st := by
  have e := filt_ofm xs id f p id hl h
  rwa [List.map_id, List.map_id] at e
theorem dats_filter {xs : List PV} (h : ∀ x ∈ xs, vW x) (p : PV → Bool) : dats (xs.filter p) = true := dats_of fun x hm => (h x (List.mem_filter.mp hm).1).dat
theorem law_is_lot_v (many : Nat) (v : PV) (h : vW v) : RU N (d + 2) 34 [.int many, v] st = .ok (.bl (lotL many v)) st := by
  have hb := big_lt
  rw [RU, u34]
  have m2 : ∀ st : Sto, binV st .Mult (.int 2) (.int (many : Nat)) = some (.int (2 * many)) := fun st => mul_ii (mulOk_l (i := 2) (j := (many : Int)) (by decide) (by decide))
  by_cases q : ∃ xs, v = .tup xs
  · obtain ⟨xs, rfl⟩ := q
    obtain ⟨hl, hx⟩ := h.tup
    simp (implicitDefEqProofs := false) only [Mi.seqK_nx, Mi.seqK_rt, Mi.andK_t, Mi.andK_f, Mi.orK_t, Mi.orK_f, Mi.forB_nm, Mi.forB_2, Mi.binK2_d, Mi.binK1_d, Mi.negK_d, Mi.truK_d, Mi.tstK_d, Mi.notK_d, Mi.cmpK2_d, Mi.cmpK1_d, Mi.chnK3_t, Mi.chnK3_f, Mi.chnK2_d, Mi.chnK1_d, Mi.iteK_t, Mi.iteK_f, Mi.tupK_d, Mi.lstK_d, Mi.cellK_d, Mi.callK_d, Mi.biK_d, Mi.idxK2_d, Mi.idxK1_d, Mi.sliK3_t, Mi.sliK3_l, Mi.oIntK_i, Mi.sliK2_d, Mi.sliK1_d, Mi.lcT_d, Mi.lcE_d, Mi.lcK_d, Mi.lrgK2_d, Mi.lrgK1_d, Mi.consK2_d, Mi.consK1_d, Mi.rng1K_d, Mi.rng2K2_d, Mi.rng2K1_d, Mi.zipO_d, Mi.zipK2_d, Mi.zipK1_d, Mi.enuK_d, Mi.sqK_d, Mi.setK_d, Mi.setTK_d, Mi.putK3_d, Mi.putK2_d, Mi.putK1_d, Mi.appK2_d, Mi.appK1_d, Mi.dropK_d, Mi.retK_d, Mi.iteS_t, Mi.iteS_f, Mi.forK_d, Mi.turnK2_d, Mi.turnK1_t, Mi.turnK1_f, Mi.whK_t, Mi.whK_f, Mi.lcB_nm, Mi.lcB_2, Mi.evE_var, Mi.evE_non, Mi.evE_bl, Mi.evE_int, Mi.evE_str, Mi.evE_gl, Mi.evE_bty, Mi.evE_bin, Mi.evE_neg, Mi.evE_not, Mi.evE_and, Mi.evE_or, Mi.evE_cmp, Mi.evE_chn, Mi.evE_ite, Mi.evE_tup, Mi.evE_lst, Mi.evE_cell, Mi.evE_call, Mi.callP_sto, Mi.evE_bi, Mi.evE_idx, Mi.evE_sli, Mi.evE_lc, Mi.evE_lrg, Mi.evE_lrd, Mi.evA_nil, Mi.evA_cons, Mi.evI_rng1, Mi.evI_rng2, Mi.evI_zip, Mi.evI_enu, Mi.evI_sq, Mi.tstR_false, Mi.tstR_true, Mi.optR_false, Mi.optR_true, Mi.oInt_int, Mi.isOmit_omit, Mi.evS_skip, Mi.evS_seq, Mi.evS_set, Mi.evS_setT, Mi.evS_put, Mi.evS_app, Mi.evS_drop, Mi.evS_ret, Mi.evS_ite, Mi.evS_for, Mi.evS_while, Mi.evS_raise, Mi.sto_some, Mi.sto_none, Mi.val_nx, Mi.val_rt, Mi.setTg_nm, Mi.setTg_nil, Mi.setTg_cons, Mi.wipe_nil, Mi.wipe_cons, Mi.forR_nil, Mi.truV_bl, Mi.truV_non, Mi.truV_int, Mi.add_ii, Mi.sub_ii, Mi.lt_ii, Mi.le_ii, Mi.gt_ii, Mi.ge_ii, Mi.isn_v, Mi.notn_v, Mi.isN_non, Mi.isN_int, Mi.isN_tup, Mi.isN_bl, Mi.isN_str, Mi.eq_ii, Mi.ne_ii, Mi.eq_ss, Mi.ne_ss, Mi.neg_i, Mi.walk_lst, Mi.walk_tup, Mi.walk_scr, Mi.len_tup, Mi.len_lst, Mi.len_scr, Mi.tuple_lst, Mi.tuple_tup, Mi.list_tup, Mi.list_lst, Mi.int_int, Mi.int_bl, Mi.abs_int, Mi.min_int, Mi.max_int, Mi.isi_def, Mi.sum_lst, Mi.all_lst, Mi.any_lst, Mi.ints_map, Mi.bools_map, R.bind_ok, R.bind_ex, R.bind_bad, R.lift_some, R.noEx_ok, List.getElem?_cons_zero, List.getElem?_cons_succ, Option.bind_some, Option.map_some, Option.bind_eq_bind, id_eq, List.set_cons_zero, List.set_cons_succ, if_true, if_false, Bool.false_eq_true, reduceIte, Bool.not_true, Bool.not_false, Ex.isOmit, b34, isi_tupQ h.sh, tupQ]
    rw [filt_of xs _ (fun x => !numB x 0 (2 * many - 2)) (by omega) (fun x hm => by
      simp (implicitDefEqProofs := false) only [Mi.seqK_nx, Mi.seqK_rt, Mi.andK_t, Mi.andK_f, Mi.orK_t, Mi.orK_f, Mi.forB_nm, Mi.forB_2, Mi.binK2_d, Mi.binK1_d, Mi.negK_d, Mi.truK_d, Mi.tstK_d, Mi.notK_d, Mi.cmpK2_d, Mi.cmpK1_d, Mi.chnK3_t, Mi.chnK3_f, Mi.chnK2_d, Mi.chnK1_d, Mi.iteK_t, Mi.iteK_f, Mi.tupK_d, Mi.lstK_d, Mi.cellK_d, Mi.callK_d, Mi.biK_d, Mi.idxK2_d, Mi.idxK1_d, Mi.sliK3_t, Mi.sliK3_l, Mi.oIntK_i, Mi.sliK2_d, Mi.sliK1_d, Mi.lcT_d, Mi.lcE_d, Mi.lcK_d, Mi.lrgK2_d, Mi.lrgK1_d, Mi.consK2_d, Mi.consK1_d, Mi.rng1K_d, Mi.rng2K2_d, Mi.rng2K1_d, Mi.zipO_d, Mi.zipK2_d, Mi.zipK1_d, Mi.enuK_d, Mi.sqK_d, Mi.setK_d, Mi.setTK_d, Mi.putK3_d, Mi.putK2_d, Mi.putK1_d, Mi.appK2_d, Mi.appK1_d, Mi.dropK_d, Mi.retK_d, Mi.iteS_t, Mi.iteS_f, Mi.forK_d, Mi.turnK2_d, Mi.turnK1_t, Mi.turnK1_f, Mi.whK_t, Mi.whK_f, Mi.lcB_nm, Mi.lcB_2, Mi.evE_var, Mi.evE_non, Mi.evE_bl, Mi.evE_int, Mi.evE_str, Mi.evE_gl, Mi.evE_bty, Mi.evE_bin, Mi.evE_neg, Mi.evE_not, Mi.evE_and, Mi.evE_or, Mi.evE_cmp, Mi.evE_chn, Mi.evE_ite, Mi.evE_tup, Mi.evE_lst, Mi.evE_cell, Mi.evE_call, Mi.callP_sto, Mi.evE_bi, Mi.evE_idx, Mi.evE_sli, Mi.evE_lc, Mi.evE_lrg, Mi.evE_lrd, Mi.evA_nil, Mi.evA_cons, Mi.evI_rng1, Mi.evI_rng2, Mi.evI_zip, Mi.evI_enu, Mi.evI_sq, Mi.tstR_false, Mi.tstR_true, Mi.optR_false, Mi.optR_true, Mi.oInt_int, Mi.isOmit_omit, Mi.evS_skip, Mi.evS_seq, Mi.evS_set, Mi.evS_setT, Mi.evS_put, Mi.evS_app, Mi.evS_drop, Mi.evS_ret, Mi.evS_ite, Mi.evS_for, Mi.evS_while, Mi.evS_raise, Mi.sto_some, Mi.sto_none, Mi.val_nx, Mi.val_rt, Mi.setTg_nm, Mi.setTg_nil, Mi.setTg_cons, Mi.wipe_nil, Mi.wipe_cons, Mi.forR_nil, Mi.truV_bl, Mi.truV_non, Mi.truV_int, Mi.add_ii, Mi.sub_ii, Mi.lt_ii, Mi.le_ii, Mi.gt_ii, Mi.ge_ii, Mi.isn_v, Mi.notn_v, Mi.isN_non, Mi.isN_int, Mi.isN_tup, Mi.isN_bl, Mi.isN_str, Mi.eq_ii, Mi.ne_ii, Mi.eq_ss, Mi.ne_ss, Mi.neg_i, Mi.walk_lst, Mi.walk_tup, Mi.walk_scr, Mi.len_tup, Mi.len_lst, Mi.len_scr, Mi.tuple_lst, Mi.tuple_tup, Mi.list_tup, Mi.list_lst, Mi.int_int, Mi.int_bl, Mi.abs_int, Mi.min_int, Mi.max_int, Mi.isi_def, Mi.sum_lst, Mi.all_lst, Mi.any_lst, Mi.ints_map, Mi.bools_map, R.bind_ok, R.bind_ex, R.bind_bad, R.lift_some, R.noEx_ok, List.getElem?_cons_zero, List.getElem?_cons_succ, Option.bind_some, Option.map_some, Option.bind_eq_bind, id_eq, List.set_cons_zero, List.set_cons_succ, if_true, if_false, Bool.false_eq_true, reduceIte, Bool.not_true, Bool.not_false, Ex.isOmit, m2, law_is_int_v _ _ _ (hx x hm).sh]
      cases numB x 0 (2 * many - 2) <;> simp (implicitDefEqProofs := false) only [Mi.seqK_nx, Mi.seqK_rt, Mi.andK_t, Mi.andK_f, Mi.orK_t, Mi.orK_f, Mi.forB_nm, Mi.forB_2, Mi.binK2_d, Mi.binK1_d, Mi.negK_d, Mi.truK_d, Mi.tstK_d, Mi.notK_d, Mi.cmpK2_d, Mi.cmpK1_d, Mi.chnK3_t, Mi.chnK3_f, Mi.chnK2_d, Mi.chnK1_d, Mi.iteK_t, Mi.iteK_f, Mi.tupK_d, Mi.lstK_d, Mi.cellK_d, Mi.callK_d, Mi.biK_d, Mi.idxK2_d, Mi.idxK1_d, Mi.sliK3_t, Mi.sliK3_l, Mi.oIntK_i, Mi.sliK2_d, Mi.sliK1_d, Mi.lcT_d, Mi.lcE_d, Mi.lcK_d, Mi.lrgK2_d, Mi.lrgK1_d, Mi.consK2_d, Mi.consK1_d, Mi.rng1K_d, Mi.rng2K2_d, Mi.rng2K1_d, Mi.zipO_d, Mi.zipK2_d, Mi.zipK1_d, Mi.enuK_d, Mi.sqK_d, Mi.setK_d, Mi.setTK_d, Mi.putK3_d, Mi.putK2_d, Mi.putK1_d, Mi.appK2_d, Mi.appK1_d, Mi.dropK_d, Mi.retK_d, Mi.iteS_t, Mi.iteS_f, Mi.forK_d, Mi.turnK2_d, Mi.turnK1_t, Mi.turnK1_f, Mi.whK_t, Mi.whK_f, Mi.lcB_nm, Mi.lcB_2, Mi.evE_var, Mi.evE_non, Mi.evE_bl, Mi.evE_int, Mi.evE_str, Mi.evE_gl, Mi.evE_bty, Mi.evE_bin, Mi.evE_neg, Mi.evE_not, Mi.evE_and, Mi.evE_or, Mi.evE_cmp, Mi.evE_chn, Mi.evE_ite, Mi.evE_tup, Mi.evE_lst, Mi.evE_cell, Mi.evE_call, Mi.callP_sto, Mi.evE_bi, Mi.evE_idx, Mi.evE_sli, Mi.evE_lc, Mi.evE_lrg, Mi.evE_lrd, Mi.evA_nil, Mi.evA_cons, Mi.evI_rng1, Mi.evI_rng2, Mi.evI_zip, Mi.evI_enu, Mi.evI_sq, Mi.tstR_false, Mi.tstR_true, Mi.optR_false, Mi.optR_true, Mi.oInt_int, Mi.isOmit_omit, Mi.evS_skip, Mi.evS_seq, Mi.evS_set, Mi.evS_setT, Mi.evS_put, Mi.evS_app, Mi.evS_drop, Mi.evS_ret, Mi.evS_ite, Mi.evS_for, Mi.evS_while, Mi.evS_raise, Mi.sto_some, Mi.sto_none, Mi.val_nx, Mi.val_rt, Mi.setTg_nm, Mi.setTg_nil, Mi.setTg_cons, Mi.wipe_nil, Mi.wipe_cons, Mi.forR_nil, Mi.truV_bl, Mi.truV_non, Mi.truV_int, Mi.add_ii, Mi.sub_ii, Mi.lt_ii, Mi.le_ii, Mi.gt_ii, Mi.ge_ii, Mi.isn_v, Mi.notn_v, Mi.isN_non, Mi.isN_int, Mi.isN_tup, Mi.isN_bl, Mi.isN_str, Mi.eq_ii, Mi.ne_ii, Mi.eq_ss, Mi.ne_ss, Mi.neg_i, Mi.walk_lst, Mi.walk_tup, Mi.walk_scr, Mi.len_tup, Mi.len_lst, Mi.len_scr, Mi.tuple_lst, Mi.tuple_tup, Mi.list_tup, Mi.list_lst, Mi.int_int, Mi.int_bl, Mi.abs_int, Mi.min_int, Mi.max_int, Mi.isi_def, Mi.sum_lst, Mi.all_lst, Mi.any_lst, Mi.ints_map, Mi.bools_map, R.bind_ok, R.bind_ex, R.bind_bad, R.lift_some, R.noEx_ok, List.getElem?_cons_zero, List.getElem?_cons_succ, Option.bind_some, Option.map_some, Option.bind_eq_bind, id_eq, List.set_cons_zero, List.set_cons_succ, if_true, if_false, Bool.false_eq_true, reduceIte, Bool.not_true, Bool.not_false, Ex.isOmit])]
    simp (implicitDefEqProofs := false) only [Mi.seqK_nx, Mi.seqK_rt, Mi.andK_t, Mi.andK_f, Mi.orK_t, Mi.orK_f, Mi.forB_nm, Mi.forB_2, Mi.binK2_d, Mi.binK1_d, Mi.negK_d, Mi.truK_d, Mi.tstK_d, Mi.notK_d, Mi.cmpK2_d, Mi.cmpK1_d, Mi.chnK3_t, Mi.chnK3_f, Mi.chnK2_d, Mi.chnK1_d, Mi.iteK_t, Mi.iteK_f, Mi.tupK_d, Mi.lstK_d, Mi.cellK_d, Mi.callK_d, Mi.biK_d, Mi.idxK2_d, Mi.idxK1_d, Mi.sliK3_t, Mi.sliK3_l, Mi.oIntK_i, Mi.sliK2_d, Mi.sliK1_d, Mi.lcT_d, Mi.lcE_d, Mi.lcK_d, Mi.lrgK2_d, Mi.lrgK1_d, Mi.consK2_d, Mi.consK1_d, Mi.rng1K_d, Mi.rng2K2_d, Mi.rng2K1_d, Mi.zipO_d, Mi.zipK2_d, Mi.zipK1_d, Mi.enuK_d, Mi.sqK_d, Mi.setK_d, Mi.setTK_d, Mi.putK3_d, Mi.putK2_d, Mi.putK1_d, Mi.appK2_d, Mi.appK1_d, Mi.dropK_d, Mi.retK_d, Mi.iteS_t, Mi.iteS_f, Mi.forK_d, Mi.turnK2_d, Mi.turnK1_t, Mi.turnK1_f, Mi.whK_t, Mi.whK_f, Mi.lcB_nm, Mi.lcB_2, Mi.evE_var, Mi.evE_non, Mi.evE_bl, Mi.evE_int, Mi.evE_str, Mi.evE_gl, Mi.evE_bty, Mi.evE_bin, Mi.evE_neg, Mi.evE_not, Mi.evE_and, Mi.evE_or, Mi.evE_cmp, Mi.evE_chn, Mi.evE_ite, Mi.evE_tup, Mi.evE_lst, Mi.evE_cell, Mi.evE_call, Mi.callP_sto, Mi.evE_bi, Mi.evE_idx, Mi.evE_sli, Mi.evE_lc, Mi.evE_lrg, Mi.evE_lrd, Mi.evA_nil, Mi.evA_cons, Mi.evI_rng1, Mi.evI_rng2, Mi.evI_zip, Mi.evI_enu, Mi.evI_sq, Mi.tstR_false, Mi.tstR_true, Mi.optR_false, Mi.optR_true, Mi.oInt_int, Mi.isOmit_omit, Mi.evS_skip, Mi.evS_seq, Mi.evS_set, Mi.evS_setT, Mi.evS_put, Mi.evS_app, Mi.evS_drop, Mi.evS_ret, Mi.evS_ite, Mi.evS_for, Mi.evS_while, Mi.evS_raise, Mi.sto_some, Mi.sto_none, Mi.val_nx, Mi.val_rt, Mi.setTg_nm, Mi.setTg_nil, Mi.setTg_cons, Mi.wipe_nil, Mi.wipe_cons, Mi.forR_nil, Mi.truV_bl, Mi.truV_non, Mi.truV_int, Mi.add_ii, Mi.sub_ii, Mi.lt_ii, Mi.le_ii, Mi.gt_ii, Mi.ge_ii, Mi.isn_v, Mi.notn_v, Mi.isN_non, Mi.isN_int, Mi.isN_tup, Mi.isN_bl, Mi.isN_str, Mi.eq_ii, Mi.ne_ii, Mi.eq_ss, Mi.ne_ss, Mi.neg_i, Mi.walk_lst, Mi.walk_tup, Mi.walk_scr, Mi.len_tup, Mi.len_lst, Mi.len_scr, Mi.tuple_lst, Mi.tuple_tup, Mi.list_tup, Mi.list_lst, Mi.int_int, Mi.int_bl, Mi.abs_int, Mi.min_int, Mi.max_int, Mi.isi_def, Mi.sum_lst, Mi.all_lst, Mi.any_lst, Mi.ints_map, Mi.bools_map, R.bind_ok, R.bind_ex, R.bind_bad, R.lift_some, R.noEx_ok, List.getElem?_cons_zero, List.getElem?_cons_succ, Option.bind_some, Option.map_some, Option.bind_eq_bind, id_eq, List.set_cons_zero, List.set_cons_succ, if_true, if_false, Bool.false_eq_true, reduceIte, Bool.not_true, Bool.not_false, Ex.isOmit, ne_nil (dats_filter hx _), filter_empty]
    cases q3 : xs.all (fun x => numB x 0 (2 * many - 2)) with
    | false => simp (implicitDefEqProofs := false) only [Mi.seqK_nx, Mi.seqK_rt, Mi.andK_t, Mi.andK_f, Mi.orK_t, Mi.orK_f, Mi.forB_nm, Mi.forB_2, Mi.binK2_d, Mi.binK1_d, Mi.negK_d, Mi.truK_d, Mi.tstK_d, Mi.notK_d, Mi.cmpK2_d, Mi.cmpK1_d, Mi.chnK3_t, Mi.chnK3_f, Mi.chnK2_d, Mi.chnK1_d, Mi.iteK_t, Mi.iteK_f, Mi.tupK_d, Mi.lstK_d, Mi.cellK_d, Mi.callK_d, Mi.biK_d, Mi.idxK2_d, Mi.idxK1_d, Mi.sliK3_t, Mi.sliK3_l, Mi.oIntK_i, Mi.sliK2_d, Mi.sliK1_d, Mi.lcT_d, Mi.lcE_d, Mi.lcK_d, Mi.lrgK2_d, Mi.lrgK1_d, Mi.consK2_d, Mi.consK1_d, Mi.rng1K_d, Mi.rng2K2_d, Mi.rng2K1_d, Mi.zipO_d, Mi.zipK2_d, Mi.zipK1_d, Mi.enuK_d, Mi.sqK_d, Mi.setK_d, Mi.setTK_d, Mi.putK3_d, Mi.putK2_d, Mi.putK1_d, Mi.appK2_d, Mi.appK1_d, Mi.dropK_d, Mi.retK_d, Mi.iteS_t, Mi.iteS_f, Mi.forK_d, Mi.turnK2_d, Mi.turnK1_t, Mi.turnK1_f, Mi.whK_t, Mi.whK_f, Mi.lcB_nm, Mi.lcB_2, Mi.evE_var, Mi.evE_non, Mi.evE_bl, Mi.evE_int, Mi.evE_str, Mi.evE_gl, Mi.evE_bty, Mi.evE_bin, Mi.evE_neg, Mi.evE_not, Mi.evE_and, Mi.evE_or, Mi.evE_cmp, Mi.evE_chn, Mi.evE_ite, Mi.evE_tup, Mi.evE_lst, Mi.evE_cell, Mi.evE_call, Mi.callP_sto, Mi.evE_bi, Mi.evE_idx, Mi.evE_sli, Mi.evE_lc, Mi.evE_lrg, Mi.evE_lrd, Mi.evA_nil, Mi.evA_cons, Mi.evI_rng1, Mi.evI_rng2, Mi.evI_zip, Mi.evI_enu, Mi.evI_sq, Mi.tstR_false, Mi.tstR_true, Mi.optR_false, Mi.optR_true, Mi.oInt_int, Mi.isOmit_omit, Mi.evS_skip, Mi.evS_seq, Mi.evS_set, Mi.evS_setT, Mi.evS_put, Mi.evS_app, Mi.evS_drop, Mi.evS_ret, Mi.evS_ite, Mi.evS_for, Mi.evS_while, Mi.evS_raise, Mi.sto_some, Mi.sto_none, Mi.val_nx, Mi.val_rt, Mi.setTg_nm, Mi.setTg_nil, Mi.setTg_cons, Mi.wipe_nil, Mi.wipe_cons, Mi.forR_nil, Mi.truV_bl, Mi.truV_non, Mi.truV_int, Mi.add_ii, Mi.sub_ii, Mi.lt_ii, Mi.le_ii, Mi.gt_ii, Mi.ge_ii, Mi.isn_v, Mi.notn_v, Mi.isN_non, Mi.isN_int, Mi.isN_tup, Mi.isN_bl, Mi.isN_str, Mi.eq_ii, Mi.ne_ii, Mi.eq_ss, Mi.ne_ss, Mi.neg_i, Mi.walk_lst, Mi.walk_tup, Mi.walk_scr, Mi.len_tup, Mi.len_lst, Mi.len_scr, Mi.tuple_lst, Mi.tuple_tup, Mi.list_tup, Mi.list_lst, Mi.int_int, Mi.int_bl, Mi.abs_int, Mi.min_int, Mi.max_int, Mi.isi_def, Mi.sum_lst, Mi.all_lst, Mi.any_lst, Mi.ints_map, Mi.bools_map, R.bind_ok, R.bind_ex, R.bind_bad, R.lift_some, R.noEx_ok, List.getElem?_cons_zero, List.getElem?_cons_succ, Option.bind_some, Option.map_some, Option.bind_eq_bind, id_eq, List.set_cons_zero, List.set_cons_succ, if_true, if_false, Bool.false_eq_true, reduceIte, Bool.not_true, Bool.not_false, Ex.isOmit, lotL, q3, Bool.false_and]
    | true =>
      obtain ⟨ns, rfl, hn⟩ := nums_of q3
      simp (implicitDefEqProofs := false) only [Mi.seqK_nx, Mi.seqK_rt, Mi.andK_t, Mi.andK_f, Mi.orK_t, Mi.orK_f, Mi.forB_nm, Mi.forB_2, Mi.binK2_d, Mi.binK1_d, Mi.negK_d, Mi.truK_d, Mi.tstK_d, Mi.notK_d, Mi.cmpK2_d, Mi.cmpK1_d, Mi.chnK3_t, Mi.chnK3_f, Mi.chnK2_d, Mi.chnK1_d, Mi.iteK_t, Mi.iteK_f, Mi.tupK_d, Mi.lstK_d, Mi.cellK_d, Mi.callK_d, Mi.biK_d, Mi.idxK2_d, Mi.idxK1_d, Mi.sliK3_t, Mi.sliK3_l, Mi.oIntK_i, Mi.sliK2_d, Mi.sliK1_d, Mi.lcT_d, Mi.lcE_d, Mi.lcK_d, Mi.lrgK2_d, Mi.lrgK1_d, Mi.consK2_d, Mi.consK1_d, Mi.rng1K_d, Mi.rng2K2_d, Mi.rng2K1_d, Mi.zipO_d, Mi.zipK2_d, Mi.zipK1_d, Mi.enuK_d, Mi.sqK_d, Mi.setK_d, Mi.setTK_d, Mi.putK3_d, Mi.putK2_d, Mi.putK1_d, Mi.appK2_d, Mi.appK1_d, Mi.dropK_d, Mi.retK_d, Mi.iteS_t, Mi.iteS_f, Mi.forK_d, Mi.turnK2_d, Mi.turnK1_t, Mi.turnK1_f, Mi.whK_t, Mi.whK_f, Mi.lcB_nm, Mi.lcB_2, Mi.evE_var, Mi.evE_non, Mi.evE_bl, Mi.evE_int, Mi.evE_str, Mi.evE_gl, Mi.evE_bty, Mi.evE_bin, Mi.evE_neg, Mi.evE_not, Mi.evE_and, Mi.evE_or, Mi.evE_cmp, Mi.evE_chn, Mi.evE_ite, Mi.evE_tup, Mi.evE_lst, Mi.evE_cell, Mi.evE_call, Mi.callP_sto, Mi.evE_bi, Mi.evE_idx, Mi.evE_sli, Mi.evE_lc, Mi.evE_lrg, Mi.evE_lrd, Mi.evA_nil, Mi.evA_cons, Mi.evI_rng1, Mi.evI_rng2, Mi.evI_zip, Mi.evI_enu, Mi.evI_sq, Mi.tstR_false, Mi.tstR_true, Mi.optR_false, Mi.optR_true, Mi.oInt_int, Mi.isOmit_omit, Mi.evS_skip, Mi.evS_seq, Mi.evS_set, Mi.evS_setT, Mi.evS_put, Mi.evS_app, Mi.evS_drop, Mi.evS_ret, Mi.evS_ite, Mi.evS_for, Mi.evS_while, Mi.evS_raise, Mi.sto_some, Mi.sto_none, Mi.val_nx, Mi.val_rt, Mi.setTg_nm, Mi.setTg_nil, Mi.setTg_cons, Mi.wipe_nil, Mi.wipe_cons, Mi.forR_nil, Mi.truV_bl, Mi.truV_non, Mi.truV_int, Mi.add_ii, Mi.sub_ii, Mi.lt_ii, Mi.le_ii, Mi.gt_ii, Mi.ge_ii, Mi.isn_v, Mi.notn_v, Mi.isN_non, Mi.isN_int, Mi.isN_tup, Mi.isN_bl, Mi.isN_str, Mi.eq_ii, Mi.ne_ii, Mi.eq_ss, Mi.ne_ss, Mi.neg_i, Mi.walk_lst, Mi.walk_tup, Mi.walk_scr, Mi.len_tup, Mi.len_lst, Mi.len_scr, Mi.tuple_lst, Mi.tuple_tup, Mi.list_tup, Mi.list_lst, Mi.int_int, Mi.int_bl, Mi.abs_int, Mi.min_int, Mi.max_int, Mi.isi_def, Mi.sum_lst, Mi.all_lst, Mi.any_lst, Mi.ints_map, Mi.bools_map, R.bind_ok, R.bind_ex, R.bind_bad, R.lift_some, R.noEx_ok, List.getElem?_cons_zero, List.getElem?_cons_succ, Option.bind_some, Option.map_some, Option.bind_eq_bind, id_eq, List.set_cons_zero, List.set_cons_succ, if_true, if_false, Bool.false_eq_true, reduceIte, Bool.not_true, Bool.not_false, Ex.isOmit, cut_tail]
      unfold zipL
      rw [filt_ofm _ _ _ (fun p => !ltB p.1 p.2) (fun _ => .int 1) (Nat.le_trans (zip_len _) (by omega)) (fun p hp => by
        obtain ⟨i, j, rfl⟩ := mem_zip_int hp
        by_cases z : i < j
        · simp (implicitDefEqProofs := false) only [Mi.seqK_nx, Mi.seqK_rt, Mi.andK_t, Mi.andK_f, Mi.orK_t, Mi.orK_f, Mi.forB_nm, Mi.forB_2, Mi.binK2_d, Mi.binK1_d, Mi.negK_d, Mi.truK_d, Mi.tstK_d, Mi.notK_d, Mi.cmpK2_d, Mi.cmpK1_d, Mi.chnK3_t, Mi.chnK3_f, Mi.chnK2_d, Mi.chnK1_d, Mi.iteK_t, Mi.iteK_f, Mi.tupK_d, Mi.lstK_d, Mi.cellK_d, Mi.callK_d, Mi.biK_d, Mi.idxK2_d, Mi.idxK1_d, Mi.sliK3_t, Mi.sliK3_l, Mi.oIntK_i, Mi.sliK2_d, Mi.sliK1_d, Mi.lcT_d, Mi.lcE_d, Mi.lcK_d, Mi.lrgK2_d, Mi.lrgK1_d, Mi.consK2_d, Mi.consK1_d, Mi.rng1K_d, Mi.rng2K2_d, Mi.rng2K1_d, Mi.zipO_d, Mi.zipK2_d, Mi.zipK1_d, Mi.enuK_d, Mi.sqK_d, Mi.setK_d, Mi.setTK_d, Mi.putK3_d, Mi.putK2_d, Mi.putK1_d, Mi.appK2_d, Mi.appK1_d, Mi.dropK_d, Mi.retK_d, Mi.iteS_t, Mi.iteS_f, Mi.forK_d, Mi.turnK2_d, Mi.turnK1_t, Mi.turnK1_f, Mi.whK_t, Mi.whK_f, Mi.lcB_nm, Mi.lcB_2, Mi.evE_var, Mi.evE_non, Mi.evE_bl, Mi.evE_int, Mi.evE_str, Mi.evE_gl, Mi.evE_bty, Mi.evE_bin, Mi.evE_neg, Mi.evE_not, Mi.evE_and, Mi.evE_or, Mi.evE_cmp, Mi.evE_chn, Mi.evE_ite, Mi.evE_tup, Mi.evE_lst, Mi.evE_cell, Mi.evE_call, Mi.callP_sto, Mi.evE_bi, Mi.evE_idx, Mi.evE_sli, Mi.evE_lc, Mi.evE_lrg, Mi.evE_lrd, Mi.evA_nil, Mi.evA_cons, Mi.evI_rng1, Mi.evI_rng2, Mi.evI_zip, Mi.evI_enu, Mi.evI_sq, Mi.tstR_false, Mi.tstR_true, Mi.optR_false, Mi.optR_true, Mi.oInt_int, Mi.isOmit_omit, Mi.evS_skip, Mi.evS_seq, Mi.evS_set, Mi.evS_setT, Mi.evS_put, Mi.evS_app, Mi.evS_drop, Mi.evS_ret, Mi.evS_ite, Mi.evS_for, Mi.evS_while, Mi.evS_raise, Mi.sto_some, Mi.sto_none, Mi.val_nx, Mi.val_rt, Mi.setTg_nm, Mi.setTg_nil, Mi.setTg_cons, Mi.wipe_nil, Mi.wipe_cons, Mi.forR_nil, Mi.truV_bl, Mi.truV_non, Mi.truV_int, Mi.add_ii, Mi.sub_ii, Mi.lt_ii, Mi.le_ii, Mi.gt_ii, Mi.ge_ii, Mi.isn_v, Mi.notn_v, Mi.isN_non, Mi.isN_int, Mi.isN_tup, Mi.isN_bl, Mi.isN_str, Mi.eq_ii, Mi.ne_ii, Mi.eq_ss, Mi.ne_ss, Mi.neg_i, Mi.walk_lst, Mi.walk_tup, Mi.walk_scr, Mi.len_tup, Mi.len_lst, Mi.len_scr, Mi.tuple_lst, Mi.tuple_tup, Mi.list_tup, Mi.list_lst, Mi.int_int, Mi.int_bl, Mi.abs_int, Mi.min_int, Mi.max_int, Mi.isi_def, Mi.sum_lst, Mi.all_lst, Mi.any_lst, Mi.ints_map, Mi.bools_map, R.bind_ok, R.bind_ex, R.bind_bad, R.lift_some, R.noEx_ok, List.getElem?_cons_zero, List.getElem?_cons_succ, Option.bind_some, Option.map_some, Option.bind_eq_bind, id_eq, List.set_cons_zero, List.set_cons_succ, if_true, if_false, Bool.false_eq_true, reduceIte, Bool.not_true, Bool.not_false, Ex.isOmit, ltB, decide_eq_true z, decide_eq_false (show ¬ j ≤ i by omega)]
        · simp (implicitDefEqProofs := false) only [Mi.seqK_nx, Mi.seqK_rt, Mi.andK_t, Mi.andK_f, Mi.orK_t, Mi.orK_f, Mi.forB_nm, Mi.forB_2, Mi.binK2_d, Mi.binK1_d, Mi.negK_d, Mi.truK_d, Mi.tstK_d, Mi.notK_d, Mi.cmpK2_d, Mi.cmpK1_d, Mi.chnK3_t, Mi.chnK3_f, Mi.chnK2_d, Mi.chnK1_d, Mi.iteK_t, Mi.iteK_f, Mi.tupK_d, Mi.lstK_d, Mi.cellK_d, Mi.callK_d, Mi.biK_d, Mi.idxK2_d, Mi.idxK1_d, Mi.sliK3_t, Mi.sliK3_l, Mi.oIntK_i, Mi.sliK2_d, Mi.sliK1_d, Mi.lcT_d, Mi.lcE_d, Mi.lcK_d, Mi.lrgK2_d, Mi.lrgK1_d, Mi.consK2_d, Mi.consK1_d, Mi.rng1K_d, Mi.rng2K2_d, Mi.rng2K1_d, Mi.zipO_d, Mi.zipK2_d, Mi.zipK1_d, Mi.enuK_d, Mi.sqK_d, Mi.setK_d, Mi.setTK_d, Mi.putK3_d, Mi.putK2_d, Mi.putK1_d, Mi.appK2_d, Mi.appK1_d, Mi.dropK_d, Mi.retK_d, Mi.iteS_t, Mi.iteS_f, Mi.forK_d, Mi.turnK2_d, Mi.turnK1_t, Mi.turnK1_f, Mi.whK_t, Mi.whK_f, Mi.lcB_nm, Mi.lcB_2, Mi.evE_var, Mi.evE_non, Mi.evE_bl, Mi.evE_int, Mi.evE_str, Mi.evE_gl, Mi.evE_bty, Mi.evE_bin, Mi.evE_neg, Mi.evE_not, Mi.evE_and, Mi.evE_or, Mi.evE_cmp, Mi.evE_chn, Mi.evE_ite, Mi.evE_tup, Mi.evE_lst, Mi.evE_cell, Mi.evE_call, Mi.callP_sto, Mi.evE_bi, Mi.evE_idx, Mi.evE_sli, Mi.evE_lc, Mi.evE_lrg, Mi.evE_lrd, Mi.evA_nil, Mi.evA_cons, Mi.evI_rng1, Mi.evI_rng2, Mi.evI_zip, Mi.evI_enu, Mi.evI_sq, Mi.tstR_false, Mi.tstR_true, Mi.optR_false, Mi.optR_true, Mi.oInt_int, Mi.isOmit_omit, Mi.evS_skip, Mi.evS_seq, Mi.evS_set, Mi.evS_setT, Mi.evS_put, Mi.evS_app, Mi.evS_drop, Mi.evS_ret, Mi.evS_ite, Mi.evS_for, Mi.evS_while, Mi.evS_raise, Mi.sto_some, Mi.sto_none, Mi.val_nx, Mi.val_rt, Mi.setTg_nm, Mi.setTg_nil, Mi.setTg_cons, Mi.wipe_nil, Mi.wipe_cons, Mi.forR_nil, Mi.truV_bl, Mi.truV_non, Mi.truV_int, Mi.add_ii, Mi.sub_ii, Mi.lt_ii, Mi.le_ii, Mi.gt_ii, Mi.ge_ii, Mi.isn_v, Mi.notn_v, Mi.isN_non, Mi.isN_int, Mi.isN_tup, Mi.isN_bl, Mi.isN_str, Mi.eq_ii, Mi.ne_ii, Mi.eq_ss, Mi.ne_ss, Mi.neg_i, Mi.walk_lst, Mi.walk_tup, Mi.walk_scr, Mi.len_tup, Mi.len_lst, Mi.len_scr, Mi.tuple_lst, Mi.tuple_tup, Mi.list_tup, Mi.list_lst, Mi.int_int, Mi.int_bl, Mi.abs_int, Mi.min_int, Mi.max_int, Mi.isi_def, Mi.sum_lst, Mi.all_lst, Mi.any_lst, Mi.ints_map, Mi.bools_map, R.bind_ok, R.bind_ex, R.bind_bad, R.lift_some, R.noEx_ok, List.getElem?_cons_zero, List.getElem?_cons_succ, Option.bind_some, Option.map_some, Option.bind_eq_bind, id_eq, List.set_cons_zero, List.set_cons_succ, if_true, if_false, Bool.false_eq_true, reduceIte, Bool.not_true, Bool.not_false, Ex.isOmit, ltB, decide_eq_false z, decide_eq_true (show j ≤ i by omega)])]
      simp (implicitDefEqProofs := false) only [Mi.seqK_nx, Mi.seqK_rt, Mi.andK_t, Mi.andK_f, Mi.orK_t, Mi.orK_f, Mi.forB_nm, Mi.forB_2, Mi.binK2_d, Mi.binK1_d, Mi.negK_d, Mi.truK_d, Mi.tstK_d, Mi.notK_d, Mi.cmpK2_d, Mi.cmpK1_d, Mi.chnK3_t, Mi.chnK3_f, Mi.chnK2_d, Mi.chnK1_d, Mi.iteK_t, Mi.iteK_f, Mi.tupK_d, Mi.lstK_d, Mi.cellK_d, Mi.callK_d, Mi.biK_d, Mi.idxK2_d, Mi.idxK1_d, Mi.sliK3_t, Mi.sliK3_l, Mi.oIntK_i, Mi.sliK2_d, Mi.sliK1_d, Mi.lcT_d, Mi.lcE_d, Mi.lcK_d, Mi.lrgK2_d, Mi.lrgK1_d, Mi.consK2_d, Mi.consK1_d, Mi.rng1K_d, Mi.rng2K2_d, Mi.rng2K1_d, Mi.zipO_d, Mi.zipK2_d, Mi.zipK1_d, Mi.enuK_d, Mi.sqK_d, Mi.setK_d, Mi.setTK_d, Mi.putK3_d, Mi.putK2_d, Mi.putK1_d, Mi.appK2_d, Mi.appK1_d, Mi.dropK_d, Mi.retK_d, Mi.iteS_t, Mi.iteS_f, Mi.forK_d, Mi.turnK2_d, Mi.turnK1_t, Mi.turnK1_f, Mi.whK_t, Mi.whK_f, Mi.lcB_nm, Mi.lcB_2, Mi.evE_var, Mi.evE_non, Mi.evE_bl, Mi.evE_int, Mi.evE_str, Mi.evE_gl, Mi.evE_bty, Mi.evE_bin, Mi.evE_neg, Mi.evE_not, Mi.evE_and, Mi.evE_or, Mi.evE_cmp, Mi.evE_chn, Mi.evE_ite, Mi.evE_tup, Mi.evE_lst, Mi.evE_cell, Mi.evE_call, Mi.callP_sto, Mi.evE_bi, Mi.evE_idx, Mi.evE_sli, Mi.evE_lc, Mi.evE_lrg, Mi.evE_lrd, Mi.evA_nil, Mi.evA_cons, Mi.evI_rng1, Mi.evI_rng2, Mi.evI_zip, Mi.evI_enu, Mi.evI_sq, Mi.tstR_false, Mi.tstR_true, Mi.optR_false, Mi.optR_true, Mi.oInt_int, Mi.isOmit_omit, Mi.evS_skip, Mi.evS_seq, Mi.evS_set, Mi.evS_setT, Mi.evS_put, Mi.evS_app, Mi.evS_drop, Mi.evS_ret, Mi.evS_ite, Mi.evS_for, Mi.evS_while, Mi.evS_raise, Mi.sto_some, Mi.sto_none, Mi.val_nx, Mi.val_rt, Mi.setTg_nm, Mi.setTg_nil, Mi.setTg_cons, Mi.wipe_nil, Mi.wipe_cons, Mi.forR_nil, Mi.truV_bl, Mi.truV_non, Mi.truV_int, Mi.add_ii, Mi.sub_ii, Mi.lt_ii, Mi.le_ii, Mi.gt_ii, Mi.ge_ii, Mi.isn_v, Mi.notn_v, Mi.isN_non, Mi.isN_int, Mi.isN_tup, Mi.isN_bl, Mi.isN_str, Mi.eq_ii, Mi.ne_ii, Mi.eq_ss, Mi.ne_ss, Mi.neg_i, Mi.walk_lst, Mi.walk_tup, Mi.walk_scr, Mi.len_tup, Mi.len_lst, Mi.len_scr, Mi.tuple_lst, Mi.tuple_tup, Mi.list_tup, Mi.list_lst, Mi.int_int, Mi.int_bl, Mi.abs_int, Mi.min_int, Mi.max_int, Mi.isi_def, Mi.sum_lst, Mi.all_lst, Mi.any_lst, Mi.ints_map, Mi.bools_map, R.bind_ok, R.bind_ex, R.bind_bad, R.lift_some, R.noEx_ok, List.getElem?_cons_zero, List.getElem?_cons_succ, Option.bind_some, Option.map_some, Option.bind_eq_bind, id_eq, List.set_cons_zero, List.set_cons_succ, if_true, if_false, Bool.false_eq_true, reduceIte, Bool.not_true, Bool.not_false, Ex.isOmit, eq_nil (dats_map (fun _ : PV × PV => PV.int 1) _ fun _ => rfl), lotL, q3, Bool.true_and, incB, List.isEmpty_map, filter_empty]
  · have e : lotL many v = false := by cases v <;> first | rfl | exact absurd ⟨_, rfl⟩ q
    have e2 : isiV v "tuple" = some false := by rw [isi_tupQ h.sh]; cases v <;> first | rfl | exact absurd ⟨_, rfl⟩ q
    simp (implicitDefEqProofs := false) only [Mi.seqK_nx, Mi.seqK_rt, Mi.andK_t, Mi.andK_f, Mi.orK_t, Mi.orK_f, Mi.forB_nm, Mi.forB_2, Mi.binK2_d, Mi.binK1_d, Mi.negK_d, Mi.truK_d, Mi.tstK_d, Mi.notK_d, Mi.cmpK2_d, Mi.cmpK1_d, Mi.chnK3_t, Mi.chnK3_f, Mi.chnK2_d, Mi.chnK1_d, Mi.iteK_t, Mi.iteK_f, Mi.tupK_d, Mi.lstK_d, Mi.cellK_d, Mi.callK_d, Mi.biK_d, Mi.idxK2_d, Mi.idxK1_d, Mi.sliK3_t, Mi.sliK3_l, Mi.oIntK_i, Mi.sliK2_d, Mi.sliK1_d, Mi.lcT_d, Mi.lcE_d, Mi.lcK_d, Mi.lrgK2_d, Mi.lrgK1_d, Mi.consK2_d, Mi.consK1_d, Mi.rng1K_d, Mi.rng2K2_d, Mi.rng2K1_d, Mi.zipO_d, Mi.zipK2_d, Mi.zipK1_d, Mi.enuK_d, Mi.sqK_d, Mi.setK_d, Mi.setTK_d, Mi.putK3_d, Mi.putK2_d, Mi.putK1_d, Mi.appK2_d, Mi.appK1_d, Mi.dropK_d, Mi.retK_d, Mi.iteS_t, Mi.iteS_f, Mi.forK_d, Mi.turnK2_d, Mi.turnK1_t, Mi.turnK1_f, Mi.whK_t, Mi.whK_f, Mi.lcB_nm, Mi.lcB_2, Mi.evE_var, Mi.evE_non, Mi.evE_bl, Mi.evE_int, Mi.evE_str, Mi.evE_gl, Mi.evE_bty, Mi.evE_bin, Mi.evE_neg, Mi.evE_not, Mi.evE_and, Mi.evE_or, Mi.evE_cmp, Mi.evE_chn, Mi.evE_ite, Mi.evE_tup, Mi.evE_lst, Mi.evE_cell, Mi.evE_call, Mi.callP_sto, Mi.evE_bi, Mi.evE_idx, Mi.evE_sli, Mi.evE_lc, Mi.evE_lrg, Mi.evE_lrd, Mi.evA_nil, Mi.evA_cons, Mi.evI_rng1, Mi.evI_rng2, Mi.evI_zip, Mi.evI_enu, Mi.evI_sq, Mi.tstR_false, Mi.tstR_true, Mi.optR_false, Mi.optR_true, Mi.oInt_int, Mi.isOmit_omit, Mi.evS_skip, Mi.evS_seq, Mi.evS_set, Mi.evS_setT, Mi.evS_put, Mi.evS_app, Mi.evS_drop, Mi.evS_ret, Mi.evS_ite, Mi.evS_for, Mi.evS_while, Mi.evS_raise, Mi.sto_some, Mi.sto_none, Mi.val_nx, Mi.val_rt, Mi.setTg_nm, Mi.setTg_nil, Mi.setTg_cons, Mi.wipe_nil, Mi.wipe_cons, Mi.forR_nil, Mi.truV_bl, Mi.truV_non, Mi.truV_int, Mi.add_ii, Mi.sub_ii, Mi.lt_ii, Mi.le_ii, Mi.gt_ii, Mi.ge_ii, Mi.isn_v, Mi.notn_v, Mi.isN_non, Mi.isN_int, Mi.isN_tup, Mi.isN_bl, Mi.isN_str, Mi.eq_ii, Mi.ne_ii, Mi.eq_ss, Mi.ne_ss, Mi.neg_i, Mi.walk_lst, Mi.walk_tup, Mi.walk_scr, Mi.len_tup, Mi.len_lst, Mi.len_scr, Mi.tuple_lst, Mi.tuple_tup, Mi.list_tup, Mi.list_lst, Mi.int_int, Mi.int_bl, Mi.abs_int, Mi.min_int, Mi.max_int, Mi.isi_def, Mi.sum_lst, Mi.all_lst, Mi.any_lst, Mi.ints_map, Mi.bools_map, R.bind_ok, R.bind_ex, R.bind_bad, R.lift_some, R.noEx_ok, List.getElem?_cons_zero, List.getElem?_cons_succ, Option.bind_some, Option.map_some, Option.bind_eq_bind, id_eq, List.set_cons_zero, List.set_cons_succ, if_true, if_false, Bool.false_eq_true, reduceIte, Bool.not_true, Bool.not_false, Ex.isOmit, b34, e2, e]
theorem for_all (i : Nat) (g : Env' → Sto → R Fl) (p : PV → Bool) (ρ : Env') : ∀ (xs : List PV) (v : Option PV), (∀ x ∈ xs, g (ρ.set i (some x)) st = .ok (if p x then .nx (ρ.set i (some x)) else .rt (.bl false)) st) →
    ∃ v', forR (forB (.nm i) g) xs (ρ.set i v) st = .ok (if xs.all p then .nx (ρ.set i v') else .rt (.bl false)) st
  | [], v, _ => ⟨v, rfl⟩
  | x :: xs, v, h => by
    obtain ⟨v', e⟩ := for_all i g p ρ xs (some x) fun y hy => h y (List.mem_cons_of_mem _ hy)
    refine ⟨v', ?_⟩
    rw [forR_cons, forB_nm, List.set_set, h x List.mem_cons_self, List.all_cons]
    cases p x
    · rfl
    · rw [Bool.true_and]
      exact e
theorem len_ne (n k : Nat) (h : n ≠ k) : ((n : Int) == (k : Int)) = false := by rw [beq_eq_false_iff_ne]; omega
theorem notin_strs (w : Str) (ws : List Str) : cmpV st .NotIn (.str w) (.tup (ws.map .str)) = some (!ws.any (· == w)) := by
  show (if true && (dats (ws.map .str) && decide (deps (ws.map .str) ≤ 60)) then some (!(ws.map PV.str).any fun z => z.eqv (.str w)) else none) = _
  rw [dats_str, deps_str, any_str]
  rfl
def factsBd : Sm := match b35 with
  | .seq _ (.seq (.for _ _ b) _) => b
  | _ => .skip
theorem law_facts_turn (many : Nat) (hm : 1 ≤ many) (v x : PV) (h : vW x) : evS G (RU N (d + 2)) N factsBd [some (.int many), some v, some x] st = .ok (if factB many x then .nx [some (.int many), some v, some x] else .rt (.bl false)) st := by
  by_cases q : ∃ xs, x = .tup xs
  · obtain ⟨xs, rfl⟩ := q
    obtain ⟨-, hx⟩ := h.tup
    by_cases q3 : xs.length = 3
    · obtain ⟨a, b, c, rfl⟩ : ∃ a b c, xs = [a, b, c] := by
        match xs, q3 with
        | [a, b, c], _ => exact ⟨a, b, c, rfl⟩
      have ha := hx a (by simp)
      have hb := hx b (by simp)
      have hc := hx c (by simp)
      have i0 : atI [a, b, c] 0 = some a := rfl
      have i1 : atI [a, b, c] 1 = some b := rfl
      have i2 : atI [a, b, c] 2 = some c := rfl
      have ln : ((([a, b, c] : List PV).length : Int) == 3) = true := rfl
      simp (implicitDefEqProofs := false) only [Mi.seqK_nx, Mi.seqK_rt, Mi.andK_t, Mi.andK_f, Mi.orK_t, Mi.orK_f, Mi.forB_nm, Mi.forB_2, Mi.binK2_d, Mi.binK1_d, Mi.negK_d, Mi.truK_d, Mi.tstK_d, Mi.notK_d, Mi.cmpK2_d, Mi.cmpK1_d, Mi.chnK3_t, Mi.chnK3_f, Mi.chnK2_d, Mi.chnK1_d, Mi.iteK_t, Mi.iteK_f, Mi.tupK_d, Mi.lstK_d, Mi.cellK_d, Mi.callK_d, Mi.biK_d, Mi.idxK2_d, Mi.idxK1_d, Mi.sliK3_t, Mi.sliK3_l, Mi.oIntK_i, Mi.sliK2_d, Mi.sliK1_d, Mi.lcT_d, Mi.lcE_d, Mi.lcK_d, Mi.lrgK2_d, Mi.lrgK1_d, Mi.consK2_d, Mi.consK1_d, Mi.rng1K_d, Mi.rng2K2_d, Mi.rng2K1_d, Mi.zipO_d, Mi.zipK2_d, Mi.zipK1_d, Mi.enuK_d, Mi.sqK_d, Mi.setK_d, Mi.setTK_d, Mi.putK3_d, Mi.putK2_d, Mi.putK1_d, Mi.appK2_d, Mi.appK1_d, Mi.dropK_d, Mi.retK_d, Mi.iteS_t, Mi.iteS_f, Mi.forK_d, Mi.turnK2_d, Mi.turnK1_t, Mi.turnK1_f, Mi.whK_t, Mi.whK_f, Mi.lcB_nm, Mi.lcB_2, Mi.evE_var, Mi.evE_non, Mi.evE_bl, Mi.evE_int, Mi.evE_str, Mi.evE_gl, Mi.evE_bty, Mi.evE_bin, Mi.evE_neg, Mi.evE_not, Mi.evE_and, Mi.evE_or, Mi.evE_cmp, Mi.evE_chn, Mi.evE_ite, Mi.evE_tup, Mi.evE_lst, Mi.evE_cell, Mi.evE_call, Mi.callP_sto, Mi.evE_bi, Mi.evE_idx, Mi.evE_sli, Mi.evE_lc, Mi.evE_lrg, Mi.evE_lrd, Mi.evA_nil, Mi.evA_cons, Mi.evI_rng1, Mi.evI_rng2, Mi.evI_zip, Mi.evI_enu, Mi.evI_sq, Mi.tstR_false, Mi.tstR_true, Mi.optR_false, Mi.optR_true, Mi.oInt_int, Mi.isOmit_omit, Mi.evS_skip, Mi.evS_seq, Mi.evS_set, Mi.evS_setT, Mi.evS_put, Mi.evS_app, Mi.evS_drop, Mi.evS_ret, Mi.evS_ite, Mi.evS_for, Mi.evS_while, Mi.evS_raise, Mi.sto_some, Mi.sto_none, Mi.val_nx, Mi.val_rt, Mi.setTg_nm, Mi.setTg_nil, Mi.setTg_cons, Mi.wipe_nil, Mi.wipe_cons, Mi.forR_nil, Mi.truV_bl, Mi.truV_non, Mi.truV_int, Mi.add_ii, Mi.sub_ii, Mi.lt_ii, Mi.le_ii, Mi.gt_ii, Mi.ge_ii, Mi.isn_v, Mi.notn_v, Mi.isN_non, Mi.isN_int, Mi.isN_tup, Mi.isN_bl, Mi.isN_str, Mi.eq_ii, Mi.ne_ii, Mi.eq_ss, Mi.ne_ss, Mi.neg_i, Mi.walk_lst, Mi.walk_tup, Mi.walk_scr, Mi.len_tup, Mi.len_lst, Mi.len_scr, Mi.tuple_lst, Mi.tuple_tup, Mi.list_tup, Mi.list_lst, Mi.int_int, Mi.int_bl, Mi.abs_int, Mi.min_int, Mi.max_int, Mi.isi_def, Mi.sum_lst, Mi.all_lst, Mi.any_lst, Mi.ints_map, Mi.bools_map, R.bind_ok, R.bind_ex, R.bind_bad, R.lift_some, R.noEx_ok, List.getElem?_cons_zero, List.getElem?_cons_succ, Option.bind_some, Option.map_some, Option.bind_eq_bind, id_eq, List.set_cons_zero, List.set_cons_succ, if_true, if_false, Bool.false_eq_true, reduceIte, Bool.not_true, Bool.not_false, Ex.isOmit, factsBd, b35, isi_tupQ h.sh, tupQ, ln, Mi.ix_tup, i0, isi_strQ ha.sh]
      by_cases qa : ∃ w, a = .str w
      · obtain ⟨w, rfl⟩ := qa
        have nin : cmpV st .NotIn (.str w) (.tup [.str ("more" : Str), .str ("atleast" : Str), .str ("same" : Str)]) = some (!wordB (.str w) fwords) := notin_strs w fwords
        simp (implicitDefEqProofs := false) only [Mi.seqK_nx, Mi.seqK_rt, Mi.andK_t, Mi.andK_f, Mi.orK_t, Mi.orK_f, Mi.forB_nm, Mi.forB_2, Mi.binK2_d, Mi.binK1_d, Mi.negK_d, Mi.truK_d, Mi.tstK_d, Mi.notK_d, Mi.cmpK2_d, Mi.cmpK1_d, Mi.chnK3_t, Mi.chnK3_f, Mi.chnK2_d, Mi.chnK1_d, Mi.iteK_t, Mi.iteK_f, Mi.tupK_d, Mi.lstK_d, Mi.cellK_d, Mi.callK_d, Mi.biK_d, Mi.idxK2_d, Mi.idxK1_d, Mi.sliK3_t, Mi.sliK3_l, Mi.oIntK_i, Mi.sliK2_d, Mi.sliK1_d, Mi.lcT_d, Mi.lcE_d, Mi.lcK_d, Mi.lrgK2_d, Mi.lrgK1_d, Mi.consK2_d, Mi.consK1_d, Mi.rng1K_d, Mi.rng2K2_d, Mi.rng2K1_d, Mi.zipO_d, Mi.zipK2_d, Mi.zipK1_d, Mi.enuK_d, Mi.sqK_d, Mi.setK_d, Mi.setTK_d, Mi.putK3_d, Mi.putK2_d, Mi.putK1_d, Mi.appK2_d, Mi.appK1_d, Mi.dropK_d, Mi.retK_d, Mi.iteS_t, Mi.iteS_f, Mi.forK_d, Mi.turnK2_d, Mi.turnK1_t, Mi.turnK1_f, Mi.whK_t, Mi.whK_f, Mi.lcB_nm, Mi.lcB_2, Mi.evE_var, Mi.evE_non, Mi.evE_bl, Mi.evE_int, Mi.evE_str, Mi.evE_gl, Mi.evE_bty, Mi.evE_bin, Mi.evE_neg, Mi.evE_not, Mi.evE_and, Mi.evE_or, Mi.evE_cmp, Mi.evE_chn, Mi.evE_ite, Mi.evE_tup, Mi.evE_lst, Mi.evE_cell, Mi.evE_call, Mi.callP_sto, Mi.evE_bi, Mi.evE_idx, Mi.evE_sli, Mi.evE_lc, Mi.evE_lrg, Mi.evE_lrd, Mi.evA_nil, Mi.evA_cons, Mi.evI_rng1, Mi.evI_rng2, Mi.evI_zip, Mi.evI_enu, Mi.evI_sq, Mi.tstR_false, Mi.tstR_true, Mi.optR_false, Mi.optR_true, Mi.oInt_int, Mi.isOmit_omit, Mi.evS_skip, Mi.evS_seq, Mi.evS_set, Mi.evS_setT, Mi.evS_put, Mi.evS_app, Mi.evS_drop, Mi.evS_ret, Mi.evS_ite, Mi.evS_for, Mi.evS_while, Mi.evS_raise, Mi.sto_some, Mi.sto_none, Mi.val_nx, Mi.val_rt, Mi.setTg_nm, Mi.setTg_nil, Mi.setTg_cons, Mi.wipe_nil, Mi.wipe_cons, Mi.forR_nil, Mi.truV_bl, Mi.truV_non, Mi.truV_int, Mi.add_ii, Mi.sub_ii, Mi.lt_ii, Mi.le_ii, Mi.gt_ii, Mi.ge_ii, Mi.isn_v, Mi.notn_v, Mi.isN_non, Mi.isN_int, Mi.isN_tup, Mi.isN_bl, Mi.isN_str, Mi.eq_ii, Mi.ne_ii, Mi.eq_ss, Mi.ne_ss, Mi.neg_i, Mi.walk_lst, Mi.walk_tup, Mi.walk_scr, Mi.len_tup, Mi.len_lst, Mi.len_scr, Mi.tuple_lst, Mi.tuple_tup, Mi.list_tup, Mi.list_lst, Mi.int_int, Mi.int_bl, Mi.abs_int, Mi.min_int, Mi.max_int, Mi.isi_def, Mi.sum_lst, Mi.all_lst, Mi.any_lst, Mi.ints_map, Mi.bools_map, R.bind_ok, R.bind_ex, R.bind_bad, R.lift_some, R.noEx_ok, List.getElem?_cons_zero, List.getElem?_cons_succ, Option.bind_some, Option.map_some, Option.bind_eq_bind, id_eq, List.set_cons_zero, List.set_cons_succ, if_true, if_false, Bool.false_eq_true, reduceIte, Bool.not_true, Bool.not_false, Ex.isOmit, strQ, Mi.ix_tup, i0, nin, factB]
        rcases Bool.eq_false_or_eq_true (wordB (.str w) fwords) with qw | qw
        rotate_left
        · simp (implicitDefEqProofs := false) only [Mi.seqK_nx, Mi.seqK_rt, Mi.andK_t, Mi.andK_f, Mi.orK_t, Mi.orK_f, Mi.forB_nm, Mi.forB_2, Mi.binK2_d, Mi.binK1_d, Mi.negK_d, Mi.truK_d, Mi.tstK_d, Mi.notK_d, Mi.cmpK2_d, Mi.cmpK1_d, Mi.chnK3_t, Mi.chnK3_f, Mi.chnK2_d, Mi.chnK1_d, Mi.iteK_t, Mi.iteK_f, Mi.tupK_d, Mi.lstK_d, Mi.cellK_d, Mi.callK_d, Mi.biK_d, Mi.idxK2_d, Mi.idxK1_d, Mi.sliK3_t, Mi.sliK3_l, Mi.oIntK_i, Mi.sliK2_d, Mi.sliK1_d, Mi.lcT_d, Mi.lcE_d, Mi.lcK_d, Mi.lrgK2_d, Mi.lrgK1_d, Mi.consK2_d, Mi.consK1_d, Mi.rng1K_d, Mi.rng2K2_d, Mi.rng2K1_d, Mi.zipO_d, Mi.zipK2_d, Mi.zipK1_d, Mi.enuK_d, Mi.sqK_d, Mi.setK_d, Mi.setTK_d, Mi.putK3_d, Mi.putK2_d, Mi.putK1_d, Mi.appK2_d, Mi.appK1_d, Mi.dropK_d, Mi.retK_d, Mi.iteS_t, Mi.iteS_f, Mi.forK_d, Mi.turnK2_d, Mi.turnK1_t, Mi.turnK1_f, Mi.whK_t, Mi.whK_f, Mi.lcB_nm, Mi.lcB_2, Mi.evE_var, Mi.evE_non, Mi.evE_bl, Mi.evE_int, Mi.evE_str, Mi.evE_gl, Mi.evE_bty, Mi.evE_bin, Mi.evE_neg, Mi.evE_not, Mi.evE_and, Mi.evE_or, Mi.evE_cmp, Mi.evE_chn, Mi.evE_ite, Mi.evE_tup, Mi.evE_lst, Mi.evE_cell, Mi.evE_call, Mi.callP_sto, Mi.evE_bi, Mi.evE_idx, Mi.evE_sli, Mi.evE_lc, Mi.evE_lrg, Mi.evE_lrd, Mi.evA_nil, Mi.evA_cons, Mi.evI_rng1, Mi.evI_rng2, Mi.evI_zip, Mi.evI_enu, Mi.evI_sq, Mi.tstR_false, Mi.tstR_true, Mi.optR_false, Mi.optR_true, Mi.oInt_int, Mi.isOmit_omit, Mi.evS_skip, Mi.evS_seq, Mi.evS_set, Mi.evS_setT, Mi.evS_put, Mi.evS_app, Mi.evS_drop, Mi.evS_ret, Mi.evS_ite, Mi.evS_for, Mi.evS_while, Mi.evS_raise, Mi.sto_some, Mi.sto_none, Mi.val_nx, Mi.val_rt, Mi.setTg_nm, Mi.setTg_nil, Mi.setTg_cons, Mi.wipe_nil, Mi.wipe_cons, Mi.forR_nil, Mi.truV_bl, Mi.truV_non, Mi.truV_int, Mi.add_ii, Mi.sub_ii, Mi.lt_ii, Mi.le_ii, Mi.gt_ii, Mi.ge_ii, Mi.isn_v, Mi.notn_v, Mi.isN_non, Mi.isN_int, Mi.isN_tup, Mi.isN_bl, Mi.isN_str, Mi.eq_ii, Mi.ne_ii, Mi.eq_ss, Mi.ne_ss, Mi.neg_i, Mi.walk_lst, Mi.walk_tup, Mi.walk_scr, Mi.len_tup, Mi.len_lst, Mi.len_scr, Mi.tuple_lst, Mi.tuple_tup, Mi.list_tup, Mi.list_lst, Mi.int_int, Mi.int_bl, Mi.abs_int, Mi.min_int, Mi.max_int, Mi.isi_def, Mi.sum_lst, Mi.all_lst, Mi.any_lst, Mi.ints_map, Mi.bools_map, R.bind_ok, R.bind_ex, R.bind_bad, R.lift_some, R.noEx_ok, List.getElem?_cons_zero, List.getElem?_cons_succ, Option.bind_some, Option.map_some, Option.bind_eq_bind, id_eq, List.set_cons_zero, List.set_cons_succ, if_true, if_false, Bool.false_eq_true, reduceIte, Bool.not_true, Bool.not_false, Ex.isOmit, qw, Bool.false_and]
        · simp (implicitDefEqProofs := false) only [Mi.seqK_nx, Mi.seqK_rt, Mi.andK_t, Mi.andK_f, Mi.orK_t, Mi.orK_f, Mi.forB_nm, Mi.forB_2, Mi.binK2_d, Mi.binK1_d, Mi.negK_d, Mi.truK_d, Mi.tstK_d, Mi.notK_d, Mi.cmpK2_d, Mi.cmpK1_d, Mi.chnK3_t, Mi.chnK3_f, Mi.chnK2_d, Mi.chnK1_d, Mi.iteK_t, Mi.iteK_f, Mi.tupK_d, Mi.lstK_d, Mi.cellK_d, Mi.callK_d, Mi.biK_d, Mi.idxK2_d, Mi.idxK1_d, Mi.sliK3_t, Mi.sliK3_l, Mi.oIntK_i, Mi.sliK2_d, Mi.sliK1_d, Mi.lcT_d, Mi.lcE_d, Mi.lcK_d, Mi.lrgK2_d, Mi.lrgK1_d, Mi.consK2_d, Mi.consK1_d, Mi.rng1K_d, Mi.rng2K2_d, Mi.rng2K1_d, Mi.zipO_d, Mi.zipK2_d, Mi.zipK1_d, Mi.enuK_d, Mi.sqK_d, Mi.setK_d, Mi.setTK_d, Mi.putK3_d, Mi.putK2_d, Mi.putK1_d, Mi.appK2_d, Mi.appK1_d, Mi.dropK_d, Mi.retK_d, Mi.iteS_t, Mi.iteS_f, Mi.forK_d, Mi.turnK2_d, Mi.turnK1_t, Mi.turnK1_f, Mi.whK_t, Mi.whK_f, Mi.lcB_nm, Mi.lcB_2, Mi.evE_var, Mi.evE_non, Mi.evE_bl, Mi.evE_int, Mi.evE_str, Mi.evE_gl, Mi.evE_bty, Mi.evE_bin, Mi.evE_neg, Mi.evE_not, Mi.evE_and, Mi.evE_or, Mi.evE_cmp, Mi.evE_chn, Mi.evE_ite, Mi.evE_tup, Mi.evE_lst, Mi.evE_cell, Mi.evE_call, Mi.callP_sto, Mi.evE_bi, Mi.evE_idx, Mi.evE_sli, Mi.evE_lc, Mi.evE_lrg, Mi.evE_lrd, Mi.evA_nil, Mi.evA_cons, Mi.evI_rng1, Mi.evI_rng2, Mi.evI_zip, Mi.evI_enu, Mi.evI_sq, Mi.tstR_false, Mi.tstR_true, Mi.optR_false, Mi.optR_true, Mi.oInt_int, Mi.isOmit_omit, Mi.evS_skip, Mi.evS_seq, Mi.evS_set, Mi.evS_setT, Mi.evS_put, Mi.evS_app, Mi.evS_drop, Mi.evS_ret, Mi.evS_ite, Mi.evS_for, Mi.evS_while, Mi.evS_raise, Mi.sto_some, Mi.sto_none, Mi.val_nx, Mi.val_rt, Mi.setTg_nm, Mi.setTg_nil, Mi.setTg_cons, Mi.wipe_nil, Mi.wipe_cons, Mi.forR_nil, Mi.truV_bl, Mi.truV_non, Mi.truV_int, Mi.add_ii, Mi.sub_ii, Mi.lt_ii, Mi.le_ii, Mi.gt_ii, Mi.ge_ii, Mi.isn_v, Mi.notn_v, Mi.isN_non, Mi.isN_int, Mi.isN_tup, Mi.isN_bl, Mi.isN_str, Mi.eq_ii, Mi.ne_ii, Mi.eq_ss, Mi.ne_ss, Mi.neg_i, Mi.walk_lst, Mi.walk_tup, Mi.walk_scr, Mi.len_tup, Mi.len_lst, Mi.len_scr, Mi.tuple_lst, Mi.tuple_tup, Mi.list_tup, Mi.list_lst, Mi.int_int, Mi.int_bl, Mi.abs_int, Mi.min_int, Mi.max_int, Mi.isi_def, Mi.sum_lst, Mi.all_lst, Mi.any_lst, Mi.ints_map, Mi.bools_map, R.bind_ok, R.bind_ex, R.bind_bad, R.lift_some, R.noEx_ok, List.getElem?_cons_zero, List.getElem?_cons_succ, Option.bind_some, Option.map_some, Option.bind_eq_bind, id_eq, List.set_cons_zero, List.set_cons_succ, if_true, if_false, Bool.false_eq_true, reduceIte, Bool.not_true, Bool.not_false, Ex.isOmit, qw, Bool.true_and, Mi.ix_tup, i1, i2, law_is_lot_v _ _ hb, law_is_lot_v _ _ hc, lot_eq _ hm]
          cases lotL many b
          · simp (implicitDefEqProofs := false) only [Mi.seqK_nx, Mi.seqK_rt, Mi.andK_t, Mi.andK_f, Mi.orK_t, Mi.orK_f, Mi.forB_nm, Mi.forB_2, Mi.binK2_d, Mi.binK1_d, Mi.negK_d, Mi.truK_d, Mi.tstK_d, Mi.notK_d, Mi.cmpK2_d, Mi.cmpK1_d, Mi.chnK3_t, Mi.chnK3_f, Mi.chnK2_d, Mi.chnK1_d, Mi.iteK_t, Mi.iteK_f, Mi.tupK_d, Mi.lstK_d, Mi.cellK_d, Mi.callK_d, Mi.biK_d, Mi.idxK2_d, Mi.idxK1_d, Mi.sliK3_t, Mi.sliK3_l, Mi.oIntK_i, Mi.sliK2_d, Mi.sliK1_d, Mi.lcT_d, Mi.lcE_d, Mi.lcK_d, Mi.lrgK2_d, Mi.lrgK1_d, Mi.consK2_d, Mi.consK1_d, Mi.rng1K_d, Mi.rng2K2_d, Mi.rng2K1_d, Mi.zipO_d, Mi.zipK2_d, Mi.zipK1_d, Mi.enuK_d, Mi.sqK_d, Mi.setK_d, Mi.setTK_d, Mi.putK3_d, Mi.putK2_d, Mi.putK1_d, Mi.appK2_d, Mi.appK1_d, Mi.dropK_d, Mi.retK_d, Mi.iteS_t, Mi.iteS_f, Mi.forK_d, Mi.turnK2_d, Mi.turnK1_t, Mi.turnK1_f, Mi.whK_t, Mi.whK_f, Mi.lcB_nm, Mi.lcB_2, Mi.evE_var, Mi.evE_non, Mi.evE_bl, Mi.evE_int, Mi.evE_str, Mi.evE_gl, Mi.evE_bty, Mi.evE_bin, Mi.evE_neg, Mi.evE_not, Mi.evE_and, Mi.evE_or, Mi.evE_cmp, Mi.evE_chn, Mi.evE_ite, Mi.evE_tup, Mi.evE_lst, Mi.evE_cell, Mi.evE_call, Mi.callP_sto, Mi.evE_bi, Mi.evE_idx, Mi.evE_sli, Mi.evE_lc, Mi.evE_lrg, Mi.evE_lrd, Mi.evA_nil, Mi.evA_cons, Mi.evI_rng1, Mi.evI_rng2, Mi.evI_zip, Mi.evI_enu, Mi.evI_sq, Mi.tstR_false, Mi.tstR_true, Mi.optR_false, Mi.optR_true, Mi.oInt_int, Mi.isOmit_omit, Mi.evS_skip, Mi.evS_seq, Mi.evS_set, Mi.evS_setT, Mi.evS_put, Mi.evS_app, Mi.evS_drop, Mi.evS_ret, Mi.evS_ite, Mi.evS_for, Mi.evS_while, Mi.evS_raise, Mi.sto_some, Mi.sto_none, Mi.val_nx, Mi.val_rt, Mi.setTg_nm, Mi.setTg_nil, Mi.setTg_cons, Mi.wipe_nil, Mi.wipe_cons, Mi.forR_nil, Mi.truV_bl, Mi.truV_non, Mi.truV_int, Mi.add_ii, Mi.sub_ii, Mi.lt_ii, Mi.le_ii, Mi.gt_ii, Mi.ge_ii, Mi.isn_v, Mi.notn_v, Mi.isN_non, Mi.isN_int, Mi.isN_tup, Mi.isN_bl, Mi.isN_str, Mi.eq_ii, Mi.ne_ii, Mi.eq_ss, Mi.ne_ss, Mi.neg_i, Mi.walk_lst, Mi.walk_tup, Mi.walk_scr, Mi.len_tup, Mi.len_lst, Mi.len_scr, Mi.tuple_lst, Mi.tuple_tup, Mi.list_tup, Mi.list_lst, Mi.int_int, Mi.int_bl, Mi.abs_int, Mi.min_int, Mi.max_int, Mi.isi_def, Mi.sum_lst, Mi.all_lst, Mi.any_lst, Mi.ints_map, Mi.bools_map, R.bind_ok, R.bind_ex, R.bind_bad, R.lift_some, R.noEx_ok, List.getElem?_cons_zero, List.getElem?_cons_succ, Option.bind_some, Option.map_some, Option.bind_eq_bind, id_eq, List.set_cons_zero, List.set_cons_succ, if_true, if_false, Bool.false_eq_true, reduceIte, Bool.not_true, Bool.not_false, Ex.isOmit, Bool.false_and]
          · simp (implicitDefEqProofs := false) only [Mi.seqK_nx, Mi.seqK_rt, Mi.andK_t, Mi.andK_f, Mi.orK_t, Mi.orK_f, Mi.forB_nm, Mi.forB_2, Mi.binK2_d, Mi.binK1_d, Mi.negK_d, Mi.truK_d, Mi.tstK_d, Mi.notK_d, Mi.cmpK2_d, Mi.cmpK1_d, Mi.chnK3_t, Mi.chnK3_f, Mi.chnK2_d, Mi.chnK1_d, Mi.iteK_t, Mi.iteK_f, Mi.tupK_d, Mi.lstK_d, Mi.cellK_d, Mi.callK_d, Mi.biK_d, Mi.idxK2_d, Mi.idxK1_d, Mi.sliK3_t, Mi.sliK3_l, Mi.oIntK_i, Mi.sliK2_d, Mi.sliK1_d, Mi.lcT_d, Mi.lcE_d, Mi.lcK_d, Mi.lrgK2_d, Mi.lrgK1_d, Mi.consK2_d, Mi.consK1_d, Mi.rng1K_d, Mi.rng2K2_d, Mi.rng2K1_d, Mi.zipO_d, Mi.zipK2_d, Mi.zipK1_d, Mi.enuK_d, Mi.sqK_d, Mi.setK_d, Mi.setTK_d, Mi.putK3_d, Mi.putK2_d, Mi.putK1_d, Mi.appK2_d, Mi.appK1_d, Mi.dropK_d, Mi.retK_d, Mi.iteS_t, Mi.iteS_f, Mi.forK_d, Mi.turnK2_d, Mi.turnK1_t, Mi.turnK1_f, Mi.whK_t, Mi.whK_f, Mi.lcB_nm, Mi.lcB_2, Mi.evE_var, Mi.evE_non, Mi.evE_bl, Mi.evE_int, Mi.evE_str, Mi.evE_gl, Mi.evE_bty, Mi.evE_bin, Mi.evE_neg, Mi.evE_not, Mi.evE_and, Mi.evE_or, Mi.evE_cmp, Mi.evE_chn, Mi.evE_ite, Mi.evE_tup, Mi.evE_lst, Mi.evE_cell, Mi.evE_call, Mi.callP_sto, Mi.evE_bi, Mi.evE_idx, Mi.evE_sli, Mi.evE_lc, Mi.evE_lrg, Mi.evE_lrd, Mi.evA_nil, Mi.evA_cons, Mi.evI_rng1, Mi.evI_rng2, Mi.evI_zip, Mi.evI_enu, Mi.evI_sq, Mi.tstR_false, Mi.tstR_true, Mi.optR_false, Mi.optR_true, Mi.oInt_int, Mi.isOmit_omit, Mi.evS_skip, Mi.evS_seq, Mi.evS_set, Mi.evS_setT, Mi.evS_put, Mi.evS_app, Mi.evS_drop, Mi.evS_ret, Mi.evS_ite, Mi.evS_for, Mi.evS_while, Mi.evS_raise, Mi.sto_some, Mi.sto_none, Mi.val_nx, Mi.val_rt, Mi.setTg_nm, Mi.setTg_nil, Mi.setTg_cons, Mi.wipe_nil, Mi.wipe_cons, Mi.forR_nil, Mi.truV_bl, Mi.truV_non, Mi.truV_int, Mi.add_ii, Mi.sub_ii, Mi.lt_ii, Mi.le_ii, Mi.gt_ii, Mi.ge_ii, Mi.isn_v, Mi.notn_v, Mi.isN_non, Mi.isN_int, Mi.isN_tup, Mi.isN_bl, Mi.isN_str, Mi.eq_ii, Mi.ne_ii, Mi.eq_ss, Mi.ne_ss, Mi.neg_i, Mi.walk_lst, Mi.walk_tup, Mi.walk_scr, Mi.len_tup, Mi.len_lst, Mi.len_scr, Mi.tuple_lst, Mi.tuple_tup, Mi.list_tup, Mi.list_lst, Mi.int_int, Mi.int_bl, Mi.abs_int, Mi.min_int, Mi.max_int, Mi.isi_def, Mi.sum_lst, Mi.all_lst, Mi.any_lst, Mi.ints_map, Mi.bools_map, R.bind_ok, R.bind_ex, R.bind_bad, R.lift_some, R.noEx_ok, List.getElem?_cons_zero, List.getElem?_cons_succ, Option.bind_some, Option.map_some, Option.bind_eq_bind, id_eq, List.set_cons_zero, List.set_cons_succ, if_true, if_false, Bool.false_eq_true, reduceIte, Bool.not_true, Bool.not_false, Ex.isOmit, Bool.true_and, Mi.ix_tup, i2, law_is_lot_v _ _ hc]
            cases lotL many c <;> simp (implicitDefEqProofs := false) only [Mi.seqK_nx, Mi.seqK_rt, Mi.andK_t, Mi.andK_f, Mi.orK_t, Mi.orK_f, Mi.forB_nm, Mi.forB_2, Mi.binK2_d, Mi.binK1_d, Mi.negK_d, Mi.truK_d, Mi.tstK_d, Mi.notK_d, Mi.cmpK2_d, Mi.cmpK1_d, Mi.chnK3_t, Mi.chnK3_f, Mi.chnK2_d, Mi.chnK1_d, Mi.iteK_t, Mi.iteK_f, Mi.tupK_d, Mi.lstK_d, Mi.cellK_d, Mi.callK_d, Mi.biK_d, Mi.idxK2_d, Mi.idxK1_d, Mi.sliK3_t, Mi.sliK3_l, Mi.oIntK_i, Mi.sliK2_d, Mi.sliK1_d, Mi.lcT_d, Mi.lcE_d, Mi.lcK_d, Mi.lrgK2_d, Mi.lrgK1_d, Mi.consK2_d, Mi.consK1_d, Mi.rng1K_d, Mi.rng2K2_d, Mi.rng2K1_d, Mi.zipO_d, Mi.zipK2_d, Mi.zipK1_d, Mi.enuK_d, Mi.sqK_d, Mi.setK_d, Mi.setTK_d, Mi.putK3_d, Mi.putK2_d, Mi.putK1_d, Mi.appK2_d, Mi.appK1_d, Mi.dropK_d, Mi.retK_d, Mi.iteS_t, Mi.iteS_f, Mi.forK_d, Mi.turnK2_d, Mi.turnK1_t, Mi.turnK1_f, Mi.whK_t, Mi.whK_f, Mi.lcB_nm, Mi.lcB_2, Mi.evE_var, Mi.evE_non, Mi.evE_bl, Mi.evE_int, Mi.evE_str, Mi.evE_gl, Mi.evE_bty, Mi.evE_bin, Mi.evE_neg, Mi.evE_not, Mi.evE_and, Mi.evE_or, Mi.evE_cmp, Mi.evE_chn, Mi.evE_ite, Mi.evE_tup, Mi.evE_lst, Mi.evE_cell, Mi.evE_call, Mi.callP_sto, Mi.evE_bi, Mi.evE_idx, Mi.evE_sli, Mi.evE_lc, Mi.evE_lrg, Mi.evE_lrd, Mi.evA_nil, Mi.evA_cons, Mi.evI_rng1, Mi.evI_rng2, Mi.evI_zip, Mi.evI_enu, Mi.evI_sq, Mi.tstR_false, Mi.tstR_true, Mi.optR_false, Mi.optR_true, Mi.oInt_int, Mi.isOmit_omit, Mi.evS_skip, Mi.evS_seq, Mi.evS_set, Mi.evS_setT, Mi.evS_put, Mi.evS_app, Mi.evS_drop, Mi.evS_ret, Mi.evS_ite, Mi.evS_for, Mi.evS_while, Mi.evS_raise, Mi.sto_some, Mi.sto_none, Mi.val_nx, Mi.val_rt, Mi.setTg_nm, Mi.setTg_nil, Mi.setTg_cons, Mi.wipe_nil, Mi.wipe_cons, Mi.forR_nil, Mi.truV_bl, Mi.truV_non, Mi.truV_int, Mi.add_ii, Mi.sub_ii, Mi.lt_ii, Mi.le_ii, Mi.gt_ii, Mi.ge_ii, Mi.isn_v, Mi.notn_v, Mi.isN_non, Mi.isN_int, Mi.isN_tup, Mi.isN_bl, Mi.isN_str, Mi.eq_ii, Mi.ne_ii, Mi.eq_ss, Mi.ne_ss, Mi.neg_i, Mi.walk_lst, Mi.walk_tup, Mi.walk_scr, Mi.len_tup, Mi.len_lst, Mi.len_scr, Mi.tuple_lst, Mi.tuple_tup, Mi.list_tup, Mi.list_lst, Mi.int_int, Mi.int_bl, Mi.abs_int, Mi.min_int, Mi.max_int, Mi.isi_def, Mi.sum_lst, Mi.all_lst, Mi.any_lst, Mi.ints_map, Mi.bools_map, R.bind_ok, R.bind_ex, R.bind_bad, R.lift_some, R.noEx_ok, List.getElem?_cons_zero, List.getElem?_cons_succ, Option.bind_some, Option.map_some, Option.bind_eq_bind, id_eq, List.set_cons_zero, List.set_cons_succ, if_true, if_false, Bool.false_eq_true, reduceIte, Bool.not_true, Bool.not_false, Ex.isOmit]
      · have e : strQ a = false := by cases a <;> first | rfl | exact absurd ⟨_, rfl⟩ qa
        have e2 : factB many (.tup [a, b, c]) = false := by
          show (wordB a fwords && _) = false
          have : wordB a fwords = false := by cases a <;> first | rfl | exact absurd ⟨_, rfl⟩ qa
          rw [this]; rfl
        simp (implicitDefEqProofs := false) only [Mi.seqK_nx, Mi.seqK_rt, Mi.andK_t, Mi.andK_f, Mi.orK_t, Mi.orK_f, Mi.forB_nm, Mi.forB_2, Mi.binK2_d, Mi.binK1_d, Mi.negK_d, Mi.truK_d, Mi.tstK_d, Mi.notK_d, Mi.cmpK2_d, Mi.cmpK1_d, Mi.chnK3_t, Mi.chnK3_f, Mi.chnK2_d, Mi.chnK1_d, Mi.iteK_t, Mi.iteK_f, Mi.tupK_d, Mi.lstK_d, Mi.cellK_d, Mi.callK_d, Mi.biK_d, Mi.idxK2_d, Mi.idxK1_d, Mi.sliK3_t, Mi.sliK3_l, Mi.oIntK_i, Mi.sliK2_d, Mi.sliK1_d, Mi.lcT_d, Mi.lcE_d, Mi.lcK_d, Mi.lrgK2_d, Mi.lrgK1_d, Mi.consK2_d, Mi.consK1_d, Mi.rng1K_d, Mi.rng2K2_d, Mi.rng2K1_d, Mi.zipO_d, Mi.zipK2_d, Mi.zipK1_d, Mi.enuK_d, Mi.sqK_d, Mi.setK_d, Mi.setTK_d, Mi.putK3_d, Mi.putK2_d, Mi.putK1_d, Mi.appK2_d, Mi.appK1_d, Mi.dropK_d, Mi.retK_d, Mi.iteS_t, Mi.iteS_f, Mi.forK_d, Mi.turnK2_d, Mi.turnK1_t, Mi.turnK1_f, Mi.whK_t, Mi.whK_f, Mi.lcB_nm, Mi.lcB_2, Mi.evE_var, Mi.evE_non, Mi.evE_bl, Mi.evE_int, Mi.evE_str, Mi.evE_gl, Mi.evE_bty, Mi.evE_bin, Mi.evE_neg, Mi.evE_not, Mi.evE_and, Mi.evE_or, Mi.evE_cmp, Mi.evE_chn, Mi.evE_ite, Mi.evE_tup, Mi.evE_lst, Mi.evE_cell, Mi.evE_call, Mi.callP_sto, Mi.evE_bi, Mi.evE_idx, Mi.evE_sli, Mi.evE_lc, Mi.evE_lrg, Mi.evE_lrd, Mi.evA_nil, Mi.evA_cons, Mi.evI_rng1, Mi.evI_rng2, Mi.evI_zip, Mi.evI_enu, Mi.evI_sq, Mi.tstR_false, Mi.tstR_true, Mi.optR_false, Mi.optR_true, Mi.oInt_int, Mi.isOmit_omit, Mi.evS_skip, Mi.evS_seq, Mi.evS_set, Mi.evS_setT, Mi.evS_put, Mi.evS_app, Mi.evS_drop, Mi.evS_ret, Mi.evS_ite, Mi.evS_for, Mi.evS_while, Mi.evS_raise, Mi.sto_some, Mi.sto_none, Mi.val_nx, Mi.val_rt, Mi.setTg_nm, Mi.setTg_nil, Mi.setTg_cons, Mi.wipe_nil, Mi.wipe_cons, Mi.forR_nil, Mi.truV_bl, Mi.truV_non, Mi.truV_int, Mi.add_ii, Mi.sub_ii, Mi.lt_ii, Mi.le_ii, Mi.gt_ii, Mi.ge_ii, Mi.isn_v, Mi.notn_v, Mi.isN_non, Mi.isN_int, Mi.isN_tup, Mi.isN_bl, Mi.isN_str, Mi.eq_ii, Mi.ne_ii, Mi.eq_ss, Mi.ne_ss, Mi.neg_i, Mi.walk_lst, Mi.walk_tup, Mi.walk_scr, Mi.len_tup, Mi.len_lst, Mi.len_scr, Mi.tuple_lst, Mi.tuple_tup, Mi.list_tup, Mi.list_lst, Mi.int_int, Mi.int_bl, Mi.abs_int, Mi.min_int, Mi.max_int, Mi.isi_def, Mi.sum_lst, Mi.all_lst, Mi.any_lst, Mi.ints_map, Mi.bools_map, R.bind_ok, R.bind_ex, R.bind_bad, R.lift_some, R.noEx_ok, List.getElem?_cons_zero, List.getElem?_cons_succ, Option.bind_some, Option.map_some, Option.bind_eq_bind, id_eq, List.set_cons_zero, List.set_cons_succ, if_true, if_false, Bool.false_eq_true, reduceIte, Bool.not_true, Bool.not_false, Ex.isOmit, e, e2]
    · have ln : (((xs.length : Nat) : Int) == 3) = false := len_ne _ 3 q3
      have e2 : factB many (.tup xs) = false := by
        match xs, q3 with
        | [], _ => rfl
        | [_], _ => rfl
        | [_, _], _ => rfl
        | [_, _, _], q => exact absurd rfl q
        | _ :: _ :: _ :: _ :: _, _ => rfl
      simp (implicitDefEqProofs := false) only [Mi.seqK_nx, Mi.seqK_rt, Mi.andK_t, Mi.andK_f, Mi.orK_t, Mi.orK_f, Mi.forB_nm, Mi.forB_2, Mi.binK2_d, Mi.binK1_d, Mi.negK_d, Mi.truK_d, Mi.tstK_d, Mi.notK_d, Mi.cmpK2_d, Mi.cmpK1_d, Mi.chnK3_t, Mi.chnK3_f, Mi.chnK2_d, Mi.chnK1_d, Mi.iteK_t, Mi.iteK_f, Mi.tupK_d, Mi.lstK_d, Mi.cellK_d, Mi.callK_d, Mi.biK_d, Mi.idxK2_d, Mi.idxK1_d, Mi.sliK3_t, Mi.sliK3_l, Mi.oIntK_i, Mi.sliK2_d, Mi.sliK1_d, Mi.lcT_d, Mi.lcE_d, Mi.lcK_d, Mi.lrgK2_d, Mi.lrgK1_d, Mi.consK2_d, Mi.consK1_d, Mi.rng1K_d, Mi.rng2K2_d, Mi.rng2K1_d, Mi.zipO_d, Mi.zipK2_d, Mi.zipK1_d, Mi.enuK_d, Mi.sqK_d, Mi.setK_d, Mi.setTK_d, Mi.putK3_d, Mi.putK2_d, Mi.putK1_d, Mi.appK2_d, Mi.appK1_d, Mi.dropK_d, Mi.retK_d, Mi.iteS_t, Mi.iteS_f, Mi.forK_d, Mi.turnK2_d, Mi.turnK1_t, Mi.turnK1_f, Mi.whK_t, Mi.whK_f, Mi.lcB_nm, Mi.lcB_2, Mi.evE_var, Mi.evE_non, Mi.evE_bl, Mi.evE_int, Mi.evE_str, Mi.evE_gl, Mi.evE_bty, Mi.evE_bin, Mi.evE_neg, Mi.evE_not, Mi.evE_and, Mi.evE_or, Mi.evE_cmp, Mi.evE_chn, Mi.evE_ite, Mi.evE_tup, Mi.evE_lst, Mi.evE_cell, Mi.evE_call, Mi.callP_sto, Mi.evE_bi, Mi.evE_idx, Mi.evE_sli, Mi.evE_lc, Mi.evE_lrg, Mi.evE_lrd, Mi.evA_nil, Mi.evA_cons, Mi.evI_rng1, Mi.evI_rng2, Mi.evI_zip, Mi.evI_enu, Mi.evI_sq, Mi.tstR_false, Mi.tstR_true, Mi.optR_false, Mi.optR_true, Mi.oInt_int, Mi.isOmit_omit, Mi.evS_skip, Mi.evS_seq, Mi.evS_set, Mi.evS_setT, Mi.evS_put, Mi.evS_app, Mi.evS_drop, Mi.evS_ret, Mi.evS_ite, Mi.evS_for, Mi.evS_while, Mi.evS_raise, Mi.sto_some, Mi.sto_none, Mi.val_nx, Mi.val_rt, Mi.setTg_nm, Mi.setTg_nil, Mi.setTg_cons, Mi.wipe_nil, Mi.wipe_cons, Mi.forR_nil, Mi.truV_bl, Mi.truV_non, Mi.truV_int, Mi.add_ii, Mi.sub_ii, Mi.lt_ii, Mi.le_ii, Mi.gt_ii, Mi.ge_ii, Mi.isn_v, Mi.notn_v, Mi.isN_non, Mi.isN_int, Mi.isN_tup, Mi.isN_bl, Mi.isN_str, Mi.eq_ii, Mi.ne_ii, Mi.eq_ss, Mi.ne_ss, Mi.neg_i, Mi.walk_lst, Mi.walk_tup, Mi.walk_scr, Mi.len_tup, Mi.len_lst, Mi.len_scr, Mi.tuple_lst, Mi.tuple_tup, Mi.list_tup, Mi.list_lst, Mi.int_int, Mi.int_bl, Mi.abs_int, Mi.min_int, Mi.max_int, Mi.isi_def, Mi.sum_lst, Mi.all_lst, Mi.any_lst, Mi.ints_map, Mi.bools_map, R.bind_ok, R.bind_ex, R.bind_bad, R.lift_some, R.noEx_ok, List.getElem?_cons_zero, List.getElem?_cons_succ, Option.bind_some, Option.map_some, Option.bind_eq_bind, id_eq, List.set_cons_zero, List.set_cons_succ, if_true, if_false, Bool.false_eq_true, reduceIte, Bool.not_true, Bool.not_false, Ex.isOmit, factsBd, b35, isi_tupQ h.sh, tupQ, ln, e2]
  · have e : factB many x = false := by cases x <;> first | rfl | exact absurd ⟨_, rfl⟩ q
    have e2 : isiV x "tuple" = some false := by rw [isi_tupQ h.sh]; cases x <;> first | rfl | exact absurd ⟨_, rfl⟩ q
    simp (implicitDefEqProofs := false) only [Mi.seqK_nx, Mi.seqK_rt, Mi.andK_t, Mi.andK_f, Mi.orK_t, Mi.orK_f, Mi.forB_nm, Mi.forB_2, Mi.binK2_d, Mi.binK1_d, Mi.negK_d, Mi.truK_d, Mi.tstK_d, Mi.notK_d, Mi.cmpK2_d, Mi.cmpK1_d, Mi.chnK3_t, Mi.chnK3_f, Mi.chnK2_d, Mi.chnK1_d, Mi.iteK_t, Mi.iteK_f, Mi.tupK_d, Mi.lstK_d, Mi.cellK_d, Mi.callK_d, Mi.biK_d, Mi.idxK2_d, Mi.idxK1_d, Mi.sliK3_t, Mi.sliK3_l, Mi.oIntK_i, Mi.sliK2_d, Mi.sliK1_d, Mi.lcT_d, Mi.lcE_d, Mi.lcK_d, Mi.lrgK2_d, Mi.lrgK1_d, Mi.consK2_d, Mi.consK1_d, Mi.rng1K_d, Mi.rng2K2_d, Mi.rng2K1_d, Mi.zipO_d, Mi.zipK2_d, Mi.zipK1_d, Mi.enuK_d, Mi.sqK_d, Mi.setK_d, Mi.setTK_d, Mi.putK3_d, Mi.putK2_d, Mi.putK1_d, Mi.appK2_d, Mi.appK1_d, Mi.dropK_d, Mi.retK_d, Mi.iteS_t, Mi.iteS_f, Mi.forK_d, Mi.turnK2_d, Mi.turnK1_t, Mi.turnK1_f, Mi.whK_t, Mi.whK_f, Mi.lcB_nm, Mi.lcB_2, Mi.evE_var, Mi.evE_non, Mi.evE_bl, Mi.evE_int, Mi.evE_str, Mi.evE_gl, Mi.evE_bty, Mi.evE_bin, Mi.evE_neg, Mi.evE_not, Mi.evE_and, Mi.evE_or, Mi.evE_cmp, Mi.evE_chn, Mi.evE_ite, Mi.evE_tup, Mi.evE_lst, Mi.evE_cell, Mi.evE_call, Mi.callP_sto, Mi.evE_bi, Mi.evE_idx, Mi.evE_sli, Mi.evE_lc, Mi.evE_lrg, Mi.evE_lrd, Mi.evA_nil, Mi.evA_cons, Mi.evI_rng1, Mi.evI_rng2, Mi.evI_zip, Mi.evI_enu, Mi.evI_sq, Mi.tstR_false, Mi.tstR_true, Mi.optR_false, Mi.optR_true, Mi.oInt_int, Mi.isOmit_omit, Mi.evS_skip, Mi.evS_seq, Mi.evS_set, Mi.evS_setT, Mi.evS_put, Mi.evS_app, Mi.evS_drop, Mi.evS_ret, Mi.evS_ite, Mi.evS_for, Mi.evS_while, Mi.evS_raise, Mi.sto_some, Mi.sto_none, Mi.val_nx, Mi.val_rt, Mi.setTg_nm, Mi.setTg_nil, Mi.setTg_cons, Mi.wipe_nil, Mi.wipe_cons, Mi.forR_nil, Mi.truV_bl, Mi.truV_non, Mi.truV_int, Mi.add_ii, Mi.sub_ii, Mi.lt_ii, Mi.le_ii, Mi.gt_ii, Mi.ge_ii, Mi.isn_v, Mi.notn_v, Mi.isN_non, Mi.isN_int, Mi.isN_tup, Mi.isN_bl, Mi.isN_str, Mi.eq_ii, Mi.ne_ii, Mi.eq_ss, Mi.ne_ss, Mi.neg_i, Mi.walk_lst, Mi.walk_tup, Mi.walk_scr, Mi.len_tup, Mi.len_lst, Mi.len_scr, Mi.tuple_lst, Mi.tuple_tup, Mi.list_tup, Mi.list_lst, Mi.int_int, Mi.int_bl, Mi.abs_int, Mi.min_int, Mi.max_int, Mi.isi_def, Mi.sum_lst, Mi.all_lst, Mi.any_lst, Mi.ints_map, Mi.bools_map, R.bind_ok, R.bind_ex, R.bind_bad, R.lift_some, R.noEx_ok, List.getElem?_cons_zero, List.getElem?_cons_succ, Option.bind_some, Option.map_some, Option.bind_eq_bind, id_eq, List.set_cons_zero, List.set_cons_succ, if_true, if_false, Bool.false_eq_true, reduceIte, Bool.not_true, Bool.not_false, Ex.isOmit, factsBd, b35, e2, e]
theorem law_are_facts_v (many : Nat) (hm : 1 ≤ many) (v : PV) (h : vW v) : RU N (d + 3) 35 [.int many, v] st = .ok (.bl (factsB many v)) st := by
  rw [RU, u35]
  by_cases q : ∃ xs, v = .tup xs
  · obtain ⟨xs, rfl⟩ := q
    obtain ⟨hl, hx⟩ := h.tup
    by_cases q6 : xs.length ≤ 6
    · obtain ⟨v', e⟩ := for_all (st := st) 2 (evS G (RU N (d + 2)) N factsBd) (factB many) [some (.int many), some (.tup xs), none] xs none fun x hm' => law_facts_turn many hm _ x (hx x hm')
      have e1 : factsB many (.tup xs) = xs.all (factB many) := by
        show (decide (xs.length ≤ 6) && _) = _
        rw [decide_eq_true q6, Bool.true_and]
      simp (implicitDefEqProofs := false) only [Mi.seqK_nx, Mi.seqK_rt, Mi.andK_t, Mi.andK_f, Mi.orK_t, Mi.orK_f, Mi.forB_nm, Mi.forB_2, Mi.binK2_d, Mi.binK1_d, Mi.negK_d, Mi.truK_d, Mi.tstK_d, Mi.notK_d, Mi.cmpK2_d, Mi.cmpK1_d, Mi.chnK3_t, Mi.chnK3_f, Mi.chnK2_d, Mi.chnK1_d, Mi.iteK_t, Mi.iteK_f, Mi.tupK_d, Mi.lstK_d, Mi.cellK_d, Mi.callK_d, Mi.biK_d, Mi.idxK2_d, Mi.idxK1_d, Mi.sliK3_t, Mi.sliK3_l, Mi.oIntK_i, Mi.sliK2_d, Mi.sliK1_d, Mi.lcT_d, Mi.lcE_d, Mi.lcK_d, Mi.lrgK2_d, Mi.lrgK1_d, Mi.consK2_d, Mi.consK1_d, Mi.rng1K_d, Mi.rng2K2_d, Mi.rng2K1_d, Mi.zipO_d, Mi.zipK2_d, Mi.zipK1_d, Mi.enuK_d, Mi.sqK_d, Mi.setK_d, Mi.setTK_d, Mi.putK3_d, Mi.putK2_d, Mi.putK1_d, Mi.appK2_d, Mi.appK1_d, Mi.dropK_d, Mi.retK_d, Mi.iteS_t, Mi.iteS_f, Mi.forK_d, Mi.turnK2_d, Mi.turnK1_t, Mi.turnK1_f, Mi.whK_t, Mi.whK_f, Mi.lcB_nm, Mi.lcB_2, Mi.evE_var, Mi.evE_non, Mi.evE_bl, Mi.evE_int, Mi.evE_str, Mi.evE_gl, Mi.evE_bty, Mi.evE_bin, Mi.evE_neg, Mi.evE_not, Mi.evE_and, Mi.evE_or, Mi.evE_cmp, Mi.evE_chn, Mi.evE_ite, Mi.evE_tup, Mi.evE_lst, Mi.evE_cell, Mi.evE_call, Mi.callP_sto, Mi.evE_bi, Mi.evE_idx, Mi.evE_sli, Mi.evE_lc, Mi.evE_lrg, Mi.evE_lrd, Mi.evA_nil, Mi.evA_cons, Mi.evI_rng1, Mi.evI_rng2, Mi.evI_zip, Mi.evI_enu, Mi.evI_sq, Mi.tstR_false, Mi.tstR_true, Mi.optR_false, Mi.optR_true, Mi.oInt_int, Mi.isOmit_omit, Mi.evS_skip, Mi.evS_seq, Mi.evS_set, Mi.evS_setT, Mi.evS_put, Mi.evS_app, Mi.evS_drop, Mi.evS_ret, Mi.evS_ite, Mi.evS_for, Mi.evS_while, Mi.evS_raise, Mi.sto_some, Mi.sto_none, Mi.val_nx, Mi.val_rt, Mi.setTg_nm, Mi.setTg_nil, Mi.setTg_cons, Mi.wipe_nil, Mi.wipe_cons, Mi.forR_nil, Mi.truV_bl, Mi.truV_non, Mi.truV_int, Mi.add_ii, Mi.sub_ii, Mi.lt_ii, Mi.le_ii, Mi.gt_ii, Mi.ge_ii, Mi.isn_v, Mi.notn_v, Mi.isN_non, Mi.isN_int, Mi.isN_tup, Mi.isN_bl, Mi.isN_str, Mi.eq_ii, Mi.ne_ii, Mi.eq_ss, Mi.ne_ss, Mi.neg_i, Mi.walk_lst, Mi.walk_tup, Mi.walk_scr, Mi.len_tup, Mi.len_lst, Mi.len_scr, Mi.tuple_lst, Mi.tuple_tup, Mi.list_tup, Mi.list_lst, Mi.int_int, Mi.int_bl, Mi.abs_int, Mi.min_int, Mi.max_int, Mi.isi_def, Mi.sum_lst, Mi.all_lst, Mi.any_lst, Mi.ints_map, Mi.bools_map, R.bind_ok, R.bind_ex, R.bind_bad, R.lift_some, R.noEx_ok, List.getElem?_cons_zero, List.getElem?_cons_succ, Option.bind_some, Option.map_some, Option.bind_eq_bind, id_eq, List.set_cons_zero, List.set_cons_succ, if_true, if_false, Bool.false_eq_true, reduceIte, Bool.not_true, Bool.not_false, Ex.isOmit, b35, isi_tupQ h.sh, tupQ, decide_eq_false (show ¬ (6 : Int) < ((xs.length : Nat) : Int) by omega)]
      refine (congrArg (fun r : R Fl => (r.bind (seqK (evS txt.mdl.G (runF txt.mdl.G txt.mdl.T N (d + 2)) N (.seq (.ret (.bl true)) .skip)))).bind Fl.val) e).trans ?_
      rw [e1]
      cases xs.all (factB many) <;> simp (implicitDefEqProofs := false) only [Mi.seqK_nx, Mi.seqK_rt, Mi.andK_t, Mi.andK_f, Mi.orK_t, Mi.orK_f, Mi.forB_nm, Mi.forB_2, Mi.binK2_d, Mi.binK1_d, Mi.negK_d, Mi.truK_d, Mi.tstK_d, Mi.notK_d, Mi.cmpK2_d, Mi.cmpK1_d, Mi.chnK3_t, Mi.chnK3_f, Mi.chnK2_d, Mi.chnK1_d, Mi.iteK_t, Mi.iteK_f, Mi.tupK_d, Mi.lstK_d, Mi.cellK_d, Mi.callK_d, Mi.biK_d, Mi.idxK2_d, Mi.idxK1_d, Mi.sliK3_t, Mi.sliK3_l, Mi.oIntK_i, Mi.sliK2_d, Mi.sliK1_d, Mi.lcT_d, Mi.lcE_d, Mi.lcK_d, Mi.lrgK2_d, Mi.lrgK1_d, Mi.consK2_d, Mi.consK1_d, Mi.rng1K_d, Mi.rng2K2_d, Mi.rng2K1_d, Mi.zipO_d, Mi.zipK2_d, Mi.zipK1_d, Mi.enuK_d, Mi.sqK_d, Mi.setK_d, Mi.setTK_d, Mi.putK3_d, Mi.putK2_d, Mi.putK1_d, Mi.appK2_d, Mi.appK1_d, Mi.dropK_d, Mi.retK_d, Mi.iteS_t, Mi.iteS_f, Mi.forK_d, Mi.turnK2_d, Mi.turnK1_t, Mi.turnK1_f, Mi.whK_t, Mi.whK_f, Mi.lcB_nm, Mi.lcB_2, Mi.evE_var, Mi.evE_non, Mi.evE_bl, Mi.evE_int, Mi.evE_str, Mi.evE_gl, Mi.evE_bty, Mi.evE_bin, Mi.evE_neg, Mi.evE_not, Mi.evE_and, Mi.evE_or, Mi.evE_cmp, Mi.evE_chn, Mi.evE_ite, Mi.evE_tup, Mi.evE_lst, Mi.evE_cell, Mi.evE_call, Mi.callP_sto, Mi.evE_bi, Mi.evE_idx, Mi.evE_sli, Mi.evE_lc, Mi.evE_lrg, Mi.evE_lrd, Mi.evA_nil, Mi.evA_cons, Mi.evI_rng1, Mi.evI_rng2, Mi.evI_zip, Mi.evI_enu, Mi.evI_sq, Mi.tstR_false, Mi.tstR_true, Mi.optR_false, Mi.optR_true, Mi.oInt_int, Mi.isOmit_omit, Mi.evS_skip, Mi.evS_seq, Mi.evS_set, Mi.evS_setT, Mi.evS_put, Mi.evS_app, Mi.evS_drop, Mi.evS_ret, Mi.evS_ite, Mi.evS_for, Mi.evS_while, Mi.evS_raise, Mi.sto_some, Mi.sto_none, Mi.val_nx, Mi.val_rt, Mi.setTg_nm, Mi.setTg_nil, Mi.setTg_cons, Mi.wipe_nil, Mi.wipe_cons, Mi.forR_nil, Mi.truV_bl, Mi.truV_non, Mi.truV_int, Mi.add_ii, Mi.sub_ii, Mi.lt_ii, Mi.le_ii, Mi.gt_ii, Mi.ge_ii, Mi.isn_v, Mi.notn_v, Mi.isN_non, Mi.isN_int, Mi.isN_tup, Mi.isN_bl, Mi.isN_str, Mi.eq_ii, Mi.ne_ii, Mi.eq_ss, Mi.ne_ss, Mi.neg_i, Mi.walk_lst, Mi.walk_tup, Mi.walk_scr, Mi.len_tup, Mi.len_lst, Mi.len_scr, Mi.tuple_lst, Mi.tuple_tup, Mi.list_tup, Mi.list_lst, Mi.int_int, Mi.int_bl, Mi.abs_int, Mi.min_int, Mi.max_int, Mi.isi_def, Mi.sum_lst, Mi.all_lst, Mi.any_lst, Mi.ints_map, Mi.bools_map, R.bind_ok, R.bind_ex, R.bind_bad, R.lift_some, R.noEx_ok, List.getElem?_cons_zero, List.getElem?_cons_succ, Option.bind_some, Option.map_some, Option.bind_eq_bind, id_eq, List.set_cons_zero, List.set_cons_succ, if_true, if_false, Bool.false_eq_true, reduceIte, Bool.not_true, Bool.not_false, Ex.isOmit]
    · have e1 : factsB many (.tup xs) = false := by
        show (decide (xs.length ≤ 6) && _) = _
        rw [decide_eq_false q6, Bool.false_and]
      simp (implicitDefEqProofs := false) only [Mi.seqK_nx, Mi.seqK_rt, Mi.andK_t, Mi.andK_f, Mi.orK_t, Mi.orK_f, Mi.forB_nm, Mi.forB_2, Mi.binK2_d, Mi.binK1_d, Mi.negK_d, Mi.truK_d, Mi.tstK_d, Mi.notK_d, Mi.cmpK2_d, Mi.cmpK1_d, Mi.chnK3_t, Mi.chnK3_f, Mi.chnK2_d, Mi.chnK1_d, Mi.iteK_t, Mi.iteK_f, Mi.tupK_d, Mi.lstK_d, Mi.cellK_d, Mi.callK_d, Mi.biK_d, Mi.idxK2_d, Mi.idxK1_d, Mi.sliK3_t, Mi.sliK3_l, Mi.oIntK_i, Mi.sliK2_d, Mi.sliK1_d, Mi.lcT_d, Mi.lcE_d, Mi.lcK_d, Mi.lrgK2_d, Mi.lrgK1_d, Mi.consK2_d, Mi.consK1_d, Mi.rng1K_d, Mi.rng2K2_d, Mi.rng2K1_d, Mi.zipO_d, Mi.zipK2_d, Mi.zipK1_d, Mi.enuK_d, Mi.sqK_d, Mi.setK_d, Mi.setTK_d, Mi.putK3_d, Mi.putK2_d, Mi.putK1_d, Mi.appK2_d, Mi.appK1_d, Mi.dropK_d, Mi.retK_d, Mi.iteS_t, Mi.iteS_f, Mi.forK_d, Mi.turnK2_d, Mi.turnK1_t, Mi.turnK1_f, Mi.whK_t, Mi.whK_f, Mi.lcB_nm, Mi.lcB_2, Mi.evE_var, Mi.evE_non, Mi.evE_bl, Mi.evE_int, Mi.evE_str, Mi.evE_gl, Mi.evE_bty, Mi.evE_bin, Mi.evE_neg, Mi.evE_not, Mi.evE_and, Mi.evE_or, Mi.evE_cmp, Mi.evE_chn, Mi.evE_ite, Mi.evE_tup, Mi.evE_lst, Mi.evE_cell, Mi.evE_call, Mi.callP_sto, Mi.evE_bi, Mi.evE_idx, Mi.evE_sli, Mi.evE_lc, Mi.evE_lrg, Mi.evE_lrd, Mi.evA_nil, Mi.evA_cons, Mi.evI_rng1, Mi.evI_rng2, Mi.evI_zip, Mi.evI_enu, Mi.evI_sq, Mi.tstR_false, Mi.tstR_true, Mi.optR_false, Mi.optR_true, Mi.oInt_int, Mi.isOmit_omit, Mi.evS_skip, Mi.evS_seq, Mi.evS_set, Mi.evS_setT, Mi.evS_put, Mi.evS_app, Mi.evS_drop, Mi.evS_ret, Mi.evS_ite, Mi.evS_for, Mi.evS_while, Mi.evS_raise, Mi.sto_some, Mi.sto_none, Mi.val_nx, Mi.val_rt, Mi.setTg_nm, Mi.setTg_nil, Mi.setTg_cons, Mi.wipe_nil, Mi.wipe_cons, Mi.forR_nil, Mi.truV_bl, Mi.truV_non, Mi.truV_int, Mi.add_ii, Mi.sub_ii, Mi.lt_ii, Mi.le_ii, Mi.gt_ii, Mi.ge_ii, Mi.isn_v, Mi.notn_v, Mi.isN_non, Mi.isN_int, Mi.isN_tup, Mi.isN_bl, Mi.isN_str, Mi.eq_ii, Mi.ne_ii, Mi.eq_ss, Mi.ne_ss, Mi.neg_i, Mi.walk_lst, Mi.walk_tup, Mi.walk_scr, Mi.len_tup, Mi.len_lst, Mi.len_scr, Mi.tuple_lst, Mi.tuple_tup, Mi.list_tup, Mi.list_lst, Mi.int_int, Mi.int_bl, Mi.abs_int, Mi.min_int, Mi.max_int, Mi.isi_def, Mi.sum_lst, Mi.all_lst, Mi.any_lst, Mi.ints_map, Mi.bools_map, R.bind_ok, R.bind_ex, R.bind_bad, R.lift_some, R.noEx_ok, List.getElem?_cons_zero, List.getElem?_cons_succ, Option.bind_some, Option.map_some, Option.bind_eq_bind, id_eq, List.set_cons_zero, List.set_cons_succ, if_true, if_false, Bool.false_eq_true, reduceIte, Bool.not_true, Bool.not_false, Ex.isOmit, b35, isi_tupQ h.sh, tupQ, decide_eq_true (show (6 : Int) < ((xs.length : Nat) : Int) by omega), e1]
  · have e : factsB many v = false := by cases v <;> first | rfl | exact absurd ⟨_, rfl⟩ q
    have e2 : isiV v "tuple" = some false := by rw [isi_tupQ h.sh]; cases v <;> first | rfl | exact absurd ⟨_, rfl⟩ q
    simp (implicitDefEqProofs := false) only [Mi.seqK_nx, Mi.seqK_rt, Mi.andK_t, Mi.andK_f, Mi.orK_t, Mi.orK_f, Mi.forB_nm, Mi.forB_2, Mi.binK2_d, Mi.binK1_d, Mi.negK_d, Mi.truK_d, Mi.tstK_d, Mi.notK_d, Mi.cmpK2_d, Mi.cmpK1_d, Mi.chnK3_t, Mi.chnK3_f, Mi.chnK2_d, Mi.chnK1_d, Mi.iteK_t, Mi.iteK_f, Mi.tupK_d, Mi.lstK_d, Mi.cellK_d, Mi.callK_d, Mi.biK_d, Mi.idxK2_d, Mi.idxK1_d, Mi.sliK3_t, Mi.sliK3_l, Mi.oIntK_i, Mi.sliK2_d, Mi.sliK1_d, Mi.lcT_d, Mi.lcE_d, Mi.lcK_d, Mi.lrgK2_d, Mi.lrgK1_d, Mi.consK2_d, Mi.consK1_d, Mi.rng1K_d, Mi.rng2K2_d, Mi.rng2K1_d, Mi.zipO_d, Mi.zipK2_d, Mi.zipK1_d, Mi.enuK_d, Mi.sqK_d, Mi.setK_d, Mi.setTK_d, Mi.putK3_d, Mi.putK2_d, Mi.putK1_d, Mi.appK2_d, Mi.appK1_d, Mi.dropK_d, Mi.retK_d, Mi.iteS_t, Mi.iteS_f, Mi.forK_d, Mi.turnK2_d, Mi.turnK1_t, Mi.turnK1_f, Mi.whK_t, Mi.whK_f, Mi.lcB_nm, Mi.lcB_2, Mi.evE_var, Mi.evE_non, Mi.evE_bl, Mi.evE_int, Mi.evE_str, Mi.evE_gl, Mi.evE_bty, Mi.evE_bin, Mi.evE_neg, Mi.evE_not, Mi.evE_and, Mi.evE_or, Mi.evE_cmp, Mi.evE_chn, Mi.evE_ite, Mi.evE_tup, Mi.evE_lst, Mi.evE_cell, Mi.evE_call, Mi.callP_sto, Mi.evE_bi, Mi.evE_idx, Mi.evE_sli, Mi.evE_lc, Mi.evE_lrg, Mi.evE_lrd, Mi.evA_nil, Mi.evA_cons, Mi.evI_rng1, Mi.evI_rng2, Mi.evI_zip, Mi.evI_enu, Mi.evI_sq, Mi.tstR_false, Mi.tstR_true, Mi.optR_false, Mi.optR_true, Mi.oInt_int, Mi.isOmit_omit, Mi.evS_skip, Mi.evS_seq, Mi.evS_set, Mi.evS_setT, Mi.evS_put, Mi.evS_app, Mi.evS_drop, Mi.evS_ret, Mi.evS_ite, Mi.evS_for, Mi.evS_while, Mi.evS_raise, Mi.sto_some, Mi.sto_none, Mi.val_nx, Mi.val_rt, Mi.setTg_nm, Mi.setTg_nil, Mi.setTg_cons, Mi.wipe_nil, Mi.wipe_cons, Mi.forR_nil, Mi.truV_bl, Mi.truV_non, Mi.truV_int, Mi.add_ii, Mi.sub_ii, Mi.lt_ii, Mi.le_ii, Mi.gt_ii, Mi.ge_ii, Mi.isn_v, Mi.notn_v, Mi.isN_non, Mi.isN_int, Mi.isN_tup, Mi.isN_bl, Mi.isN_str, Mi.eq_ii, Mi.ne_ii, Mi.eq_ss, Mi.ne_ss, Mi.neg_i, Mi.walk_lst, Mi.walk_tup, Mi.walk_scr, Mi.len_tup, Mi.len_lst, Mi.len_scr, Mi.tuple_lst, Mi.tuple_tup, Mi.list_tup, Mi.list_lst, Mi.int_int, Mi.int_bl, Mi.abs_int, Mi.min_int, Mi.max_int, Mi.isi_def, Mi.sum_lst, Mi.all_lst, Mi.any_lst, Mi.ints_map, Mi.bools_map, R.bind_ok, R.bind_ex, R.bind_bad, R.lift_some, R.noEx_ok, List.getElem?_cons_zero, List.getElem?_cons_succ, Option.bind_some, Option.map_some, Option.bind_eq_bind, id_eq, List.set_cons_zero, List.set_cons_succ, if_true, if_false, Bool.false_eq_true, reduceIte, Bool.not_true, Bool.not_false, Ex.isOmit, b35, e2, e]
def scriptBd : Sm := match b36 with
  | .seq _ (.seq (.for _ _ b) _) => b
  | _ => .skip
theorem law_script_turn (many : Nat) (v x : PV) (h : vW x) : evS G (RU N (d + 1)) N scriptBd [some (.int many), some v, some x] st = .ok (if deedB many x then .nx [some (.int many), some v, some x] else .rt (.bl false)) st := by
  by_cases q : ∃ xs, x = .tup xs
  · obtain ⟨xs, rfl⟩ := q
    obtain ⟨-, hx⟩ := h.tup
    by_cases q3 : xs.length = 2
    · obtain ⟨a, b, rfl⟩ : ∃ a b, xs = [a, b] := by
        match xs, q3 with
        | [a, b], _ => exact ⟨a, b, rfl⟩
      have ha := hx a (by simp)
      have hb := hx b (by simp)
      have i0 : atI [a, b] 0 = some a := rfl
      have i1 : atI [a, b] 1 = some b := rfl
      have ln : ((([a, b] : List PV).length : Int) == 2) = true := rfl
      simp (implicitDefEqProofs := false) only [Mi.seqK_nx, Mi.seqK_rt, Mi.andK_t, Mi.andK_f, Mi.orK_t, Mi.orK_f, Mi.forB_nm, Mi.forB_2, Mi.binK2_d, Mi.binK1_d, Mi.negK_d, Mi.truK_d, Mi.tstK_d, Mi.notK_d, Mi.cmpK2_d, Mi.cmpK1_d, Mi.chnK3_t, Mi.chnK3_f, Mi.chnK2_d, Mi.chnK1_d, Mi.iteK_t, Mi.iteK_f, Mi.tupK_d, Mi.lstK_d, Mi.cellK_d, Mi.callK_d, Mi.biK_d, Mi.idxK2_d, Mi.idxK1_d, Mi.sliK3_t, Mi.sliK3_l, Mi.oIntK_i, Mi.sliK2_d, Mi.sliK1_d, Mi.lcT_d, Mi.lcE_d, Mi.lcK_d, Mi.lrgK2_d, Mi.lrgK1_d, Mi.consK2_d, Mi.consK1_d, Mi.rng1K_d, Mi.rng2K2_d, Mi.rng2K1_d, Mi.zipO_d, Mi.zipK2_d, Mi.zipK1_d, Mi.enuK_d, Mi.sqK_d, Mi.setK_d, Mi.setTK_d, Mi.putK3_d, Mi.putK2_d, Mi.putK1_d, Mi.appK2_d, Mi.appK1_d, Mi.dropK_d, Mi.retK_d, Mi.iteS_t, Mi.iteS_f, Mi.forK_d, Mi.turnK2_d, Mi.turnK1_t, Mi.turnK1_f, Mi.whK_t, Mi.whK_f, Mi.lcB_nm, Mi.lcB_2, Mi.evE_var, Mi.evE_non, Mi.evE_bl, Mi.evE_int, Mi.evE_str, Mi.evE_gl, Mi.evE_bty, Mi.evE_bin, Mi.evE_neg, Mi.evE_not, Mi.evE_and, Mi.evE_or, Mi.evE_cmp, Mi.evE_chn, Mi.evE_ite, Mi.evE_tup, Mi.evE_lst, Mi.evE_cell, Mi.evE_call, Mi.callP_sto, Mi.evE_bi, Mi.evE_idx, Mi.evE_sli, Mi.evE_lc, Mi.evE_lrg, Mi.evE_lrd, Mi.evA_nil, Mi.evA_cons, Mi.evI_rng1, Mi.evI_rng2, Mi.evI_zip, Mi.evI_enu, Mi.evI_sq, Mi.tstR_false, Mi.tstR_true, Mi.optR_false, Mi.optR_true, Mi.oInt_int, Mi.isOmit_omit, Mi.evS_skip, Mi.evS_seq, Mi.evS_set, Mi.evS_setT, Mi.evS_put, Mi.evS_app, Mi.evS_drop, Mi.evS_ret, Mi.evS_ite, Mi.evS_for, Mi.evS_while, Mi.evS_raise, Mi.sto_some, Mi.sto_none, Mi.val_nx, Mi.val_rt, Mi.setTg_nm, Mi.setTg_nil, Mi.setTg_cons, Mi.wipe_nil, Mi.wipe_cons, Mi.forR_nil, Mi.truV_bl, Mi.truV_non, Mi.truV_int, Mi.add_ii, Mi.sub_ii, Mi.lt_ii, Mi.le_ii, Mi.gt_ii, Mi.ge_ii, Mi.isn_v, Mi.notn_v, Mi.isN_non, Mi.isN_int, Mi.isN_tup, Mi.isN_bl, Mi.isN_str, Mi.eq_ii, Mi.ne_ii, Mi.eq_ss, Mi.ne_ss, Mi.neg_i, Mi.walk_lst, Mi.walk_tup, Mi.walk_scr, Mi.len_tup, Mi.len_lst, Mi.len_scr, Mi.tuple_lst, Mi.tuple_tup, Mi.list_tup, Mi.list_lst, Mi.int_int, Mi.int_bl, Mi.abs_int, Mi.min_int, Mi.max_int, Mi.isi_def, Mi.sum_lst, Mi.all_lst, Mi.any_lst, Mi.ints_map, Mi.bools_map, R.bind_ok, R.bind_ex, R.bind_bad, R.lift_some, R.noEx_ok, List.getElem?_cons_zero, List.getElem?_cons_succ, Option.bind_some, Option.map_some, Option.bind_eq_bind, id_eq, List.set_cons_zero, List.set_cons_succ, if_true, if_false, Bool.false_eq_true, reduceIte, Bool.not_true, Bool.not_false, Ex.isOmit, scriptBd, b36, isi_tupQ h.sh, tupQ, ln, Mi.ix_tup, i0, isi_strQ ha.sh]
      by_cases qa : ∃ w, a = .str w
      · obtain ⟨w, rfl⟩ := qa
        have nin : cmpV st .NotIn (.str w) (.tup [.str ("left" : Str), .str ("right" : Str), .str ("take" : Str), .str ("stand" : Str), .str ("hold" : Str), .str ("free" : Str)]) = some (!wordB (.str w) words) := notin_strs w words
        simp (implicitDefEqProofs := false) only [Mi.seqK_nx, Mi.seqK_rt, Mi.andK_t, Mi.andK_f, Mi.orK_t, Mi.orK_f, Mi.forB_nm, Mi.forB_2, Mi.binK2_d, Mi.binK1_d, Mi.negK_d, Mi.truK_d, Mi.tstK_d, Mi.notK_d, Mi.cmpK2_d, Mi.cmpK1_d, Mi.chnK3_t, Mi.chnK3_f, Mi.chnK2_d, Mi.chnK1_d, Mi.iteK_t, Mi.iteK_f, Mi.tupK_d, Mi.lstK_d, Mi.cellK_d, Mi.callK_d, Mi.biK_d, Mi.idxK2_d, Mi.idxK1_d, Mi.sliK3_t, Mi.sliK3_l, Mi.oIntK_i, Mi.sliK2_d, Mi.sliK1_d, Mi.lcT_d, Mi.lcE_d, Mi.lcK_d, Mi.lrgK2_d, Mi.lrgK1_d, Mi.consK2_d, Mi.consK1_d, Mi.rng1K_d, Mi.rng2K2_d, Mi.rng2K1_d, Mi.zipO_d, Mi.zipK2_d, Mi.zipK1_d, Mi.enuK_d, Mi.sqK_d, Mi.setK_d, Mi.setTK_d, Mi.putK3_d, Mi.putK2_d, Mi.putK1_d, Mi.appK2_d, Mi.appK1_d, Mi.dropK_d, Mi.retK_d, Mi.iteS_t, Mi.iteS_f, Mi.forK_d, Mi.turnK2_d, Mi.turnK1_t, Mi.turnK1_f, Mi.whK_t, Mi.whK_f, Mi.lcB_nm, Mi.lcB_2, Mi.evE_var, Mi.evE_non, Mi.evE_bl, Mi.evE_int, Mi.evE_str, Mi.evE_gl, Mi.evE_bty, Mi.evE_bin, Mi.evE_neg, Mi.evE_not, Mi.evE_and, Mi.evE_or, Mi.evE_cmp, Mi.evE_chn, Mi.evE_ite, Mi.evE_tup, Mi.evE_lst, Mi.evE_cell, Mi.evE_call, Mi.callP_sto, Mi.evE_bi, Mi.evE_idx, Mi.evE_sli, Mi.evE_lc, Mi.evE_lrg, Mi.evE_lrd, Mi.evA_nil, Mi.evA_cons, Mi.evI_rng1, Mi.evI_rng2, Mi.evI_zip, Mi.evI_enu, Mi.evI_sq, Mi.tstR_false, Mi.tstR_true, Mi.optR_false, Mi.optR_true, Mi.oInt_int, Mi.isOmit_omit, Mi.evS_skip, Mi.evS_seq, Mi.evS_set, Mi.evS_setT, Mi.evS_put, Mi.evS_app, Mi.evS_drop, Mi.evS_ret, Mi.evS_ite, Mi.evS_for, Mi.evS_while, Mi.evS_raise, Mi.sto_some, Mi.sto_none, Mi.val_nx, Mi.val_rt, Mi.setTg_nm, Mi.setTg_nil, Mi.setTg_cons, Mi.wipe_nil, Mi.wipe_cons, Mi.forR_nil, Mi.truV_bl, Mi.truV_non, Mi.truV_int, Mi.add_ii, Mi.sub_ii, Mi.lt_ii, Mi.le_ii, Mi.gt_ii, Mi.ge_ii, Mi.isn_v, Mi.notn_v, Mi.isN_non, Mi.isN_int, Mi.isN_tup, Mi.isN_bl, Mi.isN_str, Mi.eq_ii, Mi.ne_ii, Mi.eq_ss, Mi.ne_ss, Mi.neg_i, Mi.walk_lst, Mi.walk_tup, Mi.walk_scr, Mi.len_tup, Mi.len_lst, Mi.len_scr, Mi.tuple_lst, Mi.tuple_tup, Mi.list_tup, Mi.list_lst, Mi.int_int, Mi.int_bl, Mi.abs_int, Mi.min_int, Mi.max_int, Mi.isi_def, Mi.sum_lst, Mi.all_lst, Mi.any_lst, Mi.ints_map, Mi.bools_map, R.bind_ok, R.bind_ex, R.bind_bad, R.lift_some, R.noEx_ok, List.getElem?_cons_zero, List.getElem?_cons_succ, Option.bind_some, Option.map_some, Option.bind_eq_bind, id_eq, List.set_cons_zero, List.set_cons_succ, if_true, if_false, Bool.false_eq_true, reduceIte, Bool.not_true, Bool.not_false, Ex.isOmit, strQ, Mi.ix_tup, i0, nin, deedB]
        rcases Bool.eq_false_or_eq_true (wordB (.str w) words) with qw | qw
        rotate_left
        · simp (implicitDefEqProofs := false) only [Mi.seqK_nx, Mi.seqK_rt, Mi.andK_t, Mi.andK_f, Mi.orK_t, Mi.orK_f, Mi.forB_nm, Mi.forB_2, Mi.binK2_d, Mi.binK1_d, Mi.negK_d, Mi.truK_d, Mi.tstK_d, Mi.notK_d, Mi.cmpK2_d, Mi.cmpK1_d, Mi.chnK3_t, Mi.chnK3_f, Mi.chnK2_d, Mi.chnK1_d, Mi.iteK_t, Mi.iteK_f, Mi.tupK_d, Mi.lstK_d, Mi.cellK_d, Mi.callK_d, Mi.biK_d, Mi.idxK2_d, Mi.idxK1_d, Mi.sliK3_t, Mi.sliK3_l, Mi.oIntK_i, Mi.sliK2_d, Mi.sliK1_d, Mi.lcT_d, Mi.lcE_d, Mi.lcK_d, Mi.lrgK2_d, Mi.lrgK1_d, Mi.consK2_d, Mi.consK1_d, Mi.rng1K_d, Mi.rng2K2_d, Mi.rng2K1_d, Mi.zipO_d, Mi.zipK2_d, Mi.zipK1_d, Mi.enuK_d, Mi.sqK_d, Mi.setK_d, Mi.setTK_d, Mi.putK3_d, Mi.putK2_d, Mi.putK1_d, Mi.appK2_d, Mi.appK1_d, Mi.dropK_d, Mi.retK_d, Mi.iteS_t, Mi.iteS_f, Mi.forK_d, Mi.turnK2_d, Mi.turnK1_t, Mi.turnK1_f, Mi.whK_t, Mi.whK_f, Mi.lcB_nm, Mi.lcB_2, Mi.evE_var, Mi.evE_non, Mi.evE_bl, Mi.evE_int, Mi.evE_str, Mi.evE_gl, Mi.evE_bty, Mi.evE_bin, Mi.evE_neg, Mi.evE_not, Mi.evE_and, Mi.evE_or, Mi.evE_cmp, Mi.evE_chn, Mi.evE_ite, Mi.evE_tup, Mi.evE_lst, Mi.evE_cell, Mi.evE_call, Mi.callP_sto, Mi.evE_bi, Mi.evE_idx, Mi.evE_sli, Mi.evE_lc, Mi.evE_lrg, Mi.evE_lrd, Mi.evA_nil, Mi.evA_cons, Mi.evI_rng1, Mi.evI_rng2, Mi.evI_zip, Mi.evI_enu, Mi.evI_sq, Mi.tstR_false, Mi.tstR_true, Mi.optR_false, Mi.optR_true, Mi.oInt_int, Mi.isOmit_omit, Mi.evS_skip, Mi.evS_seq, Mi.evS_set, Mi.evS_setT, Mi.evS_put, Mi.evS_app, Mi.evS_drop, Mi.evS_ret, Mi.evS_ite, Mi.evS_for, Mi.evS_while, Mi.evS_raise, Mi.sto_some, Mi.sto_none, Mi.val_nx, Mi.val_rt, Mi.setTg_nm, Mi.setTg_nil, Mi.setTg_cons, Mi.wipe_nil, Mi.wipe_cons, Mi.forR_nil, Mi.truV_bl, Mi.truV_non, Mi.truV_int, Mi.add_ii, Mi.sub_ii, Mi.lt_ii, Mi.le_ii, Mi.gt_ii, Mi.ge_ii, Mi.isn_v, Mi.notn_v, Mi.isN_non, Mi.isN_int, Mi.isN_tup, Mi.isN_bl, Mi.isN_str, Mi.eq_ii, Mi.ne_ii, Mi.eq_ss, Mi.ne_ss, Mi.neg_i, Mi.walk_lst, Mi.walk_tup, Mi.walk_scr, Mi.len_tup, Mi.len_lst, Mi.len_scr, Mi.tuple_lst, Mi.tuple_tup, Mi.list_tup, Mi.list_lst, Mi.int_int, Mi.int_bl, Mi.abs_int, Mi.min_int, Mi.max_int, Mi.isi_def, Mi.sum_lst, Mi.all_lst, Mi.any_lst, Mi.ints_map, Mi.bools_map, R.bind_ok, R.bind_ex, R.bind_bad, R.lift_some, R.noEx_ok, List.getElem?_cons_zero, List.getElem?_cons_succ, Option.bind_some, Option.map_some, Option.bind_eq_bind, id_eq, List.set_cons_zero, List.set_cons_succ, if_true, if_false, Bool.false_eq_true, reduceIte, Bool.not_true, Bool.not_false, Ex.isOmit, qw, Bool.false_and]
        · simp (implicitDefEqProofs := false) only [Mi.seqK_nx, Mi.seqK_rt, Mi.andK_t, Mi.andK_f, Mi.orK_t, Mi.orK_f, Mi.forB_nm, Mi.forB_2, Mi.binK2_d, Mi.binK1_d, Mi.negK_d, Mi.truK_d, Mi.tstK_d, Mi.notK_d, Mi.cmpK2_d, Mi.cmpK1_d, Mi.chnK3_t, Mi.chnK3_f, Mi.chnK2_d, Mi.chnK1_d, Mi.iteK_t, Mi.iteK_f, Mi.tupK_d, Mi.lstK_d, Mi.cellK_d, Mi.callK_d, Mi.biK_d, Mi.idxK2_d, Mi.idxK1_d, Mi.sliK3_t, Mi.sliK3_l, Mi.oIntK_i, Mi.sliK2_d, Mi.sliK1_d, Mi.lcT_d, Mi.lcE_d, Mi.lcK_d, Mi.lrgK2_d, Mi.lrgK1_d, Mi.consK2_d, Mi.consK1_d, Mi.rng1K_d, Mi.rng2K2_d, Mi.rng2K1_d, Mi.zipO_d, Mi.zipK2_d, Mi.zipK1_d, Mi.enuK_d, Mi.sqK_d, Mi.setK_d, Mi.setTK_d, Mi.putK3_d, Mi.putK2_d, Mi.putK1_d, Mi.appK2_d, Mi.appK1_d, Mi.dropK_d, Mi.retK_d, Mi.iteS_t, Mi.iteS_f, Mi.forK_d, Mi.turnK2_d, Mi.turnK1_t, Mi.turnK1_f, Mi.whK_t, Mi.whK_f, Mi.lcB_nm, Mi.lcB_2, Mi.evE_var, Mi.evE_non, Mi.evE_bl, Mi.evE_int, Mi.evE_str, Mi.evE_gl, Mi.evE_bty, Mi.evE_bin, Mi.evE_neg, Mi.evE_not, Mi.evE_and, Mi.evE_or, Mi.evE_cmp, Mi.evE_chn, Mi.evE_ite, Mi.evE_tup, Mi.evE_lst, Mi.evE_cell, Mi.evE_call, Mi.callP_sto, Mi.evE_bi, Mi.evE_idx, Mi.evE_sli, Mi.evE_lc, Mi.evE_lrg, Mi.evE_lrd, Mi.evA_nil, Mi.evA_cons, Mi.evI_rng1, Mi.evI_rng2, Mi.evI_zip, Mi.evI_enu, Mi.evI_sq, Mi.tstR_false, Mi.tstR_true, Mi.optR_false, Mi.optR_true, Mi.oInt_int, Mi.isOmit_omit, Mi.evS_skip, Mi.evS_seq, Mi.evS_set, Mi.evS_setT, Mi.evS_put, Mi.evS_app, Mi.evS_drop, Mi.evS_ret, Mi.evS_ite, Mi.evS_for, Mi.evS_while, Mi.evS_raise, Mi.sto_some, Mi.sto_none, Mi.val_nx, Mi.val_rt, Mi.setTg_nm, Mi.setTg_nil, Mi.setTg_cons, Mi.wipe_nil, Mi.wipe_cons, Mi.forR_nil, Mi.truV_bl, Mi.truV_non, Mi.truV_int, Mi.add_ii, Mi.sub_ii, Mi.lt_ii, Mi.le_ii, Mi.gt_ii, Mi.ge_ii, Mi.isn_v, Mi.notn_v, Mi.isN_non, Mi.isN_int, Mi.isN_tup, Mi.isN_bl, Mi.isN_str, Mi.eq_ii, Mi.ne_ii, Mi.eq_ss, Mi.ne_ss, Mi.neg_i, Mi.walk_lst, Mi.walk_tup, Mi.walk_scr, Mi.len_tup, Mi.len_lst, Mi.len_scr, Mi.tuple_lst, Mi.tuple_tup, Mi.list_tup, Mi.list_lst, Mi.int_int, Mi.int_bl, Mi.abs_int, Mi.min_int, Mi.max_int, Mi.isi_def, Mi.sum_lst, Mi.all_lst, Mi.any_lst, Mi.ints_map, Mi.bools_map, R.bind_ok, R.bind_ex, R.bind_bad, R.lift_some, R.noEx_ok, List.getElem?_cons_zero, List.getElem?_cons_succ, Option.bind_some, Option.map_some, Option.bind_eq_bind, id_eq, List.set_cons_zero, List.set_cons_succ, if_true, if_false, Bool.false_eq_true, reduceIte, Bool.not_true, Bool.not_false, Ex.isOmit, qw, Bool.true_and, Mi.ix_tup, i1, law_is_int_v _ _ _ hb.sh]
          rcases Bool.eq_false_or_eq_true (numB b 0 ((many : Int) - 1)) with qb | qb <;> simp (implicitDefEqProofs := false) only [Mi.seqK_nx, Mi.seqK_rt, Mi.andK_t, Mi.andK_f, Mi.orK_t, Mi.orK_f, Mi.forB_nm, Mi.forB_2, Mi.binK2_d, Mi.binK1_d, Mi.negK_d, Mi.truK_d, Mi.tstK_d, Mi.notK_d, Mi.cmpK2_d, Mi.cmpK1_d, Mi.chnK3_t, Mi.chnK3_f, Mi.chnK2_d, Mi.chnK1_d, Mi.iteK_t, Mi.iteK_f, Mi.tupK_d, Mi.lstK_d, Mi.cellK_d, Mi.callK_d, Mi.biK_d, Mi.idxK2_d, Mi.idxK1_d, Mi.sliK3_t, Mi.sliK3_l, Mi.oIntK_i, Mi.sliK2_d, Mi.sliK1_d, Mi.lcT_d, Mi.lcE_d, Mi.lcK_d, Mi.lrgK2_d, Mi.lrgK1_d, Mi.consK2_d, Mi.consK1_d, Mi.rng1K_d, Mi.rng2K2_d, Mi.rng2K1_d, Mi.zipO_d, Mi.zipK2_d, Mi.zipK1_d, Mi.enuK_d, Mi.sqK_d, Mi.setK_d, Mi.setTK_d, Mi.putK3_d, Mi.putK2_d, Mi.putK1_d, Mi.appK2_d, Mi.appK1_d, Mi.dropK_d, Mi.retK_d, Mi.iteS_t, Mi.iteS_f, Mi.forK_d, Mi.turnK2_d, Mi.turnK1_t, Mi.turnK1_f, Mi.whK_t, Mi.whK_f, Mi.lcB_nm, Mi.lcB_2, Mi.evE_var, Mi.evE_non, Mi.evE_bl, Mi.evE_int, Mi.evE_str, Mi.evE_gl, Mi.evE_bty, Mi.evE_bin, Mi.evE_neg, Mi.evE_not, Mi.evE_and, Mi.evE_or, Mi.evE_cmp, Mi.evE_chn, Mi.evE_ite, Mi.evE_tup, Mi.evE_lst, Mi.evE_cell, Mi.evE_call, Mi.callP_sto, Mi.evE_bi, Mi.evE_idx, Mi.evE_sli, Mi.evE_lc, Mi.evE_lrg, Mi.evE_lrd, Mi.evA_nil, Mi.evA_cons, Mi.evI_rng1, Mi.evI_rng2, Mi.evI_zip, Mi.evI_enu, Mi.evI_sq, Mi.tstR_false, Mi.tstR_true, Mi.optR_false, Mi.optR_true, Mi.oInt_int, Mi.isOmit_omit, Mi.evS_skip, Mi.evS_seq, Mi.evS_set, Mi.evS_setT, Mi.evS_put, Mi.evS_app, Mi.evS_drop, Mi.evS_ret, Mi.evS_ite, Mi.evS_for, Mi.evS_while, Mi.evS_raise, Mi.sto_some, Mi.sto_none, Mi.val_nx, Mi.val_rt, Mi.setTg_nm, Mi.setTg_nil, Mi.setTg_cons, Mi.wipe_nil, Mi.wipe_cons, Mi.forR_nil, Mi.truV_bl, Mi.truV_non, Mi.truV_int, Mi.add_ii, Mi.sub_ii, Mi.lt_ii, Mi.le_ii, Mi.gt_ii, Mi.ge_ii, Mi.isn_v, Mi.notn_v, Mi.isN_non, Mi.isN_int, Mi.isN_tup, Mi.isN_bl, Mi.isN_str, Mi.eq_ii, Mi.ne_ii, Mi.eq_ss, Mi.ne_ss, Mi.neg_i, Mi.walk_lst, Mi.walk_tup, Mi.walk_scr, Mi.len_tup, Mi.len_lst, Mi.len_scr, Mi.tuple_lst, Mi.tuple_tup, Mi.list_tup, Mi.list_lst, Mi.int_int, Mi.int_bl, Mi.abs_int, Mi.min_int, Mi.max_int, Mi.isi_def, Mi.sum_lst, Mi.all_lst, Mi.any_lst, Mi.ints_map, Mi.bools_map, R.bind_ok, R.bind_ex, R.bind_bad, R.lift_some, R.noEx_ok, List.getElem?_cons_zero, List.getElem?_cons_succ, Option.bind_some, Option.map_some, Option.bind_eq_bind, id_eq, List.set_cons_zero, List.set_cons_succ, if_true, if_false, Bool.false_eq_true, reduceIte, Bool.not_true, Bool.not_false, Ex.isOmit, qb]
      · have e : strQ a = false := by cases a <;> first | rfl | exact absurd ⟨_, rfl⟩ qa
        have e2 : deedB many (.tup [a, b]) = false := by
          show (wordB a words && _) = false
          have : wordB a words = false := by cases a <;> first | rfl | exact absurd ⟨_, rfl⟩ qa
          rw [this]; rfl
        simp (implicitDefEqProofs := false) only [Mi.seqK_nx, Mi.seqK_rt, Mi.andK_t, Mi.andK_f, Mi.orK_t, Mi.orK_f, Mi.forB_nm, Mi.forB_2, Mi.binK2_d, Mi.binK1_d, Mi.negK_d, Mi.truK_d, Mi.tstK_d, Mi.notK_d, Mi.cmpK2_d, Mi.cmpK1_d, Mi.chnK3_t, Mi.chnK3_f, Mi.chnK2_d, Mi.chnK1_d, Mi.iteK_t, Mi.iteK_f, Mi.tupK_d, Mi.lstK_d, Mi.cellK_d, Mi.callK_d, Mi.biK_d, Mi.idxK2_d, Mi.idxK1_d, Mi.sliK3_t, Mi.sliK3_l, Mi.oIntK_i, Mi.sliK2_d, Mi.sliK1_d, Mi.lcT_d, Mi.lcE_d, Mi.lcK_d, Mi.lrgK2_d, Mi.lrgK1_d, Mi.consK2_d, Mi.consK1_d, Mi.rng1K_d, Mi.rng2K2_d, Mi.rng2K1_d, Mi.zipO_d, Mi.zipK2_d, Mi.zipK1_d, Mi.enuK_d, Mi.sqK_d, Mi.setK_d, Mi.setTK_d, Mi.putK3_d, Mi.putK2_d, Mi.putK1_d, Mi.appK2_d, Mi.appK1_d, Mi.dropK_d, Mi.retK_d, Mi.iteS_t, Mi.iteS_f, Mi.forK_d, Mi.turnK2_d, Mi.turnK1_t, Mi.turnK1_f, Mi.whK_t, Mi.whK_f, Mi.lcB_nm, Mi.lcB_2, Mi.evE_var, Mi.evE_non, Mi.evE_bl, Mi.evE_int, Mi.evE_str, Mi.evE_gl, Mi.evE_bty, Mi.evE_bin, Mi.evE_neg, Mi.evE_not, Mi.evE_and, Mi.evE_or, Mi.evE_cmp, Mi.evE_chn, Mi.evE_ite, Mi.evE_tup, Mi.evE_lst, Mi.evE_cell, Mi.evE_call, Mi.callP_sto, Mi.evE_bi, Mi.evE_idx, Mi.evE_sli, Mi.evE_lc, Mi.evE_lrg, Mi.evE_lrd, Mi.evA_nil, Mi.evA_cons, Mi.evI_rng1, Mi.evI_rng2, Mi.evI_zip, Mi.evI_enu, Mi.evI_sq, Mi.tstR_false, Mi.tstR_true, Mi.optR_false, Mi.optR_true, Mi.oInt_int, Mi.isOmit_omit, Mi.evS_skip, Mi.evS_seq, Mi.evS_set, Mi.evS_setT, Mi.evS_put, Mi.evS_app, Mi.evS_drop, Mi.evS_ret, Mi.evS_ite, Mi.evS_for, Mi.evS_while, Mi.evS_raise, Mi.sto_some, Mi.sto_none, Mi.val_nx, Mi.val_rt, Mi.setTg_nm, Mi.setTg_nil, Mi.setTg_cons, Mi.wipe_nil, Mi.wipe_cons, Mi.forR_nil, Mi.truV_bl, Mi.truV_non, Mi.truV_int, Mi.add_ii, Mi.sub_ii, Mi.lt_ii, Mi.le_ii, Mi.gt_ii, Mi.ge_ii, Mi.isn_v, Mi.notn_v, Mi.isN_non, Mi.isN_int, Mi.isN_tup, Mi.isN_bl, Mi.isN_str, Mi.eq_ii, Mi.ne_ii, Mi.eq_ss, Mi.ne_ss, Mi.neg_i, Mi.walk_lst, Mi.walk_tup, Mi.walk_scr, Mi.len_tup, Mi.len_lst, Mi.len_scr, Mi.tuple_lst, Mi.tuple_tup, Mi.list_tup, Mi.list_lst, Mi.int_int, Mi.int_bl, Mi.abs_int, Mi.min_int, Mi.max_int, Mi.isi_def, Mi.sum_lst, Mi.all_lst, Mi.any_lst, Mi.ints_map, Mi.bools_map, R.bind_ok, R.bind_ex, R.bind_bad, R.lift_some, R.noEx_ok, List.getElem?_cons_zero, List.getElem?_cons_succ, Option.bind_some, Option.map_some, Option.bind_eq_bind, id_eq, List.set_cons_zero, List.set_cons_succ, if_true, if_false, Bool.false_eq_true, reduceIte, Bool.not_true, Bool.not_false, Ex.isOmit, e, e2]
    · have ln : (((xs.length : Nat) : Int) == 2) = false := len_ne _ 2 q3
      have e2 : deedB many (.tup xs) = false := by
        match xs, q3 with
        | [], _ => rfl
        | [_], _ => rfl
        | [_, _], q => exact absurd rfl q
        | _ :: _ :: _ :: _, _ => rfl
      simp (implicitDefEqProofs := false) only [Mi.seqK_nx, Mi.seqK_rt, Mi.andK_t, Mi.andK_f, Mi.orK_t, Mi.orK_f, Mi.forB_nm, Mi.forB_2, Mi.binK2_d, Mi.binK1_d, Mi.negK_d, Mi.truK_d, Mi.tstK_d, Mi.notK_d, Mi.cmpK2_d, Mi.cmpK1_d, Mi.chnK3_t, Mi.chnK3_f, Mi.chnK2_d, Mi.chnK1_d, Mi.iteK_t, Mi.iteK_f, Mi.tupK_d, Mi.lstK_d, Mi.cellK_d, Mi.callK_d, Mi.biK_d, Mi.idxK2_d, Mi.idxK1_d, Mi.sliK3_t, Mi.sliK3_l, Mi.oIntK_i, Mi.sliK2_d, Mi.sliK1_d, Mi.lcT_d, Mi.lcE_d, Mi.lcK_d, Mi.lrgK2_d, Mi.lrgK1_d, Mi.consK2_d, Mi.consK1_d, Mi.rng1K_d, Mi.rng2K2_d, Mi.rng2K1_d, Mi.zipO_d, Mi.zipK2_d, Mi.zipK1_d, Mi.enuK_d, Mi.sqK_d, Mi.setK_d, Mi.setTK_d, Mi.putK3_d, Mi.putK2_d, Mi.putK1_d, Mi.appK2_d, Mi.appK1_d, Mi.dropK_d, Mi.retK_d, Mi.iteS_t, Mi.iteS_f, Mi.forK_d, Mi.turnK2_d, Mi.turnK1_t, Mi.turnK1_f, Mi.whK_t, Mi.whK_f, Mi.lcB_nm, Mi.lcB_2, Mi.evE_var, Mi.evE_non, Mi.evE_bl, Mi.evE_int, Mi.evE_str, Mi.evE_gl, Mi.evE_bty, Mi.evE_bin, Mi.evE_neg, Mi.evE_not, Mi.evE_and, Mi.evE_or, Mi.evE_cmp, Mi.evE_chn, Mi.evE_ite, Mi.evE_tup, Mi.evE_lst, Mi.evE_cell, Mi.evE_call, Mi.callP_sto, Mi.evE_bi, Mi.evE_idx, Mi.evE_sli, Mi.evE_lc, Mi.evE_lrg, Mi.evE_lrd, Mi.evA_nil, Mi.evA_cons, Mi.evI_rng1, Mi.evI_rng2, Mi.evI_zip, Mi.evI_enu, Mi.evI_sq, Mi.tstR_false, Mi.tstR_true, Mi.optR_false, Mi.optR_true, Mi.oInt_int, Mi.isOmit_omit, Mi.evS_skip, Mi.evS_seq, Mi.evS_set, Mi.evS_setT, Mi.evS_put, Mi.evS_app, Mi.evS_drop, Mi.evS_ret, Mi.evS_ite, Mi.evS_for, Mi.evS_while, Mi.evS_raise, Mi.sto_some, Mi.sto_none, Mi.val_nx, Mi.val_rt, Mi.setTg_nm, Mi.setTg_nil, Mi.setTg_cons, Mi.wipe_nil, Mi.wipe_cons, Mi.forR_nil, Mi.truV_bl, Mi.truV_non, Mi.truV_int, Mi.add_ii, Mi.sub_ii, Mi.lt_ii, Mi.le_ii, Mi.gt_ii, Mi.ge_ii, Mi.isn_v, Mi.notn_v, Mi.isN_non, Mi.isN_int, Mi.isN_tup, Mi.isN_bl, Mi.isN_str, Mi.eq_ii, Mi.ne_ii, Mi.eq_ss, Mi.ne_ss, Mi.neg_i, Mi.walk_lst, Mi.walk_tup, Mi.walk_scr, Mi.len_tup, Mi.len_lst, Mi.len_scr, Mi.tuple_lst, Mi.tuple_tup, Mi.list_tup, Mi.list_lst, Mi.int_int, Mi.int_bl, Mi.abs_int, Mi.min_int, Mi.max_int, Mi.isi_def, Mi.sum_lst, Mi.all_lst, Mi.any_lst, Mi.ints_map, Mi.bools_map, R.bind_ok, R.bind_ex, R.bind_bad, R.lift_some, R.noEx_ok, List.getElem?_cons_zero, List.getElem?_cons_succ, Option.bind_some, Option.map_some, Option.bind_eq_bind, id_eq, List.set_cons_zero, List.set_cons_succ, if_true, if_false, Bool.false_eq_true, reduceIte, Bool.not_true, Bool.not_false, Ex.isOmit, scriptBd, b36, isi_tupQ h.sh, tupQ, ln, e2]
  · have e : deedB many x = false := by cases x <;> first | rfl | exact absurd ⟨_, rfl⟩ q
    have e2 : isiV x "tuple" = some false := by rw [isi_tup h.sh]; cases x <;> first | rfl | exact absurd ⟨_, rfl⟩ q
    simp (implicitDefEqProofs := false) only [Mi.seqK_nx, Mi.seqK_rt, Mi.andK_t, Mi.andK_f, Mi.orK_t, Mi.orK_f, Mi.forB_nm, Mi.forB_2, Mi.binK2_d, Mi.binK1_d, Mi.negK_d, Mi.truK_d, Mi.tstK_d, Mi.notK_d, Mi.cmpK2_d, Mi.cmpK1_d, Mi.chnK3_t, Mi.chnK3_f, Mi.chnK2_d, Mi.chnK1_d, Mi.iteK_t, Mi.iteK_f, Mi.tupK_d, Mi.lstK_d, Mi.cellK_d, Mi.callK_d, Mi.biK_d, Mi.idxK2_d, Mi.idxK1_d, Mi.sliK3_t, Mi.sliK3_l, Mi.oIntK_i, Mi.sliK2_d, Mi.sliK1_d, Mi.lcT_d, Mi.lcE_d, Mi.lcK_d, Mi.lrgK2_d, Mi.lrgK1_d, Mi.consK2_d, Mi.consK1_d, Mi.rng1K_d, Mi.rng2K2_d, Mi.rng2K1_d, Mi.zipO_d, Mi.zipK2_d, Mi.zipK1_d, Mi.enuK_d, Mi.sqK_d, Mi.setK_d, Mi.setTK_d, Mi.putK3_d, Mi.putK2_d, Mi.putK1_d, Mi.appK2_d, Mi.appK1_d, Mi.dropK_d, Mi.retK_d, Mi.iteS_t, Mi.iteS_f, Mi.forK_d, Mi.turnK2_d, Mi.turnK1_t, Mi.turnK1_f, Mi.whK_t, Mi.whK_f, Mi.lcB_nm, Mi.lcB_2, Mi.evE_var, Mi.evE_non, Mi.evE_bl, Mi.evE_int, Mi.evE_str, Mi.evE_gl, Mi.evE_bty, Mi.evE_bin, Mi.evE_neg, Mi.evE_not, Mi.evE_and, Mi.evE_or, Mi.evE_cmp, Mi.evE_chn, Mi.evE_ite, Mi.evE_tup, Mi.evE_lst, Mi.evE_cell, Mi.evE_call, Mi.callP_sto, Mi.evE_bi, Mi.evE_idx, Mi.evE_sli, Mi.evE_lc, Mi.evE_lrg, Mi.evE_lrd, Mi.evA_nil, Mi.evA_cons, Mi.evI_rng1, Mi.evI_rng2, Mi.evI_zip, Mi.evI_enu, Mi.evI_sq, Mi.tstR_false, Mi.tstR_true, Mi.optR_false, Mi.optR_true, Mi.oInt_int, Mi.isOmit_omit, Mi.evS_skip, Mi.evS_seq, Mi.evS_set, Mi.evS_setT, Mi.evS_put, Mi.evS_app, Mi.evS_drop, Mi.evS_ret, Mi.evS_ite, Mi.evS_for, Mi.evS_while, Mi.evS_raise, Mi.sto_some, Mi.sto_none, Mi.val_nx, Mi.val_rt, Mi.setTg_nm, Mi.setTg_nil, Mi.setTg_cons, Mi.wipe_nil, Mi.wipe_cons, Mi.forR_nil, Mi.truV_bl, Mi.truV_non, Mi.truV_int, Mi.add_ii, Mi.sub_ii, Mi.lt_ii, Mi.le_ii, Mi.gt_ii, Mi.ge_ii, Mi.isn_v, Mi.notn_v, Mi.isN_non, Mi.isN_int, Mi.isN_tup, Mi.isN_bl, Mi.isN_str, Mi.eq_ii, Mi.ne_ii, Mi.eq_ss, Mi.ne_ss, Mi.neg_i, Mi.walk_lst, Mi.walk_tup, Mi.walk_scr, Mi.len_tup, Mi.len_lst, Mi.len_scr, Mi.tuple_lst, Mi.tuple_tup, Mi.list_tup, Mi.list_lst, Mi.int_int, Mi.int_bl, Mi.abs_int, Mi.min_int, Mi.max_int, Mi.isi_def, Mi.sum_lst, Mi.all_lst, Mi.any_lst, Mi.ints_map, Mi.bools_map, R.bind_ok, R.bind_ex, R.bind_bad, R.lift_some, R.noEx_ok, List.getElem?_cons_zero, List.getElem?_cons_succ, Option.bind_some, Option.map_some, Option.bind_eq_bind, id_eq, List.set_cons_zero, List.set_cons_succ, if_true, if_false, Bool.false_eq_true, reduceIte, Bool.not_true, Bool.not_false, Ex.isOmit, scriptBd, b36, e2, e]
theorem law_is_script_v (many : Nat) (v : PV) (h : vW v) : RU N (d + 2) 36 [.int many, v] st = .ok (.bl (scriptB many v)) st := by
  rw [RU, u36]
  by_cases q : ∃ xs, v = .tup xs
  · obtain ⟨xs, rfl⟩ := q
    obtain ⟨hl, hx⟩ := h.tup
    by_cases q6 : xs.length ≤ 6
    · obtain ⟨v', e⟩ := for_all (st := st) 2 (evS G (RU N (d + 1)) N scriptBd) (deedB many) [some (.int many), some (.tup xs), none] xs none fun x hm' => law_script_turn many _ x (hx x hm')
      have e1 : scriptB many (.tup xs) = xs.all (deedB many) := by
        show (decide (xs.length ≤ 6) && _) = _
        rw [decide_eq_true q6, Bool.true_and]
      simp (implicitDefEqProofs := false) only [Mi.seqK_nx, Mi.seqK_rt, Mi.andK_t, Mi.andK_f, Mi.orK_t, Mi.orK_f, Mi.forB_nm, Mi.forB_2, Mi.binK2_d, Mi.binK1_d, Mi.negK_d, Mi.truK_d, Mi.tstK_d, Mi.notK_d, Mi.cmpK2_d, Mi.cmpK1_d, Mi.chnK3_t, Mi.chnK3_f, Mi.chnK2_d, Mi.chnK1_d, Mi.iteK_t, Mi.iteK_f, Mi.tupK_d, Mi.lstK_d, Mi.cellK_d, Mi.callK_d, Mi.biK_d, Mi.idxK2_d, Mi.idxK1_d, Mi.sliK3_t, Mi.sliK3_l, Mi.oIntK_i, Mi.sliK2_d, Mi.sliK1_d, Mi.lcT_d, Mi.lcE_d, Mi.lcK_d, Mi.lrgK2_d, Mi.lrgK1_d, Mi.consK2_d, Mi.consK1_d, Mi.rng1K_d, Mi.rng2K2_d, Mi.rng2K1_d, Mi.zipO_d, Mi.zipK2_d, Mi.zipK1_d, Mi.enuK_d, Mi.sqK_d, Mi.setK_d, Mi.setTK_d, Mi.putK3_d, Mi.putK2_d, Mi.putK1_d, Mi.appK2_d, Mi.appK1_d, Mi.dropK_d, Mi.retK_d, Mi.iteS_t, Mi.iteS_f, Mi.forK_d, Mi.turnK2_d, Mi.turnK1_t, Mi.turnK1_f, Mi.whK_t, Mi.whK_f, Mi.lcB_nm, Mi.lcB_2, Mi.evE_var, Mi.evE_non, Mi.evE_bl, Mi.evE_int, Mi.evE_str, Mi.evE_gl, Mi.evE_bty, Mi.evE_bin, Mi.evE_neg, Mi.evE_not, Mi.evE_and, Mi.evE_or, Mi.evE_cmp, Mi.evE_chn, Mi.evE_ite, Mi.evE_tup, Mi.evE_lst, Mi.evE_cell, Mi.evE_call, Mi.callP_sto, Mi.evE_bi, Mi.evE_idx, Mi.evE_sli, Mi.evE_lc, Mi.evE_lrg, Mi.evE_lrd, Mi.evA_nil, Mi.evA_cons, Mi.evI_rng1, Mi.evI_rng2, Mi.evI_zip, Mi.evI_enu, Mi.evI_sq, Mi.tstR_false, Mi.tstR_true, Mi.optR_false, Mi.optR_true, Mi.oInt_int, Mi.isOmit_omit, Mi.evS_skip, Mi.evS_seq, Mi.evS_set, Mi.evS_setT, Mi.evS_put, Mi.evS_app, Mi.evS_drop, Mi.evS_ret, Mi.evS_ite, Mi.evS_for, Mi.evS_while, Mi.evS_raise, Mi.sto_some, Mi.sto_none, Mi.val_nx, Mi.val_rt, Mi.setTg_nm, Mi.setTg_nil, Mi.setTg_cons, Mi.wipe_nil, Mi.wipe_cons, Mi.forR_nil, Mi.truV_bl, Mi.truV_non, Mi.truV_int, Mi.add_ii, Mi.sub_ii, Mi.lt_ii, Mi.le_ii, Mi.gt_ii, Mi.ge_ii, Mi.isn_v, Mi.notn_v, Mi.isN_non, Mi.isN_int, Mi.isN_tup, Mi.isN_bl, Mi.isN_str, Mi.eq_ii, Mi.ne_ii, Mi.eq_ss, Mi.ne_ss, Mi.neg_i, Mi.walk_lst, Mi.walk_tup, Mi.walk_scr, Mi.len_tup, Mi.len_lst, Mi.len_scr, Mi.tuple_lst, Mi.tuple_tup, Mi.list_tup, Mi.list_lst, Mi.int_int, Mi.int_bl, Mi.abs_int, Mi.min_int, Mi.max_int, Mi.isi_def, Mi.sum_lst, Mi.all_lst, Mi.any_lst, Mi.ints_map, Mi.bools_map, R.bind_ok, R.bind_ex, R.bind_bad, R.lift_some, R.noEx_ok, List.getElem?_cons_zero, List.getElem?_cons_succ, Option.bind_some, Option.map_some, Option.bind_eq_bind, id_eq, List.set_cons_zero, List.set_cons_succ, if_true, if_false, Bool.false_eq_true, reduceIte, Bool.not_true, Bool.not_false, Ex.isOmit, b36, isi_tupQ h.sh, tupQ, decide_eq_false (show ¬ (6 : Int) < ((xs.length : Nat) : Int) by omega)]
      refine (congrArg (fun r : R Fl => (r.bind (seqK (evS txt.mdl.G (runF txt.mdl.G txt.mdl.T N (d + 1)) N (.seq (.ret (.bl true)) .skip)))).bind Fl.val) e).trans ?_
      rw [e1]
      cases xs.all (deedB many) <;> simp (implicitDefEqProofs := false) only [Mi.seqK_nx, Mi.seqK_rt, Mi.andK_t, Mi.andK_f, Mi.orK_t, Mi.orK_f, Mi.forB_nm, Mi.forB_2, Mi.binK2_d, Mi.binK1_d, Mi.negK_d, Mi.truK_d, Mi.tstK_d, Mi.notK_d, Mi.cmpK2_d, Mi.cmpK1_d, Mi.chnK3_t, Mi.chnK3_f, Mi.chnK2_d, Mi.chnK1_d, Mi.iteK_t, Mi.iteK_f, Mi.tupK_d, Mi.lstK_d, Mi.cellK_d, Mi.callK_d, Mi.biK_d, Mi.idxK2_d, Mi.idxK1_d, Mi.sliK3_t, Mi.sliK3_l, Mi.oIntK_i, Mi.sliK2_d, Mi.sliK1_d, Mi.lcT_d, Mi.lcE_d, Mi.lcK_d, Mi.lrgK2_d, Mi.lrgK1_d, Mi.consK2_d, Mi.consK1_d, Mi.rng1K_d, Mi.rng2K2_d, Mi.rng2K1_d, Mi.zipO_d, Mi.zipK2_d, Mi.zipK1_d, Mi.enuK_d, Mi.sqK_d, Mi.setK_d, Mi.setTK_d, Mi.putK3_d, Mi.putK2_d, Mi.putK1_d, Mi.appK2_d, Mi.appK1_d, Mi.dropK_d, Mi.retK_d, Mi.iteS_t, Mi.iteS_f, Mi.forK_d, Mi.turnK2_d, Mi.turnK1_t, Mi.turnK1_f, Mi.whK_t, Mi.whK_f, Mi.lcB_nm, Mi.lcB_2, Mi.evE_var, Mi.evE_non, Mi.evE_bl, Mi.evE_int, Mi.evE_str, Mi.evE_gl, Mi.evE_bty, Mi.evE_bin, Mi.evE_neg, Mi.evE_not, Mi.evE_and, Mi.evE_or, Mi.evE_cmp, Mi.evE_chn, Mi.evE_ite, Mi.evE_tup, Mi.evE_lst, Mi.evE_cell, Mi.evE_call, Mi.callP_sto, Mi.evE_bi, Mi.evE_idx, Mi.evE_sli, Mi.evE_lc, Mi.evE_lrg, Mi.evE_lrd, Mi.evA_nil, Mi.evA_cons, Mi.evI_rng1, Mi.evI_rng2, Mi.evI_zip, Mi.evI_enu, Mi.evI_sq, Mi.tstR_false, Mi.tstR_true, Mi.optR_false, Mi.optR_true, Mi.oInt_int, Mi.isOmit_omit, Mi.evS_skip, Mi.evS_seq, Mi.evS_set, Mi.evS_setT, Mi.evS_put, Mi.evS_app, Mi.evS_drop, Mi.evS_ret, Mi.evS_ite, Mi.evS_for, Mi.evS_while, Mi.evS_raise, Mi.sto_some, Mi.sto_none, Mi.val_nx, Mi.val_rt, Mi.setTg_nm, Mi.setTg_nil, Mi.setTg_cons, Mi.wipe_nil, Mi.wipe_cons, Mi.forR_nil, Mi.truV_bl, Mi.truV_non, Mi.truV_int, Mi.add_ii, Mi.sub_ii, Mi.lt_ii, Mi.le_ii, Mi.gt_ii, Mi.ge_ii, Mi.isn_v, Mi.notn_v, Mi.isN_non, Mi.isN_int, Mi.isN_tup, Mi.isN_bl, Mi.isN_str, Mi.eq_ii, Mi.ne_ii, Mi.eq_ss, Mi.ne_ss, Mi.neg_i, Mi.walk_lst, Mi.walk_tup, Mi.walk_scr, Mi.len_tup, Mi.len_lst, Mi.len_scr, Mi.tuple_lst, Mi.tuple_tup, Mi.list_tup, Mi.list_lst, Mi.int_int, Mi.int_bl, Mi.abs_int, Mi.min_int, Mi.max_int, Mi.isi_def, Mi.sum_lst, Mi.all_lst, Mi.any_lst, Mi.ints_map, Mi.bools_map, R.bind_ok, R.bind_ex, R.bind_bad, R.lift_some, R.noEx_ok, List.getElem?_cons_zero, List.getElem?_cons_succ, Option.bind_some, Option.map_some, Option.bind_eq_bind, id_eq, List.set_cons_zero, List.set_cons_succ, if_true, if_false, Bool.false_eq_true, reduceIte, Bool.not_true, Bool.not_false, Ex.isOmit]
    · have e1 : scriptB many (.tup xs) = false := by
        show (decide (xs.length ≤ 6) && _) = _
        rw [decide_eq_false q6, Bool.false_and]
      simp (implicitDefEqProofs := false) only [Mi.seqK_nx, Mi.seqK_rt, Mi.andK_t, Mi.andK_f, Mi.orK_t, Mi.orK_f, Mi.forB_nm, Mi.forB_2, Mi.binK2_d, Mi.binK1_d, Mi.negK_d, Mi.truK_d, Mi.tstK_d, Mi.notK_d, Mi.cmpK2_d, Mi.cmpK1_d, Mi.chnK3_t, Mi.chnK3_f, Mi.chnK2_d, Mi.chnK1_d, Mi.iteK_t, Mi.iteK_f, Mi.tupK_d, Mi.lstK_d, Mi.cellK_d, Mi.callK_d, Mi.biK_d, Mi.idxK2_d, Mi.idxK1_d, Mi.sliK3_t, Mi.sliK3_l, Mi.oIntK_i, Mi.sliK2_d, Mi.sliK1_d, Mi.lcT_d, Mi.lcE_d, Mi.lcK_d, Mi.lrgK2_d, Mi.lrgK1_d, Mi.consK2_d, Mi.consK1_d, Mi.rng1K_d, Mi.rng2K2_d, Mi.rng2K1_d, Mi.zipO_d, Mi.zipK2_d, Mi.zipK1_d, Mi.enuK_d, Mi.sqK_d, Mi.setK_d, Mi.setTK_d, Mi.putK3_d, Mi.putK2_d, Mi.putK1_d, Mi.appK2_d, Mi.appK1_d, Mi.dropK_d, Mi.retK_d, Mi.iteS_t, Mi.iteS_f, Mi.forK_d, Mi.turnK2_d, Mi.turnK1_t, Mi.turnK1_f, Mi.whK_t, Mi.whK_f, Mi.lcB_nm, Mi.lcB_2, Mi.evE_var, Mi.evE_non, Mi.evE_bl, Mi.evE_int, Mi.evE_str, Mi.evE_gl, Mi.evE_bty, Mi.evE_bin, Mi.evE_neg, Mi.evE_not, Mi.evE_and, Mi.evE_or, Mi.evE_cmp, Mi.evE_chn, Mi.evE_ite, Mi.evE_tup, Mi.evE_lst, Mi.evE_cell, Mi.evE_call, Mi.callP_sto, Mi.evE_bi, Mi.evE_idx, Mi.evE_sli, Mi.evE_lc, Mi.evE_lrg, Mi.evE_lrd, Mi.evA_nil, Mi.evA_cons, Mi.evI_rng1, Mi.evI_rng2, Mi.evI_zip, Mi.evI_enu, Mi.evI_sq, Mi.tstR_false, Mi.tstR_true, Mi.optR_false, Mi.optR_true, Mi.oInt_int, Mi.isOmit_omit, Mi.evS_skip, Mi.evS_seq, Mi.evS_set, Mi.evS_setT, Mi.evS_put, Mi.evS_app, Mi.evS_drop, Mi.evS_ret, Mi.evS_ite, Mi.evS_for, Mi.evS_while, Mi.evS_raise, Mi.sto_some, Mi.sto_none, Mi.val_nx, Mi.val_rt, Mi.setTg_nm, Mi.setTg_nil, Mi.setTg_cons, Mi.wipe_nil, Mi.wipe_cons, Mi.forR_nil, Mi.truV_bl, Mi.truV_non, Mi.truV_int, Mi.add_ii, Mi.sub_ii, Mi.lt_ii, Mi.le_ii, Mi.gt_ii, Mi.ge_ii, Mi.isn_v, Mi.notn_v, Mi.isN_non, Mi.isN_int, Mi.isN_tup, Mi.isN_bl, Mi.isN_str, Mi.eq_ii, Mi.ne_ii, Mi.eq_ss, Mi.ne_ss, Mi.neg_i, Mi.walk_lst, Mi.walk_tup, Mi.walk_scr, Mi.len_tup, Mi.len_lst, Mi.len_scr, Mi.tuple_lst, Mi.tuple_tup, Mi.list_tup, Mi.list_lst, Mi.int_int, Mi.int_bl, Mi.abs_int, Mi.min_int, Mi.max_int, Mi.isi_def, Mi.sum_lst, Mi.all_lst, Mi.any_lst, Mi.ints_map, Mi.bools_map, R.bind_ok, R.bind_ex, R.bind_bad, R.lift_some, R.noEx_ok, List.getElem?_cons_zero, List.getElem?_cons_succ, Option.bind_some, Option.map_some, Option.bind_eq_bind, id_eq, List.set_cons_zero, List.set_cons_succ, if_true, if_false, Bool.false_eq_true, reduceIte, Bool.not_true, Bool.not_false, Ex.isOmit, b36, isi_tupQ h.sh, tupQ, decide_eq_true (show (6 : Int) < ((xs.length : Nat) : Int) by omega), e1]
  · have e : scriptB many v = false := by cases v <;> first | rfl | exact absurd ⟨_, rfl⟩ q
    have e2 : isiV v "tuple" = some false := by rw [isi_tup h.sh]; cases v <;> first | rfl | exact absurd ⟨_, rfl⟩ q
    simp (implicitDefEqProofs := false) only [Mi.seqK_nx, Mi.seqK_rt, Mi.andK_t, Mi.andK_f, Mi.orK_t, Mi.orK_f, Mi.forB_nm, Mi.forB_2, Mi.binK2_d, Mi.binK1_d, Mi.negK_d, Mi.truK_d, Mi.tstK_d, Mi.notK_d, Mi.cmpK2_d, Mi.cmpK1_d, Mi.chnK3_t, Mi.chnK3_f, Mi.chnK2_d, Mi.chnK1_d, Mi.iteK_t, Mi.iteK_f, Mi.tupK_d, Mi.lstK_d, Mi.cellK_d, Mi.callK_d, Mi.biK_d, Mi.idxK2_d, Mi.idxK1_d, Mi.sliK3_t, Mi.sliK3_l, Mi.oIntK_i, Mi.sliK2_d, Mi.sliK1_d, Mi.lcT_d, Mi.lcE_d, Mi.lcK_d, Mi.lrgK2_d, Mi.lrgK1_d, Mi.consK2_d, Mi.consK1_d, Mi.rng1K_d, Mi.rng2K2_d, Mi.rng2K1_d, Mi.zipO_d, Mi.zipK2_d, Mi.zipK1_d, Mi.enuK_d, Mi.sqK_d, Mi.setK_d, Mi.setTK_d, Mi.putK3_d, Mi.putK2_d, Mi.putK1_d, Mi.appK2_d, Mi.appK1_d, Mi.dropK_d, Mi.retK_d, Mi.iteS_t, Mi.iteS_f, Mi.forK_d, Mi.turnK2_d, Mi.turnK1_t, Mi.turnK1_f, Mi.whK_t, Mi.whK_f, Mi.lcB_nm, Mi.lcB_2, Mi.evE_var, Mi.evE_non, Mi.evE_bl, Mi.evE_int, Mi.evE_str, Mi.evE_gl, Mi.evE_bty, Mi.evE_bin, Mi.evE_neg, Mi.evE_not, Mi.evE_and, Mi.evE_or, Mi.evE_cmp, Mi.evE_chn, Mi.evE_ite, Mi.evE_tup, Mi.evE_lst, Mi.evE_cell, Mi.evE_call, Mi.callP_sto, Mi.evE_bi, Mi.evE_idx, Mi.evE_sli, Mi.evE_lc, Mi.evE_lrg, Mi.evE_lrd, Mi.evA_nil, Mi.evA_cons, Mi.evI_rng1, Mi.evI_rng2, Mi.evI_zip, Mi.evI_enu, Mi.evI_sq, Mi.tstR_false, Mi.tstR_true, Mi.optR_false, Mi.optR_true, Mi.oInt_int, Mi.isOmit_omit, Mi.evS_skip, Mi.evS_seq, Mi.evS_set, Mi.evS_setT, Mi.evS_put, Mi.evS_app, Mi.evS_drop, Mi.evS_ret, Mi.evS_ite, Mi.evS_for, Mi.evS_while, Mi.evS_raise, Mi.sto_some, Mi.sto_none, Mi.val_nx, Mi.val_rt, Mi.setTg_nm, Mi.setTg_nil, Mi.setTg_cons, Mi.wipe_nil, Mi.wipe_cons, Mi.forR_nil, Mi.truV_bl, Mi.truV_non, Mi.truV_int, Mi.add_ii, Mi.sub_ii, Mi.lt_ii, Mi.le_ii, Mi.gt_ii, Mi.ge_ii, Mi.isn_v, Mi.notn_v, Mi.isN_non, Mi.isN_int, Mi.isN_tup, Mi.isN_bl, Mi.isN_str, Mi.eq_ii, Mi.ne_ii, Mi.eq_ss, Mi.ne_ss, Mi.neg_i, Mi.walk_lst, Mi.walk_tup, Mi.walk_scr, Mi.len_tup, Mi.len_lst, Mi.len_scr, Mi.tuple_lst, Mi.tuple_tup, Mi.list_tup, Mi.list_lst, Mi.int_int, Mi.int_bl, Mi.abs_int, Mi.min_int, Mi.max_int, Mi.isi_def, Mi.sum_lst, Mi.all_lst, Mi.any_lst, Mi.ints_map, Mi.bools_map, R.bind_ok, R.bind_ex, R.bind_bad, R.lift_some, R.noEx_ok, List.getElem?_cons_zero, List.getElem?_cons_succ, Option.bind_some, Option.map_some, Option.bind_eq_bind, id_eq, List.set_cons_zero, List.set_cons_succ, if_true, if_false, Bool.false_eq_true, reduceIte, Bool.not_true, Bool.not_false, Ex.isOmit, b36, e2, e]
theorem are_facts_v (many : Nat) (hm : 2 ≤ many ∧ many ≤ 4) (v : PV) (h : vW v) : RU N (d + 5) 17 [.int many, v] st = .ok (.bl (factsB many v)) st := by
  rw [RU, u17]
  simp (implicitDefEqProofs := false) only [Mi.seqK_nx, Mi.seqK_rt, Mi.andK_t, Mi.andK_f, Mi.orK_t, Mi.orK_f, Mi.forB_nm, Mi.forB_2, Mi.binK2_d, Mi.binK1_d, Mi.negK_d, Mi.truK_d, Mi.tstK_d, Mi.notK_d, Mi.cmpK2_d, Mi.cmpK1_d, Mi.chnK3_t, Mi.chnK3_f, Mi.chnK2_d, Mi.chnK1_d, Mi.iteK_t, Mi.iteK_f, Mi.tupK_d, Mi.lstK_d, Mi.cellK_d, Mi.callK_d, Mi.biK_d, Mi.idxK2_d, Mi.idxK1_d, Mi.sliK3_t, Mi.sliK3_l, Mi.oIntK_i, Mi.sliK2_d, Mi.sliK1_d, Mi.lcT_d, Mi.lcE_d, Mi.lcK_d, Mi.lrgK2_d, Mi.lrgK1_d, Mi.consK2_d, Mi.consK1_d, Mi.rng1K_d, Mi.rng2K2_d, Mi.rng2K1_d, Mi.zipO_d, Mi.zipK2_d, Mi.zipK1_d, Mi.enuK_d, Mi.sqK_d, Mi.setK_d, Mi.setTK_d, Mi.putK3_d, Mi.putK2_d, Mi.putK1_d, Mi.appK2_d, Mi.appK1_d, Mi.dropK_d, Mi.retK_d, Mi.iteS_t, Mi.iteS_f, Mi.forK_d, Mi.turnK2_d, Mi.turnK1_t, Mi.turnK1_f, Mi.whK_t, Mi.whK_f, Mi.lcB_nm, Mi.lcB_2, Mi.evE_var, Mi.evE_non, Mi.evE_bl, Mi.evE_int, Mi.evE_str, Mi.evE_gl, Mi.evE_bty, Mi.evE_bin, Mi.evE_neg, Mi.evE_not, Mi.evE_and, Mi.evE_or, Mi.evE_cmp, Mi.evE_chn, Mi.evE_ite, Mi.evE_tup, Mi.evE_lst, Mi.evE_cell, Mi.evE_call, Mi.callP_sto, Mi.evE_bi, Mi.evE_idx, Mi.evE_sli, Mi.evE_lc, Mi.evE_lrg, Mi.evE_lrd, Mi.evA_nil, Mi.evA_cons, Mi.evI_rng1, Mi.evI_rng2, Mi.evI_zip, Mi.evI_enu, Mi.evI_sq, Mi.tstR_false, Mi.tstR_true, Mi.optR_false, Mi.optR_true, Mi.oInt_int, Mi.isOmit_omit, Mi.evS_skip, Mi.evS_seq, Mi.evS_set, Mi.evS_setT, Mi.evS_put, Mi.evS_app, Mi.evS_drop, Mi.evS_ret, Mi.evS_ite, Mi.evS_for, Mi.evS_while, Mi.evS_raise, Mi.sto_some, Mi.sto_none, Mi.val_nx, Mi.val_rt, Mi.setTg_nm, Mi.setTg_nil, Mi.setTg_cons, Mi.wipe_nil, Mi.wipe_cons, Mi.forR_nil, Mi.truV_bl, Mi.truV_non, Mi.truV_int, Mi.add_ii, Mi.sub_ii, Mi.lt_ii, Mi.le_ii, Mi.gt_ii, Mi.ge_ii, Mi.isn_v, Mi.notn_v, Mi.isN_non, Mi.isN_int, Mi.isN_tup, Mi.isN_bl, Mi.isN_str, Mi.eq_ii, Mi.ne_ii, Mi.eq_ss, Mi.ne_ss, Mi.neg_i, Mi.walk_lst, Mi.walk_tup, Mi.walk_scr, Mi.len_tup, Mi.len_lst, Mi.len_scr, Mi.tuple_lst, Mi.tuple_tup, Mi.list_tup, Mi.list_lst, Mi.int_int, Mi.int_bl, Mi.abs_int, Mi.min_int, Mi.max_int, Mi.isi_def, Mi.sum_lst, Mi.all_lst, Mi.any_lst, Mi.ints_map, Mi.bools_map, R.bind_ok, R.bind_ex, R.bind_bad, R.lift_some, R.noEx_ok, List.getElem?_cons_zero, List.getElem?_cons_succ, Option.bind_some, Option.map_some, Option.bind_eq_bind, id_eq, List.set_cons_zero, List.set_cons_succ, if_true, if_false, Bool.false_eq_true, reduceIte, Bool.not_true, Bool.not_false, Ex.isOmit, b17, need_many (N := N) (d := d + 2) (st := st) many hm, are_good_facts_v (N := N) (d := d) (st := st) many v h]
theorem are_sizes_v (many : Nat) (hm : 2 ≤ many ∧ many ≤ 4) (v : PV) (h : vW v) : RU N (d + 3) 18 [.int many, v] st = .ok (.bl (sizesB many v)) st := by
  rw [RU, u18]
  simp (implicitDefEqProofs := false) only [Mi.seqK_nx, Mi.seqK_rt, Mi.andK_t, Mi.andK_f, Mi.orK_t, Mi.orK_f, Mi.forB_nm, Mi.forB_2, Mi.binK2_d, Mi.binK1_d, Mi.negK_d, Mi.truK_d, Mi.tstK_d, Mi.notK_d, Mi.cmpK2_d, Mi.cmpK1_d, Mi.chnK3_t, Mi.chnK3_f, Mi.chnK2_d, Mi.chnK1_d, Mi.iteK_t, Mi.iteK_f, Mi.tupK_d, Mi.lstK_d, Mi.cellK_d, Mi.callK_d, Mi.biK_d, Mi.idxK2_d, Mi.idxK1_d, Mi.sliK3_t, Mi.sliK3_l, Mi.oIntK_i, Mi.sliK2_d, Mi.sliK1_d, Mi.lcT_d, Mi.lcE_d, Mi.lcK_d, Mi.lrgK2_d, Mi.lrgK1_d, Mi.consK2_d, Mi.consK1_d, Mi.rng1K_d, Mi.rng2K2_d, Mi.rng2K1_d, Mi.zipO_d, Mi.zipK2_d, Mi.zipK1_d, Mi.enuK_d, Mi.sqK_d, Mi.setK_d, Mi.setTK_d, Mi.putK3_d, Mi.putK2_d, Mi.putK1_d, Mi.appK2_d, Mi.appK1_d, Mi.dropK_d, Mi.retK_d, Mi.iteS_t, Mi.iteS_f, Mi.forK_d, Mi.turnK2_d, Mi.turnK1_t, Mi.turnK1_f, Mi.whK_t, Mi.whK_f, Mi.lcB_nm, Mi.lcB_2, Mi.evE_var, Mi.evE_non, Mi.evE_bl, Mi.evE_int, Mi.evE_str, Mi.evE_gl, Mi.evE_bty, Mi.evE_bin, Mi.evE_neg, Mi.evE_not, Mi.evE_and, Mi.evE_or, Mi.evE_cmp, Mi.evE_chn, Mi.evE_ite, Mi.evE_tup, Mi.evE_lst, Mi.evE_cell, Mi.evE_call, Mi.callP_sto, Mi.evE_bi, Mi.evE_idx, Mi.evE_sli, Mi.evE_lc, Mi.evE_lrg, Mi.evE_lrd, Mi.evA_nil, Mi.evA_cons, Mi.evI_rng1, Mi.evI_rng2, Mi.evI_zip, Mi.evI_enu, Mi.evI_sq, Mi.tstR_false, Mi.tstR_true, Mi.optR_false, Mi.optR_true, Mi.oInt_int, Mi.isOmit_omit, Mi.evS_skip, Mi.evS_seq, Mi.evS_set, Mi.evS_setT, Mi.evS_put, Mi.evS_app, Mi.evS_drop, Mi.evS_ret, Mi.evS_ite, Mi.evS_for, Mi.evS_while, Mi.evS_raise, Mi.sto_some, Mi.sto_none, Mi.val_nx, Mi.val_rt, Mi.setTg_nm, Mi.setTg_nil, Mi.setTg_cons, Mi.wipe_nil, Mi.wipe_cons, Mi.forR_nil, Mi.truV_bl, Mi.truV_non, Mi.truV_int, Mi.add_ii, Mi.sub_ii, Mi.lt_ii, Mi.le_ii, Mi.gt_ii, Mi.ge_ii, Mi.isn_v, Mi.notn_v, Mi.isN_non, Mi.isN_int, Mi.isN_tup, Mi.isN_bl, Mi.isN_str, Mi.eq_ii, Mi.ne_ii, Mi.eq_ss, Mi.ne_ss, Mi.neg_i, Mi.walk_lst, Mi.walk_tup, Mi.walk_scr, Mi.len_tup, Mi.len_lst, Mi.len_scr, Mi.tuple_lst, Mi.tuple_tup, Mi.list_tup, Mi.list_lst, Mi.int_int, Mi.int_bl, Mi.abs_int, Mi.min_int, Mi.max_int, Mi.isi_def, Mi.sum_lst, Mi.all_lst, Mi.any_lst, Mi.ints_map, Mi.bools_map, R.bind_ok, R.bind_ex, R.bind_bad, R.lift_some, R.noEx_ok, List.getElem?_cons_zero, List.getElem?_cons_succ, Option.bind_some, Option.map_some, Option.bind_eq_bind, id_eq, List.set_cons_zero, List.set_cons_succ, if_true, if_false, Bool.false_eq_true, reduceIte, Bool.not_true, Bool.not_false, Ex.isOmit, b18, need_many (N := N) (d := d) (st := st) many hm, are_good_sizes_v (N := N) (d := d) (st := st) many v h]
theorem is_script_v (many : Nat) (hm : 2 ≤ many ∧ many ≤ 4) (v : PV) (h : vW v) : RU N (d + 4) 19 [.int many, v] st = .ok (.bl (scriptB many v)) st := by
  rw [RU, u19]
  simp (implicitDefEqProofs := false) only [Mi.seqK_nx, Mi.seqK_rt, Mi.andK_t, Mi.andK_f, Mi.orK_t, Mi.orK_f, Mi.forB_nm, Mi.forB_2, Mi.binK2_d, Mi.binK1_d, Mi.negK_d, Mi.truK_d, Mi.tstK_d, Mi.notK_d, Mi.cmpK2_d, Mi.cmpK1_d, Mi.chnK3_t, Mi.chnK3_f, Mi.chnK2_d, Mi.chnK1_d, Mi.iteK_t, Mi.iteK_f, Mi.tupK_d, Mi.lstK_d, Mi.cellK_d, Mi.callK_d, Mi.biK_d, Mi.idxK2_d, Mi.idxK1_d, Mi.sliK3_t, Mi.sliK3_l, Mi.oIntK_i, Mi.sliK2_d, Mi.sliK1_d, Mi.lcT_d, Mi.lcE_d, Mi.lcK_d, Mi.lrgK2_d, Mi.lrgK1_d, Mi.consK2_d, Mi.consK1_d, Mi.rng1K_d, Mi.rng2K2_d, Mi.rng2K1_d, Mi.zipO_d, Mi.zipK2_d, Mi.zipK1_d, Mi.enuK_d, Mi.sqK_d, Mi.setK_d, Mi.setTK_d, Mi.putK3_d, Mi.putK2_d, Mi.putK1_d, Mi.appK2_d, Mi.appK1_d, Mi.dropK_d, Mi.retK_d, Mi.iteS_t, Mi.iteS_f, Mi.forK_d, Mi.turnK2_d, Mi.turnK1_t, Mi.turnK1_f, Mi.whK_t, Mi.whK_f, Mi.lcB_nm, Mi.lcB_2, Mi.evE_var, Mi.evE_non, Mi.evE_bl, Mi.evE_int, Mi.evE_str, Mi.evE_gl, Mi.evE_bty, Mi.evE_bin, Mi.evE_neg, Mi.evE_not, Mi.evE_and, Mi.evE_or, Mi.evE_cmp, Mi.evE_chn, Mi.evE_ite, Mi.evE_tup, Mi.evE_lst, Mi.evE_cell, Mi.evE_call, Mi.callP_sto, Mi.evE_bi, Mi.evE_idx, Mi.evE_sli, Mi.evE_lc, Mi.evE_lrg, Mi.evE_lrd, Mi.evA_nil, Mi.evA_cons, Mi.evI_rng1, Mi.evI_rng2, Mi.evI_zip, Mi.evI_enu, Mi.evI_sq, Mi.tstR_false, Mi.tstR_true, Mi.optR_false, Mi.optR_true, Mi.oInt_int, Mi.isOmit_omit, Mi.evS_skip, Mi.evS_seq, Mi.evS_set, Mi.evS_setT, Mi.evS_put, Mi.evS_app, Mi.evS_drop, Mi.evS_ret, Mi.evS_ite, Mi.evS_for, Mi.evS_while, Mi.evS_raise, Mi.sto_some, Mi.sto_none, Mi.val_nx, Mi.val_rt, Mi.setTg_nm, Mi.setTg_nil, Mi.setTg_cons, Mi.wipe_nil, Mi.wipe_cons, Mi.forR_nil, Mi.truV_bl, Mi.truV_non, Mi.truV_int, Mi.add_ii, Mi.sub_ii, Mi.lt_ii, Mi.le_ii, Mi.gt_ii, Mi.ge_ii, Mi.isn_v, Mi.notn_v, Mi.isN_non, Mi.isN_int, Mi.isN_tup, Mi.isN_bl, Mi.isN_str, Mi.eq_ii, Mi.ne_ii, Mi.eq_ss, Mi.ne_ss, Mi.neg_i, Mi.walk_lst, Mi.walk_tup, Mi.walk_scr, Mi.len_tup, Mi.len_lst, Mi.len_scr, Mi.tuple_lst, Mi.tuple_tup, Mi.list_tup, Mi.list_lst, Mi.int_int, Mi.int_bl, Mi.abs_int, Mi.min_int, Mi.max_int, Mi.isi_def, Mi.sum_lst, Mi.all_lst, Mi.any_lst, Mi.ints_map, Mi.bools_map, R.bind_ok, R.bind_ex, R.bind_bad, R.lift_some, R.noEx_ok, List.getElem?_cons_zero, List.getElem?_cons_succ, Option.bind_some, Option.map_some, Option.bind_eq_bind, id_eq, List.set_cons_zero, List.set_cons_succ, if_true, if_false, Bool.false_eq_true, reduceIte, Bool.not_true, Bool.not_false, Ex.isOmit, b19, need_many (N := N) (d := d + 1) (st := st) many hm, is_good_script_v (N := N) (d := d) (st := st) many v h]
theorem eq_bb {st : Sto} (a b : Bool) : cmpV st .Eq (.bl a) (.bl b) = some (a == b) := rfl
theorem ne_bb {st : Sto} (a b : Bool) : cmpV st .NotEq (.bl a) (.bl b) = some (!(a == b)) := rfl
theorem told_right (many : Nat) (hm : 2 ≤ many ∧ many ≤ 4) (v : PV) (h : vW v) : RU N (d + 6) 37 [.int many, v] st = .ok (.bl true) st := by
  have hb := big_lt
  rw [RU, u37]
  have m2 : ∀ st : Sto, binV st .Mult (.int 2) (.int (many : Nat)) = some (.int (2 * many)) := fun st => mul_ii (mulOk_l (i := 2) (j := (many : Int)) (by decide) (by decide))
  have pw : ∀ st : Sto, binV st .Pow (.int 10) (.int 12) = some (.int 1000000000000) := fun _ => rfl
  have e1 := are_facts_v (N := N) (d := d) (st := st) many hm v h
  have e2 := are_sizes_v (N := N) (d := d + 2) (st := st) many hm v h
  have e3 := is_script_v (N := N) (d := d + 1) (st := st) many hm v h
  have e4 := law_are_facts_v (N := N) (d := d + 2) (st := st) many (by omega) v h
  have e5 := law_is_script_v (N := N) (d := d + 3) (st := st) many v h
  by_cases q : ∃ xs, v = .tup xs
  · obtain ⟨xs, rfl⟩ := q
    obtain ⟨hl, hx⟩ := h.tup
    by_cases ql : (xs.length : Int) = 2 * many - 1
    · have e0 : sizesB many (.tup xs) = xs.all (fun x => numB x 1 1000000000000) := by
        show (decide ((xs.length : Int) = 2 * many - 1) && _) = _
        rw [decide_eq_true ql, Bool.true_and]
      have eb : ((xs.length : Int) == 2 * (many : Int) - 1) = true := by rw [beq_iff_eq]; exact ql
      simp (implicitDefEqProofs := false) only [Mi.seqK_nx, Mi.seqK_rt, Mi.andK_t, Mi.andK_f, Mi.orK_t, Mi.orK_f, Mi.forB_nm, Mi.forB_2, Mi.binK2_d, Mi.binK1_d, Mi.negK_d, Mi.truK_d, Mi.tstK_d, Mi.notK_d, Mi.cmpK2_d, Mi.cmpK1_d, Mi.chnK3_t, Mi.chnK3_f, Mi.chnK2_d, Mi.chnK1_d, Mi.iteK_t, Mi.iteK_f, Mi.tupK_d, Mi.lstK_d, Mi.cellK_d, Mi.callK_d, Mi.biK_d, Mi.idxK2_d, Mi.idxK1_d, Mi.sliK3_t, Mi.sliK3_l, Mi.oIntK_i, Mi.sliK2_d, Mi.sliK1_d, Mi.lcT_d, Mi.lcE_d, Mi.lcK_d, Mi.lrgK2_d, Mi.lrgK1_d, Mi.consK2_d, Mi.consK1_d, Mi.rng1K_d, Mi.rng2K2_d, Mi.rng2K1_d, Mi.zipO_d, Mi.zipK2_d, Mi.zipK1_d, Mi.enuK_d, Mi.sqK_d, Mi.setK_d, Mi.setTK_d, Mi.putK3_d, Mi.putK2_d, Mi.putK1_d, Mi.appK2_d, Mi.appK1_d, Mi.dropK_d, Mi.retK_d, Mi.iteS_t, Mi.iteS_f, Mi.forK_d, Mi.turnK2_d, Mi.turnK1_t, Mi.turnK1_f, Mi.whK_t, Mi.whK_f, Mi.lcB_nm, Mi.lcB_2, Mi.evE_var, Mi.evE_non, Mi.evE_bl, Mi.evE_int, Mi.evE_str, Mi.evE_gl, Mi.evE_bty, Mi.evE_bin, Mi.evE_neg, Mi.evE_not, Mi.evE_and, Mi.evE_or, Mi.evE_cmp, Mi.evE_chn, Mi.evE_ite, Mi.evE_tup, Mi.evE_lst, Mi.evE_cell, Mi.evE_call, Mi.callP_sto, Mi.evE_bi, Mi.evE_idx, Mi.evE_sli, Mi.evE_lc, Mi.evE_lrg, Mi.evE_lrd, Mi.evA_nil, Mi.evA_cons, Mi.evI_rng1, Mi.evI_rng2, Mi.evI_zip, Mi.evI_enu, Mi.evI_sq, Mi.tstR_false, Mi.tstR_true, Mi.optR_false, Mi.optR_true, Mi.oInt_int, Mi.isOmit_omit, Mi.evS_skip, Mi.evS_seq, Mi.evS_set, Mi.evS_setT, Mi.evS_put, Mi.evS_app, Mi.evS_drop, Mi.evS_ret, Mi.evS_ite, Mi.evS_for, Mi.evS_while, Mi.evS_raise, Mi.sto_some, Mi.sto_none, Mi.val_nx, Mi.val_rt, Mi.setTg_nm, Mi.setTg_nil, Mi.setTg_cons, Mi.wipe_nil, Mi.wipe_cons, Mi.forR_nil, Mi.truV_bl, Mi.truV_non, Mi.truV_int, Mi.add_ii, Mi.sub_ii, Mi.lt_ii, Mi.le_ii, Mi.gt_ii, Mi.ge_ii, Mi.isn_v, Mi.notn_v, Mi.isN_non, Mi.isN_int, Mi.isN_tup, Mi.isN_bl, Mi.isN_str, Mi.eq_ii, Mi.ne_ii, Mi.eq_ss, Mi.ne_ss, Mi.neg_i, Mi.walk_lst, Mi.walk_tup, Mi.walk_scr, Mi.len_tup, Mi.len_lst, Mi.len_scr, Mi.tuple_lst, Mi.tuple_tup, Mi.list_tup, Mi.list_lst, Mi.int_int, Mi.int_bl, Mi.abs_int, Mi.min_int, Mi.max_int, Mi.isi_def, Mi.sum_lst, Mi.all_lst, Mi.any_lst, Mi.ints_map, Mi.bools_map, R.bind_ok, R.bind_ex, R.bind_bad, R.lift_some, R.noEx_ok, List.getElem?_cons_zero, List.getElem?_cons_succ, Option.bind_some, Option.map_some, Option.bind_eq_bind, id_eq, List.set_cons_zero, List.set_cons_succ, if_true, if_false, Bool.false_eq_true, reduceIte, Bool.not_true, Bool.not_false, Ex.isOmit, b37, m2, isi_tupQ h.sh, tupQ, eb]
      rw [filt_of xs _ (fun x => !numB x 1 1000000000000) (by omega) (fun x hm => by
        simp (implicitDefEqProofs := false) only [Mi.seqK_nx, Mi.seqK_rt, Mi.andK_t, Mi.andK_f, Mi.orK_t, Mi.orK_f, Mi.forB_nm, Mi.forB_2, Mi.binK2_d, Mi.binK1_d, Mi.negK_d, Mi.truK_d, Mi.tstK_d, Mi.notK_d, Mi.cmpK2_d, Mi.cmpK1_d, Mi.chnK3_t, Mi.chnK3_f, Mi.chnK2_d, Mi.chnK1_d, Mi.iteK_t, Mi.iteK_f, Mi.tupK_d, Mi.lstK_d, Mi.cellK_d, Mi.callK_d, Mi.biK_d, Mi.idxK2_d, Mi.idxK1_d, Mi.sliK3_t, Mi.sliK3_l, Mi.oIntK_i, Mi.sliK2_d, Mi.sliK1_d, Mi.lcT_d, Mi.lcE_d, Mi.lcK_d, Mi.lrgK2_d, Mi.lrgK1_d, Mi.consK2_d, Mi.consK1_d, Mi.rng1K_d, Mi.rng2K2_d, Mi.rng2K1_d, Mi.zipO_d, Mi.zipK2_d, Mi.zipK1_d, Mi.enuK_d, Mi.sqK_d, Mi.setK_d, Mi.setTK_d, Mi.putK3_d, Mi.putK2_d, Mi.putK1_d, Mi.appK2_d, Mi.appK1_d, Mi.dropK_d, Mi.retK_d, Mi.iteS_t, Mi.iteS_f, Mi.forK_d, Mi.turnK2_d, Mi.turnK1_t, Mi.turnK1_f, Mi.whK_t, Mi.whK_f, Mi.lcB_nm, Mi.lcB_2, Mi.evE_var, Mi.evE_non, Mi.evE_bl, Mi.evE_int, Mi.evE_str, Mi.evE_gl, Mi.evE_bty, Mi.evE_bin, Mi.evE_neg, Mi.evE_not, Mi.evE_and, Mi.evE_or, Mi.evE_cmp, Mi.evE_chn, Mi.evE_ite, Mi.evE_tup, Mi.evE_lst, Mi.evE_cell, Mi.evE_call, Mi.callP_sto, Mi.evE_bi, Mi.evE_idx, Mi.evE_sli, Mi.evE_lc, Mi.evE_lrg, Mi.evE_lrd, Mi.evA_nil, Mi.evA_cons, Mi.evI_rng1, Mi.evI_rng2, Mi.evI_zip, Mi.evI_enu, Mi.evI_sq, Mi.tstR_false, Mi.tstR_true, Mi.optR_false, Mi.optR_true, Mi.oInt_int, Mi.isOmit_omit, Mi.evS_skip, Mi.evS_seq, Mi.evS_set, Mi.evS_setT, Mi.evS_put, Mi.evS_app, Mi.evS_drop, Mi.evS_ret, Mi.evS_ite, Mi.evS_for, Mi.evS_while, Mi.evS_raise, Mi.sto_some, Mi.sto_none, Mi.val_nx, Mi.val_rt, Mi.setTg_nm, Mi.setTg_nil, Mi.setTg_cons, Mi.wipe_nil, Mi.wipe_cons, Mi.forR_nil, Mi.truV_bl, Mi.truV_non, Mi.truV_int, Mi.add_ii, Mi.sub_ii, Mi.lt_ii, Mi.le_ii, Mi.gt_ii, Mi.ge_ii, Mi.isn_v, Mi.notn_v, Mi.isN_non, Mi.isN_int, Mi.isN_tup, Mi.isN_bl, Mi.isN_str, Mi.eq_ii, Mi.ne_ii, Mi.eq_ss, Mi.ne_ss, Mi.neg_i, Mi.walk_lst, Mi.walk_tup, Mi.walk_scr, Mi.len_tup, Mi.len_lst, Mi.len_scr, Mi.tuple_lst, Mi.tuple_tup, Mi.list_tup, Mi.list_lst, Mi.int_int, Mi.int_bl, Mi.abs_int, Mi.min_int, Mi.max_int, Mi.isi_def, Mi.sum_lst, Mi.all_lst, Mi.any_lst, Mi.ints_map, Mi.bools_map, R.bind_ok, R.bind_ex, R.bind_bad, R.lift_some, R.noEx_ok, List.getElem?_cons_zero, List.getElem?_cons_succ, Option.bind_some, Option.map_some, Option.bind_eq_bind, id_eq, List.set_cons_zero, List.set_cons_succ, if_true, if_false, Bool.false_eq_true, reduceIte, Bool.not_true, Bool.not_false, Ex.isOmit, m2, pw, law_is_int_v _ _ _ (hx x hm).sh]
        cases numB x 1 1000000000000 <;> simp (implicitDefEqProofs := false) only [Mi.seqK_nx, Mi.seqK_rt, Mi.andK_t, Mi.andK_f, Mi.orK_t, Mi.orK_f, Mi.forB_nm, Mi.forB_2, Mi.binK2_d, Mi.binK1_d, Mi.negK_d, Mi.truK_d, Mi.tstK_d, Mi.notK_d, Mi.cmpK2_d, Mi.cmpK1_d, Mi.chnK3_t, Mi.chnK3_f, Mi.chnK2_d, Mi.chnK1_d, Mi.iteK_t, Mi.iteK_f, Mi.tupK_d, Mi.lstK_d, Mi.cellK_d, Mi.callK_d, Mi.biK_d, Mi.idxK2_d, Mi.idxK1_d, Mi.sliK3_t, Mi.sliK3_l, Mi.oIntK_i, Mi.sliK2_d, Mi.sliK1_d, Mi.lcT_d, Mi.lcE_d, Mi.lcK_d, Mi.lrgK2_d, Mi.lrgK1_d, Mi.consK2_d, Mi.consK1_d, Mi.rng1K_d, Mi.rng2K2_d, Mi.rng2K1_d, Mi.zipO_d, Mi.zipK2_d, Mi.zipK1_d, Mi.enuK_d, Mi.sqK_d, Mi.setK_d, Mi.setTK_d, Mi.putK3_d, Mi.putK2_d, Mi.putK1_d, Mi.appK2_d, Mi.appK1_d, Mi.dropK_d, Mi.retK_d, Mi.iteS_t, Mi.iteS_f, Mi.forK_d, Mi.turnK2_d, Mi.turnK1_t, Mi.turnK1_f, Mi.whK_t, Mi.whK_f, Mi.lcB_nm, Mi.lcB_2, Mi.evE_var, Mi.evE_non, Mi.evE_bl, Mi.evE_int, Mi.evE_str, Mi.evE_gl, Mi.evE_bty, Mi.evE_bin, Mi.evE_neg, Mi.evE_not, Mi.evE_and, Mi.evE_or, Mi.evE_cmp, Mi.evE_chn, Mi.evE_ite, Mi.evE_tup, Mi.evE_lst, Mi.evE_cell, Mi.evE_call, Mi.callP_sto, Mi.evE_bi, Mi.evE_idx, Mi.evE_sli, Mi.evE_lc, Mi.evE_lrg, Mi.evE_lrd, Mi.evA_nil, Mi.evA_cons, Mi.evI_rng1, Mi.evI_rng2, Mi.evI_zip, Mi.evI_enu, Mi.evI_sq, Mi.tstR_false, Mi.tstR_true, Mi.optR_false, Mi.optR_true, Mi.oInt_int, Mi.isOmit_omit, Mi.evS_skip, Mi.evS_seq, Mi.evS_set, Mi.evS_setT, Mi.evS_put, Mi.evS_app, Mi.evS_drop, Mi.evS_ret, Mi.evS_ite, Mi.evS_for, Mi.evS_while, Mi.evS_raise, Mi.sto_some, Mi.sto_none, Mi.val_nx, Mi.val_rt, Mi.setTg_nm, Mi.setTg_nil, Mi.setTg_cons, Mi.wipe_nil, Mi.wipe_cons, Mi.forR_nil, Mi.truV_bl, Mi.truV_non, Mi.truV_int, Mi.add_ii, Mi.sub_ii, Mi.lt_ii, Mi.le_ii, Mi.gt_ii, Mi.ge_ii, Mi.isn_v, Mi.notn_v, Mi.isN_non, Mi.isN_int, Mi.isN_tup, Mi.isN_bl, Mi.isN_str, Mi.eq_ii, Mi.ne_ii, Mi.eq_ss, Mi.ne_ss, Mi.neg_i, Mi.walk_lst, Mi.walk_tup, Mi.walk_scr, Mi.len_tup, Mi.len_lst, Mi.len_scr, Mi.tuple_lst, Mi.tuple_tup, Mi.list_tup, Mi.list_lst, Mi.int_int, Mi.int_bl, Mi.abs_int, Mi.min_int, Mi.max_int, Mi.isi_def, Mi.sum_lst, Mi.all_lst, Mi.any_lst, Mi.ints_map, Mi.bools_map, R.bind_ok, R.bind_ex, R.bind_bad, R.lift_some, R.noEx_ok, List.getElem?_cons_zero, List.getElem?_cons_succ, Option.bind_some, Option.map_some, Option.bind_eq_bind, id_eq, List.set_cons_zero, List.set_cons_succ, if_true, if_false, Bool.false_eq_true, reduceIte, Bool.not_true, Bool.not_false, Ex.isOmit])]
      simp (implicitDefEqProofs := false) only [Mi.seqK_nx, Mi.seqK_rt, Mi.andK_t, Mi.andK_f, Mi.orK_t, Mi.orK_f, Mi.forB_nm, Mi.forB_2, Mi.binK2_d, Mi.binK1_d, Mi.negK_d, Mi.truK_d, Mi.tstK_d, Mi.notK_d, Mi.cmpK2_d, Mi.cmpK1_d, Mi.chnK3_t, Mi.chnK3_f, Mi.chnK2_d, Mi.chnK1_d, Mi.iteK_t, Mi.iteK_f, Mi.tupK_d, Mi.lstK_d, Mi.cellK_d, Mi.callK_d, Mi.biK_d, Mi.idxK2_d, Mi.idxK1_d, Mi.sliK3_t, Mi.sliK3_l, Mi.oIntK_i, Mi.sliK2_d, Mi.sliK1_d, Mi.lcT_d, Mi.lcE_d, Mi.lcK_d, Mi.lrgK2_d, Mi.lrgK1_d, Mi.consK2_d, Mi.consK1_d, Mi.rng1K_d, Mi.rng2K2_d, Mi.rng2K1_d, Mi.zipO_d, Mi.zipK2_d, Mi.zipK1_d, Mi.enuK_d, Mi.sqK_d, Mi.setK_d, Mi.setTK_d, Mi.putK3_d, Mi.putK2_d, Mi.putK1_d, Mi.appK2_d, Mi.appK1_d, Mi.dropK_d, Mi.retK_d, Mi.iteS_t, Mi.iteS_f, Mi.forK_d, Mi.turnK2_d, Mi.turnK1_t, Mi.turnK1_f, Mi.whK_t, Mi.whK_f, Mi.lcB_nm, Mi.lcB_2, Mi.evE_var, Mi.evE_non, Mi.evE_bl, Mi.evE_int, Mi.evE_str, Mi.evE_gl, Mi.evE_bty, Mi.evE_bin, Mi.evE_neg, Mi.evE_not, Mi.evE_and, Mi.evE_or, Mi.evE_cmp, Mi.evE_chn, Mi.evE_ite, Mi.evE_tup, Mi.evE_lst, Mi.evE_cell, Mi.evE_call, Mi.callP_sto, Mi.evE_bi, Mi.evE_idx, Mi.evE_sli, Mi.evE_lc, Mi.evE_lrg, Mi.evE_lrd, Mi.evA_nil, Mi.evA_cons, Mi.evI_rng1, Mi.evI_rng2, Mi.evI_zip, Mi.evI_enu, Mi.evI_sq, Mi.tstR_false, Mi.tstR_true, Mi.optR_false, Mi.optR_true, Mi.oInt_int, Mi.isOmit_omit, Mi.evS_skip, Mi.evS_seq, Mi.evS_set, Mi.evS_setT, Mi.evS_put, Mi.evS_app, Mi.evS_drop, Mi.evS_ret, Mi.evS_ite, Mi.evS_for, Mi.evS_while, Mi.evS_raise, Mi.sto_some, Mi.sto_none, Mi.val_nx, Mi.val_rt, Mi.setTg_nm, Mi.setTg_nil, Mi.setTg_cons, Mi.wipe_nil, Mi.wipe_cons, Mi.forR_nil, Mi.truV_bl, Mi.truV_non, Mi.truV_int, Mi.add_ii, Mi.sub_ii, Mi.lt_ii, Mi.le_ii, Mi.gt_ii, Mi.ge_ii, Mi.isn_v, Mi.notn_v, Mi.isN_non, Mi.isN_int, Mi.isN_tup, Mi.isN_bl, Mi.isN_str, Mi.eq_ii, Mi.ne_ii, Mi.eq_ss, Mi.ne_ss, Mi.neg_i, Mi.walk_lst, Mi.walk_tup, Mi.walk_scr, Mi.len_tup, Mi.len_lst, Mi.len_scr, Mi.tuple_lst, Mi.tuple_tup, Mi.list_tup, Mi.list_lst, Mi.int_int, Mi.int_bl, Mi.abs_int, Mi.min_int, Mi.max_int, Mi.isi_def, Mi.sum_lst, Mi.all_lst, Mi.any_lst, Mi.ints_map, Mi.bools_map, R.bind_ok, R.bind_ex, R.bind_bad, R.lift_some, R.noEx_ok, List.getElem?_cons_zero, List.getElem?_cons_succ, Option.bind_some, Option.map_some, Option.bind_eq_bind, id_eq, List.set_cons_zero, List.set_cons_succ, if_true, if_false, Bool.false_eq_true, reduceIte, Bool.not_true, Bool.not_false, Ex.isOmit, eq_nil (dats_filter hx _), filter_empty, e1, e2, e3, e4, e5, eq_bb, ne_bb, e0, beq_self_eq_true]
    · have e0 : sizesB many (.tup xs) = false := by
        show (decide ((xs.length : Int) = 2 * many - 1) && _) = _
        rw [decide_eq_false ql, Bool.false_and]
      have eb : ((xs.length : Int) == 2 * (many : Int) - 1) = false := by rw [beq_eq_false_iff_ne]; exact ql
      simp (implicitDefEqProofs := false) only [Mi.seqK_nx, Mi.seqK_rt, Mi.andK_t, Mi.andK_f, Mi.orK_t, Mi.orK_f, Mi.forB_nm, Mi.forB_2, Mi.binK2_d, Mi.binK1_d, Mi.negK_d, Mi.truK_d, Mi.tstK_d, Mi.notK_d, Mi.cmpK2_d, Mi.cmpK1_d, Mi.chnK3_t, Mi.chnK3_f, Mi.chnK2_d, Mi.chnK1_d, Mi.iteK_t, Mi.iteK_f, Mi.tupK_d, Mi.lstK_d, Mi.cellK_d, Mi.callK_d, Mi.biK_d, Mi.idxK2_d, Mi.idxK1_d, Mi.sliK3_t, Mi.sliK3_l, Mi.oIntK_i, Mi.sliK2_d, Mi.sliK1_d, Mi.lcT_d, Mi.lcE_d, Mi.lcK_d, Mi.lrgK2_d, Mi.lrgK1_d, Mi.consK2_d, Mi.consK1_d, Mi.rng1K_d, Mi.rng2K2_d, Mi.rng2K1_d, Mi.zipO_d, Mi.zipK2_d, Mi.zipK1_d, Mi.enuK_d, Mi.sqK_d, Mi.setK_d, Mi.setTK_d, Mi.putK3_d, Mi.putK2_d, Mi.putK1_d, Mi.appK2_d, Mi.appK1_d, Mi.dropK_d, Mi.retK_d, Mi.iteS_t, Mi.iteS_f, Mi.forK_d, Mi.turnK2_d, Mi.turnK1_t, Mi.turnK1_f, Mi.whK_t, Mi.whK_f, Mi.lcB_nm, Mi.lcB_2, Mi.evE_var, Mi.evE_non, Mi.evE_bl, Mi.evE_int, Mi.evE_str, Mi.evE_gl, Mi.evE_bty, Mi.evE_bin, Mi.evE_neg, Mi.evE_not, Mi.evE_and, Mi.evE_or, Mi.evE_cmp, Mi.evE_chn, Mi.evE_ite, Mi.evE_tup, Mi.evE_lst, Mi.evE_cell, Mi.evE_call, Mi.callP_sto, Mi.evE_bi, Mi.evE_idx, Mi.evE_sli, Mi.evE_lc, Mi.evE_lrg, Mi.evE_lrd, Mi.evA_nil, Mi.evA_cons, Mi.evI_rng1, Mi.evI_rng2, Mi.evI_zip, Mi.evI_enu, Mi.evI_sq, Mi.tstR_false, Mi.tstR_true, Mi.optR_false, Mi.optR_true, Mi.oInt_int, Mi.isOmit_omit, Mi.evS_skip, Mi.evS_seq, Mi.evS_set, Mi.evS_setT, Mi.evS_put, Mi.evS_app, Mi.evS_drop, Mi.evS_ret, Mi.evS_ite, Mi.evS_for, Mi.evS_while, Mi.evS_raise, Mi.sto_some, Mi.sto_none, Mi.val_nx, Mi.val_rt, Mi.setTg_nm, Mi.setTg_nil, Mi.setTg_cons, Mi.wipe_nil, Mi.wipe_cons, Mi.forR_nil, Mi.truV_bl, Mi.truV_non, Mi.truV_int, Mi.add_ii, Mi.sub_ii, Mi.lt_ii, Mi.le_ii, Mi.gt_ii, Mi.ge_ii, Mi.isn_v, Mi.notn_v, Mi.isN_non, Mi.isN_int, Mi.isN_tup, Mi.isN_bl, Mi.isN_str, Mi.eq_ii, Mi.ne_ii, Mi.eq_ss, Mi.ne_ss, Mi.neg_i, Mi.walk_lst, Mi.walk_tup, Mi.walk_scr, Mi.len_tup, Mi.len_lst, Mi.len_scr, Mi.tuple_lst, Mi.tuple_tup, Mi.list_tup, Mi.list_lst, Mi.int_int, Mi.int_bl, Mi.abs_int, Mi.min_int, Mi.max_int, Mi.isi_def, Mi.sum_lst, Mi.all_lst, Mi.any_lst, Mi.ints_map, Mi.bools_map, R.bind_ok, R.bind_ex, R.bind_bad, R.lift_some, R.noEx_ok, List.getElem?_cons_zero, List.getElem?_cons_succ, Option.bind_some, Option.map_some, Option.bind_eq_bind, id_eq, List.set_cons_zero, List.set_cons_succ, if_true, if_false, Bool.false_eq_true, reduceIte, Bool.not_true, Bool.not_false, Ex.isOmit, b37, m2, isi_tupQ h.sh, tupQ, eb, e1, e2, e3, e4, e5, eq_bb, ne_bb, e0, beq_self_eq_true]
  · have e0 : sizesB many v = false := by cases v <;> first | rfl | exact absurd ⟨_, rfl⟩ q
    have e : isiV v "tuple" = some false := by rw [isi_tup h.sh]; cases v <;> first | rfl | exact absurd ⟨_, rfl⟩ q
    simp (implicitDefEqProofs := false) only [Mi.seqK_nx, Mi.seqK_rt, Mi.andK_t, Mi.andK_f, Mi.orK_t, Mi.orK_f, Mi.forB_nm, Mi.forB_2, Mi.binK2_d, Mi.binK1_d, Mi.negK_d, Mi.truK_d, Mi.tstK_d, Mi.notK_d, Mi.cmpK2_d, Mi.cmpK1_d, Mi.chnK3_t, Mi.chnK3_f, Mi.chnK2_d, Mi.chnK1_d, Mi.iteK_t, Mi.iteK_f, Mi.tupK_d, Mi.lstK_d, Mi.cellK_d, Mi.callK_d, Mi.biK_d, Mi.idxK2_d, Mi.idxK1_d, Mi.sliK3_t, Mi.sliK3_l, Mi.oIntK_i, Mi.sliK2_d, Mi.sliK1_d, Mi.lcT_d, Mi.lcE_d, Mi.lcK_d, Mi.lrgK2_d, Mi.lrgK1_d, Mi.consK2_d, Mi.consK1_d, Mi.rng1K_d, Mi.rng2K2_d, Mi.rng2K1_d, Mi.zipO_d, Mi.zipK2_d, Mi.zipK1_d, Mi.enuK_d, Mi.sqK_d, Mi.setK_d, Mi.setTK_d, Mi.putK3_d, Mi.putK2_d, Mi.putK1_d, Mi.appK2_d, Mi.appK1_d, Mi.dropK_d, Mi.retK_d, Mi.iteS_t, Mi.iteS_f, Mi.forK_d, Mi.turnK2_d, Mi.turnK1_t, Mi.turnK1_f, Mi.whK_t, Mi.whK_f, Mi.lcB_nm, Mi.lcB_2, Mi.evE_var, Mi.evE_non, Mi.evE_bl, Mi.evE_int, Mi.evE_str, Mi.evE_gl, Mi.evE_bty, Mi.evE_bin, Mi.evE_neg, Mi.evE_not, Mi.evE_and, Mi.evE_or, Mi.evE_cmp, Mi.evE_chn, Mi.evE_ite, Mi.evE_tup, Mi.evE_lst, Mi.evE_cell, Mi.evE_call, Mi.callP_sto, Mi.evE_bi, Mi.evE_idx, Mi.evE_sli, Mi.evE_lc, Mi.evE_lrg, Mi.evE_lrd, Mi.evA_nil, Mi.evA_cons, Mi.evI_rng1, Mi.evI_rng2, Mi.evI_zip, Mi.evI_enu, Mi.evI_sq, Mi.tstR_false, Mi.tstR_true, Mi.optR_false, Mi.optR_true, Mi.oInt_int, Mi.isOmit_omit, Mi.evS_skip, Mi.evS_seq, Mi.evS_set, Mi.evS_setT, Mi.evS_put, Mi.evS_app, Mi.evS_drop, Mi.evS_ret, Mi.evS_ite, Mi.evS_for, Mi.evS_while, Mi.evS_raise, Mi.sto_some, Mi.sto_none, Mi.val_nx, Mi.val_rt, Mi.setTg_nm, Mi.setTg_nil, Mi.setTg_cons, Mi.wipe_nil, Mi.wipe_cons, Mi.forR_nil, Mi.truV_bl, Mi.truV_non, Mi.truV_int, Mi.add_ii, Mi.sub_ii, Mi.lt_ii, Mi.le_ii, Mi.gt_ii, Mi.ge_ii, Mi.isn_v, Mi.notn_v, Mi.isN_non, Mi.isN_int, Mi.isN_tup, Mi.isN_bl, Mi.isN_str, Mi.eq_ii, Mi.ne_ii, Mi.eq_ss, Mi.ne_ss, Mi.neg_i, Mi.walk_lst, Mi.walk_tup, Mi.walk_scr, Mi.len_tup, Mi.len_lst, Mi.len_scr, Mi.tuple_lst, Mi.tuple_tup, Mi.list_tup, Mi.list_lst, Mi.int_int, Mi.int_bl, Mi.abs_int, Mi.min_int, Mi.max_int, Mi.isi_def, Mi.sum_lst, Mi.all_lst, Mi.any_lst, Mi.ints_map, Mi.bools_map, R.bind_ok, R.bind_ex, R.bind_bad, R.lift_some, R.noEx_ok, List.getElem?_cons_zero, List.getElem?_cons_succ, Option.bind_some, Option.map_some, Option.bind_eq_bind, id_eq, List.set_cons_zero, List.set_cons_succ, if_true, if_false, Bool.false_eq_true, reduceIte, Bool.not_true, Bool.not_false, Ex.isOmit, b37, e, e1, e2, e3, e4, e5, eq_bb, ne_bb, e0, beq_self_eq_true]

theorem summed (xs ys : List Int) (hx : ∀ x ∈ xs, -(2 ^ 64) < x ∧ x < 2 ^ 64) (hl : xs.length ≤ 1000) : RU N (d + 1) 10 [.tup (xs.map .int), .tup (ys.map .int)] st = .ok (.int (dotZ xs ys)) st := by
  rw [RU, u10]
  simp (implicitDefEqProofs := false) only [Mi.seqK_nx, Mi.seqK_rt, Mi.andK_t, Mi.andK_f, Mi.orK_t, Mi.orK_f, Mi.forB_nm, Mi.forB_2, Mi.binK2_d, Mi.binK1_d, Mi.negK_d, Mi.truK_d, Mi.tstK_d, Mi.notK_d, Mi.cmpK2_d, Mi.cmpK1_d, Mi.chnK3_t, Mi.chnK3_f, Mi.chnK2_d, Mi.chnK1_d, Mi.iteK_t, Mi.iteK_f, Mi.tupK_d, Mi.lstK_d, Mi.cellK_d, Mi.callK_d, Mi.biK_d, Mi.idxK2_d, Mi.idxK1_d, Mi.sliK3_t, Mi.sliK3_l, Mi.oIntK_i, Mi.sliK2_d, Mi.sliK1_d, Mi.lcT_d, Mi.lcE_d, Mi.lcK_d, Mi.lrgK2_d, Mi.lrgK1_d, Mi.consK2_d, Mi.consK1_d, Mi.rng1K_d, Mi.rng2K2_d, Mi.rng2K1_d, Mi.zipO_d, Mi.zipK2_d, Mi.zipK1_d, Mi.enuK_d, Mi.sqK_d, Mi.setK_d, Mi.setTK_d, Mi.putK3_d, Mi.putK2_d, Mi.putK1_d, Mi.appK2_d, Mi.appK1_d, Mi.dropK_d, Mi.retK_d, Mi.iteS_t, Mi.iteS_f, Mi.forK_d, Mi.turnK2_d, Mi.turnK1_t, Mi.turnK1_f, Mi.whK_t, Mi.whK_f, Mi.lcB_nm, Mi.lcB_2, Mi.evE_var, Mi.evE_non, Mi.evE_bl, Mi.evE_int, Mi.evE_str, Mi.evE_gl, Mi.evE_bty, Mi.evE_bin, Mi.evE_neg, Mi.evE_not, Mi.evE_and, Mi.evE_or, Mi.evE_cmp, Mi.evE_chn, Mi.evE_ite, Mi.evE_tup, Mi.evE_lst, Mi.evE_cell, Mi.evE_call, Mi.callP_sto, Mi.evE_bi, Mi.evE_idx, Mi.evE_sli, Mi.evE_lc, Mi.evE_lrg, Mi.evE_lrd, Mi.evA_nil, Mi.evA_cons, Mi.evI_rng1, Mi.evI_rng2, Mi.evI_zip, Mi.evI_enu, Mi.evI_sq, Mi.tstR_false, Mi.tstR_true, Mi.optR_false, Mi.optR_true, Mi.oInt_int, Mi.isOmit_omit, Mi.evS_skip, Mi.evS_seq, Mi.evS_set, Mi.evS_setT, Mi.evS_put, Mi.evS_app, Mi.evS_drop, Mi.evS_ret, Mi.evS_ite, Mi.evS_for, Mi.evS_while, Mi.evS_raise, Mi.sto_some, Mi.sto_none, Mi.val_nx, Mi.val_rt, Mi.setTg_nm, Mi.setTg_nil, Mi.setTg_cons, Mi.wipe_nil, Mi.wipe_cons, Mi.forR_nil, Mi.truV_bl, Mi.truV_non, Mi.truV_int, Mi.add_ii, Mi.sub_ii, Mi.lt_ii, Mi.le_ii, Mi.gt_ii, Mi.ge_ii, Mi.isn_v, Mi.notn_v, Mi.isN_non, Mi.isN_int, Mi.isN_tup, Mi.isN_bl, Mi.isN_str, Mi.eq_ii, Mi.ne_ii, Mi.eq_ss, Mi.ne_ss, Mi.neg_i, Mi.walk_lst, Mi.walk_tup, Mi.walk_scr, Mi.len_tup, Mi.len_lst, Mi.len_scr, Mi.tuple_lst, Mi.tuple_tup, Mi.list_tup, Mi.list_lst, Mi.int_int, Mi.int_bl, Mi.abs_int, Mi.min_int, Mi.max_int, Mi.isi_def, Mi.sum_lst, Mi.all_lst, Mi.any_lst, Mi.ints_map, Mi.bools_map, R.bind_ok, R.bind_ex, R.bind_bad, R.lift_some, R.noEx_ok, List.getElem?_cons_zero, List.getElem?_cons_succ, Option.bind_some, Option.map_some, Option.bind_eq_bind, id_eq, List.set_cons_zero, List.set_cons_succ, if_true, if_false, Bool.false_eq_true, reduceIte, Bool.not_true, Bool.not_false, Ex.isOmit, b10]
  rw [zip_ints, compR_map (g := fun p => PV.int (p.1 * p.2))]
  · simp (implicitDefEqProofs := false) only [Mi.seqK_nx, Mi.seqK_rt, Mi.andK_t, Mi.andK_f, Mi.orK_t, Mi.orK_f, Mi.forB_nm, Mi.forB_2, Mi.binK2_d, Mi.binK1_d, Mi.negK_d, Mi.truK_d, Mi.tstK_d, Mi.notK_d, Mi.cmpK2_d, Mi.cmpK1_d, Mi.chnK3_t, Mi.chnK3_f, Mi.chnK2_d, Mi.chnK1_d, Mi.iteK_t, Mi.iteK_f, Mi.tupK_d, Mi.lstK_d, Mi.cellK_d, Mi.callK_d, Mi.biK_d, Mi.idxK2_d, Mi.idxK1_d, Mi.sliK3_t, Mi.sliK3_l, Mi.oIntK_i, Mi.sliK2_d, Mi.sliK1_d, Mi.lcT_d, Mi.lcE_d, Mi.lcK_d, Mi.lrgK2_d, Mi.lrgK1_d, Mi.consK2_d, Mi.consK1_d, Mi.rng1K_d, Mi.rng2K2_d, Mi.rng2K1_d, Mi.zipO_d, Mi.zipK2_d, Mi.zipK1_d, Mi.enuK_d, Mi.sqK_d, Mi.setK_d, Mi.setTK_d, Mi.putK3_d, Mi.putK2_d, Mi.putK1_d, Mi.appK2_d, Mi.appK1_d, Mi.dropK_d, Mi.retK_d, Mi.iteS_t, Mi.iteS_f, Mi.forK_d, Mi.turnK2_d, Mi.turnK1_t, Mi.turnK1_f, Mi.whK_t, Mi.whK_f, Mi.lcB_nm, Mi.lcB_2, Mi.evE_var, Mi.evE_non, Mi.evE_bl, Mi.evE_int, Mi.evE_str, Mi.evE_gl, Mi.evE_bty, Mi.evE_bin, Mi.evE_neg, Mi.evE_not, Mi.evE_and, Mi.evE_or, Mi.evE_cmp, Mi.evE_chn, Mi.evE_ite, Mi.evE_tup, Mi.evE_lst, Mi.evE_cell, Mi.evE_call, Mi.callP_sto, Mi.evE_bi, Mi.evE_idx, Mi.evE_sli, Mi.evE_lc, Mi.evE_lrg, Mi.evE_lrd, Mi.evA_nil, Mi.evA_cons, Mi.evI_rng1, Mi.evI_rng2, Mi.evI_zip, Mi.evI_enu, Mi.evI_sq, Mi.tstR_false, Mi.tstR_true, Mi.optR_false, Mi.optR_true, Mi.oInt_int, Mi.isOmit_omit, Mi.evS_skip, Mi.evS_seq, Mi.evS_set, Mi.evS_setT, Mi.evS_put, Mi.evS_app, Mi.evS_drop, Mi.evS_ret, Mi.evS_ite, Mi.evS_for, Mi.evS_while, Mi.evS_raise, Mi.sto_some, Mi.sto_none, Mi.val_nx, Mi.val_rt, Mi.setTg_nm, Mi.setTg_nil, Mi.setTg_cons, Mi.wipe_nil, Mi.wipe_cons, Mi.forR_nil, Mi.truV_bl, Mi.truV_non, Mi.truV_int, Mi.add_ii, Mi.sub_ii, Mi.lt_ii, Mi.le_ii, Mi.gt_ii, Mi.ge_ii, Mi.isn_v, Mi.notn_v, Mi.isN_non, Mi.isN_int, Mi.isN_tup, Mi.isN_bl, Mi.isN_str, Mi.eq_ii, Mi.ne_ii, Mi.eq_ss, Mi.ne_ss, Mi.neg_i, Mi.walk_lst, Mi.walk_tup, Mi.walk_scr, Mi.len_tup, Mi.len_lst, Mi.len_scr, Mi.tuple_lst, Mi.tuple_tup, Mi.list_tup, Mi.list_lst, Mi.int_int, Mi.int_bl, Mi.abs_int, Mi.min_int, Mi.max_int, Mi.isi_def, Mi.sum_lst, Mi.all_lst, Mi.any_lst, Mi.ints_map, Mi.bools_map, R.bind_ok, R.bind_ex, R.bind_bad, R.lift_some, R.noEx_ok, List.getElem?_cons_zero, List.getElem?_cons_succ, Option.bind_some, Option.map_some, Option.bind_eq_bind, id_eq, List.set_cons_zero, List.set_cons_succ, if_true, if_false, Bool.false_eq_true, reduceIte, Bool.not_true, Bool.not_false, Ex.isOmit, sum_lst]
    rw [if_pos (by rw [List.length_map, List.length_zip]; exact Nat.le_trans (Nat.min_le_left _ _) (Nat.le_trans hl big_lt))]
    simp (implicitDefEqProofs := false) only [Mi.seqK_nx, Mi.seqK_rt, Mi.andK_t, Mi.andK_f, Mi.orK_t, Mi.orK_f, Mi.forB_nm, Mi.forB_2, Mi.binK2_d, Mi.binK1_d, Mi.negK_d, Mi.truK_d, Mi.tstK_d, Mi.notK_d, Mi.cmpK2_d, Mi.cmpK1_d, Mi.chnK3_t, Mi.chnK3_f, Mi.chnK2_d, Mi.chnK1_d, Mi.iteK_t, Mi.iteK_f, Mi.tupK_d, Mi.lstK_d, Mi.cellK_d, Mi.callK_d, Mi.biK_d, Mi.idxK2_d, Mi.idxK1_d, Mi.sliK3_t, Mi.sliK3_l, Mi.oIntK_i, Mi.sliK2_d, Mi.sliK1_d, Mi.lcT_d, Mi.lcE_d, Mi.lcK_d, Mi.lrgK2_d, Mi.lrgK1_d, Mi.consK2_d, Mi.consK1_d, Mi.rng1K_d, Mi.rng2K2_d, Mi.rng2K1_d, Mi.zipO_d, Mi.zipK2_d, Mi.zipK1_d, Mi.enuK_d, Mi.sqK_d, Mi.setK_d, Mi.setTK_d, Mi.putK3_d, Mi.putK2_d, Mi.putK1_d, Mi.appK2_d, Mi.appK1_d, Mi.dropK_d, Mi.retK_d, Mi.iteS_t, Mi.iteS_f, Mi.forK_d, Mi.turnK2_d, Mi.turnK1_t, Mi.turnK1_f, Mi.whK_t, Mi.whK_f, Mi.lcB_nm, Mi.lcB_2, Mi.evE_var, Mi.evE_non, Mi.evE_bl, Mi.evE_int, Mi.evE_str, Mi.evE_gl, Mi.evE_bty, Mi.evE_bin, Mi.evE_neg, Mi.evE_not, Mi.evE_and, Mi.evE_or, Mi.evE_cmp, Mi.evE_chn, Mi.evE_ite, Mi.evE_tup, Mi.evE_lst, Mi.evE_cell, Mi.evE_call, Mi.callP_sto, Mi.evE_bi, Mi.evE_idx, Mi.evE_sli, Mi.evE_lc, Mi.evE_lrg, Mi.evE_lrd, Mi.evA_nil, Mi.evA_cons, Mi.evI_rng1, Mi.evI_rng2, Mi.evI_zip, Mi.evI_enu, Mi.evI_sq, Mi.tstR_false, Mi.tstR_true, Mi.optR_false, Mi.optR_true, Mi.oInt_int, Mi.isOmit_omit, Mi.evS_skip, Mi.evS_seq, Mi.evS_set, Mi.evS_setT, Mi.evS_put, Mi.evS_app, Mi.evS_drop, Mi.evS_ret, Mi.evS_ite, Mi.evS_for, Mi.evS_while, Mi.evS_raise, Mi.sto_some, Mi.sto_none, Mi.val_nx, Mi.val_rt, Mi.setTg_nm, Mi.setTg_nil, Mi.setTg_cons, Mi.wipe_nil, Mi.wipe_cons, Mi.forR_nil, Mi.truV_bl, Mi.truV_non, Mi.truV_int, Mi.add_ii, Mi.sub_ii, Mi.lt_ii, Mi.le_ii, Mi.gt_ii, Mi.ge_ii, Mi.isn_v, Mi.notn_v, Mi.isN_non, Mi.isN_int, Mi.isN_tup, Mi.isN_bl, Mi.isN_str, Mi.eq_ii, Mi.ne_ii, Mi.eq_ss, Mi.ne_ss, Mi.neg_i, Mi.walk_lst, Mi.walk_tup, Mi.walk_scr, Mi.len_tup, Mi.len_lst, Mi.len_scr, Mi.tuple_lst, Mi.tuple_tup, Mi.list_tup, Mi.list_lst, Mi.int_int, Mi.int_bl, Mi.abs_int, Mi.min_int, Mi.max_int, Mi.isi_def, Mi.sum_lst, Mi.all_lst, Mi.any_lst, Mi.ints_map, Mi.bools_map, R.bind_ok, R.bind_ex, R.bind_bad, R.lift_some, R.noEx_ok, List.getElem?_cons_zero, List.getElem?_cons_succ, Option.bind_some, Option.map_some, Option.bind_eq_bind, id_eq, List.set_cons_zero, List.set_cons_succ, if_true, if_false, Bool.false_eq_true, reduceIte, Bool.not_true, Bool.not_false, Ex.isOmit, sum_lst]
    rw [show (fun p : Int × Int => PV.int (p.1 * p.2)) = PV.int ∘ (fun p : Int × Int => p.1 * p.2) from rfl, ← List.map_map, ints_map]
    rfl
  · rintro ⟨a, b⟩ hp
    have ha := hx a (List.of_mem_zip hp).1
    simp (implicitDefEqProofs := false) only [Mi.seqK_nx, Mi.seqK_rt, Mi.andK_t, Mi.andK_f, Mi.orK_t, Mi.orK_f, Mi.forB_nm, Mi.forB_2, Mi.binK2_d, Mi.binK1_d, Mi.negK_d, Mi.truK_d, Mi.tstK_d, Mi.notK_d, Mi.cmpK2_d, Mi.cmpK1_d, Mi.chnK3_t, Mi.chnK3_f, Mi.chnK2_d, Mi.chnK1_d, Mi.iteK_t, Mi.iteK_f, Mi.tupK_d, Mi.lstK_d, Mi.cellK_d, Mi.callK_d, Mi.biK_d, Mi.idxK2_d, Mi.idxK1_d, Mi.sliK3_t, Mi.sliK3_l, Mi.oIntK_i, Mi.sliK2_d, Mi.sliK1_d, Mi.lcT_d, Mi.lcE_d, Mi.lcK_d, Mi.lrgK2_d, Mi.lrgK1_d, Mi.consK2_d, Mi.consK1_d, Mi.rng1K_d, Mi.rng2K2_d, Mi.rng2K1_d, Mi.zipO_d, Mi.zipK2_d, Mi.zipK1_d, Mi.enuK_d, Mi.sqK_d, Mi.setK_d, Mi.setTK_d, Mi.putK3_d, Mi.putK2_d, Mi.putK1_d, Mi.appK2_d, Mi.appK1_d, Mi.dropK_d, Mi.retK_d, Mi.iteS_t, Mi.iteS_f, Mi.forK_d, Mi.turnK2_d, Mi.turnK1_t, Mi.turnK1_f, Mi.whK_t, Mi.whK_f, Mi.lcB_nm, Mi.lcB_2, Mi.evE_var, Mi.evE_non, Mi.evE_bl, Mi.evE_int, Mi.evE_str, Mi.evE_gl, Mi.evE_bty, Mi.evE_bin, Mi.evE_neg, Mi.evE_not, Mi.evE_and, Mi.evE_or, Mi.evE_cmp, Mi.evE_chn, Mi.evE_ite, Mi.evE_tup, Mi.evE_lst, Mi.evE_cell, Mi.evE_call, Mi.callP_sto, Mi.evE_bi, Mi.evE_idx, Mi.evE_sli, Mi.evE_lc, Mi.evE_lrg, Mi.evE_lrd, Mi.evA_nil, Mi.evA_cons, Mi.evI_rng1, Mi.evI_rng2, Mi.evI_zip, Mi.evI_enu, Mi.evI_sq, Mi.tstR_false, Mi.tstR_true, Mi.optR_false, Mi.optR_true, Mi.oInt_int, Mi.isOmit_omit, Mi.evS_skip, Mi.evS_seq, Mi.evS_set, Mi.evS_setT, Mi.evS_put, Mi.evS_app, Mi.evS_drop, Mi.evS_ret, Mi.evS_ite, Mi.evS_for, Mi.evS_while, Mi.evS_raise, Mi.sto_some, Mi.sto_none, Mi.val_nx, Mi.val_rt, Mi.setTg_nm, Mi.setTg_nil, Mi.setTg_cons, Mi.wipe_nil, Mi.wipe_cons, Mi.forR_nil, Mi.truV_bl, Mi.truV_non, Mi.truV_int, Mi.add_ii, Mi.sub_ii, Mi.lt_ii, Mi.le_ii, Mi.gt_ii, Mi.ge_ii, Mi.isn_v, Mi.notn_v, Mi.isN_non, Mi.isN_int, Mi.isN_tup, Mi.isN_bl, Mi.isN_str, Mi.eq_ii, Mi.ne_ii, Mi.eq_ss, Mi.ne_ss, Mi.neg_i, Mi.walk_lst, Mi.walk_tup, Mi.walk_scr, Mi.len_tup, Mi.len_lst, Mi.len_scr, Mi.tuple_lst, Mi.tuple_tup, Mi.list_tup, Mi.list_lst, Mi.int_int, Mi.int_bl, Mi.abs_int, Mi.min_int, Mi.max_int, Mi.isi_def, Mi.sum_lst, Mi.all_lst, Mi.any_lst, Mi.ints_map, Mi.bools_map, R.bind_ok, R.bind_ex, R.bind_bad, R.lift_some, R.noEx_ok, List.getElem?_cons_zero, List.getElem?_cons_succ, Option.bind_some, Option.map_some, Option.bind_eq_bind, id_eq, List.set_cons_zero, List.set_cons_succ, if_true, if_false, Bool.false_eq_true, reduceIte, Bool.not_true, Bool.not_false, Ex.isOmit, mul_ii (mulOk_l ha.1 ha.2)]

theorem draw {n : Nat} {m : Int} {st : Sto} (h : SrcAt n st) (h1 : 0 < m) (h2 : m < 2 ^ 200) : Ok (RU N (d + 1) 22 [.cel n, .int m] st) fun v st' => ∃ r : Int, v = .int r ∧ 0 ≤ r ∧ r < m ∧ UpdS n st st' := by
  rw [RU, u22]
  refine (draw_ok (G := G) (cf := RU N d) (N := N) h h1 h2).bind fun fl st1 ⟨r, e, p⟩ => ?_
  subst e
  exact .ok ⟨r, rfl, p⟩
theorem source (ns : List Int) (k : Nat) {st : Sto} : Ok (RU N (d + 1) 21 [.scr (ns.map .int), .int k] st) fun v st' => v = .cel st.length ∧ (∃ c, st' = st ++ [c]) ∧ SrcAt st.length st' := by
  rw [RU, u21]
  have fin : ∀ a b : Int, 0 ≤ a → (∃ c, st ++ [CC.lst [.int a, .int (1 + b % 2147483646)]] = st ++ [c]) ∧ SrcAt st.length (st ++ [CC.lst [.int a, .int (1 + b % 2147483646)]]) := fun a b ha => by
    have h0 := Int.emod_nonneg b (show (2147483646 : Int) ≠ 0 by decide)
    have h1 := Int.emod_lt_of_pos b (show (0 : Int) < 2147483646 by decide)
    exact ⟨⟨_, rfl⟩, a, 1 + b % 2147483646, by simp, ha, by omega, by omega⟩
  have tail : ∀ c : Int, 0 ≤ c → Ok ((evS G (RU N d) N (.seq (.ite (.cmp .Lt (.var 2) (.bin .Pow (.int 10) (.int 18))) (.seq (.ret (.cell (.lst (.cons (.int 0) (.cons (.bin .Add (.int 1) (.bin .Mod (.bi .int (.cons (.bin .Add (.bin .Mult (.var 2) (.int 7919)) (.bin .Mult (.int 104729) (.var 1))) .nil)) (.int 2147483646))) .nil))))) .skip) .skip) (.seq (.ret (.cell (.lst (.cons (.var 2) (.cons (.bin .Add (.int 1) (.bin .Mod (.bi .int (.cons (.bin .Add (.var 2) (.var 1)) .nil)) (.int 2147483646))) .nil))))) .skip))
      [some (.scr (ns.map .int)), some (.int k), some (.int c)] st).bind Fl.val) fun v st' => v = .cel st.length ∧ (∃ c, st' = st ++ [c]) ∧ SrcAt st.length st' := fun c hc => by
    have pw : binV st .Pow (.int 10) (.int 18) = some (.int (10 ^ 18)) := rfl
    have m1 : mulOk c 7919 = true := mulOk_r (by decide) (by decide)
    have m2 : mulOk 104729 (k : Int) = true := mulOk_l (by decide) (by decide)
    have nc : ∀ a b : Int, noCels [.int a, .int b] = true := fun _ _ => rfl
    by_cases q : c < 10 ^ 18
    · refine .eq (a := .cel st.length) (st := st ++ [.lst [.int 0, .int (1 + (c * 7919 + 104729 * k) % 2147483646)]]) ?_ ⟨rfl, fin 0 _ (by decide)⟩
      simp (implicitDefEqProofs := false) only [Mi.seqK_nx, Mi.seqK_rt, Mi.andK_t, Mi.andK_f, Mi.orK_t, Mi.orK_f, Mi.forB_nm, Mi.forB_2, Mi.binK2_d, Mi.binK1_d, Mi.negK_d, Mi.truK_d, Mi.tstK_d, Mi.notK_d, Mi.cmpK2_d, Mi.cmpK1_d, Mi.chnK3_t, Mi.chnK3_f, Mi.chnK2_d, Mi.chnK1_d, Mi.iteK_t, Mi.iteK_f, Mi.tupK_d, Mi.lstK_d, Mi.cellK_d, Mi.callK_d, Mi.biK_d, Mi.idxK2_d, Mi.idxK1_d, Mi.sliK3_t, Mi.sliK3_l, Mi.oIntK_i, Mi.sliK2_d, Mi.sliK1_d, Mi.lcT_d, Mi.lcE_d, Mi.lcK_d, Mi.lrgK2_d, Mi.lrgK1_d, Mi.consK2_d, Mi.consK1_d, Mi.rng1K_d, Mi.rng2K2_d, Mi.rng2K1_d, Mi.zipO_d, Mi.zipK2_d, Mi.zipK1_d, Mi.enuK_d, Mi.sqK_d, Mi.setK_d, Mi.setTK_d, Mi.putK3_d, Mi.putK2_d, Mi.putK1_d, Mi.appK2_d, Mi.appK1_d, Mi.dropK_d, Mi.retK_d, Mi.iteS_t, Mi.iteS_f, Mi.forK_d, Mi.turnK2_d, Mi.turnK1_t, Mi.turnK1_f, Mi.whK_t, Mi.whK_f, Mi.lcB_nm, Mi.lcB_2, Mi.evE_var, Mi.evE_non, Mi.evE_bl, Mi.evE_int, Mi.evE_str, Mi.evE_gl, Mi.evE_bty, Mi.evE_bin, Mi.evE_neg, Mi.evE_not, Mi.evE_and, Mi.evE_or, Mi.evE_cmp, Mi.evE_chn, Mi.evE_ite, Mi.evE_tup, Mi.evE_lst, Mi.evE_cell, Mi.evE_call, Mi.callP_sto, Mi.evE_bi, Mi.evE_idx, Mi.evE_sli, Mi.evE_lc, Mi.evE_lrg, Mi.evE_lrd, Mi.evA_nil, Mi.evA_cons, Mi.evI_rng1, Mi.evI_rng2, Mi.evI_zip, Mi.evI_enu, Mi.evI_sq, Mi.tstR_false, Mi.tstR_true, Mi.optR_false, Mi.optR_true, Mi.oInt_int, Mi.isOmit_omit, Mi.evS_skip, Mi.evS_seq, Mi.evS_set, Mi.evS_setT, Mi.evS_put, Mi.evS_app, Mi.evS_drop, Mi.evS_ret, Mi.evS_ite, Mi.evS_for, Mi.evS_while, Mi.evS_raise, Mi.sto_some, Mi.sto_none, Mi.val_nx, Mi.val_rt, Mi.setTg_nm, Mi.setTg_nil, Mi.setTg_cons, Mi.wipe_nil, Mi.wipe_cons, Mi.forR_nil, Mi.truV_bl, Mi.truV_non, Mi.truV_int, Mi.add_ii, Mi.sub_ii, Mi.lt_ii, Mi.le_ii, Mi.gt_ii, Mi.ge_ii, Mi.isn_v, Mi.notn_v, Mi.isN_non, Mi.isN_int, Mi.isN_tup, Mi.isN_bl, Mi.isN_str, Mi.eq_ii, Mi.ne_ii, Mi.eq_ss, Mi.ne_ss, Mi.neg_i, Mi.walk_lst, Mi.walk_tup, Mi.walk_scr, Mi.len_tup, Mi.len_lst, Mi.len_scr, Mi.tuple_lst, Mi.tuple_tup, Mi.list_tup, Mi.list_lst, Mi.int_int, Mi.int_bl, Mi.abs_int, Mi.min_int, Mi.max_int, Mi.isi_def, Mi.sum_lst, Mi.all_lst, Mi.any_lst, Mi.ints_map, Mi.bools_map, R.bind_ok, R.bind_ex, R.bind_bad, R.lift_some, R.noEx_ok, List.getElem?_cons_zero, List.getElem?_cons_succ, Option.bind_some, Option.map_some, Option.bind_eq_bind, id_eq, List.set_cons_zero, List.set_cons_succ, if_true, if_false, Bool.false_eq_true, reduceIte, Bool.not_true, Bool.not_false, Ex.isOmit, pw, decide_eq_true q, mul_ii m1, mul_ii m2, mod_ii (i := c * 7919 + 104729 * (k : Int)) (j := 2147483646) (by decide), nc]
    · refine .eq (a := .cel st.length) (st := st ++ [.lst [.int c, .int (1 + (c + k) % 2147483646)]]) ?_ ⟨rfl, fin c _ hc⟩
      simp (implicitDefEqProofs := false) only [Mi.seqK_nx, Mi.seqK_rt, Mi.andK_t, Mi.andK_f, Mi.orK_t, Mi.orK_f, Mi.forB_nm, Mi.forB_2, Mi.binK2_d, Mi.binK1_d, Mi.negK_d, Mi.truK_d, Mi.tstK_d, Mi.notK_d, Mi.cmpK2_d, Mi.cmpK1_d, Mi.chnK3_t, Mi.chnK3_f, Mi.chnK2_d, Mi.chnK1_d, Mi.iteK_t, Mi.iteK_f, Mi.tupK_d, Mi.lstK_d, Mi.cellK_d, Mi.callK_d, Mi.biK_d, Mi.idxK2_d, Mi.idxK1_d, Mi.sliK3_t, Mi.sliK3_l, Mi.oIntK_i, Mi.sliK2_d, Mi.sliK1_d, Mi.lcT_d, Mi.lcE_d, Mi.lcK_d, Mi.lrgK2_d, Mi.lrgK1_d, Mi.consK2_d, Mi.consK1_d, Mi.rng1K_d, Mi.rng2K2_d, Mi.rng2K1_d, Mi.zipO_d, Mi.zipK2_d, Mi.zipK1_d, Mi.enuK_d, Mi.sqK_d, Mi.setK_d, Mi.setTK_d, Mi.putK3_d, Mi.putK2_d, Mi.putK1_d, Mi.appK2_d, Mi.appK1_d, Mi.dropK_d, Mi.retK_d, Mi.iteS_t, Mi.iteS_f, Mi.forK_d, Mi.turnK2_d, Mi.turnK1_t, Mi.turnK1_f, Mi.whK_t, Mi.whK_f, Mi.lcB_nm, Mi.lcB_2, Mi.evE_var, Mi.evE_non, Mi.evE_bl, Mi.evE_int, Mi.evE_str, Mi.evE_gl, Mi.evE_bty, Mi.evE_bin, Mi.evE_neg, Mi.evE_not, Mi.evE_and, Mi.evE_or, Mi.evE_cmp, Mi.evE_chn, Mi.evE_ite, Mi.evE_tup, Mi.evE_lst, Mi.evE_cell, Mi.evE_call, Mi.callP_sto, Mi.evE_bi, Mi.evE_idx, Mi.evE_sli, Mi.evE_lc, Mi.evE_lrg, Mi.evE_lrd, Mi.evA_nil, Mi.evA_cons, Mi.evI_rng1, Mi.evI_rng2, Mi.evI_zip, Mi.evI_enu, Mi.evI_sq, Mi.tstR_false, Mi.tstR_true, Mi.optR_false, Mi.optR_true, Mi.oInt_int, Mi.isOmit_omit, Mi.evS_skip, Mi.evS_seq, Mi.evS_set, Mi.evS_setT, Mi.evS_put, Mi.evS_app, Mi.evS_drop, Mi.evS_ret, Mi.evS_ite, Mi.evS_for, Mi.evS_while, Mi.evS_raise, Mi.sto_some, Mi.sto_none, Mi.val_nx, Mi.val_rt, Mi.setTg_nm, Mi.setTg_nil, Mi.setTg_cons, Mi.wipe_nil, Mi.wipe_cons, Mi.forR_nil, Mi.truV_bl, Mi.truV_non, Mi.truV_int, Mi.add_ii, Mi.sub_ii, Mi.lt_ii, Mi.le_ii, Mi.gt_ii, Mi.ge_ii, Mi.isn_v, Mi.notn_v, Mi.isN_non, Mi.isN_int, Mi.isN_tup, Mi.isN_bl, Mi.isN_str, Mi.eq_ii, Mi.ne_ii, Mi.eq_ss, Mi.ne_ss, Mi.neg_i, Mi.walk_lst, Mi.walk_tup, Mi.walk_scr, Mi.len_tup, Mi.len_lst, Mi.len_scr, Mi.tuple_lst, Mi.tuple_tup, Mi.list_tup, Mi.list_lst, Mi.int_int, Mi.int_bl, Mi.abs_int, Mi.min_int, Mi.max_int, Mi.isi_def, Mi.sum_lst, Mi.all_lst, Mi.any_lst, Mi.ints_map, Mi.bools_map, R.bind_ok, R.bind_ex, R.bind_bad, R.lift_some, R.noEx_ok, List.getElem?_cons_zero, List.getElem?_cons_succ, Option.bind_some, Option.map_some, Option.bind_eq_bind, id_eq, List.set_cons_zero, List.set_cons_succ, if_true, if_false, Bool.false_eq_true, reduceIte, Bool.not_true, Bool.not_false, Ex.isOmit, pw, decide_eq_false q, mod_ii (i := c + (k : Int)) (j := 2147483646) (by decide), nc]
  have sh : b21 = .seq (.set 2 (.int 0)) (.seq (.ite (.cmp .Lt (.var 1) (.bi .len (.cons (.var 0) .nil))) (.seq (.set 2 (.bi .abs (.cons (.bi .int (.cons (.idx (.var 0) (.var 1)) .nil)) .nil))) .skip) .skip) (.seq (.ite (.cmp .Lt (.var 2) (.bin .Pow (.int 10) (.int 18))) (.seq (.ret (.cell (.lst (.cons (.int 0) (.cons (.bin .Add (.int 1) (.bin .Mod (.bi .int (.cons (.bin .Add (.bin .Mult (.var 2) (.int 7919)) (.bin .Mult (.int 104729) (.var 1))) .nil)) (.int 2147483646))) .nil))))) .skip) .skip) (.seq (.ret (.cell (.lst (.cons (.var 2) (.cons (.bin .Add (.int 1) (.bin .Mod (.bi .int (.cons (.bin .Add (.var 2) (.var 1)) .nil)) (.int 2147483646))) .nil))))) .skip))) := rfl
  rw [sh, evS_seq, evS_set, evE_int, R.bind_ok, setK_d, R.bind_ok, seqK_nx, evS_seq]
  by_cases q : k < ns.length
  · have e1 : ixV st (.scr (ns.map .int)) (.int (k : Nat)) = some (.int ns[k]) := by rw [Mi.ix_scr, at_map _ _ _ q]
    simp (implicitDefEqProofs := false) only [Mi.seqK_nx, Mi.seqK_rt, Mi.andK_t, Mi.andK_f, Mi.orK_t, Mi.orK_f, Mi.forB_nm, Mi.forB_2, Mi.binK2_d, Mi.binK1_d, Mi.negK_d, Mi.truK_d, Mi.tstK_d, Mi.notK_d, Mi.cmpK2_d, Mi.cmpK1_d, Mi.chnK3_t, Mi.chnK3_f, Mi.chnK2_d, Mi.chnK1_d, Mi.iteK_t, Mi.iteK_f, Mi.tupK_d, Mi.lstK_d, Mi.cellK_d, Mi.callK_d, Mi.biK_d, Mi.idxK2_d, Mi.idxK1_d, Mi.sliK3_t, Mi.sliK3_l, Mi.oIntK_i, Mi.sliK2_d, Mi.sliK1_d, Mi.lcT_d, Mi.lcE_d, Mi.lcK_d, Mi.lrgK2_d, Mi.lrgK1_d, Mi.consK2_d, Mi.consK1_d, Mi.rng1K_d, Mi.rng2K2_d, Mi.rng2K1_d, Mi.zipO_d, Mi.zipK2_d, Mi.zipK1_d, Mi.enuK_d, Mi.sqK_d, Mi.setK_d, Mi.setTK_d, Mi.putK3_d, Mi.putK2_d, Mi.putK1_d, Mi.appK2_d, Mi.appK1_d, Mi.dropK_d, Mi.retK_d, Mi.iteS_t, Mi.iteS_f, Mi.forK_d, Mi.turnK2_d, Mi.turnK1_t, Mi.turnK1_f, Mi.whK_t, Mi.whK_f, Mi.lcB_nm, Mi.lcB_2, Mi.evE_var, Mi.evE_non, Mi.evE_bl, Mi.evE_int, Mi.evE_str, Mi.evE_gl, Mi.evE_bty, Mi.evE_bin, Mi.evE_neg, Mi.evE_not, Mi.evE_and, Mi.evE_or, Mi.evE_cmp, Mi.evE_chn, Mi.evE_ite, Mi.evE_tup, Mi.evE_lst, Mi.evE_cell, Mi.evE_call, Mi.callP_sto, Mi.evE_bi, Mi.evE_idx, Mi.evE_sli, Mi.evE_lc, Mi.evE_lrg, Mi.evE_lrd, Mi.evA_nil, Mi.evA_cons, Mi.evI_rng1, Mi.evI_rng2, Mi.evI_zip, Mi.evI_enu, Mi.evI_sq, Mi.tstR_false, Mi.tstR_true, Mi.optR_false, Mi.optR_true, Mi.oInt_int, Mi.isOmit_omit, Mi.evS_skip, Mi.evS_seq, Mi.evS_set, Mi.evS_setT, Mi.evS_put, Mi.evS_app, Mi.evS_drop, Mi.evS_ret, Mi.evS_ite, Mi.evS_for, Mi.evS_while, Mi.evS_raise, Mi.sto_some, Mi.sto_none, Mi.val_nx, Mi.val_rt, Mi.setTg_nm, Mi.setTg_nil, Mi.setTg_cons, Mi.wipe_nil, Mi.wipe_cons, Mi.forR_nil, Mi.truV_bl, Mi.truV_non, Mi.truV_int, Mi.add_ii, Mi.sub_ii, Mi.lt_ii, Mi.le_ii, Mi.gt_ii, Mi.ge_ii, Mi.isn_v, Mi.notn_v, Mi.isN_non, Mi.isN_int, Mi.isN_tup, Mi.isN_bl, Mi.isN_str, Mi.eq_ii, Mi.ne_ii, Mi.eq_ss, Mi.ne_ss, Mi.neg_i, Mi.walk_lst, Mi.walk_tup, Mi.walk_scr, Mi.len_tup, Mi.len_lst, Mi.len_scr, Mi.tuple_lst, Mi.tuple_tup, Mi.list_tup, Mi.list_lst, Mi.int_int, Mi.int_bl, Mi.abs_int, Mi.min_int, Mi.max_int, Mi.isi_def, Mi.sum_lst, Mi.all_lst, Mi.any_lst, Mi.ints_map, Mi.bools_map, R.bind_ok, R.bind_ex, R.bind_bad, R.lift_some, R.noEx_ok, List.getElem?_cons_zero, List.getElem?_cons_succ, Option.bind_some, Option.map_some, Option.bind_eq_bind, id_eq, List.set_cons_zero, List.set_cons_succ, if_true, if_false, Bool.false_eq_true, reduceIte, Bool.not_true, Bool.not_false, Ex.isOmit, List.length_map, decide_eq_true (show (k : Int) < (ns.length : Int) by omega), e1]
    exact tail _ (by split <;> omega)
  · simp (implicitDefEqProofs := false) only [Mi.seqK_nx, Mi.seqK_rt, Mi.andK_t, Mi.andK_f, Mi.orK_t, Mi.orK_f, Mi.forB_nm, Mi.forB_2, Mi.binK2_d, Mi.binK1_d, Mi.negK_d, Mi.truK_d, Mi.tstK_d, Mi.notK_d, Mi.cmpK2_d, Mi.cmpK1_d, Mi.chnK3_t, Mi.chnK3_f, Mi.chnK2_d, Mi.chnK1_d, Mi.iteK_t, Mi.iteK_f, Mi.tupK_d, Mi.lstK_d, Mi.cellK_d, Mi.callK_d, Mi.biK_d, Mi.idxK2_d, Mi.idxK1_d, Mi.sliK3_t, Mi.sliK3_l, Mi.oIntK_i, Mi.sliK2_d, Mi.sliK1_d, Mi.lcT_d, Mi.lcE_d, Mi.lcK_d, Mi.lrgK2_d, Mi.lrgK1_d, Mi.consK2_d, Mi.consK1_d, Mi.rng1K_d, Mi.rng2K2_d, Mi.rng2K1_d, Mi.zipO_d, Mi.zipK2_d, Mi.zipK1_d, Mi.enuK_d, Mi.sqK_d, Mi.setK_d, Mi.setTK_d, Mi.putK3_d, Mi.putK2_d, Mi.putK1_d, Mi.appK2_d, Mi.appK1_d, Mi.dropK_d, Mi.retK_d, Mi.iteS_t, Mi.iteS_f, Mi.forK_d, Mi.turnK2_d, Mi.turnK1_t, Mi.turnK1_f, Mi.whK_t, Mi.whK_f, Mi.lcB_nm, Mi.lcB_2, Mi.evE_var, Mi.evE_non, Mi.evE_bl, Mi.evE_int, Mi.evE_str, Mi.evE_gl, Mi.evE_bty, Mi.evE_bin, Mi.evE_neg, Mi.evE_not, Mi.evE_and, Mi.evE_or, Mi.evE_cmp, Mi.evE_chn, Mi.evE_ite, Mi.evE_tup, Mi.evE_lst, Mi.evE_cell, Mi.evE_call, Mi.callP_sto, Mi.evE_bi, Mi.evE_idx, Mi.evE_sli, Mi.evE_lc, Mi.evE_lrg, Mi.evE_lrd, Mi.evA_nil, Mi.evA_cons, Mi.evI_rng1, Mi.evI_rng2, Mi.evI_zip, Mi.evI_enu, Mi.evI_sq, Mi.tstR_false, Mi.tstR_true, Mi.optR_false, Mi.optR_true, Mi.oInt_int, Mi.isOmit_omit, Mi.evS_skip, Mi.evS_seq, Mi.evS_set, Mi.evS_setT, Mi.evS_put, Mi.evS_app, Mi.evS_drop, Mi.evS_ret, Mi.evS_ite, Mi.evS_for, Mi.evS_while, Mi.evS_raise, Mi.sto_some, Mi.sto_none, Mi.val_nx, Mi.val_rt, Mi.setTg_nm, Mi.setTg_nil, Mi.setTg_cons, Mi.wipe_nil, Mi.wipe_cons, Mi.forR_nil, Mi.truV_bl, Mi.truV_non, Mi.truV_int, Mi.add_ii, Mi.sub_ii, Mi.lt_ii, Mi.le_ii, Mi.gt_ii, Mi.ge_ii, Mi.isn_v, Mi.notn_v, Mi.isN_non, Mi.isN_int, Mi.isN_tup, Mi.isN_bl, Mi.isN_str, Mi.eq_ii, Mi.ne_ii, Mi.eq_ss, Mi.ne_ss, Mi.neg_i, Mi.walk_lst, Mi.walk_tup, Mi.walk_scr, Mi.len_tup, Mi.len_lst, Mi.len_scr, Mi.tuple_lst, Mi.tuple_tup, Mi.list_tup, Mi.list_lst, Mi.int_int, Mi.int_bl, Mi.abs_int, Mi.min_int, Mi.max_int, Mi.isi_def, Mi.sum_lst, Mi.all_lst, Mi.any_lst, Mi.ints_map, Mi.bools_map, R.bind_ok, R.bind_ex, R.bind_bad, R.lift_some, R.noEx_ok, List.getElem?_cons_zero, List.getElem?_cons_succ, Option.bind_some, Option.map_some, Option.bind_eq_bind, id_eq, List.set_cons_zero, List.set_cons_succ, if_true, if_false, Bool.false_eq_true, reduceIte, Bool.not_true, Bool.not_false, Ex.isOmit, List.length_map, decide_eq_false (show ¬ (k : Int) < (ns.length : Int) by omega)]
    exact tail 0 (by decide)
theorem law_of {n : Nat} {xs : List PV} {st : Sto} (h : SrcAt n st) (h1 : xs ≠ []) (h2 : xs.length ≤ 1000) : Ok (RU N (d + 2) 23 [.cel n, .lst xs] st) fun v st' => v ∈ xs ∧ UpdS n st st' := by
  rw [RU, u23]
  have hp : 0 < xs.length := List.length_pos_iff.mpr h1
  obtain ⟨_, st1, e1, r, rfl, r0, r1, up⟩ := draw (N := N) (d := d) h (m := (xs.length : Int)) (by omega) (by omega)
  obtain ⟨k, rfl⟩ : ∃ k : Nat, r = (k : Int) := ⟨r.toNat, by omega⟩
  have hk : k < xs.length := by omega
  refine .eq (a := xs[k]) (st := st1) ?_ ⟨List.getElem_mem hk, up⟩
  simp (implicitDefEqProofs := false) only [Mi.seqK_nx, Mi.seqK_rt, Mi.andK_t, Mi.andK_f, Mi.orK_t, Mi.orK_f, Mi.forB_nm, Mi.forB_2, Mi.binK2_d, Mi.binK1_d, Mi.negK_d, Mi.truK_d, Mi.tstK_d, Mi.notK_d, Mi.cmpK2_d, Mi.cmpK1_d, Mi.chnK3_t, Mi.chnK3_f, Mi.chnK2_d, Mi.chnK1_d, Mi.iteK_t, Mi.iteK_f, Mi.tupK_d, Mi.lstK_d, Mi.cellK_d, Mi.callK_d, Mi.biK_d, Mi.idxK2_d, Mi.idxK1_d, Mi.sliK3_t, Mi.sliK3_l, Mi.oIntK_i, Mi.sliK2_d, Mi.sliK1_d, Mi.lcT_d, Mi.lcE_d, Mi.lcK_d, Mi.lrgK2_d, Mi.lrgK1_d, Mi.consK2_d, Mi.consK1_d, Mi.rng1K_d, Mi.rng2K2_d, Mi.rng2K1_d, Mi.zipO_d, Mi.zipK2_d, Mi.zipK1_d, Mi.enuK_d, Mi.sqK_d, Mi.setK_d, Mi.setTK_d, Mi.putK3_d, Mi.putK2_d, Mi.putK1_d, Mi.appK2_d, Mi.appK1_d, Mi.dropK_d, Mi.retK_d, Mi.iteS_t, Mi.iteS_f, Mi.forK_d, Mi.turnK2_d, Mi.turnK1_t, Mi.turnK1_f, Mi.whK_t, Mi.whK_f, Mi.lcB_nm, Mi.lcB_2, Mi.evE_var, Mi.evE_non, Mi.evE_bl, Mi.evE_int, Mi.evE_str, Mi.evE_gl, Mi.evE_bty, Mi.evE_bin, Mi.evE_neg, Mi.evE_not, Mi.evE_and, Mi.evE_or, Mi.evE_cmp, Mi.evE_chn, Mi.evE_ite, Mi.evE_tup, Mi.evE_lst, Mi.evE_cell, Mi.evE_call, Mi.callP_sto, Mi.evE_bi, Mi.evE_idx, Mi.evE_sli, Mi.evE_lc, Mi.evE_lrg, Mi.evE_lrd, Mi.evA_nil, Mi.evA_cons, Mi.evI_rng1, Mi.evI_rng2, Mi.evI_zip, Mi.evI_enu, Mi.evI_sq, Mi.tstR_false, Mi.tstR_true, Mi.optR_false, Mi.optR_true, Mi.oInt_int, Mi.isOmit_omit, Mi.evS_skip, Mi.evS_seq, Mi.evS_set, Mi.evS_setT, Mi.evS_put, Mi.evS_app, Mi.evS_drop, Mi.evS_ret, Mi.evS_ite, Mi.evS_for, Mi.evS_while, Mi.evS_raise, Mi.sto_some, Mi.sto_none, Mi.val_nx, Mi.val_rt, Mi.setTg_nm, Mi.setTg_nil, Mi.setTg_cons, Mi.wipe_nil, Mi.wipe_cons, Mi.forR_nil, Mi.truV_bl, Mi.truV_non, Mi.truV_int, Mi.add_ii, Mi.sub_ii, Mi.lt_ii, Mi.le_ii, Mi.gt_ii, Mi.ge_ii, Mi.isn_v, Mi.notn_v, Mi.isN_non, Mi.isN_int, Mi.isN_tup, Mi.isN_bl, Mi.isN_str, Mi.eq_ii, Mi.ne_ii, Mi.eq_ss, Mi.ne_ss, Mi.neg_i, Mi.walk_lst, Mi.walk_tup, Mi.walk_scr, Mi.len_tup, Mi.len_lst, Mi.len_scr, Mi.tuple_lst, Mi.tuple_tup, Mi.list_tup, Mi.list_lst, Mi.int_int, Mi.int_bl, Mi.abs_int, Mi.min_int, Mi.max_int, Mi.isi_def, Mi.sum_lst, Mi.all_lst, Mi.any_lst, Mi.ints_map, Mi.bools_map, R.bind_ok, R.bind_ex, R.bind_bad, R.lift_some, R.noEx_ok, List.getElem?_cons_zero, List.getElem?_cons_succ, Option.bind_some, Option.map_some, Option.bind_eq_bind, id_eq, List.set_cons_zero, List.set_cons_succ, if_true, if_false, Bool.false_eq_true, reduceIte, Bool.not_true, Bool.not_false, Ex.isOmit, b23, e1, Mi.ix_lst, atI_nat _ _ hk, List.getElem?_eq_getElem hk]
theorem law_sum (xs ys : List Int) (hx : ∀ x ∈ xs, -(2 ^ 64) < x ∧ x < 2 ^ 64) (hl : xs.length ≤ 1000) : RU N (d + 1) 24 [.lst (xs.map .int), .tup (ys.map .int)] st = .ok (.int (dotZ xs ys)) st := by
  rw [RU, u24]
  simp (implicitDefEqProofs := false) only [Mi.seqK_nx, Mi.seqK_rt, Mi.andK_t, Mi.andK_f, Mi.orK_t, Mi.orK_f, Mi.forB_nm, Mi.forB_2, Mi.binK2_d, Mi.binK1_d, Mi.negK_d, Mi.truK_d, Mi.tstK_d, Mi.notK_d, Mi.cmpK2_d, Mi.cmpK1_d, Mi.chnK3_t, Mi.chnK3_f, Mi.chnK2_d, Mi.chnK1_d, Mi.iteK_t, Mi.iteK_f, Mi.tupK_d, Mi.lstK_d, Mi.cellK_d, Mi.callK_d, Mi.biK_d, Mi.idxK2_d, Mi.idxK1_d, Mi.sliK3_t, Mi.sliK3_l, Mi.oIntK_i, Mi.sliK2_d, Mi.sliK1_d, Mi.lcT_d, Mi.lcE_d, Mi.lcK_d, Mi.lrgK2_d, Mi.lrgK1_d, Mi.consK2_d, Mi.consK1_d, Mi.rng1K_d, Mi.rng2K2_d, Mi.rng2K1_d, Mi.zipO_d, Mi.zipK2_d, Mi.zipK1_d, Mi.enuK_d, Mi.sqK_d, Mi.setK_d, Mi.setTK_d, Mi.putK3_d, Mi.putK2_d, Mi.putK1_d, Mi.appK2_d, Mi.appK1_d, Mi.dropK_d, Mi.retK_d, Mi.iteS_t, Mi.iteS_f, Mi.forK_d, Mi.turnK2_d, Mi.turnK1_t, Mi.turnK1_f, Mi.whK_t, Mi.whK_f, Mi.lcB_nm, Mi.lcB_2, Mi.evE_var, Mi.evE_non, Mi.evE_bl, Mi.evE_int, Mi.evE_str, Mi.evE_gl, Mi.evE_bty, Mi.evE_bin, Mi.evE_neg, Mi.evE_not, Mi.evE_and, Mi.evE_or, Mi.evE_cmp, Mi.evE_chn, Mi.evE_ite, Mi.evE_tup, Mi.evE_lst, Mi.evE_cell, Mi.evE_call, Mi.callP_sto, Mi.evE_bi, Mi.evE_idx, Mi.evE_sli, Mi.evE_lc, Mi.evE_lrg, Mi.evE_lrd, Mi.evA_nil, Mi.evA_cons, Mi.evI_rng1, Mi.evI_rng2, Mi.evI_zip, Mi.evI_enu, Mi.evI_sq, Mi.tstR_false, Mi.tstR_true, Mi.optR_false, Mi.optR_true, Mi.oInt_int, Mi.isOmit_omit, Mi.evS_skip, Mi.evS_seq, Mi.evS_set, Mi.evS_setT, Mi.evS_put, Mi.evS_app, Mi.evS_drop, Mi.evS_ret, Mi.evS_ite, Mi.evS_for, Mi.evS_while, Mi.evS_raise, Mi.sto_some, Mi.sto_none, Mi.val_nx, Mi.val_rt, Mi.setTg_nm, Mi.setTg_nil, Mi.setTg_cons, Mi.wipe_nil, Mi.wipe_cons, Mi.forR_nil, Mi.truV_bl, Mi.truV_non, Mi.truV_int, Mi.add_ii, Mi.sub_ii, Mi.lt_ii, Mi.le_ii, Mi.gt_ii, Mi.ge_ii, Mi.isn_v, Mi.notn_v, Mi.isN_non, Mi.isN_int, Mi.isN_tup, Mi.isN_bl, Mi.isN_str, Mi.eq_ii, Mi.ne_ii, Mi.eq_ss, Mi.ne_ss, Mi.neg_i, Mi.walk_lst, Mi.walk_tup, Mi.walk_scr, Mi.len_tup, Mi.len_lst, Mi.len_scr, Mi.tuple_lst, Mi.tuple_tup, Mi.list_tup, Mi.list_lst, Mi.int_int, Mi.int_bl, Mi.abs_int, Mi.min_int, Mi.max_int, Mi.isi_def, Mi.sum_lst, Mi.all_lst, Mi.any_lst, Mi.ints_map, Mi.bools_map, R.bind_ok, R.bind_ex, R.bind_bad, R.lift_some, R.noEx_ok, List.getElem?_cons_zero, List.getElem?_cons_succ, Option.bind_some, Option.map_some, Option.bind_eq_bind, id_eq, List.set_cons_zero, List.set_cons_succ, if_true, if_false, Bool.false_eq_true, reduceIte, Bool.not_true, Bool.not_false, Ex.isOmit, b24]
  rw [zip_ints, compR_map (g := fun p => PV.int (p.1 * p.2))]
  · simp (implicitDefEqProofs := false) only [Mi.seqK_nx, Mi.seqK_rt, Mi.andK_t, Mi.andK_f, Mi.orK_t, Mi.orK_f, Mi.forB_nm, Mi.forB_2, Mi.binK2_d, Mi.binK1_d, Mi.negK_d, Mi.truK_d, Mi.tstK_d, Mi.notK_d, Mi.cmpK2_d, Mi.cmpK1_d, Mi.chnK3_t, Mi.chnK3_f, Mi.chnK2_d, Mi.chnK1_d, Mi.iteK_t, Mi.iteK_f, Mi.tupK_d, Mi.lstK_d, Mi.cellK_d, Mi.callK_d, Mi.biK_d, Mi.idxK2_d, Mi.idxK1_d, Mi.sliK3_t, Mi.sliK3_l, Mi.oIntK_i, Mi.sliK2_d, Mi.sliK1_d, Mi.lcT_d, Mi.lcE_d, Mi.lcK_d, Mi.lrgK2_d, Mi.lrgK1_d, Mi.consK2_d, Mi.consK1_d, Mi.rng1K_d, Mi.rng2K2_d, Mi.rng2K1_d, Mi.zipO_d, Mi.zipK2_d, Mi.zipK1_d, Mi.enuK_d, Mi.sqK_d, Mi.setK_d, Mi.setTK_d, Mi.putK3_d, Mi.putK2_d, Mi.putK1_d, Mi.appK2_d, Mi.appK1_d, Mi.dropK_d, Mi.retK_d, Mi.iteS_t, Mi.iteS_f, Mi.forK_d, Mi.turnK2_d, Mi.turnK1_t, Mi.turnK1_f, Mi.whK_t, Mi.whK_f, Mi.lcB_nm, Mi.lcB_2, Mi.evE_var, Mi.evE_non, Mi.evE_bl, Mi.evE_int, Mi.evE_str, Mi.evE_gl, Mi.evE_bty, Mi.evE_bin, Mi.evE_neg, Mi.evE_not, Mi.evE_and, Mi.evE_or, Mi.evE_cmp, Mi.evE_chn, Mi.evE_ite, Mi.evE_tup, Mi.evE_lst, Mi.evE_cell, Mi.evE_call, Mi.callP_sto, Mi.evE_bi, Mi.evE_idx, Mi.evE_sli, Mi.evE_lc, Mi.evE_lrg, Mi.evE_lrd, Mi.evA_nil, Mi.evA_cons, Mi.evI_rng1, Mi.evI_rng2, Mi.evI_zip, Mi.evI_enu, Mi.evI_sq, Mi.tstR_false, Mi.tstR_true, Mi.optR_false, Mi.optR_true, Mi.oInt_int, Mi.isOmit_omit, Mi.evS_skip, Mi.evS_seq, Mi.evS_set, Mi.evS_setT, Mi.evS_put, Mi.evS_app, Mi.evS_drop, Mi.evS_ret, Mi.evS_ite, Mi.evS_for, Mi.evS_while, Mi.evS_raise, Mi.sto_some, Mi.sto_none, Mi.val_nx, Mi.val_rt, Mi.setTg_nm, Mi.setTg_nil, Mi.setTg_cons, Mi.wipe_nil, Mi.wipe_cons, Mi.forR_nil, Mi.truV_bl, Mi.truV_non, Mi.truV_int, Mi.add_ii, Mi.sub_ii, Mi.lt_ii, Mi.le_ii, Mi.gt_ii, Mi.ge_ii, Mi.isn_v, Mi.notn_v, Mi.isN_non, Mi.isN_int, Mi.isN_tup, Mi.isN_bl, Mi.isN_str, Mi.eq_ii, Mi.ne_ii, Mi.eq_ss, Mi.ne_ss, Mi.neg_i, Mi.walk_lst, Mi.walk_tup, Mi.walk_scr, Mi.len_tup, Mi.len_lst, Mi.len_scr, Mi.tuple_lst, Mi.tuple_tup, Mi.list_tup, Mi.list_lst, Mi.int_int, Mi.int_bl, Mi.abs_int, Mi.min_int, Mi.max_int, Mi.isi_def, Mi.sum_lst, Mi.all_lst, Mi.any_lst, Mi.ints_map, Mi.bools_map, R.bind_ok, R.bind_ex, R.bind_bad, R.lift_some, R.noEx_ok, List.getElem?_cons_zero, List.getElem?_cons_succ, Option.bind_some, Option.map_some, Option.bind_eq_bind, id_eq, List.set_cons_zero, List.set_cons_succ, if_true, if_false, Bool.false_eq_true, reduceIte, Bool.not_true, Bool.not_false, Ex.isOmit, sum_lst]
    rw [if_pos (by rw [List.length_map, List.length_zip]; exact Nat.le_trans (Nat.min_le_left _ _) (Nat.le_trans hl big_lt))]
    simp (implicitDefEqProofs := false) only [Mi.seqK_nx, Mi.seqK_rt, Mi.andK_t, Mi.andK_f, Mi.orK_t, Mi.orK_f, Mi.forB_nm, Mi.forB_2, Mi.binK2_d, Mi.binK1_d, Mi.negK_d, Mi.truK_d, Mi.tstK_d, Mi.notK_d, Mi.cmpK2_d, Mi.cmpK1_d, Mi.chnK3_t, Mi.chnK3_f, Mi.chnK2_d, Mi.chnK1_d, Mi.iteK_t, Mi.iteK_f, Mi.tupK_d, Mi.lstK_d, Mi.cellK_d, Mi.callK_d, Mi.biK_d, Mi.idxK2_d, Mi.idxK1_d, Mi.sliK3_t, Mi.sliK3_l, Mi.oIntK_i, Mi.sliK2_d, Mi.sliK1_d, Mi.lcT_d, Mi.lcE_d, Mi.lcK_d, Mi.lrgK2_d, Mi.lrgK1_d, Mi.consK2_d, Mi.consK1_d, Mi.rng1K_d, Mi.rng2K2_d, Mi.rng2K1_d, Mi.zipO_d, Mi.zipK2_d, Mi.zipK1_d, Mi.enuK_d, Mi.sqK_d, Mi.setK_d, Mi.setTK_d, Mi.putK3_d, Mi.putK2_d, Mi.putK1_d, Mi.appK2_d, Mi.appK1_d, Mi.dropK_d, Mi.retK_d, Mi.iteS_t, Mi.iteS_f, Mi.forK_d, Mi.turnK2_d, Mi.turnK1_t, Mi.turnK1_f, Mi.whK_t, Mi.whK_f, Mi.lcB_nm, Mi.lcB_2, Mi.evE_var, Mi.evE_non, Mi.evE_bl, Mi.evE_int, Mi.evE_str, Mi.evE_gl, Mi.evE_bty, Mi.evE_bin, Mi.evE_neg, Mi.evE_not, Mi.evE_and, Mi.evE_or, Mi.evE_cmp, Mi.evE_chn, Mi.evE_ite, Mi.evE_tup, Mi.evE_lst, Mi.evE_cell, Mi.evE_call, Mi.callP_sto, Mi.evE_bi, Mi.evE_idx, Mi.evE_sli, Mi.evE_lc, Mi.evE_lrg, Mi.evE_lrd, Mi.evA_nil, Mi.evA_cons, Mi.evI_rng1, Mi.evI_rng2, Mi.evI_zip, Mi.evI_enu, Mi.evI_sq, Mi.tstR_false, Mi.tstR_true, Mi.optR_false, Mi.optR_true, Mi.oInt_int, Mi.isOmit_omit, Mi.evS_skip, Mi.evS_seq, Mi.evS_set, Mi.evS_setT, Mi.evS_put, Mi.evS_app, Mi.evS_drop, Mi.evS_ret, Mi.evS_ite, Mi.evS_for, Mi.evS_while, Mi.evS_raise, Mi.sto_some, Mi.sto_none, Mi.val_nx, Mi.val_rt, Mi.setTg_nm, Mi.setTg_nil, Mi.setTg_cons, Mi.wipe_nil, Mi.wipe_cons, Mi.forR_nil, Mi.truV_bl, Mi.truV_non, Mi.truV_int, Mi.add_ii, Mi.sub_ii, Mi.lt_ii, Mi.le_ii, Mi.gt_ii, Mi.ge_ii, Mi.isn_v, Mi.notn_v, Mi.isN_non, Mi.isN_int, Mi.isN_tup, Mi.isN_bl, Mi.isN_str, Mi.eq_ii, Mi.ne_ii, Mi.eq_ss, Mi.ne_ss, Mi.neg_i, Mi.walk_lst, Mi.walk_tup, Mi.walk_scr, Mi.len_tup, Mi.len_lst, Mi.len_scr, Mi.tuple_lst, Mi.tuple_tup, Mi.list_tup, Mi.list_lst, Mi.int_int, Mi.int_bl, Mi.abs_int, Mi.min_int, Mi.max_int, Mi.isi_def, Mi.sum_lst, Mi.all_lst, Mi.any_lst, Mi.ints_map, Mi.bools_map, R.bind_ok, R.bind_ex, R.bind_bad, R.lift_some, R.noEx_ok, List.getElem?_cons_zero, List.getElem?_cons_succ, Option.bind_some, Option.map_some, Option.bind_eq_bind, id_eq, List.set_cons_zero, List.set_cons_succ, if_true, if_false, Bool.false_eq_true, reduceIte, Bool.not_true, Bool.not_false, Ex.isOmit, sum_lst]
    rw [show (fun p : Int × Int => PV.int (p.1 * p.2)) = PV.int ∘ (fun p : Int × Int => p.1 * p.2) from rfl, ← List.map_map, ints_map]
    rfl
  · rintro ⟨a, b⟩ hp
    have ha := hx a (List.of_mem_zip hp).1
    simp (implicitDefEqProofs := false) only [Mi.seqK_nx, Mi.seqK_rt, Mi.andK_t, Mi.andK_f, Mi.orK_t, Mi.orK_f, Mi.forB_nm, Mi.forB_2, Mi.binK2_d, Mi.binK1_d, Mi.negK_d, Mi.truK_d, Mi.tstK_d, Mi.notK_d, Mi.cmpK2_d, Mi.cmpK1_d, Mi.chnK3_t, Mi.chnK3_f, Mi.chnK2_d, Mi.chnK1_d, Mi.iteK_t, Mi.iteK_f, Mi.tupK_d, Mi.lstK_d, Mi.cellK_d, Mi.callK_d, Mi.biK_d, Mi.idxK2_d, Mi.idxK1_d, Mi.sliK3_t, Mi.sliK3_l, Mi.oIntK_i, Mi.sliK2_d, Mi.sliK1_d, Mi.lcT_d, Mi.lcE_d, Mi.lcK_d, Mi.lrgK2_d, Mi.lrgK1_d, Mi.consK2_d, Mi.consK1_d, Mi.rng1K_d, Mi.rng2K2_d, Mi.rng2K1_d, Mi.zipO_d, Mi.zipK2_d, Mi.zipK1_d, Mi.enuK_d, Mi.sqK_d, Mi.setK_d, Mi.setTK_d, Mi.putK3_d, Mi.putK2_d, Mi.putK1_d, Mi.appK2_d, Mi.appK1_d, Mi.dropK_d, Mi.retK_d, Mi.iteS_t, Mi.iteS_f, Mi.forK_d, Mi.turnK2_d, Mi.turnK1_t, Mi.turnK1_f, Mi.whK_t, Mi.whK_f, Mi.lcB_nm, Mi.lcB_2, Mi.evE_var, Mi.evE_non, Mi.evE_bl, Mi.evE_int, Mi.evE_str, Mi.evE_gl, Mi.evE_bty, Mi.evE_bin, Mi.evE_neg, Mi.evE_not, Mi.evE_and, Mi.evE_or, Mi.evE_cmp, Mi.evE_chn, Mi.evE_ite, Mi.evE_tup, Mi.evE_lst, Mi.evE_cell, Mi.evE_call, Mi.callP_sto, Mi.evE_bi, Mi.evE_idx, Mi.evE_sli, Mi.evE_lc, Mi.evE_lrg, Mi.evE_lrd, Mi.evA_nil, Mi.evA_cons, Mi.evI_rng1, Mi.evI_rng2, Mi.evI_zip, Mi.evI_enu, Mi.evI_sq, Mi.tstR_false, Mi.tstR_true, Mi.optR_false, Mi.optR_true, Mi.oInt_int, Mi.isOmit_omit, Mi.evS_skip, Mi.evS_seq, Mi.evS_set, Mi.evS_setT, Mi.evS_put, Mi.evS_app, Mi.evS_drop, Mi.evS_ret, Mi.evS_ite, Mi.evS_for, Mi.evS_while, Mi.evS_raise, Mi.sto_some, Mi.sto_none, Mi.val_nx, Mi.val_rt, Mi.setTg_nm, Mi.setTg_nil, Mi.setTg_cons, Mi.wipe_nil, Mi.wipe_cons, Mi.forR_nil, Mi.truV_bl, Mi.truV_non, Mi.truV_int, Mi.add_ii, Mi.sub_ii, Mi.lt_ii, Mi.le_ii, Mi.gt_ii, Mi.ge_ii, Mi.isn_v, Mi.notn_v, Mi.isN_non, Mi.isN_int, Mi.isN_tup, Mi.isN_bl, Mi.isN_str, Mi.eq_ii, Mi.ne_ii, Mi.eq_ss, Mi.ne_ss, Mi.neg_i, Mi.walk_lst, Mi.walk_tup, Mi.walk_scr, Mi.len_tup, Mi.len_lst, Mi.len_scr, Mi.tuple_lst, Mi.tuple_tup, Mi.list_tup, Mi.list_lst, Mi.int_int, Mi.int_bl, Mi.abs_int, Mi.min_int, Mi.max_int, Mi.isi_def, Mi.sum_lst, Mi.all_lst, Mi.any_lst, Mi.ints_map, Mi.bools_map, R.bind_ok, R.bind_ex, R.bind_bad, R.lift_some, R.noEx_ok, List.getElem?_cons_zero, List.getElem?_cons_succ, Option.bind_some, Option.map_some, Option.bind_eq_bind, id_eq, List.set_cons_zero, List.set_cons_succ, if_true, if_false, Bool.false_eq_true, reduceIte, Bool.not_true, Bool.not_false, Ex.isOmit, mul_ii (mulOk_l ha.1 ha.2)]

theorem two_many (many : Nat) (st : Sto) : binV st .Mult (.int 2) (.int (many : Nat)) = some (.int (2 * many)) := mul_ii (mulOk_l (i := 2) (j := (many : Int)) (by decide) (by decide))
theorem small_2 (many : Nat) (h : 1 ≤ many ∧ many ≤ 1000) : smallI (2 * (many : Int) - 1) = true := by
  have e : 2 * (many : Int) - 1 = ((2 * many - 1 : Nat) : Int) := by omega
  rw [e]; exact small_nat (by omega)
theorem toNat_2 (many : Nat) (h : 1 ≤ many) : (2 * (many : Int) - 1).toNat = 2 * many - 1 := by omega
theorem fact_line (many : Nat) (hm : 1 ≤ many ∧ many ≤ 100) (x : Fct) : RU N (d + 1) 9 [.int many, fV x] st = .ok (.tup ((lineF many x.2.1 x.2.2).map .int)) st := by
  have hb := big_lt
  obtain ⟨w, a, b⟩ := x
  rw [RU, u9]
  simp (implicitDefEqProofs := false) only [Mi.seqK_nx, Mi.seqK_rt, Mi.andK_t, Mi.andK_f, Mi.orK_t, Mi.orK_f, Mi.forB_nm, Mi.forB_2, Mi.binK2_d, Mi.binK1_d, Mi.negK_d, Mi.truK_d, Mi.tstK_d, Mi.notK_d, Mi.cmpK2_d, Mi.cmpK1_d, Mi.chnK3_t, Mi.chnK3_f, Mi.chnK2_d, Mi.chnK1_d, Mi.iteK_t, Mi.iteK_f, Mi.tupK_d, Mi.lstK_d, Mi.cellK_d, Mi.callK_d, Mi.biK_d, Mi.idxK2_d, Mi.idxK1_d, Mi.sliK3_t, Mi.sliK3_l, Mi.oIntK_i, Mi.sliK2_d, Mi.sliK1_d, Mi.lcT_d, Mi.lcE_d, Mi.lcK_d, Mi.lrgK2_d, Mi.lrgK1_d, Mi.consK2_d, Mi.consK1_d, Mi.rng1K_d, Mi.rng2K2_d, Mi.rng2K1_d, Mi.zipO_d, Mi.zipK2_d, Mi.zipK1_d, Mi.enuK_d, Mi.sqK_d, Mi.setK_d, Mi.setTK_d, Mi.putK3_d, Mi.putK2_d, Mi.putK1_d, Mi.appK2_d, Mi.appK1_d, Mi.dropK_d, Mi.retK_d, Mi.iteS_t, Mi.iteS_f, Mi.forK_d, Mi.turnK2_d, Mi.turnK1_t, Mi.turnK1_f, Mi.whK_t, Mi.whK_f, Mi.lcB_nm, Mi.lcB_2, Mi.evE_var, Mi.evE_non, Mi.evE_bl, Mi.evE_int, Mi.evE_str, Mi.evE_gl, Mi.evE_bty, Mi.evE_bin, Mi.evE_neg, Mi.evE_not, Mi.evE_and, Mi.evE_or, Mi.evE_cmp, Mi.evE_chn, Mi.evE_ite, Mi.evE_tup, Mi.evE_lst, Mi.evE_cell, Mi.evE_call, Mi.callP_sto, Mi.evE_bi, Mi.evE_idx, Mi.evE_sli, Mi.evE_lc, Mi.evE_lrg, Mi.evE_lrd, Mi.evA_nil, Mi.evA_cons, Mi.evI_rng1, Mi.evI_rng2, Mi.evI_zip, Mi.evI_enu, Mi.evI_sq, Mi.tstR_false, Mi.tstR_true, Mi.optR_false, Mi.optR_true, Mi.oInt_int, Mi.isOmit_omit, Mi.evS_skip, Mi.evS_seq, Mi.evS_set, Mi.evS_setT, Mi.evS_put, Mi.evS_app, Mi.evS_drop, Mi.evS_ret, Mi.evS_ite, Mi.evS_for, Mi.evS_while, Mi.evS_raise, Mi.sto_some, Mi.sto_none, Mi.val_nx, Mi.val_rt, Mi.setTg_nm, Mi.setTg_nil, Mi.setTg_cons, Mi.wipe_nil, Mi.wipe_cons, Mi.forR_nil, Mi.truV_bl, Mi.truV_non, Mi.truV_int, Mi.add_ii, Mi.sub_ii, Mi.lt_ii, Mi.le_ii, Mi.gt_ii, Mi.ge_ii, Mi.isn_v, Mi.notn_v, Mi.isN_non, Mi.isN_int, Mi.isN_tup, Mi.isN_bl, Mi.isN_str, Mi.eq_ii, Mi.ne_ii, Mi.eq_ss, Mi.ne_ss, Mi.neg_i, Mi.walk_lst, Mi.walk_tup, Mi.walk_scr, Mi.len_tup, Mi.len_lst, Mi.len_scr, Mi.tuple_lst, Mi.tuple_tup, Mi.list_tup, Mi.list_lst, Mi.int_int, Mi.int_bl, Mi.abs_int, Mi.min_int, Mi.max_int, Mi.isi_def, Mi.sum_lst, Mi.all_lst, Mi.any_lst, Mi.ints_map, Mi.bools_map, R.bind_ok, R.bind_ex, R.bind_bad, R.lift_some, R.noEx_ok, List.getElem?_cons_zero, List.getElem?_cons_succ, Option.bind_some, Option.map_some, Option.bind_eq_bind, id_eq, List.set_cons_zero, List.set_cons_succ, if_true, if_false, Bool.false_eq_true, reduceIte, Bool.not_true, Bool.not_false, Ex.isOmit, b9, two_many, small_2 many (by omega), toNat_2 many hm.1, rngL_nat]
  rw [compR_map (List.range (2 * many - 1)) _ (fun t => PV.int (b2i (a.any (· == ((t : Nat) : Int))) - b2i (b.any (· == ((t : Nat) : Int)))))]
  · have l1 : ((List.range (2 * many - 1)).map fun t => PV.int (b2i (a.any (· == ((t : Nat) : Int))) - b2i (b.any (· == ((t : Nat) : Int))))).length ≤ big := by rw [List.length_map, List.length_range]; omega
    simp (implicitDefEqProofs := false) only [Mi.seqK_nx, Mi.seqK_rt, Mi.andK_t, Mi.andK_f, Mi.orK_t, Mi.orK_f, Mi.forB_nm, Mi.forB_2, Mi.binK2_d, Mi.binK1_d, Mi.negK_d, Mi.truK_d, Mi.tstK_d, Mi.notK_d, Mi.cmpK2_d, Mi.cmpK1_d, Mi.chnK3_t, Mi.chnK3_f, Mi.chnK2_d, Mi.chnK1_d, Mi.iteK_t, Mi.iteK_f, Mi.tupK_d, Mi.lstK_d, Mi.cellK_d, Mi.callK_d, Mi.biK_d, Mi.idxK2_d, Mi.idxK1_d, Mi.sliK3_t, Mi.sliK3_l, Mi.oIntK_i, Mi.sliK2_d, Mi.sliK1_d, Mi.lcT_d, Mi.lcE_d, Mi.lcK_d, Mi.lrgK2_d, Mi.lrgK1_d, Mi.consK2_d, Mi.consK1_d, Mi.rng1K_d, Mi.rng2K2_d, Mi.rng2K1_d, Mi.zipO_d, Mi.zipK2_d, Mi.zipK1_d, Mi.enuK_d, Mi.sqK_d, Mi.setK_d, Mi.setTK_d, Mi.putK3_d, Mi.putK2_d, Mi.putK1_d, Mi.appK2_d, Mi.appK1_d, Mi.dropK_d, Mi.retK_d, Mi.iteS_t, Mi.iteS_f, Mi.forK_d, Mi.turnK2_d, Mi.turnK1_t, Mi.turnK1_f, Mi.whK_t, Mi.whK_f, Mi.lcB_nm, Mi.lcB_2, Mi.evE_var, Mi.evE_non, Mi.evE_bl, Mi.evE_int, Mi.evE_str, Mi.evE_gl, Mi.evE_bty, Mi.evE_bin, Mi.evE_neg, Mi.evE_not, Mi.evE_and, Mi.evE_or, Mi.evE_cmp, Mi.evE_chn, Mi.evE_ite, Mi.evE_tup, Mi.evE_lst, Mi.evE_cell, Mi.evE_call, Mi.callP_sto, Mi.evE_bi, Mi.evE_idx, Mi.evE_sli, Mi.evE_lc, Mi.evE_lrg, Mi.evE_lrd, Mi.evA_nil, Mi.evA_cons, Mi.evI_rng1, Mi.evI_rng2, Mi.evI_zip, Mi.evI_enu, Mi.evI_sq, Mi.tstR_false, Mi.tstR_true, Mi.optR_false, Mi.optR_true, Mi.oInt_int, Mi.isOmit_omit, Mi.evS_skip, Mi.evS_seq, Mi.evS_set, Mi.evS_setT, Mi.evS_put, Mi.evS_app, Mi.evS_drop, Mi.evS_ret, Mi.evS_ite, Mi.evS_for, Mi.evS_while, Mi.evS_raise, Mi.sto_some, Mi.sto_none, Mi.val_nx, Mi.val_rt, Mi.setTg_nm, Mi.setTg_nil, Mi.setTg_cons, Mi.wipe_nil, Mi.wipe_cons, Mi.forR_nil, Mi.truV_bl, Mi.truV_non, Mi.truV_int, Mi.add_ii, Mi.sub_ii, Mi.lt_ii, Mi.le_ii, Mi.gt_ii, Mi.ge_ii, Mi.isn_v, Mi.notn_v, Mi.isN_non, Mi.isN_int, Mi.isN_tup, Mi.isN_bl, Mi.isN_str, Mi.eq_ii, Mi.ne_ii, Mi.eq_ss, Mi.ne_ss, Mi.neg_i, Mi.walk_lst, Mi.walk_tup, Mi.walk_scr, Mi.len_tup, Mi.len_lst, Mi.len_scr, Mi.tuple_lst, Mi.tuple_tup, Mi.list_tup, Mi.list_lst, Mi.int_int, Mi.int_bl, Mi.abs_int, Mi.min_int, Mi.max_int, Mi.isi_def, Mi.sum_lst, Mi.all_lst, Mi.any_lst, Mi.ints_map, Mi.bools_map, R.bind_ok, R.bind_ex, R.bind_bad, R.lift_some, R.noEx_ok, List.getElem?_cons_zero, List.getElem?_cons_succ, Option.bind_some, Option.map_some, Option.bind_eq_bind, id_eq, List.set_cons_zero, List.set_cons_succ, if_true, if_false, Bool.false_eq_true, reduceIte, Bool.not_true, Bool.not_false, Ex.isOmit, l1]
    unfold lineF
    rw [List.map_map]; rfl
  · intro t ht
    have i1 : atI [.str w, .tup (a.map .int), PV.tup (b.map .int)] 1 = some (.tup (a.map .int)) := rfl
    have i2 : atI [.str w, .tup (a.map .int), PV.tup (b.map .int)] 2 = some (.tup (b.map .int)) := rfl
    simp (implicitDefEqProofs := false) only [Mi.seqK_nx, Mi.seqK_rt, Mi.andK_t, Mi.andK_f, Mi.orK_t, Mi.orK_f, Mi.forB_nm, Mi.forB_2, Mi.binK2_d, Mi.binK1_d, Mi.negK_d, Mi.truK_d, Mi.tstK_d, Mi.notK_d, Mi.cmpK2_d, Mi.cmpK1_d, Mi.chnK3_t, Mi.chnK3_f, Mi.chnK2_d, Mi.chnK1_d, Mi.iteK_t, Mi.iteK_f, Mi.tupK_d, Mi.lstK_d, Mi.cellK_d, Mi.callK_d, Mi.biK_d, Mi.idxK2_d, Mi.idxK1_d, Mi.sliK3_t, Mi.sliK3_l, Mi.oIntK_i, Mi.sliK2_d, Mi.sliK1_d, Mi.lcT_d, Mi.lcE_d, Mi.lcK_d, Mi.lrgK2_d, Mi.lrgK1_d, Mi.consK2_d, Mi.consK1_d, Mi.rng1K_d, Mi.rng2K2_d, Mi.rng2K1_d, Mi.zipO_d, Mi.zipK2_d, Mi.zipK1_d, Mi.enuK_d, Mi.sqK_d, Mi.setK_d, Mi.setTK_d, Mi.putK3_d, Mi.putK2_d, Mi.putK1_d, Mi.appK2_d, Mi.appK1_d, Mi.dropK_d, Mi.retK_d, Mi.iteS_t, Mi.iteS_f, Mi.forK_d, Mi.turnK2_d, Mi.turnK1_t, Mi.turnK1_f, Mi.whK_t, Mi.whK_f, Mi.lcB_nm, Mi.lcB_2, Mi.evE_var, Mi.evE_non, Mi.evE_bl, Mi.evE_int, Mi.evE_str, Mi.evE_gl, Mi.evE_bty, Mi.evE_bin, Mi.evE_neg, Mi.evE_not, Mi.evE_and, Mi.evE_or, Mi.evE_cmp, Mi.evE_chn, Mi.evE_ite, Mi.evE_tup, Mi.evE_lst, Mi.evE_cell, Mi.evE_call, Mi.callP_sto, Mi.evE_bi, Mi.evE_idx, Mi.evE_sli, Mi.evE_lc, Mi.evE_lrg, Mi.evE_lrd, Mi.evA_nil, Mi.evA_cons, Mi.evI_rng1, Mi.evI_rng2, Mi.evI_zip, Mi.evI_enu, Mi.evI_sq, Mi.tstR_false, Mi.tstR_true, Mi.optR_false, Mi.optR_true, Mi.oInt_int, Mi.isOmit_omit, Mi.evS_skip, Mi.evS_seq, Mi.evS_set, Mi.evS_setT, Mi.evS_put, Mi.evS_app, Mi.evS_drop, Mi.evS_ret, Mi.evS_ite, Mi.evS_for, Mi.evS_while, Mi.evS_raise, Mi.sto_some, Mi.sto_none, Mi.val_nx, Mi.val_rt, Mi.setTg_nm, Mi.setTg_nil, Mi.setTg_cons, Mi.wipe_nil, Mi.wipe_cons, Mi.forR_nil, Mi.truV_bl, Mi.truV_non, Mi.truV_int, Mi.add_ii, Mi.sub_ii, Mi.lt_ii, Mi.le_ii, Mi.gt_ii, Mi.ge_ii, Mi.isn_v, Mi.notn_v, Mi.isN_non, Mi.isN_int, Mi.isN_tup, Mi.isN_bl, Mi.isN_str, Mi.eq_ii, Mi.ne_ii, Mi.eq_ss, Mi.ne_ss, Mi.neg_i, Mi.walk_lst, Mi.walk_tup, Mi.walk_scr, Mi.len_tup, Mi.len_lst, Mi.len_scr, Mi.tuple_lst, Mi.tuple_tup, Mi.list_tup, Mi.list_lst, Mi.int_int, Mi.int_bl, Mi.abs_int, Mi.min_int, Mi.max_int, Mi.isi_def, Mi.sum_lst, Mi.all_lst, Mi.any_lst, Mi.ints_map, Mi.bools_map, R.bind_ok, R.bind_ex, R.bind_bad, R.lift_some, R.noEx_ok, List.getElem?_cons_zero, List.getElem?_cons_succ, Option.bind_some, Option.map_some, Option.bind_eq_bind, id_eq, List.set_cons_zero, List.set_cons_succ, if_true, if_false, Bool.false_eq_true, reduceIte, Bool.not_true, Bool.not_false, Ex.isOmit, fV, Mi.ix_tup, i1, in_ints]
    rcases Bool.eq_false_or_eq_true (a.any (· == ((t : Nat) : Int))) with q1 | q1 <;> rcases Bool.eq_false_or_eq_true (b.any (· == ((t : Nat) : Int))) with q2 | q2 <;> simp (implicitDefEqProofs := false) only [Mi.seqK_nx, Mi.seqK_rt, Mi.andK_t, Mi.andK_f, Mi.orK_t, Mi.orK_f, Mi.forB_nm, Mi.forB_2, Mi.binK2_d, Mi.binK1_d, Mi.negK_d, Mi.truK_d, Mi.tstK_d, Mi.notK_d, Mi.cmpK2_d, Mi.cmpK1_d, Mi.chnK3_t, Mi.chnK3_f, Mi.chnK2_d, Mi.chnK1_d, Mi.iteK_t, Mi.iteK_f, Mi.tupK_d, Mi.lstK_d, Mi.cellK_d, Mi.callK_d, Mi.biK_d, Mi.idxK2_d, Mi.idxK1_d, Mi.sliK3_t, Mi.sliK3_l, Mi.oIntK_i, Mi.sliK2_d, Mi.sliK1_d, Mi.lcT_d, Mi.lcE_d, Mi.lcK_d, Mi.lrgK2_d, Mi.lrgK1_d, Mi.consK2_d, Mi.consK1_d, Mi.rng1K_d, Mi.rng2K2_d, Mi.rng2K1_d, Mi.zipO_d, Mi.zipK2_d, Mi.zipK1_d, Mi.enuK_d, Mi.sqK_d, Mi.setK_d, Mi.setTK_d, Mi.putK3_d, Mi.putK2_d, Mi.putK1_d, Mi.appK2_d, Mi.appK1_d, Mi.dropK_d, Mi.retK_d, Mi.iteS_t, Mi.iteS_f, Mi.forK_d, Mi.turnK2_d, Mi.turnK1_t, Mi.turnK1_f, Mi.whK_t, Mi.whK_f, Mi.lcB_nm, Mi.lcB_2, Mi.evE_var, Mi.evE_non, Mi.evE_bl, Mi.evE_int, Mi.evE_str, Mi.evE_gl, Mi.evE_bty, Mi.evE_bin, Mi.evE_neg, Mi.evE_not, Mi.evE_and, Mi.evE_or, Mi.evE_cmp, Mi.evE_chn, Mi.evE_ite, Mi.evE_tup, Mi.evE_lst, Mi.evE_cell, Mi.evE_call, Mi.callP_sto, Mi.evE_bi, Mi.evE_idx, Mi.evE_sli, Mi.evE_lc, Mi.evE_lrg, Mi.evE_lrd, Mi.evA_nil, Mi.evA_cons, Mi.evI_rng1, Mi.evI_rng2, Mi.evI_zip, Mi.evI_enu, Mi.evI_sq, Mi.tstR_false, Mi.tstR_true, Mi.optR_false, Mi.optR_true, Mi.oInt_int, Mi.isOmit_omit, Mi.evS_skip, Mi.evS_seq, Mi.evS_set, Mi.evS_setT, Mi.evS_put, Mi.evS_app, Mi.evS_drop, Mi.evS_ret, Mi.evS_ite, Mi.evS_for, Mi.evS_while, Mi.evS_raise, Mi.sto_some, Mi.sto_none, Mi.val_nx, Mi.val_rt, Mi.setTg_nm, Mi.setTg_nil, Mi.setTg_cons, Mi.wipe_nil, Mi.wipe_cons, Mi.forR_nil, Mi.truV_bl, Mi.truV_non, Mi.truV_int, Mi.add_ii, Mi.sub_ii, Mi.lt_ii, Mi.le_ii, Mi.gt_ii, Mi.ge_ii, Mi.isn_v, Mi.notn_v, Mi.isN_non, Mi.isN_int, Mi.isN_tup, Mi.isN_bl, Mi.isN_str, Mi.eq_ii, Mi.ne_ii, Mi.eq_ss, Mi.ne_ss, Mi.neg_i, Mi.walk_lst, Mi.walk_tup, Mi.walk_scr, Mi.len_tup, Mi.len_lst, Mi.len_scr, Mi.tuple_lst, Mi.tuple_tup, Mi.list_tup, Mi.list_lst, Mi.int_int, Mi.int_bl, Mi.abs_int, Mi.min_int, Mi.max_int, Mi.isi_def, Mi.sum_lst, Mi.all_lst, Mi.any_lst, Mi.ints_map, Mi.bools_map, R.bind_ok, R.bind_ex, R.bind_bad, R.lift_some, R.noEx_ok, List.getElem?_cons_zero, List.getElem?_cons_succ, Option.bind_some, Option.map_some, Option.bind_eq_bind, id_eq, List.set_cons_zero, List.set_cons_succ, if_true, if_false, Bool.false_eq_true, reduceIte, Bool.not_true, Bool.not_false, Ex.isOmit, q1, q2, Mi.ix_tup, i2, in_ints, b2i]
theorem law_fact_line (many : Nat) (hm : 1 ≤ many ∧ many ≤ 100) (x : Fct) : RU N (d + 1) 25 [.int many, fV x] st = .ok (.lst ((lineF many x.2.1 x.2.2).map .int)) st := by
  have hb := big_lt
  obtain ⟨w, a, b⟩ := x
  rw [RU, u25]
  simp (implicitDefEqProofs := false) only [Mi.seqK_nx, Mi.seqK_rt, Mi.andK_t, Mi.andK_f, Mi.orK_t, Mi.orK_f, Mi.forB_nm, Mi.forB_2, Mi.binK2_d, Mi.binK1_d, Mi.negK_d, Mi.truK_d, Mi.tstK_d, Mi.notK_d, Mi.cmpK2_d, Mi.cmpK1_d, Mi.chnK3_t, Mi.chnK3_f, Mi.chnK2_d, Mi.chnK1_d, Mi.iteK_t, Mi.iteK_f, Mi.tupK_d, Mi.lstK_d, Mi.cellK_d, Mi.callK_d, Mi.biK_d, Mi.idxK2_d, Mi.idxK1_d, Mi.sliK3_t, Mi.sliK3_l, Mi.oIntK_i, Mi.sliK2_d, Mi.sliK1_d, Mi.lcT_d, Mi.lcE_d, Mi.lcK_d, Mi.lrgK2_d, Mi.lrgK1_d, Mi.consK2_d, Mi.consK1_d, Mi.rng1K_d, Mi.rng2K2_d, Mi.rng2K1_d, Mi.zipO_d, Mi.zipK2_d, Mi.zipK1_d, Mi.enuK_d, Mi.sqK_d, Mi.setK_d, Mi.setTK_d, Mi.putK3_d, Mi.putK2_d, Mi.putK1_d, Mi.appK2_d, Mi.appK1_d, Mi.dropK_d, Mi.retK_d, Mi.iteS_t, Mi.iteS_f, Mi.forK_d, Mi.turnK2_d, Mi.turnK1_t, Mi.turnK1_f, Mi.whK_t, Mi.whK_f, Mi.lcB_nm, Mi.lcB_2, Mi.evE_var, Mi.evE_non, Mi.evE_bl, Mi.evE_int, Mi.evE_str, Mi.evE_gl, Mi.evE_bty, Mi.evE_bin, Mi.evE_neg, Mi.evE_not, Mi.evE_and, Mi.evE_or, Mi.evE_cmp, Mi.evE_chn, Mi.evE_ite, Mi.evE_tup, Mi.evE_lst, Mi.evE_cell, Mi.evE_call, Mi.callP_sto, Mi.evE_bi, Mi.evE_idx, Mi.evE_sli, Mi.evE_lc, Mi.evE_lrg, Mi.evE_lrd, Mi.evA_nil, Mi.evA_cons, Mi.evI_rng1, Mi.evI_rng2, Mi.evI_zip, Mi.evI_enu, Mi.evI_sq, Mi.tstR_false, Mi.tstR_true, Mi.optR_false, Mi.optR_true, Mi.oInt_int, Mi.isOmit_omit, Mi.evS_skip, Mi.evS_seq, Mi.evS_set, Mi.evS_setT, Mi.evS_put, Mi.evS_app, Mi.evS_drop, Mi.evS_ret, Mi.evS_ite, Mi.evS_for, Mi.evS_while, Mi.evS_raise, Mi.sto_some, Mi.sto_none, Mi.val_nx, Mi.val_rt, Mi.setTg_nm, Mi.setTg_nil, Mi.setTg_cons, Mi.wipe_nil, Mi.wipe_cons, Mi.forR_nil, Mi.truV_bl, Mi.truV_non, Mi.truV_int, Mi.add_ii, Mi.sub_ii, Mi.lt_ii, Mi.le_ii, Mi.gt_ii, Mi.ge_ii, Mi.isn_v, Mi.notn_v, Mi.isN_non, Mi.isN_int, Mi.isN_tup, Mi.isN_bl, Mi.isN_str, Mi.eq_ii, Mi.ne_ii, Mi.eq_ss, Mi.ne_ss, Mi.neg_i, Mi.walk_lst, Mi.walk_tup, Mi.walk_scr, Mi.len_tup, Mi.len_lst, Mi.len_scr, Mi.tuple_lst, Mi.tuple_tup, Mi.list_tup, Mi.list_lst, Mi.int_int, Mi.int_bl, Mi.abs_int, Mi.min_int, Mi.max_int, Mi.isi_def, Mi.sum_lst, Mi.all_lst, Mi.any_lst, Mi.ints_map, Mi.bools_map, R.bind_ok, R.bind_ex, R.bind_bad, R.lift_some, R.noEx_ok, List.getElem?_cons_zero, List.getElem?_cons_succ, Option.bind_some, Option.map_some, Option.bind_eq_bind, id_eq, List.set_cons_zero, List.set_cons_succ, if_true, if_false, Bool.false_eq_true, reduceIte, Bool.not_true, Bool.not_false, Ex.isOmit, b25, fV, two_many, small_2 many (by omega), toNat_2 many hm.1, rngL_nat]
  rw [compR_map (List.range (2 * many - 1)) _ (fun t => PV.int (b2i (a.any (· == ((t : Nat) : Int))) - b2i (b.any (· == ((t : Nat) : Int)))))]
  · have l1 : ((List.range (2 * many - 1)).map fun t => PV.int (b2i (a.any (· == ((t : Nat) : Int))) - b2i (b.any (· == ((t : Nat) : Int))))).length ≤ big := by rw [List.length_map, List.length_range]; omega
    simp (implicitDefEqProofs := false) only [Mi.seqK_nx, Mi.seqK_rt, Mi.andK_t, Mi.andK_f, Mi.orK_t, Mi.orK_f, Mi.forB_nm, Mi.forB_2, Mi.binK2_d, Mi.binK1_d, Mi.negK_d, Mi.truK_d, Mi.tstK_d, Mi.notK_d, Mi.cmpK2_d, Mi.cmpK1_d, Mi.chnK3_t, Mi.chnK3_f, Mi.chnK2_d, Mi.chnK1_d, Mi.iteK_t, Mi.iteK_f, Mi.tupK_d, Mi.lstK_d, Mi.cellK_d, Mi.callK_d, Mi.biK_d, Mi.idxK2_d, Mi.idxK1_d, Mi.sliK3_t, Mi.sliK3_l, Mi.oIntK_i, Mi.sliK2_d, Mi.sliK1_d, Mi.lcT_d, Mi.lcE_d, Mi.lcK_d, Mi.lrgK2_d, Mi.lrgK1_d, Mi.consK2_d, Mi.consK1_d, Mi.rng1K_d, Mi.rng2K2_d, Mi.rng2K1_d, Mi.zipO_d, Mi.zipK2_d, Mi.zipK1_d, Mi.enuK_d, Mi.sqK_d, Mi.setK_d, Mi.setTK_d, Mi.putK3_d, Mi.putK2_d, Mi.putK1_d, Mi.appK2_d, Mi.appK1_d, Mi.dropK_d, Mi.retK_d, Mi.iteS_t, Mi.iteS_f, Mi.forK_d, Mi.turnK2_d, Mi.turnK1_t, Mi.turnK1_f, Mi.whK_t, Mi.whK_f, Mi.lcB_nm, Mi.lcB_2, Mi.evE_var, Mi.evE_non, Mi.evE_bl, Mi.evE_int, Mi.evE_str, Mi.evE_gl, Mi.evE_bty, Mi.evE_bin, Mi.evE_neg, Mi.evE_not, Mi.evE_and, Mi.evE_or, Mi.evE_cmp, Mi.evE_chn, Mi.evE_ite, Mi.evE_tup, Mi.evE_lst, Mi.evE_cell, Mi.evE_call, Mi.callP_sto, Mi.evE_bi, Mi.evE_idx, Mi.evE_sli, Mi.evE_lc, Mi.evE_lrg, Mi.evE_lrd, Mi.evA_nil, Mi.evA_cons, Mi.evI_rng1, Mi.evI_rng2, Mi.evI_zip, Mi.evI_enu, Mi.evI_sq, Mi.tstR_false, Mi.tstR_true, Mi.optR_false, Mi.optR_true, Mi.oInt_int, Mi.isOmit_omit, Mi.evS_skip, Mi.evS_seq, Mi.evS_set, Mi.evS_setT, Mi.evS_put, Mi.evS_app, Mi.evS_drop, Mi.evS_ret, Mi.evS_ite, Mi.evS_for, Mi.evS_while, Mi.evS_raise, Mi.sto_some, Mi.sto_none, Mi.val_nx, Mi.val_rt, Mi.setTg_nm, Mi.setTg_nil, Mi.setTg_cons, Mi.wipe_nil, Mi.wipe_cons, Mi.forR_nil, Mi.truV_bl, Mi.truV_non, Mi.truV_int, Mi.add_ii, Mi.sub_ii, Mi.lt_ii, Mi.le_ii, Mi.gt_ii, Mi.ge_ii, Mi.isn_v, Mi.notn_v, Mi.isN_non, Mi.isN_int, Mi.isN_tup, Mi.isN_bl, Mi.isN_str, Mi.eq_ii, Mi.ne_ii, Mi.eq_ss, Mi.ne_ss, Mi.neg_i, Mi.walk_lst, Mi.walk_tup, Mi.walk_scr, Mi.len_tup, Mi.len_lst, Mi.len_scr, Mi.tuple_lst, Mi.tuple_tup, Mi.list_tup, Mi.list_lst, Mi.int_int, Mi.int_bl, Mi.abs_int, Mi.min_int, Mi.max_int, Mi.isi_def, Mi.sum_lst, Mi.all_lst, Mi.any_lst, Mi.ints_map, Mi.bools_map, R.bind_ok, R.bind_ex, R.bind_bad, R.lift_some, R.noEx_ok, List.getElem?_cons_zero, List.getElem?_cons_succ, Option.bind_some, Option.map_some, Option.bind_eq_bind, id_eq, List.set_cons_zero, List.set_cons_succ, if_true, if_false, Bool.false_eq_true, reduceIte, Bool.not_true, Bool.not_false, Ex.isOmit, l1]
    unfold lineF
    rw [List.map_map]; rfl
  · intro t ht
    simp (implicitDefEqProofs := false) only [Mi.seqK_nx, Mi.seqK_rt, Mi.andK_t, Mi.andK_f, Mi.orK_t, Mi.orK_f, Mi.forB_nm, Mi.forB_2, Mi.binK2_d, Mi.binK1_d, Mi.negK_d, Mi.truK_d, Mi.tstK_d, Mi.notK_d, Mi.cmpK2_d, Mi.cmpK1_d, Mi.chnK3_t, Mi.chnK3_f, Mi.chnK2_d, Mi.chnK1_d, Mi.iteK_t, Mi.iteK_f, Mi.tupK_d, Mi.lstK_d, Mi.cellK_d, Mi.callK_d, Mi.biK_d, Mi.idxK2_d, Mi.idxK1_d, Mi.sliK3_t, Mi.sliK3_l, Mi.oIntK_i, Mi.sliK2_d, Mi.sliK1_d, Mi.lcT_d, Mi.lcE_d, Mi.lcK_d, Mi.lrgK2_d, Mi.lrgK1_d, Mi.consK2_d, Mi.consK1_d, Mi.rng1K_d, Mi.rng2K2_d, Mi.rng2K1_d, Mi.zipO_d, Mi.zipK2_d, Mi.zipK1_d, Mi.enuK_d, Mi.sqK_d, Mi.setK_d, Mi.setTK_d, Mi.putK3_d, Mi.putK2_d, Mi.putK1_d, Mi.appK2_d, Mi.appK1_d, Mi.dropK_d, Mi.retK_d, Mi.iteS_t, Mi.iteS_f, Mi.forK_d, Mi.turnK2_d, Mi.turnK1_t, Mi.turnK1_f, Mi.whK_t, Mi.whK_f, Mi.lcB_nm, Mi.lcB_2, Mi.evE_var, Mi.evE_non, Mi.evE_bl, Mi.evE_int, Mi.evE_str, Mi.evE_gl, Mi.evE_bty, Mi.evE_bin, Mi.evE_neg, Mi.evE_not, Mi.evE_and, Mi.evE_or, Mi.evE_cmp, Mi.evE_chn, Mi.evE_ite, Mi.evE_tup, Mi.evE_lst, Mi.evE_cell, Mi.evE_call, Mi.callP_sto, Mi.evE_bi, Mi.evE_idx, Mi.evE_sli, Mi.evE_lc, Mi.evE_lrg, Mi.evE_lrd, Mi.evA_nil, Mi.evA_cons, Mi.evI_rng1, Mi.evI_rng2, Mi.evI_zip, Mi.evI_enu, Mi.evI_sq, Mi.tstR_false, Mi.tstR_true, Mi.optR_false, Mi.optR_true, Mi.oInt_int, Mi.isOmit_omit, Mi.evS_skip, Mi.evS_seq, Mi.evS_set, Mi.evS_setT, Mi.evS_put, Mi.evS_app, Mi.evS_drop, Mi.evS_ret, Mi.evS_ite, Mi.evS_for, Mi.evS_while, Mi.evS_raise, Mi.sto_some, Mi.sto_none, Mi.val_nx, Mi.val_rt, Mi.setTg_nm, Mi.setTg_nil, Mi.setTg_cons, Mi.wipe_nil, Mi.wipe_cons, Mi.forR_nil, Mi.truV_bl, Mi.truV_non, Mi.truV_int, Mi.add_ii, Mi.sub_ii, Mi.lt_ii, Mi.le_ii, Mi.gt_ii, Mi.ge_ii, Mi.isn_v, Mi.notn_v, Mi.isN_non, Mi.isN_int, Mi.isN_tup, Mi.isN_bl, Mi.isN_str, Mi.eq_ii, Mi.ne_ii, Mi.eq_ss, Mi.ne_ss, Mi.neg_i, Mi.walk_lst, Mi.walk_tup, Mi.walk_scr, Mi.len_tup, Mi.len_lst, Mi.len_scr, Mi.tuple_lst, Mi.tuple_tup, Mi.list_tup, Mi.list_lst, Mi.int_int, Mi.int_bl, Mi.abs_int, Mi.min_int, Mi.max_int, Mi.isi_def, Mi.sum_lst, Mi.all_lst, Mi.any_lst, Mi.ints_map, Mi.bools_map, R.bind_ok, R.bind_ex, R.bind_bad, R.lift_some, R.noEx_ok, List.getElem?_cons_zero, List.getElem?_cons_succ, Option.bind_some, Option.map_some, Option.bind_eq_bind, id_eq, List.set_cons_zero, List.set_cons_succ, if_true, if_false, Bool.false_eq_true, reduceIte, Bool.not_true, Bool.not_false, Ex.isOmit, in_ints]
theorem is_so (w : Str) (far : Int) : RU N (d + 1) 11 [.str w, .int far] st = .ok (.bl (soB w far)) st := by
  rw [RU, u11]
  unfold soB
  by_cases q : w = ("same" : Str)
  · subst q
    simp (implicitDefEqProofs := false) only [Mi.seqK_nx, Mi.seqK_rt, Mi.andK_t, Mi.andK_f, Mi.orK_t, Mi.orK_f, Mi.forB_nm, Mi.forB_2, Mi.binK2_d, Mi.binK1_d, Mi.negK_d, Mi.truK_d, Mi.tstK_d, Mi.notK_d, Mi.cmpK2_d, Mi.cmpK1_d, Mi.chnK3_t, Mi.chnK3_f, Mi.chnK2_d, Mi.chnK1_d, Mi.iteK_t, Mi.iteK_f, Mi.tupK_d, Mi.lstK_d, Mi.cellK_d, Mi.callK_d, Mi.biK_d, Mi.idxK2_d, Mi.idxK1_d, Mi.sliK3_t, Mi.sliK3_l, Mi.oIntK_i, Mi.sliK2_d, Mi.sliK1_d, Mi.lcT_d, Mi.lcE_d, Mi.lcK_d, Mi.lrgK2_d, Mi.lrgK1_d, Mi.consK2_d, Mi.consK1_d, Mi.rng1K_d, Mi.rng2K2_d, Mi.rng2K1_d, Mi.zipO_d, Mi.zipK2_d, Mi.zipK1_d, Mi.enuK_d, Mi.sqK_d, Mi.setK_d, Mi.setTK_d, Mi.putK3_d, Mi.putK2_d, Mi.putK1_d, Mi.appK2_d, Mi.appK1_d, Mi.dropK_d, Mi.retK_d, Mi.iteS_t, Mi.iteS_f, Mi.forK_d, Mi.turnK2_d, Mi.turnK1_t, Mi.turnK1_f, Mi.whK_t, Mi.whK_f, Mi.lcB_nm, Mi.lcB_2, Mi.evE_var, Mi.evE_non, Mi.evE_bl, Mi.evE_int, Mi.evE_str, Mi.evE_gl, Mi.evE_bty, Mi.evE_bin, Mi.evE_neg, Mi.evE_not, Mi.evE_and, Mi.evE_or, Mi.evE_cmp, Mi.evE_chn, Mi.evE_ite, Mi.evE_tup, Mi.evE_lst, Mi.evE_cell, Mi.evE_call, Mi.callP_sto, Mi.evE_bi, Mi.evE_idx, Mi.evE_sli, Mi.evE_lc, Mi.evE_lrg, Mi.evE_lrd, Mi.evA_nil, Mi.evA_cons, Mi.evI_rng1, Mi.evI_rng2, Mi.evI_zip, Mi.evI_enu, Mi.evI_sq, Mi.tstR_false, Mi.tstR_true, Mi.optR_false, Mi.optR_true, Mi.oInt_int, Mi.isOmit_omit, Mi.evS_skip, Mi.evS_seq, Mi.evS_set, Mi.evS_setT, Mi.evS_put, Mi.evS_app, Mi.evS_drop, Mi.evS_ret, Mi.evS_ite, Mi.evS_for, Mi.evS_while, Mi.evS_raise, Mi.sto_some, Mi.sto_none, Mi.val_nx, Mi.val_rt, Mi.setTg_nm, Mi.setTg_nil, Mi.setTg_cons, Mi.wipe_nil, Mi.wipe_cons, Mi.forR_nil, Mi.truV_bl, Mi.truV_non, Mi.truV_int, Mi.add_ii, Mi.sub_ii, Mi.lt_ii, Mi.le_ii, Mi.gt_ii, Mi.ge_ii, Mi.isn_v, Mi.notn_v, Mi.isN_non, Mi.isN_int, Mi.isN_tup, Mi.isN_bl, Mi.isN_str, Mi.eq_ii, Mi.ne_ii, Mi.eq_ss, Mi.ne_ss, Mi.neg_i, Mi.walk_lst, Mi.walk_tup, Mi.walk_scr, Mi.len_tup, Mi.len_lst, Mi.len_scr, Mi.tuple_lst, Mi.tuple_tup, Mi.list_tup, Mi.list_lst, Mi.int_int, Mi.int_bl, Mi.abs_int, Mi.min_int, Mi.max_int, Mi.isi_def, Mi.sum_lst, Mi.all_lst, Mi.any_lst, Mi.ints_map, Mi.bools_map, R.bind_ok, R.bind_ex, R.bind_bad, R.lift_some, R.noEx_ok, List.getElem?_cons_zero, List.getElem?_cons_succ, Option.bind_some, Option.map_some, Option.bind_eq_bind, id_eq, List.set_cons_zero, List.set_cons_succ, if_true, if_false, Bool.false_eq_true, reduceIte, Bool.not_true, Bool.not_false, Ex.isOmit, b11, beq_self_eq_true]
  · have q1 : (w == ("same" : Str)) = false := by rw [beq_eq_false_iff_ne]; exact q
    rw [if_neg q]
    by_cases q2 : w = ("more" : Str)
    · subst q2
      simp (implicitDefEqProofs := false) only [Mi.seqK_nx, Mi.seqK_rt, Mi.andK_t, Mi.andK_f, Mi.orK_t, Mi.orK_f, Mi.forB_nm, Mi.forB_2, Mi.binK2_d, Mi.binK1_d, Mi.negK_d, Mi.truK_d, Mi.tstK_d, Mi.notK_d, Mi.cmpK2_d, Mi.cmpK1_d, Mi.chnK3_t, Mi.chnK3_f, Mi.chnK2_d, Mi.chnK1_d, Mi.iteK_t, Mi.iteK_f, Mi.tupK_d, Mi.lstK_d, Mi.cellK_d, Mi.callK_d, Mi.biK_d, Mi.idxK2_d, Mi.idxK1_d, Mi.sliK3_t, Mi.sliK3_l, Mi.oIntK_i, Mi.sliK2_d, Mi.sliK1_d, Mi.lcT_d, Mi.lcE_d, Mi.lcK_d, Mi.lrgK2_d, Mi.lrgK1_d, Mi.consK2_d, Mi.consK1_d, Mi.rng1K_d, Mi.rng2K2_d, Mi.rng2K1_d, Mi.zipO_d, Mi.zipK2_d, Mi.zipK1_d, Mi.enuK_d, Mi.sqK_d, Mi.setK_d, Mi.setTK_d, Mi.putK3_d, Mi.putK2_d, Mi.putK1_d, Mi.appK2_d, Mi.appK1_d, Mi.dropK_d, Mi.retK_d, Mi.iteS_t, Mi.iteS_f, Mi.forK_d, Mi.turnK2_d, Mi.turnK1_t, Mi.turnK1_f, Mi.whK_t, Mi.whK_f, Mi.lcB_nm, Mi.lcB_2, Mi.evE_var, Mi.evE_non, Mi.evE_bl, Mi.evE_int, Mi.evE_str, Mi.evE_gl, Mi.evE_bty, Mi.evE_bin, Mi.evE_neg, Mi.evE_not, Mi.evE_and, Mi.evE_or, Mi.evE_cmp, Mi.evE_chn, Mi.evE_ite, Mi.evE_tup, Mi.evE_lst, Mi.evE_cell, Mi.evE_call, Mi.callP_sto, Mi.evE_bi, Mi.evE_idx, Mi.evE_sli, Mi.evE_lc, Mi.evE_lrg, Mi.evE_lrd, Mi.evA_nil, Mi.evA_cons, Mi.evI_rng1, Mi.evI_rng2, Mi.evI_zip, Mi.evI_enu, Mi.evI_sq, Mi.tstR_false, Mi.tstR_true, Mi.optR_false, Mi.optR_true, Mi.oInt_int, Mi.isOmit_omit, Mi.evS_skip, Mi.evS_seq, Mi.evS_set, Mi.evS_setT, Mi.evS_put, Mi.evS_app, Mi.evS_drop, Mi.evS_ret, Mi.evS_ite, Mi.evS_for, Mi.evS_while, Mi.evS_raise, Mi.sto_some, Mi.sto_none, Mi.val_nx, Mi.val_rt, Mi.setTg_nm, Mi.setTg_nil, Mi.setTg_cons, Mi.wipe_nil, Mi.wipe_cons, Mi.forR_nil, Mi.truV_bl, Mi.truV_non, Mi.truV_int, Mi.add_ii, Mi.sub_ii, Mi.lt_ii, Mi.le_ii, Mi.gt_ii, Mi.ge_ii, Mi.isn_v, Mi.notn_v, Mi.isN_non, Mi.isN_int, Mi.isN_tup, Mi.isN_bl, Mi.isN_str, Mi.eq_ii, Mi.ne_ii, Mi.eq_ss, Mi.ne_ss, Mi.neg_i, Mi.walk_lst, Mi.walk_tup, Mi.walk_scr, Mi.len_tup, Mi.len_lst, Mi.len_scr, Mi.tuple_lst, Mi.tuple_tup, Mi.list_tup, Mi.list_lst, Mi.int_int, Mi.int_bl, Mi.abs_int, Mi.min_int, Mi.max_int, Mi.isi_def, Mi.sum_lst, Mi.all_lst, Mi.any_lst, Mi.ints_map, Mi.bools_map, R.bind_ok, R.bind_ex, R.bind_bad, R.lift_some, R.noEx_ok, List.getElem?_cons_zero, List.getElem?_cons_succ, Option.bind_some, Option.map_some, Option.bind_eq_bind, id_eq, List.set_cons_zero, List.set_cons_succ, if_true, if_false, Bool.false_eq_true, reduceIte, Bool.not_true, Bool.not_false, Ex.isOmit, b11, q1, beq_self_eq_true]
    · have q3 : (w == ("more" : Str)) = false := by rw [beq_eq_false_iff_ne]; exact q2
      simp (implicitDefEqProofs := false) only [Mi.seqK_nx, Mi.seqK_rt, Mi.andK_t, Mi.andK_f, Mi.orK_t, Mi.orK_f, Mi.forB_nm, Mi.forB_2, Mi.binK2_d, Mi.binK1_d, Mi.negK_d, Mi.truK_d, Mi.tstK_d, Mi.notK_d, Mi.cmpK2_d, Mi.cmpK1_d, Mi.chnK3_t, Mi.chnK3_f, Mi.chnK2_d, Mi.chnK1_d, Mi.iteK_t, Mi.iteK_f, Mi.tupK_d, Mi.lstK_d, Mi.cellK_d, Mi.callK_d, Mi.biK_d, Mi.idxK2_d, Mi.idxK1_d, Mi.sliK3_t, Mi.sliK3_l, Mi.oIntK_i, Mi.sliK2_d, Mi.sliK1_d, Mi.lcT_d, Mi.lcE_d, Mi.lcK_d, Mi.lrgK2_d, Mi.lrgK1_d, Mi.consK2_d, Mi.consK1_d, Mi.rng1K_d, Mi.rng2K2_d, Mi.rng2K1_d, Mi.zipO_d, Mi.zipK2_d, Mi.zipK1_d, Mi.enuK_d, Mi.sqK_d, Mi.setK_d, Mi.setTK_d, Mi.putK3_d, Mi.putK2_d, Mi.putK1_d, Mi.appK2_d, Mi.appK1_d, Mi.dropK_d, Mi.retK_d, Mi.iteS_t, Mi.iteS_f, Mi.forK_d, Mi.turnK2_d, Mi.turnK1_t, Mi.turnK1_f, Mi.whK_t, Mi.whK_f, Mi.lcB_nm, Mi.lcB_2, Mi.evE_var, Mi.evE_non, Mi.evE_bl, Mi.evE_int, Mi.evE_str, Mi.evE_gl, Mi.evE_bty, Mi.evE_bin, Mi.evE_neg, Mi.evE_not, Mi.evE_and, Mi.evE_or, Mi.evE_cmp, Mi.evE_chn, Mi.evE_ite, Mi.evE_tup, Mi.evE_lst, Mi.evE_cell, Mi.evE_call, Mi.callP_sto, Mi.evE_bi, Mi.evE_idx, Mi.evE_sli, Mi.evE_lc, Mi.evE_lrg, Mi.evE_lrd, Mi.evA_nil, Mi.evA_cons, Mi.evI_rng1, Mi.evI_rng2, Mi.evI_zip, Mi.evI_enu, Mi.evI_sq, Mi.tstR_false, Mi.tstR_true, Mi.optR_false, Mi.optR_true, Mi.oInt_int, Mi.isOmit_omit, Mi.evS_skip, Mi.evS_seq, Mi.evS_set, Mi.evS_setT, Mi.evS_put, Mi.evS_app, Mi.evS_drop, Mi.evS_ret, Mi.evS_ite, Mi.evS_for, Mi.evS_while, Mi.evS_raise, Mi.sto_some, Mi.sto_none, Mi.val_nx, Mi.val_rt, Mi.setTg_nm, Mi.setTg_nil, Mi.setTg_cons, Mi.wipe_nil, Mi.wipe_cons, Mi.forR_nil, Mi.truV_bl, Mi.truV_non, Mi.truV_int, Mi.add_ii, Mi.sub_ii, Mi.lt_ii, Mi.le_ii, Mi.gt_ii, Mi.ge_ii, Mi.isn_v, Mi.notn_v, Mi.isN_non, Mi.isN_int, Mi.isN_tup, Mi.isN_bl, Mi.isN_str, Mi.eq_ii, Mi.ne_ii, Mi.eq_ss, Mi.ne_ss, Mi.neg_i, Mi.walk_lst, Mi.walk_tup, Mi.walk_scr, Mi.len_tup, Mi.len_lst, Mi.len_scr, Mi.tuple_lst, Mi.tuple_tup, Mi.list_tup, Mi.list_lst, Mi.int_int, Mi.int_bl, Mi.abs_int, Mi.min_int, Mi.max_int, Mi.isi_def, Mi.sum_lst, Mi.all_lst, Mi.any_lst, Mi.ints_map, Mi.bools_map, R.bind_ok, R.bind_ex, R.bind_bad, R.lift_some, R.noEx_ok, List.getElem?_cons_zero, List.getElem?_cons_succ, Option.bind_some, Option.map_some, Option.bind_eq_bind, id_eq, List.set_cons_zero, List.set_cons_succ, if_true, if_false, Bool.false_eq_true, reduceIte, Bool.not_true, Bool.not_false, Ex.isOmit, b11, q1, q3, if_neg q2]
theorem law_holds (w : Str) (hw : w ∈ fwords) (far : Int) : RU N (d + 1) 30 [.str w, .int far] st = .ok (.bl (soB w far)) st := by
  rw [RU, u30]
  have h : w = ("more" : Str) ∨ w = ("atleast" : Str) ∨ w = ("same" : Str) := by
    simp only [fwords, List.mem_cons, List.not_mem_nil, or_false] at hw
    exact hw
  rcases h with rfl | rfl | rfl
  · have q1 : (("more" : Str) == ("same" : Str)) = false := by decide
    have q2 : (("more" : Str) == ("atleast" : Str)) = false := by decide
    have e : soB "more" far = decide (0 < far) := rfl
    rw [e]
    simp (implicitDefEqProofs := false) only [Mi.seqK_nx, Mi.seqK_rt, Mi.andK_t, Mi.andK_f, Mi.orK_t, Mi.orK_f, Mi.forB_nm, Mi.forB_2, Mi.binK2_d, Mi.binK1_d, Mi.negK_d, Mi.truK_d, Mi.tstK_d, Mi.notK_d, Mi.cmpK2_d, Mi.cmpK1_d, Mi.chnK3_t, Mi.chnK3_f, Mi.chnK2_d, Mi.chnK1_d, Mi.iteK_t, Mi.iteK_f, Mi.tupK_d, Mi.lstK_d, Mi.cellK_d, Mi.callK_d, Mi.biK_d, Mi.idxK2_d, Mi.idxK1_d, Mi.sliK3_t, Mi.sliK3_l, Mi.oIntK_i, Mi.sliK2_d, Mi.sliK1_d, Mi.lcT_d, Mi.lcE_d, Mi.lcK_d, Mi.lrgK2_d, Mi.lrgK1_d, Mi.consK2_d, Mi.consK1_d, Mi.rng1K_d, Mi.rng2K2_d, Mi.rng2K1_d, Mi.zipO_d, Mi.zipK2_d, Mi.zipK1_d, Mi.enuK_d, Mi.sqK_d, Mi.setK_d, Mi.setTK_d, Mi.putK3_d, Mi.putK2_d, Mi.putK1_d, Mi.appK2_d, Mi.appK1_d, Mi.dropK_d, Mi.retK_d, Mi.iteS_t, Mi.iteS_f, Mi.forK_d, Mi.turnK2_d, Mi.turnK1_t, Mi.turnK1_f, Mi.whK_t, Mi.whK_f, Mi.lcB_nm, Mi.lcB_2, Mi.evE_var, Mi.evE_non, Mi.evE_bl, Mi.evE_int, Mi.evE_str, Mi.evE_gl, Mi.evE_bty, Mi.evE_bin, Mi.evE_neg, Mi.evE_not, Mi.evE_and, Mi.evE_or, Mi.evE_cmp, Mi.evE_chn, Mi.evE_ite, Mi.evE_tup, Mi.evE_lst, Mi.evE_cell, Mi.evE_call, Mi.callP_sto, Mi.evE_bi, Mi.evE_idx, Mi.evE_sli, Mi.evE_lc, Mi.evE_lrg, Mi.evE_lrd, Mi.evA_nil, Mi.evA_cons, Mi.evI_rng1, Mi.evI_rng2, Mi.evI_zip, Mi.evI_enu, Mi.evI_sq, Mi.tstR_false, Mi.tstR_true, Mi.optR_false, Mi.optR_true, Mi.oInt_int, Mi.isOmit_omit, Mi.evS_skip, Mi.evS_seq, Mi.evS_set, Mi.evS_setT, Mi.evS_put, Mi.evS_app, Mi.evS_drop, Mi.evS_ret, Mi.evS_ite, Mi.evS_for, Mi.evS_while, Mi.evS_raise, Mi.sto_some, Mi.sto_none, Mi.val_nx, Mi.val_rt, Mi.setTg_nm, Mi.setTg_nil, Mi.setTg_cons, Mi.wipe_nil, Mi.wipe_cons, Mi.forR_nil, Mi.truV_bl, Mi.truV_non, Mi.truV_int, Mi.add_ii, Mi.sub_ii, Mi.lt_ii, Mi.le_ii, Mi.gt_ii, Mi.ge_ii, Mi.isn_v, Mi.notn_v, Mi.isN_non, Mi.isN_int, Mi.isN_tup, Mi.isN_bl, Mi.isN_str, Mi.eq_ii, Mi.ne_ii, Mi.eq_ss, Mi.ne_ss, Mi.neg_i, Mi.walk_lst, Mi.walk_tup, Mi.walk_scr, Mi.len_tup, Mi.len_lst, Mi.len_scr, Mi.tuple_lst, Mi.tuple_tup, Mi.list_tup, Mi.list_lst, Mi.int_int, Mi.int_bl, Mi.abs_int, Mi.min_int, Mi.max_int, Mi.isi_def, Mi.sum_lst, Mi.all_lst, Mi.any_lst, Mi.ints_map, Mi.bools_map, R.bind_ok, R.bind_ex, R.bind_bad, R.lift_some, R.noEx_ok, List.getElem?_cons_zero, List.getElem?_cons_succ, Option.bind_some, Option.map_some, Option.bind_eq_bind, id_eq, List.set_cons_zero, List.set_cons_succ, if_true, if_false, Bool.false_eq_true, reduceIte, Bool.not_true, Bool.not_false, Ex.isOmit, b30, q1, q2]
    rcases Bool.eq_false_or_eq_true (decide (0 < far)) with q | q
    · simp (implicitDefEqProofs := false) only [Mi.seqK_nx, Mi.seqK_rt, Mi.andK_t, Mi.andK_f, Mi.orK_t, Mi.orK_f, Mi.forB_nm, Mi.forB_2, Mi.binK2_d, Mi.binK1_d, Mi.negK_d, Mi.truK_d, Mi.tstK_d, Mi.notK_d, Mi.cmpK2_d, Mi.cmpK1_d, Mi.chnK3_t, Mi.chnK3_f, Mi.chnK2_d, Mi.chnK1_d, Mi.iteK_t, Mi.iteK_f, Mi.tupK_d, Mi.lstK_d, Mi.cellK_d, Mi.callK_d, Mi.biK_d, Mi.idxK2_d, Mi.idxK1_d, Mi.sliK3_t, Mi.sliK3_l, Mi.oIntK_i, Mi.sliK2_d, Mi.sliK1_d, Mi.lcT_d, Mi.lcE_d, Mi.lcK_d, Mi.lrgK2_d, Mi.lrgK1_d, Mi.consK2_d, Mi.consK1_d, Mi.rng1K_d, Mi.rng2K2_d, Mi.rng2K1_d, Mi.zipO_d, Mi.zipK2_d, Mi.zipK1_d, Mi.enuK_d, Mi.sqK_d, Mi.setK_d, Mi.setTK_d, Mi.putK3_d, Mi.putK2_d, Mi.putK1_d, Mi.appK2_d, Mi.appK1_d, Mi.dropK_d, Mi.retK_d, Mi.iteS_t, Mi.iteS_f, Mi.forK_d, Mi.turnK2_d, Mi.turnK1_t, Mi.turnK1_f, Mi.whK_t, Mi.whK_f, Mi.lcB_nm, Mi.lcB_2, Mi.evE_var, Mi.evE_non, Mi.evE_bl, Mi.evE_int, Mi.evE_str, Mi.evE_gl, Mi.evE_bty, Mi.evE_bin, Mi.evE_neg, Mi.evE_not, Mi.evE_and, Mi.evE_or, Mi.evE_cmp, Mi.evE_chn, Mi.evE_ite, Mi.evE_tup, Mi.evE_lst, Mi.evE_cell, Mi.evE_call, Mi.callP_sto, Mi.evE_bi, Mi.evE_idx, Mi.evE_sli, Mi.evE_lc, Mi.evE_lrg, Mi.evE_lrd, Mi.evA_nil, Mi.evA_cons, Mi.evI_rng1, Mi.evI_rng2, Mi.evI_zip, Mi.evI_enu, Mi.evI_sq, Mi.tstR_false, Mi.tstR_true, Mi.optR_false, Mi.optR_true, Mi.oInt_int, Mi.isOmit_omit, Mi.evS_skip, Mi.evS_seq, Mi.evS_set, Mi.evS_setT, Mi.evS_put, Mi.evS_app, Mi.evS_drop, Mi.evS_ret, Mi.evS_ite, Mi.evS_for, Mi.evS_while, Mi.evS_raise, Mi.sto_some, Mi.sto_none, Mi.val_nx, Mi.val_rt, Mi.setTg_nm, Mi.setTg_nil, Mi.setTg_cons, Mi.wipe_nil, Mi.wipe_cons, Mi.forR_nil, Mi.truV_bl, Mi.truV_non, Mi.truV_int, Mi.add_ii, Mi.sub_ii, Mi.lt_ii, Mi.le_ii, Mi.gt_ii, Mi.ge_ii, Mi.isn_v, Mi.notn_v, Mi.isN_non, Mi.isN_int, Mi.isN_tup, Mi.isN_bl, Mi.isN_str, Mi.eq_ii, Mi.ne_ii, Mi.eq_ss, Mi.ne_ss, Mi.neg_i, Mi.walk_lst, Mi.walk_tup, Mi.walk_scr, Mi.len_tup, Mi.len_lst, Mi.len_scr, Mi.tuple_lst, Mi.tuple_tup, Mi.list_tup, Mi.list_lst, Mi.int_int, Mi.int_bl, Mi.abs_int, Mi.min_int, Mi.max_int, Mi.isi_def, Mi.sum_lst, Mi.all_lst, Mi.any_lst, Mi.ints_map, Mi.bools_map, R.bind_ok, R.bind_ex, R.bind_bad, R.lift_some, R.noEx_ok, List.getElem?_cons_zero, List.getElem?_cons_succ, Option.bind_some, Option.map_some, Option.bind_eq_bind, id_eq, List.set_cons_zero, List.set_cons_succ, if_true, if_false, Bool.false_eq_true, reduceIte, Bool.not_true, Bool.not_false, Ex.isOmit, q]
    · rcases Bool.eq_false_or_eq_true (far == 0) with q3 | q3 <;> simp (implicitDefEqProofs := false) only [Mi.seqK_nx, Mi.seqK_rt, Mi.andK_t, Mi.andK_f, Mi.orK_t, Mi.orK_f, Mi.forB_nm, Mi.forB_2, Mi.binK2_d, Mi.binK1_d, Mi.negK_d, Mi.truK_d, Mi.tstK_d, Mi.notK_d, Mi.cmpK2_d, Mi.cmpK1_d, Mi.chnK3_t, Mi.chnK3_f, Mi.chnK2_d, Mi.chnK1_d, Mi.iteK_t, Mi.iteK_f, Mi.tupK_d, Mi.lstK_d, Mi.cellK_d, Mi.callK_d, Mi.biK_d, Mi.idxK2_d, Mi.idxK1_d, Mi.sliK3_t, Mi.sliK3_l, Mi.oIntK_i, Mi.sliK2_d, Mi.sliK1_d, Mi.lcT_d, Mi.lcE_d, Mi.lcK_d, Mi.lrgK2_d, Mi.lrgK1_d, Mi.consK2_d, Mi.consK1_d, Mi.rng1K_d, Mi.rng2K2_d, Mi.rng2K1_d, Mi.zipO_d, Mi.zipK2_d, Mi.zipK1_d, Mi.enuK_d, Mi.sqK_d, Mi.setK_d, Mi.setTK_d, Mi.putK3_d, Mi.putK2_d, Mi.putK1_d, Mi.appK2_d, Mi.appK1_d, Mi.dropK_d, Mi.retK_d, Mi.iteS_t, Mi.iteS_f, Mi.forK_d, Mi.turnK2_d, Mi.turnK1_t, Mi.turnK1_f, Mi.whK_t, Mi.whK_f, Mi.lcB_nm, Mi.lcB_2, Mi.evE_var, Mi.evE_non, Mi.evE_bl, Mi.evE_int, Mi.evE_str, Mi.evE_gl, Mi.evE_bty, Mi.evE_bin, Mi.evE_neg, Mi.evE_not, Mi.evE_and, Mi.evE_or, Mi.evE_cmp, Mi.evE_chn, Mi.evE_ite, Mi.evE_tup, Mi.evE_lst, Mi.evE_cell, Mi.evE_call, Mi.callP_sto, Mi.evE_bi, Mi.evE_idx, Mi.evE_sli, Mi.evE_lc, Mi.evE_lrg, Mi.evE_lrd, Mi.evA_nil, Mi.evA_cons, Mi.evI_rng1, Mi.evI_rng2, Mi.evI_zip, Mi.evI_enu, Mi.evI_sq, Mi.tstR_false, Mi.tstR_true, Mi.optR_false, Mi.optR_true, Mi.oInt_int, Mi.isOmit_omit, Mi.evS_skip, Mi.evS_seq, Mi.evS_set, Mi.evS_setT, Mi.evS_put, Mi.evS_app, Mi.evS_drop, Mi.evS_ret, Mi.evS_ite, Mi.evS_for, Mi.evS_while, Mi.evS_raise, Mi.sto_some, Mi.sto_none, Mi.val_nx, Mi.val_rt, Mi.setTg_nm, Mi.setTg_nil, Mi.setTg_cons, Mi.wipe_nil, Mi.wipe_cons, Mi.forR_nil, Mi.truV_bl, Mi.truV_non, Mi.truV_int, Mi.add_ii, Mi.sub_ii, Mi.lt_ii, Mi.le_ii, Mi.gt_ii, Mi.ge_ii, Mi.isn_v, Mi.notn_v, Mi.isN_non, Mi.isN_int, Mi.isN_tup, Mi.isN_bl, Mi.isN_str, Mi.eq_ii, Mi.ne_ii, Mi.eq_ss, Mi.ne_ss, Mi.neg_i, Mi.walk_lst, Mi.walk_tup, Mi.walk_scr, Mi.len_tup, Mi.len_lst, Mi.len_scr, Mi.tuple_lst, Mi.tuple_tup, Mi.list_tup, Mi.list_lst, Mi.int_int, Mi.int_bl, Mi.abs_int, Mi.min_int, Mi.max_int, Mi.isi_def, Mi.sum_lst, Mi.all_lst, Mi.any_lst, Mi.ints_map, Mi.bools_map, R.bind_ok, R.bind_ex, R.bind_bad, R.lift_some, R.noEx_ok, List.getElem?_cons_zero, List.getElem?_cons_succ, Option.bind_some, Option.map_some, Option.bind_eq_bind, id_eq, List.set_cons_zero, List.set_cons_succ, if_true, if_false, Bool.false_eq_true, reduceIte, Bool.not_true, Bool.not_false, Ex.isOmit, q, q3, q2]
  · have q1 : (("atleast" : Str) == ("same" : Str)) = false := by decide
    have q2 : (("atleast" : Str) == ("atleast" : Str)) = true := by decide
    have e : soB "atleast" far = decide (0 ≤ far) := rfl
    rw [e]
    simp (implicitDefEqProofs := false) only [Mi.seqK_nx, Mi.seqK_rt, Mi.andK_t, Mi.andK_f, Mi.orK_t, Mi.orK_f, Mi.forB_nm, Mi.forB_2, Mi.binK2_d, Mi.binK1_d, Mi.negK_d, Mi.truK_d, Mi.tstK_d, Mi.notK_d, Mi.cmpK2_d, Mi.cmpK1_d, Mi.chnK3_t, Mi.chnK3_f, Mi.chnK2_d, Mi.chnK1_d, Mi.iteK_t, Mi.iteK_f, Mi.tupK_d, Mi.lstK_d, Mi.cellK_d, Mi.callK_d, Mi.biK_d, Mi.idxK2_d, Mi.idxK1_d, Mi.sliK3_t, Mi.sliK3_l, Mi.oIntK_i, Mi.sliK2_d, Mi.sliK1_d, Mi.lcT_d, Mi.lcE_d, Mi.lcK_d, Mi.lrgK2_d, Mi.lrgK1_d, Mi.consK2_d, Mi.consK1_d, Mi.rng1K_d, Mi.rng2K2_d, Mi.rng2K1_d, Mi.zipO_d, Mi.zipK2_d, Mi.zipK1_d, Mi.enuK_d, Mi.sqK_d, Mi.setK_d, Mi.setTK_d, Mi.putK3_d, Mi.putK2_d, Mi.putK1_d, Mi.appK2_d, Mi.appK1_d, Mi.dropK_d, Mi.retK_d, Mi.iteS_t, Mi.iteS_f, Mi.forK_d, Mi.turnK2_d, Mi.turnK1_t, Mi.turnK1_f, Mi.whK_t, Mi.whK_f, Mi.lcB_nm, Mi.lcB_2, Mi.evE_var, Mi.evE_non, Mi.evE_bl, Mi.evE_int, Mi.evE_str, Mi.evE_gl, Mi.evE_bty, Mi.evE_bin, Mi.evE_neg, Mi.evE_not, Mi.evE_and, Mi.evE_or, Mi.evE_cmp, Mi.evE_chn, Mi.evE_ite, Mi.evE_tup, Mi.evE_lst, Mi.evE_cell, Mi.evE_call, Mi.callP_sto, Mi.evE_bi, Mi.evE_idx, Mi.evE_sli, Mi.evE_lc, Mi.evE_lrg, Mi.evE_lrd, Mi.evA_nil, Mi.evA_cons, Mi.evI_rng1, Mi.evI_rng2, Mi.evI_zip, Mi.evI_enu, Mi.evI_sq, Mi.tstR_false, Mi.tstR_true, Mi.optR_false, Mi.optR_true, Mi.oInt_int, Mi.isOmit_omit, Mi.evS_skip, Mi.evS_seq, Mi.evS_set, Mi.evS_setT, Mi.evS_put, Mi.evS_app, Mi.evS_drop, Mi.evS_ret, Mi.evS_ite, Mi.evS_for, Mi.evS_while, Mi.evS_raise, Mi.sto_some, Mi.sto_none, Mi.val_nx, Mi.val_rt, Mi.setTg_nm, Mi.setTg_nil, Mi.setTg_cons, Mi.wipe_nil, Mi.wipe_cons, Mi.forR_nil, Mi.truV_bl, Mi.truV_non, Mi.truV_int, Mi.add_ii, Mi.sub_ii, Mi.lt_ii, Mi.le_ii, Mi.gt_ii, Mi.ge_ii, Mi.isn_v, Mi.notn_v, Mi.isN_non, Mi.isN_int, Mi.isN_tup, Mi.isN_bl, Mi.isN_str, Mi.eq_ii, Mi.ne_ii, Mi.eq_ss, Mi.ne_ss, Mi.neg_i, Mi.walk_lst, Mi.walk_tup, Mi.walk_scr, Mi.len_tup, Mi.len_lst, Mi.len_scr, Mi.tuple_lst, Mi.tuple_tup, Mi.list_tup, Mi.list_lst, Mi.int_int, Mi.int_bl, Mi.abs_int, Mi.min_int, Mi.max_int, Mi.isi_def, Mi.sum_lst, Mi.all_lst, Mi.any_lst, Mi.ints_map, Mi.bools_map, R.bind_ok, R.bind_ex, R.bind_bad, R.lift_some, R.noEx_ok, List.getElem?_cons_zero, List.getElem?_cons_succ, Option.bind_some, Option.map_some, Option.bind_eq_bind, id_eq, List.set_cons_zero, List.set_cons_succ, if_true, if_false, Bool.false_eq_true, reduceIte, Bool.not_true, Bool.not_false, Ex.isOmit, b30, q1]
    by_cases q : 0 < far
    · simp (implicitDefEqProofs := false) only [Mi.seqK_nx, Mi.seqK_rt, Mi.andK_t, Mi.andK_f, Mi.orK_t, Mi.orK_f, Mi.forB_nm, Mi.forB_2, Mi.binK2_d, Mi.binK1_d, Mi.negK_d, Mi.truK_d, Mi.tstK_d, Mi.notK_d, Mi.cmpK2_d, Mi.cmpK1_d, Mi.chnK3_t, Mi.chnK3_f, Mi.chnK2_d, Mi.chnK1_d, Mi.iteK_t, Mi.iteK_f, Mi.tupK_d, Mi.lstK_d, Mi.cellK_d, Mi.callK_d, Mi.biK_d, Mi.idxK2_d, Mi.idxK1_d, Mi.sliK3_t, Mi.sliK3_l, Mi.oIntK_i, Mi.sliK2_d, Mi.sliK1_d, Mi.lcT_d, Mi.lcE_d, Mi.lcK_d, Mi.lrgK2_d, Mi.lrgK1_d, Mi.consK2_d, Mi.consK1_d, Mi.rng1K_d, Mi.rng2K2_d, Mi.rng2K1_d, Mi.zipO_d, Mi.zipK2_d, Mi.zipK1_d, Mi.enuK_d, Mi.sqK_d, Mi.setK_d, Mi.setTK_d, Mi.putK3_d, Mi.putK2_d, Mi.putK1_d, Mi.appK2_d, Mi.appK1_d, Mi.dropK_d, Mi.retK_d, Mi.iteS_t, Mi.iteS_f, Mi.forK_d, Mi.turnK2_d, Mi.turnK1_t, Mi.turnK1_f, Mi.whK_t, Mi.whK_f, Mi.lcB_nm, Mi.lcB_2, Mi.evE_var, Mi.evE_non, Mi.evE_bl, Mi.evE_int, Mi.evE_str, Mi.evE_gl, Mi.evE_bty, Mi.evE_bin, Mi.evE_neg, Mi.evE_not, Mi.evE_and, Mi.evE_or, Mi.evE_cmp, Mi.evE_chn, Mi.evE_ite, Mi.evE_tup, Mi.evE_lst, Mi.evE_cell, Mi.evE_call, Mi.callP_sto, Mi.evE_bi, Mi.evE_idx, Mi.evE_sli, Mi.evE_lc, Mi.evE_lrg, Mi.evE_lrd, Mi.evA_nil, Mi.evA_cons, Mi.evI_rng1, Mi.evI_rng2, Mi.evI_zip, Mi.evI_enu, Mi.evI_sq, Mi.tstR_false, Mi.tstR_true, Mi.optR_false, Mi.optR_true, Mi.oInt_int, Mi.isOmit_omit, Mi.evS_skip, Mi.evS_seq, Mi.evS_set, Mi.evS_setT, Mi.evS_put, Mi.evS_app, Mi.evS_drop, Mi.evS_ret, Mi.evS_ite, Mi.evS_for, Mi.evS_while, Mi.evS_raise, Mi.sto_some, Mi.sto_none, Mi.val_nx, Mi.val_rt, Mi.setTg_nm, Mi.setTg_nil, Mi.setTg_cons, Mi.wipe_nil, Mi.wipe_cons, Mi.forR_nil, Mi.truV_bl, Mi.truV_non, Mi.truV_int, Mi.add_ii, Mi.sub_ii, Mi.lt_ii, Mi.le_ii, Mi.gt_ii, Mi.ge_ii, Mi.isn_v, Mi.notn_v, Mi.isN_non, Mi.isN_int, Mi.isN_tup, Mi.isN_bl, Mi.isN_str, Mi.eq_ii, Mi.ne_ii, Mi.eq_ss, Mi.ne_ss, Mi.neg_i, Mi.walk_lst, Mi.walk_tup, Mi.walk_scr, Mi.len_tup, Mi.len_lst, Mi.len_scr, Mi.tuple_lst, Mi.tuple_tup, Mi.list_tup, Mi.list_lst, Mi.int_int, Mi.int_bl, Mi.abs_int, Mi.min_int, Mi.max_int, Mi.isi_def, Mi.sum_lst, Mi.all_lst, Mi.any_lst, Mi.ints_map, Mi.bools_map, R.bind_ok, R.bind_ex, R.bind_bad, R.lift_some, R.noEx_ok, List.getElem?_cons_zero, List.getElem?_cons_succ, Option.bind_some, Option.map_some, Option.bind_eq_bind, id_eq, List.set_cons_zero, List.set_cons_succ, if_true, if_false, Bool.false_eq_true, reduceIte, Bool.not_true, Bool.not_false, Ex.isOmit, decide_eq_true q, decide_eq_true (show 0 ≤ far by omega)]
    · by_cases q3 : far = 0
      · subst q3; simp (implicitDefEqProofs := false) only [Mi.seqK_nx, Mi.seqK_rt, Mi.andK_t, Mi.andK_f, Mi.orK_t, Mi.orK_f, Mi.forB_nm, Mi.forB_2, Mi.binK2_d, Mi.binK1_d, Mi.negK_d, Mi.truK_d, Mi.tstK_d, Mi.notK_d, Mi.cmpK2_d, Mi.cmpK1_d, Mi.chnK3_t, Mi.chnK3_f, Mi.chnK2_d, Mi.chnK1_d, Mi.iteK_t, Mi.iteK_f, Mi.tupK_d, Mi.lstK_d, Mi.cellK_d, Mi.callK_d, Mi.biK_d, Mi.idxK2_d, Mi.idxK1_d, Mi.sliK3_t, Mi.sliK3_l, Mi.oIntK_i, Mi.sliK2_d, Mi.sliK1_d, Mi.lcT_d, Mi.lcE_d, Mi.lcK_d, Mi.lrgK2_d, Mi.lrgK1_d, Mi.consK2_d, Mi.consK1_d, Mi.rng1K_d, Mi.rng2K2_d, Mi.rng2K1_d, Mi.zipO_d, Mi.zipK2_d, Mi.zipK1_d, Mi.enuK_d, Mi.sqK_d, Mi.setK_d, Mi.setTK_d, Mi.putK3_d, Mi.putK2_d, Mi.putK1_d, Mi.appK2_d, Mi.appK1_d, Mi.dropK_d, Mi.retK_d, Mi.iteS_t, Mi.iteS_f, Mi.forK_d, Mi.turnK2_d, Mi.turnK1_t, Mi.turnK1_f, Mi.whK_t, Mi.whK_f, Mi.lcB_nm, Mi.lcB_2, Mi.evE_var, Mi.evE_non, Mi.evE_bl, Mi.evE_int, Mi.evE_str, Mi.evE_gl, Mi.evE_bty, Mi.evE_bin, Mi.evE_neg, Mi.evE_not, Mi.evE_and, Mi.evE_or, Mi.evE_cmp, Mi.evE_chn, Mi.evE_ite, Mi.evE_tup, Mi.evE_lst, Mi.evE_cell, Mi.evE_call, Mi.callP_sto, Mi.evE_bi, Mi.evE_idx, Mi.evE_sli, Mi.evE_lc, Mi.evE_lrg, Mi.evE_lrd, Mi.evA_nil, Mi.evA_cons, Mi.evI_rng1, Mi.evI_rng2, Mi.evI_zip, Mi.evI_enu, Mi.evI_sq, Mi.tstR_false, Mi.tstR_true, Mi.optR_false, Mi.optR_true, Mi.oInt_int, Mi.isOmit_omit, Mi.evS_skip, Mi.evS_seq, Mi.evS_set, Mi.evS_setT, Mi.evS_put, Mi.evS_app, Mi.evS_drop, Mi.evS_ret, Mi.evS_ite, Mi.evS_for, Mi.evS_while, Mi.evS_raise, Mi.sto_some, Mi.sto_none, Mi.val_nx, Mi.val_rt, Mi.setTg_nm, Mi.setTg_nil, Mi.setTg_cons, Mi.wipe_nil, Mi.wipe_cons, Mi.forR_nil, Mi.truV_bl, Mi.truV_non, Mi.truV_int, Mi.add_ii, Mi.sub_ii, Mi.lt_ii, Mi.le_ii, Mi.gt_ii, Mi.ge_ii, Mi.isn_v, Mi.notn_v, Mi.isN_non, Mi.isN_int, Mi.isN_tup, Mi.isN_bl, Mi.isN_str, Mi.eq_ii, Mi.ne_ii, Mi.eq_ss, Mi.ne_ss, Mi.neg_i, Mi.walk_lst, Mi.walk_tup, Mi.walk_scr, Mi.len_tup, Mi.len_lst, Mi.len_scr, Mi.tuple_lst, Mi.tuple_tup, Mi.list_tup, Mi.list_lst, Mi.int_int, Mi.int_bl, Mi.abs_int, Mi.min_int, Mi.max_int, Mi.isi_def, Mi.sum_lst, Mi.all_lst, Mi.any_lst, Mi.ints_map, Mi.bools_map, R.bind_ok, R.bind_ex, R.bind_bad, R.lift_some, R.noEx_ok, List.getElem?_cons_zero, List.getElem?_cons_succ, Option.bind_some, Option.map_some, Option.bind_eq_bind, id_eq, List.set_cons_zero, List.set_cons_succ, if_true, if_false, Bool.false_eq_true, reduceIte, Bool.not_true, Bool.not_false, Ex.isOmit, decide_eq_false q, show ((0 : Int) == 0) = true from rfl, q2, show decide ((0 : Int) ≤ 0) = true from rfl]
      · have q4 : (far == 0) = false := by rw [beq_eq_false_iff_ne]; exact q3
        simp (implicitDefEqProofs := false) only [Mi.seqK_nx, Mi.seqK_rt, Mi.andK_t, Mi.andK_f, Mi.orK_t, Mi.orK_f, Mi.forB_nm, Mi.forB_2, Mi.binK2_d, Mi.binK1_d, Mi.negK_d, Mi.truK_d, Mi.tstK_d, Mi.notK_d, Mi.cmpK2_d, Mi.cmpK1_d, Mi.chnK3_t, Mi.chnK3_f, Mi.chnK2_d, Mi.chnK1_d, Mi.iteK_t, Mi.iteK_f, Mi.tupK_d, Mi.lstK_d, Mi.cellK_d, Mi.callK_d, Mi.biK_d, Mi.idxK2_d, Mi.idxK1_d, Mi.sliK3_t, Mi.sliK3_l, Mi.oIntK_i, Mi.sliK2_d, Mi.sliK1_d, Mi.lcT_d, Mi.lcE_d, Mi.lcK_d, Mi.lrgK2_d, Mi.lrgK1_d, Mi.consK2_d, Mi.consK1_d, Mi.rng1K_d, Mi.rng2K2_d, Mi.rng2K1_d, Mi.zipO_d, Mi.zipK2_d, Mi.zipK1_d, Mi.enuK_d, Mi.sqK_d, Mi.setK_d, Mi.setTK_d, Mi.putK3_d, Mi.putK2_d, Mi.putK1_d, Mi.appK2_d, Mi.appK1_d, Mi.dropK_d, Mi.retK_d, Mi.iteS_t, Mi.iteS_f, Mi.forK_d, Mi.turnK2_d, Mi.turnK1_t, Mi.turnK1_f, Mi.whK_t, Mi.whK_f, Mi.lcB_nm, Mi.lcB_2, Mi.evE_var, Mi.evE_non, Mi.evE_bl, Mi.evE_int, Mi.evE_str, Mi.evE_gl, Mi.evE_bty, Mi.evE_bin, Mi.evE_neg, Mi.evE_not, Mi.evE_and, Mi.evE_or, Mi.evE_cmp, Mi.evE_chn, Mi.evE_ite, Mi.evE_tup, Mi.evE_lst, Mi.evE_cell, Mi.evE_call, Mi.callP_sto, Mi.evE_bi, Mi.evE_idx, Mi.evE_sli, Mi.evE_lc, Mi.evE_lrg, Mi.evE_lrd, Mi.evA_nil, Mi.evA_cons, Mi.evI_rng1, Mi.evI_rng2, Mi.evI_zip, Mi.evI_enu, Mi.evI_sq, Mi.tstR_false, Mi.tstR_true, Mi.optR_false, Mi.optR_true, Mi.oInt_int, Mi.isOmit_omit, Mi.evS_skip, Mi.evS_seq, Mi.evS_set, Mi.evS_setT, Mi.evS_put, Mi.evS_app, Mi.evS_drop, Mi.evS_ret, Mi.evS_ite, Mi.evS_for, Mi.evS_while, Mi.evS_raise, Mi.sto_some, Mi.sto_none, Mi.val_nx, Mi.val_rt, Mi.setTg_nm, Mi.setTg_nil, Mi.setTg_cons, Mi.wipe_nil, Mi.wipe_cons, Mi.forR_nil, Mi.truV_bl, Mi.truV_non, Mi.truV_int, Mi.add_ii, Mi.sub_ii, Mi.lt_ii, Mi.le_ii, Mi.gt_ii, Mi.ge_ii, Mi.isn_v, Mi.notn_v, Mi.isN_non, Mi.isN_int, Mi.isN_tup, Mi.isN_bl, Mi.isN_str, Mi.eq_ii, Mi.ne_ii, Mi.eq_ss, Mi.ne_ss, Mi.neg_i, Mi.walk_lst, Mi.walk_tup, Mi.walk_scr, Mi.len_tup, Mi.len_lst, Mi.len_scr, Mi.tuple_lst, Mi.tuple_tup, Mi.list_tup, Mi.list_lst, Mi.int_int, Mi.int_bl, Mi.abs_int, Mi.min_int, Mi.max_int, Mi.isi_def, Mi.sum_lst, Mi.all_lst, Mi.any_lst, Mi.ints_map, Mi.bools_map, R.bind_ok, R.bind_ex, R.bind_bad, R.lift_some, R.noEx_ok, List.getElem?_cons_zero, List.getElem?_cons_succ, Option.bind_some, Option.map_some, Option.bind_eq_bind, id_eq, List.set_cons_zero, List.set_cons_succ, if_true, if_false, Bool.false_eq_true, reduceIte, Bool.not_true, Bool.not_false, Ex.isOmit, decide_eq_false q, q4, decide_eq_false (show ¬ 0 ≤ far by omega)]
  · have q1 : (("same" : Str) == ("same" : Str)) = true := by decide
    have e : soB "same" far = (far == 0) := rfl
    rw [e]
    simp (implicitDefEqProofs := false) only [Mi.seqK_nx, Mi.seqK_rt, Mi.andK_t, Mi.andK_f, Mi.orK_t, Mi.orK_f, Mi.forB_nm, Mi.forB_2, Mi.binK2_d, Mi.binK1_d, Mi.negK_d, Mi.truK_d, Mi.tstK_d, Mi.notK_d, Mi.cmpK2_d, Mi.cmpK1_d, Mi.chnK3_t, Mi.chnK3_f, Mi.chnK2_d, Mi.chnK1_d, Mi.iteK_t, Mi.iteK_f, Mi.tupK_d, Mi.lstK_d, Mi.cellK_d, Mi.callK_d, Mi.biK_d, Mi.idxK2_d, Mi.idxK1_d, Mi.sliK3_t, Mi.sliK3_l, Mi.oIntK_i, Mi.sliK2_d, Mi.sliK1_d, Mi.lcT_d, Mi.lcE_d, Mi.lcK_d, Mi.lrgK2_d, Mi.lrgK1_d, Mi.consK2_d, Mi.consK1_d, Mi.rng1K_d, Mi.rng2K2_d, Mi.rng2K1_d, Mi.zipO_d, Mi.zipK2_d, Mi.zipK1_d, Mi.enuK_d, Mi.sqK_d, Mi.setK_d, Mi.setTK_d, Mi.putK3_d, Mi.putK2_d, Mi.putK1_d, Mi.appK2_d, Mi.appK1_d, Mi.dropK_d, Mi.retK_d, Mi.iteS_t, Mi.iteS_f, Mi.forK_d, Mi.turnK2_d, Mi.turnK1_t, Mi.turnK1_f, Mi.whK_t, Mi.whK_f, Mi.lcB_nm, Mi.lcB_2, Mi.evE_var, Mi.evE_non, Mi.evE_bl, Mi.evE_int, Mi.evE_str, Mi.evE_gl, Mi.evE_bty, Mi.evE_bin, Mi.evE_neg, Mi.evE_not, Mi.evE_and, Mi.evE_or, Mi.evE_cmp, Mi.evE_chn, Mi.evE_ite, Mi.evE_tup, Mi.evE_lst, Mi.evE_cell, Mi.evE_call, Mi.callP_sto, Mi.evE_bi, Mi.evE_idx, Mi.evE_sli, Mi.evE_lc, Mi.evE_lrg, Mi.evE_lrd, Mi.evA_nil, Mi.evA_cons, Mi.evI_rng1, Mi.evI_rng2, Mi.evI_zip, Mi.evI_enu, Mi.evI_sq, Mi.tstR_false, Mi.tstR_true, Mi.optR_false, Mi.optR_true, Mi.oInt_int, Mi.isOmit_omit, Mi.evS_skip, Mi.evS_seq, Mi.evS_set, Mi.evS_setT, Mi.evS_put, Mi.evS_app, Mi.evS_drop, Mi.evS_ret, Mi.evS_ite, Mi.evS_for, Mi.evS_while, Mi.evS_raise, Mi.sto_some, Mi.sto_none, Mi.val_nx, Mi.val_rt, Mi.setTg_nm, Mi.setTg_nil, Mi.setTg_cons, Mi.wipe_nil, Mi.wipe_cons, Mi.forR_nil, Mi.truV_bl, Mi.truV_non, Mi.truV_int, Mi.add_ii, Mi.sub_ii, Mi.lt_ii, Mi.le_ii, Mi.gt_ii, Mi.ge_ii, Mi.isn_v, Mi.notn_v, Mi.isN_non, Mi.isN_int, Mi.isN_tup, Mi.isN_bl, Mi.isN_str, Mi.eq_ii, Mi.ne_ii, Mi.eq_ss, Mi.ne_ss, Mi.neg_i, Mi.walk_lst, Mi.walk_tup, Mi.walk_scr, Mi.len_tup, Mi.len_lst, Mi.len_scr, Mi.tuple_lst, Mi.tuple_tup, Mi.list_tup, Mi.list_lst, Mi.int_int, Mi.int_bl, Mi.abs_int, Mi.min_int, Mi.max_int, Mi.isi_def, Mi.sum_lst, Mi.all_lst, Mi.any_lst, Mi.ints_map, Mi.bools_map, R.bind_ok, R.bind_ex, R.bind_bad, R.lift_some, R.noEx_ok, List.getElem?_cons_zero, List.getElem?_cons_succ, Option.bind_some, Option.map_some, Option.bind_eq_bind, id_eq, List.set_cons_zero, List.set_cons_succ, if_true, if_false, Bool.false_eq_true, reduceIte, Bool.not_true, Bool.not_false, Ex.isOmit, b30, q1]
theorem keeps_all (many : Nat) (hm : 1 ≤ many ∧ many ≤ 100) (fs : List Fct) (sizes : List Int) (hl : fs.length ≤ 100) : RU N (d + 2) 12 [.int many, .tup (fs.map fV), .tup (sizes.map .int)] st = .ok (.bl (keepsB many fs sizes)) st := by
  rw [RU, u12]
  simp (implicitDefEqProofs := false) only [Mi.seqK_nx, Mi.seqK_rt, Mi.andK_t, Mi.andK_f, Mi.orK_t, Mi.orK_f, Mi.forB_nm, Mi.forB_2, Mi.binK2_d, Mi.binK1_d, Mi.negK_d, Mi.truK_d, Mi.tstK_d, Mi.notK_d, Mi.cmpK2_d, Mi.cmpK1_d, Mi.chnK3_t, Mi.chnK3_f, Mi.chnK2_d, Mi.chnK1_d, Mi.iteK_t, Mi.iteK_f, Mi.tupK_d, Mi.lstK_d, Mi.cellK_d, Mi.callK_d, Mi.biK_d, Mi.idxK2_d, Mi.idxK1_d, Mi.sliK3_t, Mi.sliK3_l, Mi.oIntK_i, Mi.sliK2_d, Mi.sliK1_d, Mi.lcT_d, Mi.lcE_d, Mi.lcK_d, Mi.lrgK2_d, Mi.lrgK1_d, Mi.consK2_d, Mi.consK1_d, Mi.rng1K_d, Mi.rng2K2_d, Mi.rng2K1_d, Mi.zipO_d, Mi.zipK2_d, Mi.zipK1_d, Mi.enuK_d, Mi.sqK_d, Mi.setK_d, Mi.setTK_d, Mi.putK3_d, Mi.putK2_d, Mi.putK1_d, Mi.appK2_d, Mi.appK1_d, Mi.dropK_d, Mi.retK_d, Mi.iteS_t, Mi.iteS_f, Mi.forK_d, Mi.turnK2_d, Mi.turnK1_t, Mi.turnK1_f, Mi.whK_t, Mi.whK_f, Mi.lcB_nm, Mi.lcB_2, Mi.evE_var, Mi.evE_non, Mi.evE_bl, Mi.evE_int, Mi.evE_str, Mi.evE_gl, Mi.evE_bty, Mi.evE_bin, Mi.evE_neg, Mi.evE_not, Mi.evE_and, Mi.evE_or, Mi.evE_cmp, Mi.evE_chn, Mi.evE_ite, Mi.evE_tup, Mi.evE_lst, Mi.evE_cell, Mi.evE_call, Mi.callP_sto, Mi.evE_bi, Mi.evE_idx, Mi.evE_sli, Mi.evE_lc, Mi.evE_lrg, Mi.evE_lrd, Mi.evA_nil, Mi.evA_cons, Mi.evI_rng1, Mi.evI_rng2, Mi.evI_zip, Mi.evI_enu, Mi.evI_sq, Mi.tstR_false, Mi.tstR_true, Mi.optR_false, Mi.optR_true, Mi.oInt_int, Mi.isOmit_omit, Mi.evS_skip, Mi.evS_seq, Mi.evS_set, Mi.evS_setT, Mi.evS_put, Mi.evS_app, Mi.evS_drop, Mi.evS_ret, Mi.evS_ite, Mi.evS_for, Mi.evS_while, Mi.evS_raise, Mi.sto_some, Mi.sto_none, Mi.val_nx, Mi.val_rt, Mi.setTg_nm, Mi.setTg_nil, Mi.setTg_cons, Mi.wipe_nil, Mi.wipe_cons, Mi.forR_nil, Mi.truV_bl, Mi.truV_non, Mi.truV_int, Mi.add_ii, Mi.sub_ii, Mi.lt_ii, Mi.le_ii, Mi.gt_ii, Mi.ge_ii, Mi.isn_v, Mi.notn_v, Mi.isN_non, Mi.isN_int, Mi.isN_tup, Mi.isN_bl, Mi.isN_str, Mi.eq_ii, Mi.ne_ii, Mi.eq_ss, Mi.ne_ss, Mi.neg_i, Mi.walk_lst, Mi.walk_tup, Mi.walk_scr, Mi.len_tup, Mi.len_lst, Mi.len_scr, Mi.tuple_lst, Mi.tuple_tup, Mi.list_tup, Mi.list_lst, Mi.int_int, Mi.int_bl, Mi.abs_int, Mi.min_int, Mi.max_int, Mi.isi_def, Mi.sum_lst, Mi.all_lst, Mi.any_lst, Mi.ints_map, Mi.bools_map, R.bind_ok, R.bind_ex, R.bind_bad, R.lift_some, R.noEx_ok, List.getElem?_cons_zero, List.getElem?_cons_succ, Option.bind_some, Option.map_some, Option.bind_eq_bind, id_eq, List.set_cons_zero, List.set_cons_succ, if_true, if_false, Bool.false_eq_true, reduceIte, Bool.not_true, Bool.not_false, Ex.isOmit, b12]
  rw [all_ofm fs fV _ (fun x => soB x.1 (dotZ (lineF many x.2.1 x.2.2) sizes)) (by omega) (fun x hx => by
    have i0 : ixV st (fV x) (.int 0) = some (.str x.1) := rfl
    simp (implicitDefEqProofs := false) only [Mi.seqK_nx, Mi.seqK_rt, Mi.andK_t, Mi.andK_f, Mi.orK_t, Mi.orK_f, Mi.forB_nm, Mi.forB_2, Mi.binK2_d, Mi.binK1_d, Mi.negK_d, Mi.truK_d, Mi.tstK_d, Mi.notK_d, Mi.cmpK2_d, Mi.cmpK1_d, Mi.chnK3_t, Mi.chnK3_f, Mi.chnK2_d, Mi.chnK1_d, Mi.iteK_t, Mi.iteK_f, Mi.tupK_d, Mi.lstK_d, Mi.cellK_d, Mi.callK_d, Mi.biK_d, Mi.idxK2_d, Mi.idxK1_d, Mi.sliK3_t, Mi.sliK3_l, Mi.oIntK_i, Mi.sliK2_d, Mi.sliK1_d, Mi.lcT_d, Mi.lcE_d, Mi.lcK_d, Mi.lrgK2_d, Mi.lrgK1_d, Mi.consK2_d, Mi.consK1_d, Mi.rng1K_d, Mi.rng2K2_d, Mi.rng2K1_d, Mi.zipO_d, Mi.zipK2_d, Mi.zipK1_d, Mi.enuK_d, Mi.sqK_d, Mi.setK_d, Mi.setTK_d, Mi.putK3_d, Mi.putK2_d, Mi.putK1_d, Mi.appK2_d, Mi.appK1_d, Mi.dropK_d, Mi.retK_d, Mi.iteS_t, Mi.iteS_f, Mi.forK_d, Mi.turnK2_d, Mi.turnK1_t, Mi.turnK1_f, Mi.whK_t, Mi.whK_f, Mi.lcB_nm, Mi.lcB_2, Mi.evE_var, Mi.evE_non, Mi.evE_bl, Mi.evE_int, Mi.evE_str, Mi.evE_gl, Mi.evE_bty, Mi.evE_bin, Mi.evE_neg, Mi.evE_not, Mi.evE_and, Mi.evE_or, Mi.evE_cmp, Mi.evE_chn, Mi.evE_ite, Mi.evE_tup, Mi.evE_lst, Mi.evE_cell, Mi.evE_call, Mi.callP_sto, Mi.evE_bi, Mi.evE_idx, Mi.evE_sli, Mi.evE_lc, Mi.evE_lrg, Mi.evE_lrd, Mi.evA_nil, Mi.evA_cons, Mi.evI_rng1, Mi.evI_rng2, Mi.evI_zip, Mi.evI_enu, Mi.evI_sq, Mi.tstR_false, Mi.tstR_true, Mi.optR_false, Mi.optR_true, Mi.oInt_int, Mi.isOmit_omit, Mi.evS_skip, Mi.evS_seq, Mi.evS_set, Mi.evS_setT, Mi.evS_put, Mi.evS_app, Mi.evS_drop, Mi.evS_ret, Mi.evS_ite, Mi.evS_for, Mi.evS_while, Mi.evS_raise, Mi.sto_some, Mi.sto_none, Mi.val_nx, Mi.val_rt, Mi.setTg_nm, Mi.setTg_nil, Mi.setTg_cons, Mi.wipe_nil, Mi.wipe_cons, Mi.forR_nil, Mi.truV_bl, Mi.truV_non, Mi.truV_int, Mi.add_ii, Mi.sub_ii, Mi.lt_ii, Mi.le_ii, Mi.gt_ii, Mi.ge_ii, Mi.isn_v, Mi.notn_v, Mi.isN_non, Mi.isN_int, Mi.isN_tup, Mi.isN_bl, Mi.isN_str, Mi.eq_ii, Mi.ne_ii, Mi.eq_ss, Mi.ne_ss, Mi.neg_i, Mi.walk_lst, Mi.walk_tup, Mi.walk_scr, Mi.len_tup, Mi.len_lst, Mi.len_scr, Mi.tuple_lst, Mi.tuple_tup, Mi.list_tup, Mi.list_lst, Mi.int_int, Mi.int_bl, Mi.abs_int, Mi.min_int, Mi.max_int, Mi.isi_def, Mi.sum_lst, Mi.all_lst, Mi.any_lst, Mi.ints_map, Mi.bools_map, R.bind_ok, R.bind_ex, R.bind_bad, R.lift_some, R.noEx_ok, List.getElem?_cons_zero, List.getElem?_cons_succ, Option.bind_some, Option.map_some, Option.bind_eq_bind, id_eq, List.set_cons_zero, List.set_cons_succ, if_true, if_false, Bool.false_eq_true, reduceIte, Bool.not_true, Bool.not_false, Ex.isOmit, i0, fact_line many hm x, summed _ _ (lineF_small many x.2.1 x.2.2) (by rw [lineF_len]; omega), is_so])]
  simp (implicitDefEqProofs := false) only [Mi.seqK_nx, Mi.seqK_rt, Mi.andK_t, Mi.andK_f, Mi.orK_t, Mi.orK_f, Mi.forB_nm, Mi.forB_2, Mi.binK2_d, Mi.binK1_d, Mi.negK_d, Mi.truK_d, Mi.tstK_d, Mi.notK_d, Mi.cmpK2_d, Mi.cmpK1_d, Mi.chnK3_t, Mi.chnK3_f, Mi.chnK2_d, Mi.chnK1_d, Mi.iteK_t, Mi.iteK_f, Mi.tupK_d, Mi.lstK_d, Mi.cellK_d, Mi.callK_d, Mi.biK_d, Mi.idxK2_d, Mi.idxK1_d, Mi.sliK3_t, Mi.sliK3_l, Mi.oIntK_i, Mi.sliK2_d, Mi.sliK1_d, Mi.lcT_d, Mi.lcE_d, Mi.lcK_d, Mi.lrgK2_d, Mi.lrgK1_d, Mi.consK2_d, Mi.consK1_d, Mi.rng1K_d, Mi.rng2K2_d, Mi.rng2K1_d, Mi.zipO_d, Mi.zipK2_d, Mi.zipK1_d, Mi.enuK_d, Mi.sqK_d, Mi.setK_d, Mi.setTK_d, Mi.putK3_d, Mi.putK2_d, Mi.putK1_d, Mi.appK2_d, Mi.appK1_d, Mi.dropK_d, Mi.retK_d, Mi.iteS_t, Mi.iteS_f, Mi.forK_d, Mi.turnK2_d, Mi.turnK1_t, Mi.turnK1_f, Mi.whK_t, Mi.whK_f, Mi.lcB_nm, Mi.lcB_2, Mi.evE_var, Mi.evE_non, Mi.evE_bl, Mi.evE_int, Mi.evE_str, Mi.evE_gl, Mi.evE_bty, Mi.evE_bin, Mi.evE_neg, Mi.evE_not, Mi.evE_and, Mi.evE_or, Mi.evE_cmp, Mi.evE_chn, Mi.evE_ite, Mi.evE_tup, Mi.evE_lst, Mi.evE_cell, Mi.evE_call, Mi.callP_sto, Mi.evE_bi, Mi.evE_idx, Mi.evE_sli, Mi.evE_lc, Mi.evE_lrg, Mi.evE_lrd, Mi.evA_nil, Mi.evA_cons, Mi.evI_rng1, Mi.evI_rng2, Mi.evI_zip, Mi.evI_enu, Mi.evI_sq, Mi.tstR_false, Mi.tstR_true, Mi.optR_false, Mi.optR_true, Mi.oInt_int, Mi.isOmit_omit, Mi.evS_skip, Mi.evS_seq, Mi.evS_set, Mi.evS_setT, Mi.evS_put, Mi.evS_app, Mi.evS_drop, Mi.evS_ret, Mi.evS_ite, Mi.evS_for, Mi.evS_while, Mi.evS_raise, Mi.sto_some, Mi.sto_none, Mi.val_nx, Mi.val_rt, Mi.setTg_nm, Mi.setTg_nil, Mi.setTg_cons, Mi.wipe_nil, Mi.wipe_cons, Mi.forR_nil, Mi.truV_bl, Mi.truV_non, Mi.truV_int, Mi.add_ii, Mi.sub_ii, Mi.lt_ii, Mi.le_ii, Mi.gt_ii, Mi.ge_ii, Mi.isn_v, Mi.notn_v, Mi.isN_non, Mi.isN_int, Mi.isN_tup, Mi.isN_bl, Mi.isN_str, Mi.eq_ii, Mi.ne_ii, Mi.eq_ss, Mi.ne_ss, Mi.neg_i, Mi.walk_lst, Mi.walk_tup, Mi.walk_scr, Mi.len_tup, Mi.len_lst, Mi.len_scr, Mi.tuple_lst, Mi.tuple_tup, Mi.list_tup, Mi.list_lst, Mi.int_int, Mi.int_bl, Mi.abs_int, Mi.min_int, Mi.max_int, Mi.isi_def, Mi.sum_lst, Mi.all_lst, Mi.any_lst, Mi.ints_map, Mi.bools_map, R.bind_ok, R.bind_ex, R.bind_bad, R.lift_some, R.noEx_ok, List.getElem?_cons_zero, List.getElem?_cons_succ, Option.bind_some, Option.map_some, Option.bind_eq_bind, id_eq, List.set_cons_zero, List.set_cons_succ, if_true, if_false, Bool.false_eq_true, reduceIte, Bool.not_true, Bool.not_false, Ex.isOmit, all_id, keepsB]
theorem keeps_ok (many : Nat) (hm : 2 ≤ many ∧ many ≤ 4) (fs : List Fct) (sizes : List Int) (hl : fs.length ≤ 6) (hf : ∀ x ∈ fs, FctOk many x) (hs : SzOk many sizes) : RU N (d + 7) 20 [.int many, .tup (fs.map fV), .tup (sizes.map .int)] st = .ok (.bl (keepsB many fs sizes)) st := by
  have e1 : RU N (d + 6) 16 [.int many, .tup (fs.map fV)] st = .ok .non st := by
    have e2 : RU N (d + 5) 14 [.int many, .tup (fs.map fV)] st = .ok .non st := by
      rw [RU, u14]
      simp (implicitDefEqProofs := false) only [Mi.seqK_nx, Mi.seqK_rt, Mi.andK_t, Mi.andK_f, Mi.orK_t, Mi.orK_f, Mi.forB_nm, Mi.forB_2, Mi.binK2_d, Mi.binK1_d, Mi.negK_d, Mi.truK_d, Mi.tstK_d, Mi.notK_d, Mi.cmpK2_d, Mi.cmpK1_d, Mi.chnK3_t, Mi.chnK3_f, Mi.chnK2_d, Mi.chnK1_d, Mi.iteK_t, Mi.iteK_f, Mi.tupK_d, Mi.lstK_d, Mi.cellK_d, Mi.callK_d, Mi.biK_d, Mi.idxK2_d, Mi.idxK1_d, Mi.sliK3_t, Mi.sliK3_l, Mi.oIntK_i, Mi.sliK2_d, Mi.sliK1_d, Mi.lcT_d, Mi.lcE_d, Mi.lcK_d, Mi.lrgK2_d, Mi.lrgK1_d, Mi.consK2_d, Mi.consK1_d, Mi.rng1K_d, Mi.rng2K2_d, Mi.rng2K1_d, Mi.zipO_d, Mi.zipK2_d, Mi.zipK1_d, Mi.enuK_d, Mi.sqK_d, Mi.setK_d, Mi.setTK_d, Mi.putK3_d, Mi.putK2_d, Mi.putK1_d, Mi.appK2_d, Mi.appK1_d, Mi.dropK_d, Mi.retK_d, Mi.iteS_t, Mi.iteS_f, Mi.forK_d, Mi.turnK2_d, Mi.turnK1_t, Mi.turnK1_f, Mi.whK_t, Mi.whK_f, Mi.lcB_nm, Mi.lcB_2, Mi.evE_var, Mi.evE_non, Mi.evE_bl, Mi.evE_int, Mi.evE_str, Mi.evE_gl, Mi.evE_bty, Mi.evE_bin, Mi.evE_neg, Mi.evE_not, Mi.evE_and, Mi.evE_or, Mi.evE_cmp, Mi.evE_chn, Mi.evE_ite, Mi.evE_tup, Mi.evE_lst, Mi.evE_cell, Mi.evE_call, Mi.callP_sto, Mi.evE_bi, Mi.evE_idx, Mi.evE_sli, Mi.evE_lc, Mi.evE_lrg, Mi.evE_lrd, Mi.evA_nil, Mi.evA_cons, Mi.evI_rng1, Mi.evI_rng2, Mi.evI_zip, Mi.evI_enu, Mi.evI_sq, Mi.tstR_false, Mi.tstR_true, Mi.optR_false, Mi.optR_true, Mi.oInt_int, Mi.isOmit_omit, Mi.evS_skip, Mi.evS_seq, Mi.evS_set, Mi.evS_setT, Mi.evS_put, Mi.evS_app, Mi.evS_drop, Mi.evS_ret, Mi.evS_ite, Mi.evS_for, Mi.evS_while, Mi.evS_raise, Mi.sto_some, Mi.sto_none, Mi.val_nx, Mi.val_rt, Mi.setTg_nm, Mi.setTg_nil, Mi.setTg_cons, Mi.wipe_nil, Mi.wipe_cons, Mi.forR_nil, Mi.truV_bl, Mi.truV_non, Mi.truV_int, Mi.add_ii, Mi.sub_ii, Mi.lt_ii, Mi.le_ii, Mi.gt_ii, Mi.ge_ii, Mi.isn_v, Mi.notn_v, Mi.isN_non, Mi.isN_int, Mi.isN_tup, Mi.isN_bl, Mi.isN_str, Mi.eq_ii, Mi.ne_ii, Mi.eq_ss, Mi.ne_ss, Mi.neg_i, Mi.walk_lst, Mi.walk_tup, Mi.walk_scr, Mi.len_tup, Mi.len_lst, Mi.len_scr, Mi.tuple_lst, Mi.tuple_tup, Mi.list_tup, Mi.list_lst, Mi.int_int, Mi.int_bl, Mi.abs_int, Mi.min_int, Mi.max_int, Mi.isi_def, Mi.sum_lst, Mi.all_lst, Mi.any_lst, Mi.ints_map, Mi.bools_map, R.bind_ok, R.bind_ex, R.bind_bad, R.lift_some, R.noEx_ok, List.getElem?_cons_zero, List.getElem?_cons_succ, Option.bind_some, Option.map_some, Option.bind_eq_bind, id_eq, List.set_cons_zero, List.set_cons_succ, if_true, if_false, Bool.false_eq_true, reduceIte, Bool.not_true, Bool.not_false, Ex.isOmit, b14, are_good_facts_v (N := N) (d := d) (st := st) many _ ⟨3, vB_mono (by decide) (Nat.le_refl _) (facts_vb hm.2 hl hf)⟩, facts_good hl hf]
    rw [RU, u16]
    simp (implicitDefEqProofs := false) only [Mi.seqK_nx, Mi.seqK_rt, Mi.andK_t, Mi.andK_f, Mi.orK_t, Mi.orK_f, Mi.forB_nm, Mi.forB_2, Mi.binK2_d, Mi.binK1_d, Mi.negK_d, Mi.truK_d, Mi.tstK_d, Mi.notK_d, Mi.cmpK2_d, Mi.cmpK1_d, Mi.chnK3_t, Mi.chnK3_f, Mi.chnK2_d, Mi.chnK1_d, Mi.iteK_t, Mi.iteK_f, Mi.tupK_d, Mi.lstK_d, Mi.cellK_d, Mi.callK_d, Mi.biK_d, Mi.idxK2_d, Mi.idxK1_d, Mi.sliK3_t, Mi.sliK3_l, Mi.oIntK_i, Mi.sliK2_d, Mi.sliK1_d, Mi.lcT_d, Mi.lcE_d, Mi.lcK_d, Mi.lrgK2_d, Mi.lrgK1_d, Mi.consK2_d, Mi.consK1_d, Mi.rng1K_d, Mi.rng2K2_d, Mi.rng2K1_d, Mi.zipO_d, Mi.zipK2_d, Mi.zipK1_d, Mi.enuK_d, Mi.sqK_d, Mi.setK_d, Mi.setTK_d, Mi.putK3_d, Mi.putK2_d, Mi.putK1_d, Mi.appK2_d, Mi.appK1_d, Mi.dropK_d, Mi.retK_d, Mi.iteS_t, Mi.iteS_f, Mi.forK_d, Mi.turnK2_d, Mi.turnK1_t, Mi.turnK1_f, Mi.whK_t, Mi.whK_f, Mi.lcB_nm, Mi.lcB_2, Mi.evE_var, Mi.evE_non, Mi.evE_bl, Mi.evE_int, Mi.evE_str, Mi.evE_gl, Mi.evE_bty, Mi.evE_bin, Mi.evE_neg, Mi.evE_not, Mi.evE_and, Mi.evE_or, Mi.evE_cmp, Mi.evE_chn, Mi.evE_ite, Mi.evE_tup, Mi.evE_lst, Mi.evE_cell, Mi.evE_call, Mi.callP_sto, Mi.evE_bi, Mi.evE_idx, Mi.evE_sli, Mi.evE_lc, Mi.evE_lrg, Mi.evE_lrd, Mi.evA_nil, Mi.evA_cons, Mi.evI_rng1, Mi.evI_rng2, Mi.evI_zip, Mi.evI_enu, Mi.evI_sq, Mi.tstR_false, Mi.tstR_true, Mi.optR_false, Mi.optR_true, Mi.oInt_int, Mi.isOmit_omit, Mi.evS_skip, Mi.evS_seq, Mi.evS_set, Mi.evS_setT, Mi.evS_put, Mi.evS_app, Mi.evS_drop, Mi.evS_ret, Mi.evS_ite, Mi.evS_for, Mi.evS_while, Mi.evS_raise, Mi.sto_some, Mi.sto_none, Mi.val_nx, Mi.val_rt, Mi.setTg_nm, Mi.setTg_nil, Mi.setTg_cons, Mi.wipe_nil, Mi.wipe_cons, Mi.forR_nil, Mi.truV_bl, Mi.truV_non, Mi.truV_int, Mi.add_ii, Mi.sub_ii, Mi.lt_ii, Mi.le_ii, Mi.gt_ii, Mi.ge_ii, Mi.isn_v, Mi.notn_v, Mi.isN_non, Mi.isN_int, Mi.isN_tup, Mi.isN_bl, Mi.isN_str, Mi.eq_ii, Mi.ne_ii, Mi.eq_ss, Mi.ne_ss, Mi.neg_i, Mi.walk_lst, Mi.walk_tup, Mi.walk_scr, Mi.len_tup, Mi.len_lst, Mi.len_scr, Mi.tuple_lst, Mi.tuple_tup, Mi.list_tup, Mi.list_lst, Mi.int_int, Mi.int_bl, Mi.abs_int, Mi.min_int, Mi.max_int, Mi.isi_def, Mi.sum_lst, Mi.all_lst, Mi.any_lst, Mi.ints_map, Mi.bools_map, R.bind_ok, R.bind_ex, R.bind_bad, R.lift_some, R.noEx_ok, List.getElem?_cons_zero, List.getElem?_cons_succ, Option.bind_some, Option.map_some, Option.bind_eq_bind, id_eq, List.set_cons_zero, List.set_cons_succ, if_true, if_false, Bool.false_eq_true, reduceIte, Bool.not_true, Bool.not_false, Ex.isOmit, b16, need_many (N := N) (d := d + 3) (st := st) many hm, e2]
  rw [RU, u20]
  simp (implicitDefEqProofs := false) only [Mi.seqK_nx, Mi.seqK_rt, Mi.andK_t, Mi.andK_f, Mi.orK_t, Mi.orK_f, Mi.forB_nm, Mi.forB_2, Mi.binK2_d, Mi.binK1_d, Mi.negK_d, Mi.truK_d, Mi.tstK_d, Mi.notK_d, Mi.cmpK2_d, Mi.cmpK1_d, Mi.chnK3_t, Mi.chnK3_f, Mi.chnK2_d, Mi.chnK1_d, Mi.iteK_t, Mi.iteK_f, Mi.tupK_d, Mi.lstK_d, Mi.cellK_d, Mi.callK_d, Mi.biK_d, Mi.idxK2_d, Mi.idxK1_d, Mi.sliK3_t, Mi.sliK3_l, Mi.oIntK_i, Mi.sliK2_d, Mi.sliK1_d, Mi.lcT_d, Mi.lcE_d, Mi.lcK_d, Mi.lrgK2_d, Mi.lrgK1_d, Mi.consK2_d, Mi.consK1_d, Mi.rng1K_d, Mi.rng2K2_d, Mi.rng2K1_d, Mi.zipO_d, Mi.zipK2_d, Mi.zipK1_d, Mi.enuK_d, Mi.sqK_d, Mi.setK_d, Mi.setTK_d, Mi.putK3_d, Mi.putK2_d, Mi.putK1_d, Mi.appK2_d, Mi.appK1_d, Mi.dropK_d, Mi.retK_d, Mi.iteS_t, Mi.iteS_f, Mi.forK_d, Mi.turnK2_d, Mi.turnK1_t, Mi.turnK1_f, Mi.whK_t, Mi.whK_f, Mi.lcB_nm, Mi.lcB_2, Mi.evE_var, Mi.evE_non, Mi.evE_bl, Mi.evE_int, Mi.evE_str, Mi.evE_gl, Mi.evE_bty, Mi.evE_bin, Mi.evE_neg, Mi.evE_not, Mi.evE_and, Mi.evE_or, Mi.evE_cmp, Mi.evE_chn, Mi.evE_ite, Mi.evE_tup, Mi.evE_lst, Mi.evE_cell, Mi.evE_call, Mi.callP_sto, Mi.evE_bi, Mi.evE_idx, Mi.evE_sli, Mi.evE_lc, Mi.evE_lrg, Mi.evE_lrd, Mi.evA_nil, Mi.evA_cons, Mi.evI_rng1, Mi.evI_rng2, Mi.evI_zip, Mi.evI_enu, Mi.evI_sq, Mi.tstR_false, Mi.tstR_true, Mi.optR_false, Mi.optR_true, Mi.oInt_int, Mi.isOmit_omit, Mi.evS_skip, Mi.evS_seq, Mi.evS_set, Mi.evS_setT, Mi.evS_put, Mi.evS_app, Mi.evS_drop, Mi.evS_ret, Mi.evS_ite, Mi.evS_for, Mi.evS_while, Mi.evS_raise, Mi.sto_some, Mi.sto_none, Mi.val_nx, Mi.val_rt, Mi.setTg_nm, Mi.setTg_nil, Mi.setTg_cons, Mi.wipe_nil, Mi.wipe_cons, Mi.forR_nil, Mi.truV_bl, Mi.truV_non, Mi.truV_int, Mi.add_ii, Mi.sub_ii, Mi.lt_ii, Mi.le_ii, Mi.gt_ii, Mi.ge_ii, Mi.isn_v, Mi.notn_v, Mi.isN_non, Mi.isN_int, Mi.isN_tup, Mi.isN_bl, Mi.isN_str, Mi.eq_ii, Mi.ne_ii, Mi.eq_ss, Mi.ne_ss, Mi.neg_i, Mi.walk_lst, Mi.walk_tup, Mi.walk_scr, Mi.len_tup, Mi.len_lst, Mi.len_scr, Mi.tuple_lst, Mi.tuple_tup, Mi.list_tup, Mi.list_lst, Mi.int_int, Mi.int_bl, Mi.abs_int, Mi.min_int, Mi.max_int, Mi.isi_def, Mi.sum_lst, Mi.all_lst, Mi.any_lst, Mi.ints_map, Mi.bools_map, R.bind_ok, R.bind_ex, R.bind_bad, R.lift_some, R.noEx_ok, List.getElem?_cons_zero, List.getElem?_cons_succ, Option.bind_some, Option.map_some, Option.bind_eq_bind, id_eq, List.set_cons_zero, List.set_cons_succ, if_true, if_false, Bool.false_eq_true, reduceIte, Bool.not_true, Bool.not_false, Ex.isOmit, b20, e1, need_sizes (N := N) (d := d + 3) (st := st) many sizes hm hs, keeps_all (N := N) (d := d + 4) (st := st) many (by omega) fs sizes (by omega)]
def keepsBd : Sm := match b31 with
  | .seq (.for _ _ b) _ => b
  | _ => .skip
theorem law_keeps (many : Nat) (hm : 1 ≤ many ∧ many ≤ 100) (fs : List Fct) (sizes : List Int) (hf : ∀ x ∈ fs, FctOk many x) : RU N (d + 2) 31 [.int many, .tup (fs.map fV), .tup (sizes.map .int)] st = .ok (.bl (keepsB many fs sizes)) st := by
  have key : ∀ (gs : List Fct) (v3 v4 : Option PV), (∀ x ∈ gs, FctOk many x) → ∃ w3 w4, forR (forB (.nm 3) (evS G (RU N (d + 1)) N keepsBd)) (gs.map fV) [some (.int many), some (.tup (fs.map fV)), some (.tup (sizes.map .int)), v3, v4] st = .ok (if keepsB many gs sizes then .nx [some (.int many), some (.tup (fs.map fV)), some (.tup (sizes.map .int)), w3, w4] else .rt (.bl false)) st := by
    intro gs
    induction gs with
    | nil => intro v3 v4 _; exact ⟨v3, v4, rfl⟩
    | cons x gs ih =>
      intro v3 v4 h
      obtain ⟨w3, w4, e⟩ := ih (some (fV x)) (some (.int (dotZ (lineF many x.2.1 x.2.2) sizes))) fun y hy => h y (List.mem_cons_of_mem _ hy)
      refine ⟨w3, w4, ?_⟩
      have i0 : ixV st (fV x) (.int 0) = some (.str x.1) := rfl
      have e1 := law_sum (N := N) (d := d) (st := st) (lineF many x.2.1 x.2.2) sizes (lineF_small many x.2.1 x.2.2) (by rw [lineF_len]; omega)
      have e2 := law_holds (N := N) (d := d) (st := st) x.1 (h x List.mem_cons_self).w (dotZ (lineF many x.2.1 x.2.2) sizes)
      rw [List.map_cons, forR_cons, forB_nm]
      have ek : keepsB many (x :: gs) sizes = (soB x.1 (dotZ (lineF many x.2.1 x.2.2) sizes) && keepsB many gs sizes) := rfl
      rw [ek]
      simp (implicitDefEqProofs := false) only [Mi.seqK_nx, Mi.seqK_rt, Mi.andK_t, Mi.andK_f, Mi.orK_t, Mi.orK_f, Mi.forB_nm, Mi.forB_2, Mi.binK2_d, Mi.binK1_d, Mi.negK_d, Mi.truK_d, Mi.tstK_d, Mi.notK_d, Mi.cmpK2_d, Mi.cmpK1_d, Mi.chnK3_t, Mi.chnK3_f, Mi.chnK2_d, Mi.chnK1_d, Mi.iteK_t, Mi.iteK_f, Mi.tupK_d, Mi.lstK_d, Mi.cellK_d, Mi.callK_d, Mi.biK_d, Mi.idxK2_d, Mi.idxK1_d, Mi.sliK3_t, Mi.sliK3_l, Mi.oIntK_i, Mi.sliK2_d, Mi.sliK1_d, Mi.lcT_d, Mi.lcE_d, Mi.lcK_d, Mi.lrgK2_d, Mi.lrgK1_d, Mi.consK2_d, Mi.consK1_d, Mi.rng1K_d, Mi.rng2K2_d, Mi.rng2K1_d, Mi.zipO_d, Mi.zipK2_d, Mi.zipK1_d, Mi.enuK_d, Mi.sqK_d, Mi.setK_d, Mi.setTK_d, Mi.putK3_d, Mi.putK2_d, Mi.putK1_d, Mi.appK2_d, Mi.appK1_d, Mi.dropK_d, Mi.retK_d, Mi.iteS_t, Mi.iteS_f, Mi.forK_d, Mi.turnK2_d, Mi.turnK1_t, Mi.turnK1_f, Mi.whK_t, Mi.whK_f, Mi.lcB_nm, Mi.lcB_2, Mi.evE_var, Mi.evE_non, Mi.evE_bl, Mi.evE_int, Mi.evE_str, Mi.evE_gl, Mi.evE_bty, Mi.evE_bin, Mi.evE_neg, Mi.evE_not, Mi.evE_and, Mi.evE_or, Mi.evE_cmp, Mi.evE_chn, Mi.evE_ite, Mi.evE_tup, Mi.evE_lst, Mi.evE_cell, Mi.evE_call, Mi.callP_sto, Mi.evE_bi, Mi.evE_idx, Mi.evE_sli, Mi.evE_lc, Mi.evE_lrg, Mi.evE_lrd, Mi.evA_nil, Mi.evA_cons, Mi.evI_rng1, Mi.evI_rng2, Mi.evI_zip, Mi.evI_enu, Mi.evI_sq, Mi.tstR_false, Mi.tstR_true, Mi.optR_false, Mi.optR_true, Mi.oInt_int, Mi.isOmit_omit, Mi.evS_skip, Mi.evS_seq, Mi.evS_set, Mi.evS_setT, Mi.evS_put, Mi.evS_app, Mi.evS_drop, Mi.evS_ret, Mi.evS_ite, Mi.evS_for, Mi.evS_while, Mi.evS_raise, Mi.sto_some, Mi.sto_none, Mi.val_nx, Mi.val_rt, Mi.setTg_nm, Mi.setTg_nil, Mi.setTg_cons, Mi.wipe_nil, Mi.wipe_cons, Mi.forR_nil, Mi.truV_bl, Mi.truV_non, Mi.truV_int, Mi.add_ii, Mi.sub_ii, Mi.lt_ii, Mi.le_ii, Mi.gt_ii, Mi.ge_ii, Mi.isn_v, Mi.notn_v, Mi.isN_non, Mi.isN_int, Mi.isN_tup, Mi.isN_bl, Mi.isN_str, Mi.eq_ii, Mi.ne_ii, Mi.eq_ss, Mi.ne_ss, Mi.neg_i, Mi.walk_lst, Mi.walk_tup, Mi.walk_scr, Mi.len_tup, Mi.len_lst, Mi.len_scr, Mi.tuple_lst, Mi.tuple_tup, Mi.list_tup, Mi.list_lst, Mi.int_int, Mi.int_bl, Mi.abs_int, Mi.min_int, Mi.max_int, Mi.isi_def, Mi.sum_lst, Mi.all_lst, Mi.any_lst, Mi.ints_map, Mi.bools_map, R.bind_ok, R.bind_ex, R.bind_bad, R.lift_some, R.noEx_ok, List.getElem?_cons_zero, List.getElem?_cons_succ, Option.bind_some, Option.map_some, Option.bind_eq_bind, id_eq, List.set_cons_zero, List.set_cons_succ, if_true, if_false, Bool.false_eq_true, reduceIte, Bool.not_true, Bool.not_false, Ex.isOmit, keepsBd, b31, law_fact_line many hm x, e1, i0, e2]
      rcases Bool.eq_false_or_eq_true (soB x.1 (dotZ (lineF many x.2.1 x.2.2) sizes)) with q | q
      · simp (implicitDefEqProofs := false) only [Mi.seqK_nx, Mi.seqK_rt, Mi.andK_t, Mi.andK_f, Mi.orK_t, Mi.orK_f, Mi.forB_nm, Mi.forB_2, Mi.binK2_d, Mi.binK1_d, Mi.negK_d, Mi.truK_d, Mi.tstK_d, Mi.notK_d, Mi.cmpK2_d, Mi.cmpK1_d, Mi.chnK3_t, Mi.chnK3_f, Mi.chnK2_d, Mi.chnK1_d, Mi.iteK_t, Mi.iteK_f, Mi.tupK_d, Mi.lstK_d, Mi.cellK_d, Mi.callK_d, Mi.biK_d, Mi.idxK2_d, Mi.idxK1_d, Mi.sliK3_t, Mi.sliK3_l, Mi.oIntK_i, Mi.sliK2_d, Mi.sliK1_d, Mi.lcT_d, Mi.lcE_d, Mi.lcK_d, Mi.lrgK2_d, Mi.lrgK1_d, Mi.consK2_d, Mi.consK1_d, Mi.rng1K_d, Mi.rng2K2_d, Mi.rng2K1_d, Mi.zipO_d, Mi.zipK2_d, Mi.zipK1_d, Mi.enuK_d, Mi.sqK_d, Mi.setK_d, Mi.setTK_d, Mi.putK3_d, Mi.putK2_d, Mi.putK1_d, Mi.appK2_d, Mi.appK1_d, Mi.dropK_d, Mi.retK_d, Mi.iteS_t, Mi.iteS_f, Mi.forK_d, Mi.turnK2_d, Mi.turnK1_t, Mi.turnK1_f, Mi.whK_t, Mi.whK_f, Mi.lcB_nm, Mi.lcB_2, Mi.evE_var, Mi.evE_non, Mi.evE_bl, Mi.evE_int, Mi.evE_str, Mi.evE_gl, Mi.evE_bty, Mi.evE_bin, Mi.evE_neg, Mi.evE_not, Mi.evE_and, Mi.evE_or, Mi.evE_cmp, Mi.evE_chn, Mi.evE_ite, Mi.evE_tup, Mi.evE_lst, Mi.evE_cell, Mi.evE_call, Mi.callP_sto, Mi.evE_bi, Mi.evE_idx, Mi.evE_sli, Mi.evE_lc, Mi.evE_lrg, Mi.evE_lrd, Mi.evA_nil, Mi.evA_cons, Mi.evI_rng1, Mi.evI_rng2, Mi.evI_zip, Mi.evI_enu, Mi.evI_sq, Mi.tstR_false, Mi.tstR_true, Mi.optR_false, Mi.optR_true, Mi.oInt_int, Mi.isOmit_omit, Mi.evS_skip, Mi.evS_seq, Mi.evS_set, Mi.evS_setT, Mi.evS_put, Mi.evS_app, Mi.evS_drop, Mi.evS_ret, Mi.evS_ite, Mi.evS_for, Mi.evS_while, Mi.evS_raise, Mi.sto_some, Mi.sto_none, Mi.val_nx, Mi.val_rt, Mi.setTg_nm, Mi.setTg_nil, Mi.setTg_cons, Mi.wipe_nil, Mi.wipe_cons, Mi.forR_nil, Mi.truV_bl, Mi.truV_non, Mi.truV_int, Mi.add_ii, Mi.sub_ii, Mi.lt_ii, Mi.le_ii, Mi.gt_ii, Mi.ge_ii, Mi.isn_v, Mi.notn_v, Mi.isN_non, Mi.isN_int, Mi.isN_tup, Mi.isN_bl, Mi.isN_str, Mi.eq_ii, Mi.ne_ii, Mi.eq_ss, Mi.ne_ss, Mi.neg_i, Mi.walk_lst, Mi.walk_tup, Mi.walk_scr, Mi.len_tup, Mi.len_lst, Mi.len_scr, Mi.tuple_lst, Mi.tuple_tup, Mi.list_tup, Mi.list_lst, Mi.int_int, Mi.int_bl, Mi.abs_int, Mi.min_int, Mi.max_int, Mi.isi_def, Mi.sum_lst, Mi.all_lst, Mi.any_lst, Mi.ints_map, Mi.bools_map, R.bind_ok, R.bind_ex, R.bind_bad, R.lift_some, R.noEx_ok, List.getElem?_cons_zero, List.getElem?_cons_succ, Option.bind_some, Option.map_some, Option.bind_eq_bind, id_eq, List.set_cons_zero, List.set_cons_succ, if_true, if_false, Bool.false_eq_true, reduceIte, Bool.not_true, Bool.not_false, Ex.isOmit, q, Bool.true_and]
        exact e
      · simp (implicitDefEqProofs := false) only [Mi.seqK_nx, Mi.seqK_rt, Mi.andK_t, Mi.andK_f, Mi.orK_t, Mi.orK_f, Mi.forB_nm, Mi.forB_2, Mi.binK2_d, Mi.binK1_d, Mi.negK_d, Mi.truK_d, Mi.tstK_d, Mi.notK_d, Mi.cmpK2_d, Mi.cmpK1_d, Mi.chnK3_t, Mi.chnK3_f, Mi.chnK2_d, Mi.chnK1_d, Mi.iteK_t, Mi.iteK_f, Mi.tupK_d, Mi.lstK_d, Mi.cellK_d, Mi.callK_d, Mi.biK_d, Mi.idxK2_d, Mi.idxK1_d, Mi.sliK3_t, Mi.sliK3_l, Mi.oIntK_i, Mi.sliK2_d, Mi.sliK1_d, Mi.lcT_d, Mi.lcE_d, Mi.lcK_d, Mi.lrgK2_d, Mi.lrgK1_d, Mi.consK2_d, Mi.consK1_d, Mi.rng1K_d, Mi.rng2K2_d, Mi.rng2K1_d, Mi.zipO_d, Mi.zipK2_d, Mi.zipK1_d, Mi.enuK_d, Mi.sqK_d, Mi.setK_d, Mi.setTK_d, Mi.putK3_d, Mi.putK2_d, Mi.putK1_d, Mi.appK2_d, Mi.appK1_d, Mi.dropK_d, Mi.retK_d, Mi.iteS_t, Mi.iteS_f, Mi.forK_d, Mi.turnK2_d, Mi.turnK1_t, Mi.turnK1_f, Mi.whK_t, Mi.whK_f, Mi.lcB_nm, Mi.lcB_2, Mi.evE_var, Mi.evE_non, Mi.evE_bl, Mi.evE_int, Mi.evE_str, Mi.evE_gl, Mi.evE_bty, Mi.evE_bin, Mi.evE_neg, Mi.evE_not, Mi.evE_and, Mi.evE_or, Mi.evE_cmp, Mi.evE_chn, Mi.evE_ite, Mi.evE_tup, Mi.evE_lst, Mi.evE_cell, Mi.evE_call, Mi.callP_sto, Mi.evE_bi, Mi.evE_idx, Mi.evE_sli, Mi.evE_lc, Mi.evE_lrg, Mi.evE_lrd, Mi.evA_nil, Mi.evA_cons, Mi.evI_rng1, Mi.evI_rng2, Mi.evI_zip, Mi.evI_enu, Mi.evI_sq, Mi.tstR_false, Mi.tstR_true, Mi.optR_false, Mi.optR_true, Mi.oInt_int, Mi.isOmit_omit, Mi.evS_skip, Mi.evS_seq, Mi.evS_set, Mi.evS_setT, Mi.evS_put, Mi.evS_app, Mi.evS_drop, Mi.evS_ret, Mi.evS_ite, Mi.evS_for, Mi.evS_while, Mi.evS_raise, Mi.sto_some, Mi.sto_none, Mi.val_nx, Mi.val_rt, Mi.setTg_nm, Mi.setTg_nil, Mi.setTg_cons, Mi.wipe_nil, Mi.wipe_cons, Mi.forR_nil, Mi.truV_bl, Mi.truV_non, Mi.truV_int, Mi.add_ii, Mi.sub_ii, Mi.lt_ii, Mi.le_ii, Mi.gt_ii, Mi.ge_ii, Mi.isn_v, Mi.notn_v, Mi.isN_non, Mi.isN_int, Mi.isN_tup, Mi.isN_bl, Mi.isN_str, Mi.eq_ii, Mi.ne_ii, Mi.eq_ss, Mi.ne_ss, Mi.neg_i, Mi.walk_lst, Mi.walk_tup, Mi.walk_scr, Mi.len_tup, Mi.len_lst, Mi.len_scr, Mi.tuple_lst, Mi.tuple_tup, Mi.list_tup, Mi.list_lst, Mi.int_int, Mi.int_bl, Mi.abs_int, Mi.min_int, Mi.max_int, Mi.isi_def, Mi.sum_lst, Mi.all_lst, Mi.any_lst, Mi.ints_map, Mi.bools_map, R.bind_ok, R.bind_ex, R.bind_bad, R.lift_some, R.noEx_ok, List.getElem?_cons_zero, List.getElem?_cons_succ, Option.bind_some, Option.map_some, Option.bind_eq_bind, id_eq, List.set_cons_zero, List.set_cons_succ, if_true, if_false, Bool.false_eq_true, reduceIte, Bool.not_true, Bool.not_false, Ex.isOmit, q, Bool.false_and]
  rw [RU, u31]
  obtain ⟨w3, w4, e⟩ := key fs none none hf
  simp (implicitDefEqProofs := false) only [Mi.seqK_nx, Mi.seqK_rt, Mi.andK_t, Mi.andK_f, Mi.orK_t, Mi.orK_f, Mi.forB_nm, Mi.forB_2, Mi.binK2_d, Mi.binK1_d, Mi.negK_d, Mi.truK_d, Mi.tstK_d, Mi.notK_d, Mi.cmpK2_d, Mi.cmpK1_d, Mi.chnK3_t, Mi.chnK3_f, Mi.chnK2_d, Mi.chnK1_d, Mi.iteK_t, Mi.iteK_f, Mi.tupK_d, Mi.lstK_d, Mi.cellK_d, Mi.callK_d, Mi.biK_d, Mi.idxK2_d, Mi.idxK1_d, Mi.sliK3_t, Mi.sliK3_l, Mi.oIntK_i, Mi.sliK2_d, Mi.sliK1_d, Mi.lcT_d, Mi.lcE_d, Mi.lcK_d, Mi.lrgK2_d, Mi.lrgK1_d, Mi.consK2_d, Mi.consK1_d, Mi.rng1K_d, Mi.rng2K2_d, Mi.rng2K1_d, Mi.zipO_d, Mi.zipK2_d, Mi.zipK1_d, Mi.enuK_d, Mi.sqK_d, Mi.setK_d, Mi.setTK_d, Mi.putK3_d, Mi.putK2_d, Mi.putK1_d, Mi.appK2_d, Mi.appK1_d, Mi.dropK_d, Mi.retK_d, Mi.iteS_t, Mi.iteS_f, Mi.forK_d, Mi.turnK2_d, Mi.turnK1_t, Mi.turnK1_f, Mi.whK_t, Mi.whK_f, Mi.lcB_nm, Mi.lcB_2, Mi.evE_var, Mi.evE_non, Mi.evE_bl, Mi.evE_int, Mi.evE_str, Mi.evE_gl, Mi.evE_bty, Mi.evE_bin, Mi.evE_neg, Mi.evE_not, Mi.evE_and, Mi.evE_or, Mi.evE_cmp, Mi.evE_chn, Mi.evE_ite, Mi.evE_tup, Mi.evE_lst, Mi.evE_cell, Mi.evE_call, Mi.callP_sto, Mi.evE_bi, Mi.evE_idx, Mi.evE_sli, Mi.evE_lc, Mi.evE_lrg, Mi.evE_lrd, Mi.evA_nil, Mi.evA_cons, Mi.evI_rng1, Mi.evI_rng2, Mi.evI_zip, Mi.evI_enu, Mi.evI_sq, Mi.tstR_false, Mi.tstR_true, Mi.optR_false, Mi.optR_true, Mi.oInt_int, Mi.isOmit_omit, Mi.evS_skip, Mi.evS_seq, Mi.evS_set, Mi.evS_setT, Mi.evS_put, Mi.evS_app, Mi.evS_drop, Mi.evS_ret, Mi.evS_ite, Mi.evS_for, Mi.evS_while, Mi.evS_raise, Mi.sto_some, Mi.sto_none, Mi.val_nx, Mi.val_rt, Mi.setTg_nm, Mi.setTg_nil, Mi.setTg_cons, Mi.wipe_nil, Mi.wipe_cons, Mi.forR_nil, Mi.truV_bl, Mi.truV_non, Mi.truV_int, Mi.add_ii, Mi.sub_ii, Mi.lt_ii, Mi.le_ii, Mi.gt_ii, Mi.ge_ii, Mi.isn_v, Mi.notn_v, Mi.isN_non, Mi.isN_int, Mi.isN_tup, Mi.isN_bl, Mi.isN_str, Mi.eq_ii, Mi.ne_ii, Mi.eq_ss, Mi.ne_ss, Mi.neg_i, Mi.walk_lst, Mi.walk_tup, Mi.walk_scr, Mi.len_tup, Mi.len_lst, Mi.len_scr, Mi.tuple_lst, Mi.tuple_tup, Mi.list_tup, Mi.list_lst, Mi.int_int, Mi.int_bl, Mi.abs_int, Mi.min_int, Mi.max_int, Mi.isi_def, Mi.sum_lst, Mi.all_lst, Mi.any_lst, Mi.ints_map, Mi.bools_map, R.bind_ok, R.bind_ex, R.bind_bad, R.lift_some, R.noEx_ok, List.getElem?_cons_zero, List.getElem?_cons_succ, Option.bind_some, Option.map_some, Option.bind_eq_bind, id_eq, List.set_cons_zero, List.set_cons_succ, if_true, if_false, Bool.false_eq_true, reduceIte, Bool.not_true, Bool.not_false, Ex.isOmit, b31]
  refine (congrArg (fun r : R Fl => (r.bind (seqK (evS txt.mdl.G (runF txt.mdl.G txt.mdl.T N (d + 1)) N (.seq (.ret (.bl true)) .skip)))).bind Fl.val) e).trans ?_
  cases keepsB many fs sizes <;> simp (implicitDefEqProofs := false) only [Mi.seqK_nx, Mi.seqK_rt, Mi.andK_t, Mi.andK_f, Mi.orK_t, Mi.orK_f, Mi.forB_nm, Mi.forB_2, Mi.binK2_d, Mi.binK1_d, Mi.negK_d, Mi.truK_d, Mi.tstK_d, Mi.notK_d, Mi.cmpK2_d, Mi.cmpK1_d, Mi.chnK3_t, Mi.chnK3_f, Mi.chnK2_d, Mi.chnK1_d, Mi.iteK_t, Mi.iteK_f, Mi.tupK_d, Mi.lstK_d, Mi.cellK_d, Mi.callK_d, Mi.biK_d, Mi.idxK2_d, Mi.idxK1_d, Mi.sliK3_t, Mi.sliK3_l, Mi.oIntK_i, Mi.sliK2_d, Mi.sliK1_d, Mi.lcT_d, Mi.lcE_d, Mi.lcK_d, Mi.lrgK2_d, Mi.lrgK1_d, Mi.consK2_d, Mi.consK1_d, Mi.rng1K_d, Mi.rng2K2_d, Mi.rng2K1_d, Mi.zipO_d, Mi.zipK2_d, Mi.zipK1_d, Mi.enuK_d, Mi.sqK_d, Mi.setK_d, Mi.setTK_d, Mi.putK3_d, Mi.putK2_d, Mi.putK1_d, Mi.appK2_d, Mi.appK1_d, Mi.dropK_d, Mi.retK_d, Mi.iteS_t, Mi.iteS_f, Mi.forK_d, Mi.turnK2_d, Mi.turnK1_t, Mi.turnK1_f, Mi.whK_t, Mi.whK_f, Mi.lcB_nm, Mi.lcB_2, Mi.evE_var, Mi.evE_non, Mi.evE_bl, Mi.evE_int, Mi.evE_str, Mi.evE_gl, Mi.evE_bty, Mi.evE_bin, Mi.evE_neg, Mi.evE_not, Mi.evE_and, Mi.evE_or, Mi.evE_cmp, Mi.evE_chn, Mi.evE_ite, Mi.evE_tup, Mi.evE_lst, Mi.evE_cell, Mi.evE_call, Mi.callP_sto, Mi.evE_bi, Mi.evE_idx, Mi.evE_sli, Mi.evE_lc, Mi.evE_lrg, Mi.evE_lrd, Mi.evA_nil, Mi.evA_cons, Mi.evI_rng1, Mi.evI_rng2, Mi.evI_zip, Mi.evI_enu, Mi.evI_sq, Mi.tstR_false, Mi.tstR_true, Mi.optR_false, Mi.optR_true, Mi.oInt_int, Mi.isOmit_omit, Mi.evS_skip, Mi.evS_seq, Mi.evS_set, Mi.evS_setT, Mi.evS_put, Mi.evS_app, Mi.evS_drop, Mi.evS_ret, Mi.evS_ite, Mi.evS_for, Mi.evS_while, Mi.evS_raise, Mi.sto_some, Mi.sto_none, Mi.val_nx, Mi.val_rt, Mi.setTg_nm, Mi.setTg_nil, Mi.setTg_cons, Mi.wipe_nil, Mi.wipe_cons, Mi.forR_nil, Mi.truV_bl, Mi.truV_non, Mi.truV_int, Mi.add_ii, Mi.sub_ii, Mi.lt_ii, Mi.le_ii, Mi.gt_ii, Mi.ge_ii, Mi.isn_v, Mi.notn_v, Mi.isN_non, Mi.isN_int, Mi.isN_tup, Mi.isN_bl, Mi.isN_str, Mi.eq_ii, Mi.ne_ii, Mi.eq_ss, Mi.ne_ss, Mi.neg_i, Mi.walk_lst, Mi.walk_tup, Mi.walk_scr, Mi.len_tup, Mi.len_lst, Mi.len_scr, Mi.tuple_lst, Mi.tuple_tup, Mi.list_tup, Mi.list_lst, Mi.int_int, Mi.int_bl, Mi.abs_int, Mi.min_int, Mi.max_int, Mi.isi_def, Mi.sum_lst, Mi.all_lst, Mi.any_lst, Mi.ints_map, Mi.bools_map, R.bind_ok, R.bind_ex, R.bind_bad, R.lift_some, R.noEx_ok, List.getElem?_cons_zero, List.getElem?_cons_succ, Option.bind_some, Option.map_some, Option.bind_eq_bind, id_eq, List.set_cons_zero, List.set_cons_succ, if_true, if_false, Bool.false_eq_true, reduceIte, Bool.not_true, Bool.not_false, Ex.isOmit]

theorem law_sizes {n : Nat} {st : Sto} (many : Nat) (hm : 2 ≤ many ∧ many ≤ 4) (h : SrcAt n st) : Ok (RU N (d + 3) 26 [.cel n, .int many] st) fun v st' => ∃ sizes : List Int, v = .tup (sizes.map .int) ∧ SzOk many sizes ∧ UpdS n st st' := by
  have hb := big_lt
  rw [RU, u26]
  have key : ∀ (js : List Nat) (zs : List Int) (v : Option PV) (st : Sto), SrcAt n st → zs.length + js.length ≤ 100 → (∀ x ∈ zs, 1 ≤ x ∧ x ≤ 1000000000000) →
      ∃ (zs' : List Int) (v' : Option PV) (st' : Sto), forR (forB (.nm 3) (evS G (RU N (d + 2)) N (.seq (.set 2 (.bin .Add (.var 2) (.tup (.cons (.call .sto 23 (.cons (.var 0) (.cons (.lst (.cons (.int 1) (.cons (.int 2) (.cons (.int 2) (.cons (.int 3) (.cons (.int 4) (.cons (.bin .Add (.int 1) (.call .sto 22 (.cons (.var 0) (.cons (.int 9) .nil)))) .nil))))))) .nil))) .nil)))) .skip)))
        (js.map fun j => PV.int (j : Nat)) [some (.cel n), some (.int many), some (.tup (zs.map .int)), v] st = .ok (.nx [some (.cel n), some (.int many), some (.tup (zs'.map .int)), v']) st' ∧ zs'.length = zs.length + js.length ∧ (∀ x ∈ zs', 1 ≤ x ∧ x ≤ 1000000000000) ∧ UpdS n st st' := by
    intro js
    induction js with
    | nil => intro zs v st hs hl hz; exact ⟨zs, v, st, rfl, rfl, hz, .refl hs⟩
    | cons j js ih =>
      intro zs v st hs hl hz
      rw [List.length_cons] at hl
      obtain ⟨_, st1, e1, r, rfl, r0, r1, u1⟩ := draw (N := N) (d := d + 1) hs (m := 9) (by decide) (by decide)
      have hs1 := u1.src hs
      obtain ⟨w, st2, e2, hw, u2⟩ := law_of (N := N) (d := d) (xs := [.int 1, .int 2, .int 2, .int 3, .int 4, .int (1 + r)]) hs1 (by simp) (by simp)
      have hs2 := u2.src hs1
      obtain ⟨x, rfl, hx⟩ : ∃ x : Int, w = .int x ∧ 1 ≤ x ∧ x ≤ 1000000000000 := by
        simp only [List.mem_cons, List.not_mem_nil, or_false] at hw
        rcases hw with rfl | rfl | rfl | rfl | rfl | rfl
        · exact ⟨_, rfl, by omega, by omega⟩
        · exact ⟨_, rfl, by omega, by omega⟩
        · exact ⟨_, rfl, by omega, by omega⟩
        · exact ⟨_, rfl, by omega, by omega⟩
        · exact ⟨_, rfl, by omega, by omega⟩
        · exact ⟨_, rfl, by omega, by omega⟩
      obtain ⟨zs', v', st', e, l', z', u'⟩ := ih (zs ++ [x]) (some (.int (j : Nat))) st2 hs2 (by rw [List.length_append, List.length_singleton]; omega) (fun y hy => by
        rcases List.mem_append.mp hy with q | q
        · exact hz y q
        · rw [List.mem_singleton.mp q]; exact hx)
      refine ⟨zs', v', st', ?_, by rw [l', List.length_append, List.length_singleton, List.length_cons]; omega, z', u1.trans (u2.trans u')⟩
      have ad : binV st2 .Add (.tup (zs.map .int)) (.tup [.int x]) = some (.tup ((zs ++ [x]).map .int)) := by
        rw [addT (by rw [List.length_map, List.length_singleton]; omega), List.map_append]; rfl
      rw [List.map_cons, forR_cons]
      simp (implicitDefEqProofs := false) only [Mi.seqK_nx, Mi.seqK_rt, Mi.andK_t, Mi.andK_f, Mi.orK_t, Mi.orK_f, Mi.forB_nm, Mi.forB_2, Mi.binK2_d, Mi.binK1_d, Mi.negK_d, Mi.truK_d, Mi.tstK_d, Mi.notK_d, Mi.cmpK2_d, Mi.cmpK1_d, Mi.chnK3_t, Mi.chnK3_f, Mi.chnK2_d, Mi.chnK1_d, Mi.iteK_t, Mi.iteK_f, Mi.tupK_d, Mi.lstK_d, Mi.cellK_d, Mi.callK_d, Mi.biK_d, Mi.idxK2_d, Mi.idxK1_d, Mi.sliK3_t, Mi.sliK3_l, Mi.oIntK_i, Mi.sliK2_d, Mi.sliK1_d, Mi.lcT_d, Mi.lcE_d, Mi.lcK_d, Mi.lrgK2_d, Mi.lrgK1_d, Mi.consK2_d, Mi.consK1_d, Mi.rng1K_d, Mi.rng2K2_d, Mi.rng2K1_d, Mi.zipO_d, Mi.zipK2_d, Mi.zipK1_d, Mi.enuK_d, Mi.sqK_d, Mi.setK_d, Mi.setTK_d, Mi.putK3_d, Mi.putK2_d, Mi.putK1_d, Mi.appK2_d, Mi.appK1_d, Mi.dropK_d, Mi.retK_d, Mi.iteS_t, Mi.iteS_f, Mi.forK_d, Mi.turnK2_d, Mi.turnK1_t, Mi.turnK1_f, Mi.whK_t, Mi.whK_f, Mi.lcB_nm, Mi.lcB_2, Mi.evE_var, Mi.evE_non, Mi.evE_bl, Mi.evE_int, Mi.evE_str, Mi.evE_gl, Mi.evE_bty, Mi.evE_bin, Mi.evE_neg, Mi.evE_not, Mi.evE_and, Mi.evE_or, Mi.evE_cmp, Mi.evE_chn, Mi.evE_ite, Mi.evE_tup, Mi.evE_lst, Mi.evE_cell, Mi.evE_call, Mi.callP_sto, Mi.evE_bi, Mi.evE_idx, Mi.evE_sli, Mi.evE_lc, Mi.evE_lrg, Mi.evE_lrd, Mi.evA_nil, Mi.evA_cons, Mi.evI_rng1, Mi.evI_rng2, Mi.evI_zip, Mi.evI_enu, Mi.evI_sq, Mi.tstR_false, Mi.tstR_true, Mi.optR_false, Mi.optR_true, Mi.oInt_int, Mi.isOmit_omit, Mi.evS_skip, Mi.evS_seq, Mi.evS_set, Mi.evS_setT, Mi.evS_put, Mi.evS_app, Mi.evS_drop, Mi.evS_ret, Mi.evS_ite, Mi.evS_for, Mi.evS_while, Mi.evS_raise, Mi.sto_some, Mi.sto_none, Mi.val_nx, Mi.val_rt, Mi.setTg_nm, Mi.setTg_nil, Mi.setTg_cons, Mi.wipe_nil, Mi.wipe_cons, Mi.forR_nil, Mi.truV_bl, Mi.truV_non, Mi.truV_int, Mi.add_ii, Mi.sub_ii, Mi.lt_ii, Mi.le_ii, Mi.gt_ii, Mi.ge_ii, Mi.isn_v, Mi.notn_v, Mi.isN_non, Mi.isN_int, Mi.isN_tup, Mi.isN_bl, Mi.isN_str, Mi.eq_ii, Mi.ne_ii, Mi.eq_ss, Mi.ne_ss, Mi.neg_i, Mi.walk_lst, Mi.walk_tup, Mi.walk_scr, Mi.len_tup, Mi.len_lst, Mi.len_scr, Mi.tuple_lst, Mi.tuple_tup, Mi.list_tup, Mi.list_lst, Mi.int_int, Mi.int_bl, Mi.abs_int, Mi.min_int, Mi.max_int, Mi.isi_def, Mi.sum_lst, Mi.all_lst, Mi.any_lst, Mi.ints_map, Mi.bools_map, R.bind_ok, R.bind_ex, R.bind_bad, R.lift_some, R.noEx_ok, List.getElem?_cons_zero, List.getElem?_cons_succ, Option.bind_some, Option.map_some, Option.bind_eq_bind, id_eq, List.set_cons_zero, List.set_cons_succ, if_true, if_false, Bool.false_eq_true, reduceIte, Bool.not_true, Bool.not_false, Ex.isOmit, e1, e2, ad]
      exact e
  have sm : smallI (2 * (many : Int) - 1) = true := by
    have e : 2 * (many : Int) - 1 = ((2 * many - 1 : Nat) : Int) := by omega
    rw [e]; exact small_nat (by omega)
  have tn : (2 * (many : Int) - 1).toNat = 2 * many - 1 := by omega
  obtain ⟨zs, v', st', e, l', z', u'⟩ := key (List.range (2 * many - 1)) [] none st h (by rw [List.length_range]; simp; omega) (by simp)
  refine .eq (a := .tup (zs.map .int)) (st := st') ?_ ⟨zs, rfl, ⟨by rw [l', List.length_range]; simp, z'⟩, u'⟩
  simp (implicitDefEqProofs := false) only [Mi.seqK_nx, Mi.seqK_rt, Mi.andK_t, Mi.andK_f, Mi.orK_t, Mi.orK_f, Mi.forB_nm, Mi.forB_2, Mi.binK2_d, Mi.binK1_d, Mi.negK_d, Mi.truK_d, Mi.tstK_d, Mi.notK_d, Mi.cmpK2_d, Mi.cmpK1_d, Mi.chnK3_t, Mi.chnK3_f, Mi.chnK2_d, Mi.chnK1_d, Mi.iteK_t, Mi.iteK_f, Mi.tupK_d, Mi.lstK_d, Mi.cellK_d, Mi.callK_d, Mi.biK_d, Mi.idxK2_d, Mi.idxK1_d, Mi.sliK3_t, Mi.sliK3_l, Mi.oIntK_i, Mi.sliK2_d, Mi.sliK1_d, Mi.lcT_d, Mi.lcE_d, Mi.lcK_d, Mi.lrgK2_d, Mi.lrgK1_d, Mi.consK2_d, Mi.consK1_d, Mi.rng1K_d, Mi.rng2K2_d, Mi.rng2K1_d, Mi.zipO_d, Mi.zipK2_d, Mi.zipK1_d, Mi.enuK_d, Mi.sqK_d, Mi.setK_d, Mi.setTK_d, Mi.putK3_d, Mi.putK2_d, Mi.putK1_d, Mi.appK2_d, Mi.appK1_d, Mi.dropK_d, Mi.retK_d, Mi.iteS_t, Mi.iteS_f, Mi.forK_d, Mi.turnK2_d, Mi.turnK1_t, Mi.turnK1_f, Mi.whK_t, Mi.whK_f, Mi.lcB_nm, Mi.lcB_2, Mi.evE_var, Mi.evE_non, Mi.evE_bl, Mi.evE_int, Mi.evE_str, Mi.evE_gl, Mi.evE_bty, Mi.evE_bin, Mi.evE_neg, Mi.evE_not, Mi.evE_and, Mi.evE_or, Mi.evE_cmp, Mi.evE_chn, Mi.evE_ite, Mi.evE_tup, Mi.evE_lst, Mi.evE_cell, Mi.evE_call, Mi.callP_sto, Mi.evE_bi, Mi.evE_idx, Mi.evE_sli, Mi.evE_lc, Mi.evE_lrg, Mi.evE_lrd, Mi.evA_nil, Mi.evA_cons, Mi.evI_rng1, Mi.evI_rng2, Mi.evI_zip, Mi.evI_enu, Mi.evI_sq, Mi.tstR_false, Mi.tstR_true, Mi.optR_false, Mi.optR_true, Mi.oInt_int, Mi.isOmit_omit, Mi.evS_skip, Mi.evS_seq, Mi.evS_set, Mi.evS_setT, Mi.evS_put, Mi.evS_app, Mi.evS_drop, Mi.evS_ret, Mi.evS_ite, Mi.evS_for, Mi.evS_while, Mi.evS_raise, Mi.sto_some, Mi.sto_none, Mi.val_nx, Mi.val_rt, Mi.setTg_nm, Mi.setTg_nil, Mi.setTg_cons, Mi.wipe_nil, Mi.wipe_cons, Mi.forR_nil, Mi.truV_bl, Mi.truV_non, Mi.truV_int, Mi.add_ii, Mi.sub_ii, Mi.lt_ii, Mi.le_ii, Mi.gt_ii, Mi.ge_ii, Mi.isn_v, Mi.notn_v, Mi.isN_non, Mi.isN_int, Mi.isN_tup, Mi.isN_bl, Mi.isN_str, Mi.eq_ii, Mi.ne_ii, Mi.eq_ss, Mi.ne_ss, Mi.neg_i, Mi.walk_lst, Mi.walk_tup, Mi.walk_scr, Mi.len_tup, Mi.len_lst, Mi.len_scr, Mi.tuple_lst, Mi.tuple_tup, Mi.list_tup, Mi.list_lst, Mi.int_int, Mi.int_bl, Mi.abs_int, Mi.min_int, Mi.max_int, Mi.isi_def, Mi.sum_lst, Mi.all_lst, Mi.any_lst, Mi.ints_map, Mi.bools_map, R.bind_ok, R.bind_ex, R.bind_bad, R.lift_some, R.noEx_ok, List.getElem?_cons_zero, List.getElem?_cons_succ, Option.bind_some, Option.map_some, Option.bind_eq_bind, id_eq, List.set_cons_zero, List.set_cons_succ, if_true, if_false, Bool.false_eq_true, reduceIte, Bool.not_true, Bool.not_false, Ex.isOmit, b26, mul_ii (mulOk_l (i := 2) (j := (many : Int)) (by decide) (by decide)), sm, tn, rngL_nat]
  rw [show (PV.tup []) = PV.tup (([] : List Int).map .int) from rfl, e]
  simp (implicitDefEqProofs := false) only [Mi.seqK_nx, Mi.seqK_rt, Mi.andK_t, Mi.andK_f, Mi.orK_t, Mi.orK_f, Mi.forB_nm, Mi.forB_2, Mi.binK2_d, Mi.binK1_d, Mi.negK_d, Mi.truK_d, Mi.tstK_d, Mi.notK_d, Mi.cmpK2_d, Mi.cmpK1_d, Mi.chnK3_t, Mi.chnK3_f, Mi.chnK2_d, Mi.chnK1_d, Mi.iteK_t, Mi.iteK_f, Mi.tupK_d, Mi.lstK_d, Mi.cellK_d, Mi.callK_d, Mi.biK_d, Mi.idxK2_d, Mi.idxK1_d, Mi.sliK3_t, Mi.sliK3_l, Mi.oIntK_i, Mi.sliK2_d, Mi.sliK1_d, Mi.lcT_d, Mi.lcE_d, Mi.lcK_d, Mi.lrgK2_d, Mi.lrgK1_d, Mi.consK2_d, Mi.consK1_d, Mi.rng1K_d, Mi.rng2K2_d, Mi.rng2K1_d, Mi.zipO_d, Mi.zipK2_d, Mi.zipK1_d, Mi.enuK_d, Mi.sqK_d, Mi.setK_d, Mi.setTK_d, Mi.putK3_d, Mi.putK2_d, Mi.putK1_d, Mi.appK2_d, Mi.appK1_d, Mi.dropK_d, Mi.retK_d, Mi.iteS_t, Mi.iteS_f, Mi.forK_d, Mi.turnK2_d, Mi.turnK1_t, Mi.turnK1_f, Mi.whK_t, Mi.whK_f, Mi.lcB_nm, Mi.lcB_2, Mi.evE_var, Mi.evE_non, Mi.evE_bl, Mi.evE_int, Mi.evE_str, Mi.evE_gl, Mi.evE_bty, Mi.evE_bin, Mi.evE_neg, Mi.evE_not, Mi.evE_and, Mi.evE_or, Mi.evE_cmp, Mi.evE_chn, Mi.evE_ite, Mi.evE_tup, Mi.evE_lst, Mi.evE_cell, Mi.evE_call, Mi.callP_sto, Mi.evE_bi, Mi.evE_idx, Mi.evE_sli, Mi.evE_lc, Mi.evE_lrg, Mi.evE_lrd, Mi.evA_nil, Mi.evA_cons, Mi.evI_rng1, Mi.evI_rng2, Mi.evI_zip, Mi.evI_enu, Mi.evI_sq, Mi.tstR_false, Mi.tstR_true, Mi.optR_false, Mi.optR_true, Mi.oInt_int, Mi.isOmit_omit, Mi.evS_skip, Mi.evS_seq, Mi.evS_set, Mi.evS_setT, Mi.evS_put, Mi.evS_app, Mi.evS_drop, Mi.evS_ret, Mi.evS_ite, Mi.evS_for, Mi.evS_while, Mi.evS_raise, Mi.sto_some, Mi.sto_none, Mi.val_nx, Mi.val_rt, Mi.setTg_nm, Mi.setTg_nil, Mi.setTg_cons, Mi.wipe_nil, Mi.wipe_cons, Mi.forR_nil, Mi.truV_bl, Mi.truV_non, Mi.truV_int, Mi.add_ii, Mi.sub_ii, Mi.lt_ii, Mi.le_ii, Mi.gt_ii, Mi.ge_ii, Mi.isn_v, Mi.notn_v, Mi.isN_non, Mi.isN_int, Mi.isN_tup, Mi.isN_bl, Mi.isN_str, Mi.eq_ii, Mi.ne_ii, Mi.eq_ss, Mi.ne_ss, Mi.neg_i, Mi.walk_lst, Mi.walk_tup, Mi.walk_scr, Mi.len_tup, Mi.len_lst, Mi.len_scr, Mi.tuple_lst, Mi.tuple_tup, Mi.list_tup, Mi.list_lst, Mi.int_int, Mi.int_bl, Mi.abs_int, Mi.min_int, Mi.max_int, Mi.isi_def, Mi.sum_lst, Mi.all_lst, Mi.any_lst, Mi.ints_map, Mi.bools_map, R.bind_ok, R.bind_ex, R.bind_bad, R.lift_some, R.noEx_ok, List.getElem?_cons_zero, List.getElem?_cons_succ, Option.bind_some, Option.map_some, Option.bind_eq_bind, id_eq, List.set_cons_zero, List.set_cons_succ, if_true, if_false, Bool.false_eq_true, reduceIte, Bool.not_true, Bool.not_false, Ex.isOmit]

theorem law_script {n : Nat} {st : Sto} (many most : Nat) (hm : 2 ≤ many ∧ many ≤ 4) (h1 : most ≤ 100) (h : SrcAt n st) : Ok (RU N (d + 3) 32 [.cel n, .int many, .int most] st) fun v st' => ∃ ds : List (Str × Nat), v = .tup (ds.map dV) ∧ ds.length ≤ most ∧ (∀ x ∈ ds, deedOk many x) ∧ UpdS n st st' := by
  have hb := big_lt
  rw [RU, u32]
  have key : ∀ (js : List Nat) (zs : List (Str × Nat)) (v : Option PV) (st : Sto), SrcAt n st → zs.length + js.length ≤ 100 → (∀ x ∈ zs, deedOk many x) →
      ∃ (zs' : List (Str × Nat)) (v' : Option PV) (st' : Sto), forR (forB (.nm 3) (evS G (RU N (d + 2)) N (.seq (.set 4 (.bin .Add (.var 4) (.tup (.cons (.tup (.cons (.call .sto 23 (.cons (.var 0) (.cons (.var 5) .nil))) (.cons (.call .sto 22 (.cons (.var 0) (.cons (.var 1) .nil))) .nil))) .nil)))) .skip)))
        (js.map fun j => PV.int (j : Nat)) [some (.cel n), some (.int many), some (.int most), v, some (.tup (zs.map dV)), some (.lst [.str ("left" : Str), .str ("right" : Str), .str ("right" : Str), .str ("left" : Str), .str ("take" : Str), .str ("stand" : Str), .str ("hold" : Str), .str ("free" : Str)])] st =
        .ok (.nx [some (.cel n), some (.int many), some (.int most), v', some (.tup (zs'.map dV)), some (.lst [.str ("left" : Str), .str ("right" : Str), .str ("right" : Str), .str ("left" : Str), .str ("take" : Str), .str ("stand" : Str), .str ("hold" : Str), .str ("free" : Str)])]) st' ∧
        zs'.length = zs.length + js.length ∧ (∀ x ∈ zs', deedOk many x) ∧ UpdS n st st' := by
    intro js
    induction js with
    | nil => intro zs v st hs hl hz; exact ⟨zs, v, st, rfl, rfl, hz, .refl hs⟩
    | cons j js ih =>
      intro zs v st hs hl hz
      rw [List.length_cons] at hl
      obtain ⟨w, st1, e1, hw, u1⟩ := law_of (N := N) (d := d) (xs := [.str ("left" : Str), .str ("right" : Str), .str ("right" : Str), .str ("left" : Str), .str ("take" : Str), .str ("stand" : Str), .str ("hold" : Str), .str ("free" : Str)]) hs (by simp) (by simp)
      have hs1 := u1.src hs
      obtain ⟨_, st2, e2, r, rfl, r0, r1, u2⟩ := draw (N := N) (d := d + 1) hs1 (m := (many : Int)) (by omega) (by omega)
      have hs2 := u2.src hs1
      obtain ⟨t, rfl⟩ : ∃ t : Nat, r = (t : Int) := ⟨r.toNat, by omega⟩
      obtain ⟨x, rfl, hx⟩ : ∃ x : Str, w = .str x ∧ x ∈ words := by
        simp only [List.mem_cons, List.not_mem_nil, or_false] at hw
        rcases hw with rfl | rfl | rfl | rfl | rfl | rfl | rfl | rfl <;> exact ⟨_, rfl, by decide⟩
      obtain ⟨zs', v', st', e, l', z', u'⟩ := ih (zs ++ [(x, t)]) (some (.int (j : Nat))) st2 hs2 (by rw [List.length_append, List.length_singleton]; omega) (fun y hy => by
        rcases List.mem_append.mp hy with q | q
        · exact hz y q
        · rw [List.mem_singleton.mp q]; exact ⟨hx, by show t < many; omega⟩)
      refine ⟨zs', v', st', ?_, by rw [l', List.length_append, List.length_singleton, List.length_cons]; omega, z', u1.trans (u2.trans u')⟩
      have ad : binV st2 .Add (.tup (zs.map dV)) (.tup [.tup [.str x, .int (t : Nat)]]) = some (.tup ((zs ++ [(x, t)]).map dV)) := by
        rw [addT (by rw [List.length_map, List.length_singleton]; omega), List.map_append]; rfl
      rw [List.map_cons, forR_cons]
      simp (implicitDefEqProofs := false) only [Mi.seqK_nx, Mi.seqK_rt, Mi.andK_t, Mi.andK_f, Mi.orK_t, Mi.orK_f, Mi.forB_nm, Mi.forB_2, Mi.binK2_d, Mi.binK1_d, Mi.negK_d, Mi.truK_d, Mi.tstK_d, Mi.notK_d, Mi.cmpK2_d, Mi.cmpK1_d, Mi.chnK3_t, Mi.chnK3_f, Mi.chnK2_d, Mi.chnK1_d, Mi.iteK_t, Mi.iteK_f, Mi.tupK_d, Mi.lstK_d, Mi.cellK_d, Mi.callK_d, Mi.biK_d, Mi.idxK2_d, Mi.idxK1_d, Mi.sliK3_t, Mi.sliK3_l, Mi.oIntK_i, Mi.sliK2_d, Mi.sliK1_d, Mi.lcT_d, Mi.lcE_d, Mi.lcK_d, Mi.lrgK2_d, Mi.lrgK1_d, Mi.consK2_d, Mi.consK1_d, Mi.rng1K_d, Mi.rng2K2_d, Mi.rng2K1_d, Mi.zipO_d, Mi.zipK2_d, Mi.zipK1_d, Mi.enuK_d, Mi.sqK_d, Mi.setK_d, Mi.setTK_d, Mi.putK3_d, Mi.putK2_d, Mi.putK1_d, Mi.appK2_d, Mi.appK1_d, Mi.dropK_d, Mi.retK_d, Mi.iteS_t, Mi.iteS_f, Mi.forK_d, Mi.turnK2_d, Mi.turnK1_t, Mi.turnK1_f, Mi.whK_t, Mi.whK_f, Mi.lcB_nm, Mi.lcB_2, Mi.evE_var, Mi.evE_non, Mi.evE_bl, Mi.evE_int, Mi.evE_str, Mi.evE_gl, Mi.evE_bty, Mi.evE_bin, Mi.evE_neg, Mi.evE_not, Mi.evE_and, Mi.evE_or, Mi.evE_cmp, Mi.evE_chn, Mi.evE_ite, Mi.evE_tup, Mi.evE_lst, Mi.evE_cell, Mi.evE_call, Mi.callP_sto, Mi.evE_bi, Mi.evE_idx, Mi.evE_sli, Mi.evE_lc, Mi.evE_lrg, Mi.evE_lrd, Mi.evA_nil, Mi.evA_cons, Mi.evI_rng1, Mi.evI_rng2, Mi.evI_zip, Mi.evI_enu, Mi.evI_sq, Mi.tstR_false, Mi.tstR_true, Mi.optR_false, Mi.optR_true, Mi.oInt_int, Mi.isOmit_omit, Mi.evS_skip, Mi.evS_seq, Mi.evS_set, Mi.evS_setT, Mi.evS_put, Mi.evS_app, Mi.evS_drop, Mi.evS_ret, Mi.evS_ite, Mi.evS_for, Mi.evS_while, Mi.evS_raise, Mi.sto_some, Mi.sto_none, Mi.val_nx, Mi.val_rt, Mi.setTg_nm, Mi.setTg_nil, Mi.setTg_cons, Mi.wipe_nil, Mi.wipe_cons, Mi.forR_nil, Mi.truV_bl, Mi.truV_non, Mi.truV_int, Mi.add_ii, Mi.sub_ii, Mi.lt_ii, Mi.le_ii, Mi.gt_ii, Mi.ge_ii, Mi.isn_v, Mi.notn_v, Mi.isN_non, Mi.isN_int, Mi.isN_tup, Mi.isN_bl, Mi.isN_str, Mi.eq_ii, Mi.ne_ii, Mi.eq_ss, Mi.ne_ss, Mi.neg_i, Mi.walk_lst, Mi.walk_tup, Mi.walk_scr, Mi.len_tup, Mi.len_lst, Mi.len_scr, Mi.tuple_lst, Mi.tuple_tup, Mi.list_tup, Mi.list_lst, Mi.int_int, Mi.int_bl, Mi.abs_int, Mi.min_int, Mi.max_int, Mi.isi_def, Mi.sum_lst, Mi.all_lst, Mi.any_lst, Mi.ints_map, Mi.bools_map, R.bind_ok, R.bind_ex, R.bind_bad, R.lift_some, R.noEx_ok, List.getElem?_cons_zero, List.getElem?_cons_succ, Option.bind_some, Option.map_some, Option.bind_eq_bind, id_eq, List.set_cons_zero, List.set_cons_succ, if_true, if_false, Bool.false_eq_true, reduceIte, Bool.not_true, Bool.not_false, Ex.isOmit, e1, e2, ad]
      exact e
  obtain ⟨_, st1, e1, r, rfl, r0, r1, u1⟩ := draw (N := N) (d := d + 1) h (m := (most : Int) + 1) (by omega) (by omega)
  obtain ⟨k, rfl⟩ : ∃ k : Nat, r = (k : Int) := ⟨r.toNat, by omega⟩
  have hs1 := u1.src h
  obtain ⟨zs, v', st', e, l', z', u'⟩ := key (List.range k) [] none st1 hs1 (by rw [List.length_range]; simp; omega) (by simp)
  refine .eq (a := .tup (zs.map dV)) (st := st') ?_ ⟨zs, rfl, by rw [l', List.length_range]; simp; omega, z', u1.trans u'⟩
  simp (implicitDefEqProofs := false) only [Mi.seqK_nx, Mi.seqK_rt, Mi.andK_t, Mi.andK_f, Mi.orK_t, Mi.orK_f, Mi.forB_nm, Mi.forB_2, Mi.binK2_d, Mi.binK1_d, Mi.negK_d, Mi.truK_d, Mi.tstK_d, Mi.notK_d, Mi.cmpK2_d, Mi.cmpK1_d, Mi.chnK3_t, Mi.chnK3_f, Mi.chnK2_d, Mi.chnK1_d, Mi.iteK_t, Mi.iteK_f, Mi.tupK_d, Mi.lstK_d, Mi.cellK_d, Mi.callK_d, Mi.biK_d, Mi.idxK2_d, Mi.idxK1_d, Mi.sliK3_t, Mi.sliK3_l, Mi.oIntK_i, Mi.sliK2_d, Mi.sliK1_d, Mi.lcT_d, Mi.lcE_d, Mi.lcK_d, Mi.lrgK2_d, Mi.lrgK1_d, Mi.consK2_d, Mi.consK1_d, Mi.rng1K_d, Mi.rng2K2_d, Mi.rng2K1_d, Mi.zipO_d, Mi.zipK2_d, Mi.zipK1_d, Mi.enuK_d, Mi.sqK_d, Mi.setK_d, Mi.setTK_d, Mi.putK3_d, Mi.putK2_d, Mi.putK1_d, Mi.appK2_d, Mi.appK1_d, Mi.dropK_d, Mi.retK_d, Mi.iteS_t, Mi.iteS_f, Mi.forK_d, Mi.turnK2_d, Mi.turnK1_t, Mi.turnK1_f, Mi.whK_t, Mi.whK_f, Mi.lcB_nm, Mi.lcB_2, Mi.evE_var, Mi.evE_non, Mi.evE_bl, Mi.evE_int, Mi.evE_str, Mi.evE_gl, Mi.evE_bty, Mi.evE_bin, Mi.evE_neg, Mi.evE_not, Mi.evE_and, Mi.evE_or, Mi.evE_cmp, Mi.evE_chn, Mi.evE_ite, Mi.evE_tup, Mi.evE_lst, Mi.evE_cell, Mi.evE_call, Mi.callP_sto, Mi.evE_bi, Mi.evE_idx, Mi.evE_sli, Mi.evE_lc, Mi.evE_lrg, Mi.evE_lrd, Mi.evA_nil, Mi.evA_cons, Mi.evI_rng1, Mi.evI_rng2, Mi.evI_zip, Mi.evI_enu, Mi.evI_sq, Mi.tstR_false, Mi.tstR_true, Mi.optR_false, Mi.optR_true, Mi.oInt_int, Mi.isOmit_omit, Mi.evS_skip, Mi.evS_seq, Mi.evS_set, Mi.evS_setT, Mi.evS_put, Mi.evS_app, Mi.evS_drop, Mi.evS_ret, Mi.evS_ite, Mi.evS_for, Mi.evS_while, Mi.evS_raise, Mi.sto_some, Mi.sto_none, Mi.val_nx, Mi.val_rt, Mi.setTg_nm, Mi.setTg_nil, Mi.setTg_cons, Mi.wipe_nil, Mi.wipe_cons, Mi.forR_nil, Mi.truV_bl, Mi.truV_non, Mi.truV_int, Mi.add_ii, Mi.sub_ii, Mi.lt_ii, Mi.le_ii, Mi.gt_ii, Mi.ge_ii, Mi.isn_v, Mi.notn_v, Mi.isN_non, Mi.isN_int, Mi.isN_tup, Mi.isN_bl, Mi.isN_str, Mi.eq_ii, Mi.ne_ii, Mi.eq_ss, Mi.ne_ss, Mi.neg_i, Mi.walk_lst, Mi.walk_tup, Mi.walk_scr, Mi.len_tup, Mi.len_lst, Mi.len_scr, Mi.tuple_lst, Mi.tuple_tup, Mi.list_tup, Mi.list_lst, Mi.int_int, Mi.int_bl, Mi.abs_int, Mi.min_int, Mi.max_int, Mi.isi_def, Mi.sum_lst, Mi.all_lst, Mi.any_lst, Mi.ints_map, Mi.bools_map, R.bind_ok, R.bind_ex, R.bind_bad, R.lift_some, R.noEx_ok, List.getElem?_cons_zero, List.getElem?_cons_succ, Option.bind_some, Option.map_some, Option.bind_eq_bind, id_eq, List.set_cons_zero, List.set_cons_succ, if_true, if_false, Bool.false_eq_true, reduceIte, Bool.not_true, Bool.not_false, Ex.isOmit, b32, e1, small_nat (n := k) (by omega), Int.toNat_natCast, rngL_nat]
  rw [show (PV.tup []) = PV.tup (([] : List (Str × Nat)).map dV) from rfl, e]
  simp (implicitDefEqProofs := false) only [Mi.seqK_nx, Mi.seqK_rt, Mi.andK_t, Mi.andK_f, Mi.orK_t, Mi.orK_f, Mi.forB_nm, Mi.forB_2, Mi.binK2_d, Mi.binK1_d, Mi.negK_d, Mi.truK_d, Mi.tstK_d, Mi.notK_d, Mi.cmpK2_d, Mi.cmpK1_d, Mi.chnK3_t, Mi.chnK3_f, Mi.chnK2_d, Mi.chnK1_d, Mi.iteK_t, Mi.iteK_f, Mi.tupK_d, Mi.lstK_d, Mi.cellK_d, Mi.callK_d, Mi.biK_d, Mi.idxK2_d, Mi.idxK1_d, Mi.sliK3_t, Mi.sliK3_l, Mi.oIntK_i, Mi.sliK2_d, Mi.sliK1_d, Mi.lcT_d, Mi.lcE_d, Mi.lcK_d, Mi.lrgK2_d, Mi.lrgK1_d, Mi.consK2_d, Mi.consK1_d, Mi.rng1K_d, Mi.rng2K2_d, Mi.rng2K1_d, Mi.zipO_d, Mi.zipK2_d, Mi.zipK1_d, Mi.enuK_d, Mi.sqK_d, Mi.setK_d, Mi.setTK_d, Mi.putK3_d, Mi.putK2_d, Mi.putK1_d, Mi.appK2_d, Mi.appK1_d, Mi.dropK_d, Mi.retK_d, Mi.iteS_t, Mi.iteS_f, Mi.forK_d, Mi.turnK2_d, Mi.turnK1_t, Mi.turnK1_f, Mi.whK_t, Mi.whK_f, Mi.lcB_nm, Mi.lcB_2, Mi.evE_var, Mi.evE_non, Mi.evE_bl, Mi.evE_int, Mi.evE_str, Mi.evE_gl, Mi.evE_bty, Mi.evE_bin, Mi.evE_neg, Mi.evE_not, Mi.evE_and, Mi.evE_or, Mi.evE_cmp, Mi.evE_chn, Mi.evE_ite, Mi.evE_tup, Mi.evE_lst, Mi.evE_cell, Mi.evE_call, Mi.callP_sto, Mi.evE_bi, Mi.evE_idx, Mi.evE_sli, Mi.evE_lc, Mi.evE_lrg, Mi.evE_lrd, Mi.evA_nil, Mi.evA_cons, Mi.evI_rng1, Mi.evI_rng2, Mi.evI_zip, Mi.evI_enu, Mi.evI_sq, Mi.tstR_false, Mi.tstR_true, Mi.optR_false, Mi.optR_true, Mi.oInt_int, Mi.isOmit_omit, Mi.evS_skip, Mi.evS_seq, Mi.evS_set, Mi.evS_setT, Mi.evS_put, Mi.evS_app, Mi.evS_drop, Mi.evS_ret, Mi.evS_ite, Mi.evS_for, Mi.evS_while, Mi.evS_raise, Mi.sto_some, Mi.sto_none, Mi.val_nx, Mi.val_rt, Mi.setTg_nm, Mi.setTg_nil, Mi.setTg_cons, Mi.wipe_nil, Mi.wipe_cons, Mi.forR_nil, Mi.truV_bl, Mi.truV_non, Mi.truV_int, Mi.add_ii, Mi.sub_ii, Mi.lt_ii, Mi.le_ii, Mi.gt_ii, Mi.ge_ii, Mi.isn_v, Mi.notn_v, Mi.isN_non, Mi.isN_int, Mi.isN_tup, Mi.isN_bl, Mi.isN_str, Mi.eq_ii, Mi.ne_ii, Mi.eq_ss, Mi.ne_ss, Mi.neg_i, Mi.walk_lst, Mi.walk_tup, Mi.walk_scr, Mi.len_tup, Mi.len_lst, Mi.len_scr, Mi.tuple_lst, Mi.tuple_tup, Mi.list_tup, Mi.list_lst, Mi.int_int, Mi.int_bl, Mi.abs_int, Mi.min_int, Mi.max_int, Mi.isi_def, Mi.sum_lst, Mi.all_lst, Mi.any_lst, Mi.ints_map, Mi.bools_map, R.bind_ok, R.bind_ex, R.bind_bad, R.lift_some, R.noEx_ok, List.getElem?_cons_zero, List.getElem?_cons_succ, Option.bind_some, Option.map_some, Option.bind_eq_bind, id_eq, List.set_cons_zero, List.set_cons_succ, if_true, if_false, Bool.false_eq_true, reduceIte, Bool.not_true, Bool.not_false, Ex.isOmit]

theorem law_lot {n : Nat} {st : Sto} (many : Nat) (rare : Int) (hm : 1 ≤ many ∧ many ≤ 100) (hr : 0 < rare ∧ rare < 2 ^ 60) (h : SrcAt n st) : Ok (RU N (d + 2) 27 [.cel n, .int many, .int rare] st) fun v st' => ∃ ks : List Int, v = .tup (ks.map .int) ∧ lotB many (.tup (ks.map .int)) = true ∧ UpdS n st st' := by
  have hb := big_lt
  rw [RU, u27]
  have key : ∀ (js : List Nat) (zs : List Nat) (v : Option PV) (st : Sto), SrcAt n st → zs.length + js.length ≤ 500 →
      ∃ (ks : List Nat) (v' : Option PV) (st' : Sto), forR (forB (.nm 4) (evS G (RU N (d + 1)) N (.seq (.set 3 (.bin .Add (.var 3) (.ite (.cmp .Eq (.call .sto 22 (.cons (.var 0) (.cons (.var 2) .nil))) (.int 0)) (.tup (.cons (.var 4) .nil)) (.tup .nil)))) .skip)))
        (js.map fun j => PV.int (j : Nat)) [some (.cel n), some (.int many), some (.int rare), some (.tup (zs.map fun k => PV.int (k : Nat))), v] st = .ok (.nx [some (.cel n), some (.int many), some (.int rare), some (.tup ((zs ++ ks).map fun k => PV.int (k : Nat))), v']) st' ∧ ks.Sublist js ∧ UpdS n st st' := by
    intro js
    induction js with
    | nil => intro zs v st hs _; exact ⟨[], v, st, by rw [List.append_nil]; rfl, List.Sublist.refl _, .refl hs⟩
    | cons j js ih =>
      intro zs v st hs hl
      rw [List.length_cons] at hl
      obtain ⟨_, st1, e1, r, rfl, r0, r1, u1⟩ := draw (N := N) (d := d) hs (m := rare) hr.1 (by omega)
      have hs1 := u1.src hs
      by_cases q : r = 0
      · subst q
        obtain ⟨ks, v', st', e, hk, u'⟩ := ih (zs ++ [j]) (some (.int (j : Nat))) st1 hs1 (by rw [List.length_append, List.length_singleton]; omega)
        refine ⟨j :: ks, v', st', ?_, hk.cons_cons j, u1.trans u'⟩
        have ad : binV st1 .Add (.tup (zs.map fun k => PV.int (k : Nat))) (.tup [.int (j : Nat)]) = some (.tup ((zs ++ [j]).map fun k => PV.int (k : Nat))) := by
          rw [addT (by rw [List.length_map, List.length_singleton]; omega), List.map_append]; rfl
        rw [List.map_cons, forR_cons]
        simp (implicitDefEqProofs := false) only [Mi.seqK_nx, Mi.seqK_rt, Mi.andK_t, Mi.andK_f, Mi.orK_t, Mi.orK_f, Mi.forB_nm, Mi.forB_2, Mi.binK2_d, Mi.binK1_d, Mi.negK_d, Mi.truK_d, Mi.tstK_d, Mi.notK_d, Mi.cmpK2_d, Mi.cmpK1_d, Mi.chnK3_t, Mi.chnK3_f, Mi.chnK2_d, Mi.chnK1_d, Mi.iteK_t, Mi.iteK_f, Mi.tupK_d, Mi.lstK_d, Mi.cellK_d, Mi.callK_d, Mi.biK_d, Mi.idxK2_d, Mi.idxK1_d, Mi.sliK3_t, Mi.sliK3_l, Mi.oIntK_i, Mi.sliK2_d, Mi.sliK1_d, Mi.lcT_d, Mi.lcE_d, Mi.lcK_d, Mi.lrgK2_d, Mi.lrgK1_d, Mi.consK2_d, Mi.consK1_d, Mi.rng1K_d, Mi.rng2K2_d, Mi.rng2K1_d, Mi.zipO_d, Mi.zipK2_d, Mi.zipK1_d, Mi.enuK_d, Mi.sqK_d, Mi.setK_d, Mi.setTK_d, Mi.putK3_d, Mi.putK2_d, Mi.putK1_d, Mi.appK2_d, Mi.appK1_d, Mi.dropK_d, Mi.retK_d, Mi.iteS_t, Mi.iteS_f, Mi.forK_d, Mi.turnK2_d, Mi.turnK1_t, Mi.turnK1_f, Mi.whK_t, Mi.whK_f, Mi.lcB_nm, Mi.lcB_2, Mi.evE_var, Mi.evE_non, Mi.evE_bl, Mi.evE_int, Mi.evE_str, Mi.evE_gl, Mi.evE_bty, Mi.evE_bin, Mi.evE_neg, Mi.evE_not, Mi.evE_and, Mi.evE_or, Mi.evE_cmp, Mi.evE_chn, Mi.evE_ite, Mi.evE_tup, Mi.evE_lst, Mi.evE_cell, Mi.evE_call, Mi.callP_sto, Mi.evE_bi, Mi.evE_idx, Mi.evE_sli, Mi.evE_lc, Mi.evE_lrg, Mi.evE_lrd, Mi.evA_nil, Mi.evA_cons, Mi.evI_rng1, Mi.evI_rng2, Mi.evI_zip, Mi.evI_enu, Mi.evI_sq, Mi.tstR_false, Mi.tstR_true, Mi.optR_false, Mi.optR_true, Mi.oInt_int, Mi.isOmit_omit, Mi.evS_skip, Mi.evS_seq, Mi.evS_set, Mi.evS_setT, Mi.evS_put, Mi.evS_app, Mi.evS_drop, Mi.evS_ret, Mi.evS_ite, Mi.evS_for, Mi.evS_while, Mi.evS_raise, Mi.sto_some, Mi.sto_none, Mi.val_nx, Mi.val_rt, Mi.setTg_nm, Mi.setTg_nil, Mi.setTg_cons, Mi.wipe_nil, Mi.wipe_cons, Mi.forR_nil, Mi.truV_bl, Mi.truV_non, Mi.truV_int, Mi.add_ii, Mi.sub_ii, Mi.lt_ii, Mi.le_ii, Mi.gt_ii, Mi.ge_ii, Mi.isn_v, Mi.notn_v, Mi.isN_non, Mi.isN_int, Mi.isN_tup, Mi.isN_bl, Mi.isN_str, Mi.eq_ii, Mi.ne_ii, Mi.eq_ss, Mi.ne_ss, Mi.neg_i, Mi.walk_lst, Mi.walk_tup, Mi.walk_scr, Mi.len_tup, Mi.len_lst, Mi.len_scr, Mi.tuple_lst, Mi.tuple_tup, Mi.list_tup, Mi.list_lst, Mi.int_int, Mi.int_bl, Mi.abs_int, Mi.min_int, Mi.max_int, Mi.isi_def, Mi.sum_lst, Mi.all_lst, Mi.any_lst, Mi.ints_map, Mi.bools_map, R.bind_ok, R.bind_ex, R.bind_bad, R.lift_some, R.noEx_ok, List.getElem?_cons_zero, List.getElem?_cons_succ, Option.bind_some, Option.map_some, Option.bind_eq_bind, id_eq, List.set_cons_zero, List.set_cons_succ, if_true, if_false, Bool.false_eq_true, reduceIte, Bool.not_true, Bool.not_false, Ex.isOmit, e1, show ((0 : Int) == 0) = true from rfl, ad]
        rw [e, List.append_assoc]; rfl
      · obtain ⟨ks, v', st', e, hk, u'⟩ := ih zs (some (.int (j : Nat))) st1 hs1 (by omega)
        refine ⟨ks, v', st', ?_, hk.cons j, u1.trans u'⟩
        have q2 : (r == 0) = false := by rw [beq_eq_false_iff_ne]; exact q
        have ad : binV st1 .Add (.tup (zs.map fun k => PV.int (k : Nat))) (.tup []) = some (.tup (zs.map fun k => PV.int (k : Nat))) := by
          rw [addT (by rw [List.length_map, List.length_nil]; omega), List.append_nil]
        rw [List.map_cons, forR_cons]
        simp (implicitDefEqProofs := false) only [Mi.seqK_nx, Mi.seqK_rt, Mi.andK_t, Mi.andK_f, Mi.orK_t, Mi.orK_f, Mi.forB_nm, Mi.forB_2, Mi.binK2_d, Mi.binK1_d, Mi.negK_d, Mi.truK_d, Mi.tstK_d, Mi.notK_d, Mi.cmpK2_d, Mi.cmpK1_d, Mi.chnK3_t, Mi.chnK3_f, Mi.chnK2_d, Mi.chnK1_d, Mi.iteK_t, Mi.iteK_f, Mi.tupK_d, Mi.lstK_d, Mi.cellK_d, Mi.callK_d, Mi.biK_d, Mi.idxK2_d, Mi.idxK1_d, Mi.sliK3_t, Mi.sliK3_l, Mi.oIntK_i, Mi.sliK2_d, Mi.sliK1_d, Mi.lcT_d, Mi.lcE_d, Mi.lcK_d, Mi.lrgK2_d, Mi.lrgK1_d, Mi.consK2_d, Mi.consK1_d, Mi.rng1K_d, Mi.rng2K2_d, Mi.rng2K1_d, Mi.zipO_d, Mi.zipK2_d, Mi.zipK1_d, Mi.enuK_d, Mi.sqK_d, Mi.setK_d, Mi.setTK_d, Mi.putK3_d, Mi.putK2_d, Mi.putK1_d, Mi.appK2_d, Mi.appK1_d, Mi.dropK_d, Mi.retK_d, Mi.iteS_t, Mi.iteS_f, Mi.forK_d, Mi.turnK2_d, Mi.turnK1_t, Mi.turnK1_f, Mi.whK_t, Mi.whK_f, Mi.lcB_nm, Mi.lcB_2, Mi.evE_var, Mi.evE_non, Mi.evE_bl, Mi.evE_int, Mi.evE_str, Mi.evE_gl, Mi.evE_bty, Mi.evE_bin, Mi.evE_neg, Mi.evE_not, Mi.evE_and, Mi.evE_or, Mi.evE_cmp, Mi.evE_chn, Mi.evE_ite, Mi.evE_tup, Mi.evE_lst, Mi.evE_cell, Mi.evE_call, Mi.callP_sto, Mi.evE_bi, Mi.evE_idx, Mi.evE_sli, Mi.evE_lc, Mi.evE_lrg, Mi.evE_lrd, Mi.evA_nil, Mi.evA_cons, Mi.evI_rng1, Mi.evI_rng2, Mi.evI_zip, Mi.evI_enu, Mi.evI_sq, Mi.tstR_false, Mi.tstR_true, Mi.optR_false, Mi.optR_true, Mi.oInt_int, Mi.isOmit_omit, Mi.evS_skip, Mi.evS_seq, Mi.evS_set, Mi.evS_setT, Mi.evS_put, Mi.evS_app, Mi.evS_drop, Mi.evS_ret, Mi.evS_ite, Mi.evS_for, Mi.evS_while, Mi.evS_raise, Mi.sto_some, Mi.sto_none, Mi.val_nx, Mi.val_rt, Mi.setTg_nm, Mi.setTg_nil, Mi.setTg_cons, Mi.wipe_nil, Mi.wipe_cons, Mi.forR_nil, Mi.truV_bl, Mi.truV_non, Mi.truV_int, Mi.add_ii, Mi.sub_ii, Mi.lt_ii, Mi.le_ii, Mi.gt_ii, Mi.ge_ii, Mi.isn_v, Mi.notn_v, Mi.isN_non, Mi.isN_int, Mi.isN_tup, Mi.isN_bl, Mi.isN_str, Mi.eq_ii, Mi.ne_ii, Mi.eq_ss, Mi.ne_ss, Mi.neg_i, Mi.walk_lst, Mi.walk_tup, Mi.walk_scr, Mi.len_tup, Mi.len_lst, Mi.len_scr, Mi.tuple_lst, Mi.tuple_tup, Mi.list_tup, Mi.list_lst, Mi.int_int, Mi.int_bl, Mi.abs_int, Mi.min_int, Mi.max_int, Mi.isi_def, Mi.sum_lst, Mi.all_lst, Mi.any_lst, Mi.ints_map, Mi.bools_map, R.bind_ok, R.bind_ex, R.bind_bad, R.lift_some, R.noEx_ok, List.getElem?_cons_zero, List.getElem?_cons_succ, Option.bind_some, Option.map_some, Option.bind_eq_bind, id_eq, List.set_cons_zero, List.set_cons_succ, if_true, if_false, Bool.false_eq_true, reduceIte, Bool.not_true, Bool.not_false, Ex.isOmit, e1, q2, ad]
        exact e
  obtain ⟨ks, v', st', e, hk, u'⟩ := key (List.range (2 * many - 1)) [] none st h (by rw [List.length_range]; simp; omega)
  refine .eq (a := .tup ((ks.map fun k : Nat => (k : Int)).map .int)) (st := st') ?_ ⟨_, rfl, lot_sub many hm.1 ks hk, u'⟩
  simp (implicitDefEqProofs := false) only [Mi.seqK_nx, Mi.seqK_rt, Mi.andK_t, Mi.andK_f, Mi.orK_t, Mi.orK_f, Mi.forB_nm, Mi.forB_2, Mi.binK2_d, Mi.binK1_d, Mi.negK_d, Mi.truK_d, Mi.tstK_d, Mi.notK_d, Mi.cmpK2_d, Mi.cmpK1_d, Mi.chnK3_t, Mi.chnK3_f, Mi.chnK2_d, Mi.chnK1_d, Mi.iteK_t, Mi.iteK_f, Mi.tupK_d, Mi.lstK_d, Mi.cellK_d, Mi.callK_d, Mi.biK_d, Mi.idxK2_d, Mi.idxK1_d, Mi.sliK3_t, Mi.sliK3_l, Mi.oIntK_i, Mi.sliK2_d, Mi.sliK1_d, Mi.lcT_d, Mi.lcE_d, Mi.lcK_d, Mi.lrgK2_d, Mi.lrgK1_d, Mi.consK2_d, Mi.consK1_d, Mi.rng1K_d, Mi.rng2K2_d, Mi.rng2K1_d, Mi.zipO_d, Mi.zipK2_d, Mi.zipK1_d, Mi.enuK_d, Mi.sqK_d, Mi.setK_d, Mi.setTK_d, Mi.putK3_d, Mi.putK2_d, Mi.putK1_d, Mi.appK2_d, Mi.appK1_d, Mi.dropK_d, Mi.retK_d, Mi.iteS_t, Mi.iteS_f, Mi.forK_d, Mi.turnK2_d, Mi.turnK1_t, Mi.turnK1_f, Mi.whK_t, Mi.whK_f, Mi.lcB_nm, Mi.lcB_2, Mi.evE_var, Mi.evE_non, Mi.evE_bl, Mi.evE_int, Mi.evE_str, Mi.evE_gl, Mi.evE_bty, Mi.evE_bin, Mi.evE_neg, Mi.evE_not, Mi.evE_and, Mi.evE_or, Mi.evE_cmp, Mi.evE_chn, Mi.evE_ite, Mi.evE_tup, Mi.evE_lst, Mi.evE_cell, Mi.evE_call, Mi.callP_sto, Mi.evE_bi, Mi.evE_idx, Mi.evE_sli, Mi.evE_lc, Mi.evE_lrg, Mi.evE_lrd, Mi.evA_nil, Mi.evA_cons, Mi.evI_rng1, Mi.evI_rng2, Mi.evI_zip, Mi.evI_enu, Mi.evI_sq, Mi.tstR_false, Mi.tstR_true, Mi.optR_false, Mi.optR_true, Mi.oInt_int, Mi.isOmit_omit, Mi.evS_skip, Mi.evS_seq, Mi.evS_set, Mi.evS_setT, Mi.evS_put, Mi.evS_app, Mi.evS_drop, Mi.evS_ret, Mi.evS_ite, Mi.evS_for, Mi.evS_while, Mi.evS_raise, Mi.sto_some, Mi.sto_none, Mi.val_nx, Mi.val_rt, Mi.setTg_nm, Mi.setTg_nil, Mi.setTg_cons, Mi.wipe_nil, Mi.wipe_cons, Mi.forR_nil, Mi.truV_bl, Mi.truV_non, Mi.truV_int, Mi.add_ii, Mi.sub_ii, Mi.lt_ii, Mi.le_ii, Mi.gt_ii, Mi.ge_ii, Mi.isn_v, Mi.notn_v, Mi.isN_non, Mi.isN_int, Mi.isN_tup, Mi.isN_bl, Mi.isN_str, Mi.eq_ii, Mi.ne_ii, Mi.eq_ss, Mi.ne_ss, Mi.neg_i, Mi.walk_lst, Mi.walk_tup, Mi.walk_scr, Mi.len_tup, Mi.len_lst, Mi.len_scr, Mi.tuple_lst, Mi.tuple_tup, Mi.list_tup, Mi.list_lst, Mi.int_int, Mi.int_bl, Mi.abs_int, Mi.min_int, Mi.max_int, Mi.isi_def, Mi.sum_lst, Mi.all_lst, Mi.any_lst, Mi.ints_map, Mi.bools_map, R.bind_ok, R.bind_ex, R.bind_bad, R.lift_some, R.noEx_ok, List.getElem?_cons_zero, List.getElem?_cons_succ, Option.bind_some, Option.map_some, Option.bind_eq_bind, id_eq, List.set_cons_zero, List.set_cons_succ, if_true, if_false, Bool.false_eq_true, reduceIte, Bool.not_true, Bool.not_false, Ex.isOmit, b27, two_many, small_2 many (by omega), toNat_2 many hm.1, rngL_nat]
  rw [show (PV.tup []) = PV.tup (([] : List Nat).map fun k => PV.int (k : Nat)) from rfl, e]
  simp (implicitDefEqProofs := false) only [Mi.seqK_nx, Mi.seqK_rt, Mi.andK_t, Mi.andK_f, Mi.orK_t, Mi.orK_f, Mi.forB_nm, Mi.forB_2, Mi.binK2_d, Mi.binK1_d, Mi.negK_d, Mi.truK_d, Mi.tstK_d, Mi.notK_d, Mi.cmpK2_d, Mi.cmpK1_d, Mi.chnK3_t, Mi.chnK3_f, Mi.chnK2_d, Mi.chnK1_d, Mi.iteK_t, Mi.iteK_f, Mi.tupK_d, Mi.lstK_d, Mi.cellK_d, Mi.callK_d, Mi.biK_d, Mi.idxK2_d, Mi.idxK1_d, Mi.sliK3_t, Mi.sliK3_l, Mi.oIntK_i, Mi.sliK2_d, Mi.sliK1_d, Mi.lcT_d, Mi.lcE_d, Mi.lcK_d, Mi.lrgK2_d, Mi.lrgK1_d, Mi.consK2_d, Mi.consK1_d, Mi.rng1K_d, Mi.rng2K2_d, Mi.rng2K1_d, Mi.zipO_d, Mi.zipK2_d, Mi.zipK1_d, Mi.enuK_d, Mi.sqK_d, Mi.setK_d, Mi.setTK_d, Mi.putK3_d, Mi.putK2_d, Mi.putK1_d, Mi.appK2_d, Mi.appK1_d, Mi.dropK_d, Mi.retK_d, Mi.iteS_t, Mi.iteS_f, Mi.forK_d, Mi.turnK2_d, Mi.turnK1_t, Mi.turnK1_f, Mi.whK_t, Mi.whK_f, Mi.lcB_nm, Mi.lcB_2, Mi.evE_var, Mi.evE_non, Mi.evE_bl, Mi.evE_int, Mi.evE_str, Mi.evE_gl, Mi.evE_bty, Mi.evE_bin, Mi.evE_neg, Mi.evE_not, Mi.evE_and, Mi.evE_or, Mi.evE_cmp, Mi.evE_chn, Mi.evE_ite, Mi.evE_tup, Mi.evE_lst, Mi.evE_cell, Mi.evE_call, Mi.callP_sto, Mi.evE_bi, Mi.evE_idx, Mi.evE_sli, Mi.evE_lc, Mi.evE_lrg, Mi.evE_lrd, Mi.evA_nil, Mi.evA_cons, Mi.evI_rng1, Mi.evI_rng2, Mi.evI_zip, Mi.evI_enu, Mi.evI_sq, Mi.tstR_false, Mi.tstR_true, Mi.optR_false, Mi.optR_true, Mi.oInt_int, Mi.isOmit_omit, Mi.evS_skip, Mi.evS_seq, Mi.evS_set, Mi.evS_setT, Mi.evS_put, Mi.evS_app, Mi.evS_drop, Mi.evS_ret, Mi.evS_ite, Mi.evS_for, Mi.evS_while, Mi.evS_raise, Mi.sto_some, Mi.sto_none, Mi.val_nx, Mi.val_rt, Mi.setTg_nm, Mi.setTg_nil, Mi.setTg_cons, Mi.wipe_nil, Mi.wipe_cons, Mi.forR_nil, Mi.truV_bl, Mi.truV_non, Mi.truV_int, Mi.add_ii, Mi.sub_ii, Mi.lt_ii, Mi.le_ii, Mi.gt_ii, Mi.ge_ii, Mi.isn_v, Mi.notn_v, Mi.isN_non, Mi.isN_int, Mi.isN_tup, Mi.isN_bl, Mi.isN_str, Mi.eq_ii, Mi.ne_ii, Mi.eq_ss, Mi.ne_ss, Mi.neg_i, Mi.walk_lst, Mi.walk_tup, Mi.walk_scr, Mi.len_tup, Mi.len_lst, Mi.len_scr, Mi.tuple_lst, Mi.tuple_tup, Mi.list_tup, Mi.list_lst, Mi.int_int, Mi.int_bl, Mi.abs_int, Mi.min_int, Mi.max_int, Mi.isi_def, Mi.sum_lst, Mi.all_lst, Mi.any_lst, Mi.ints_map, Mi.bools_map, R.bind_ok, R.bind_ex, R.bind_bad, R.lift_some, R.noEx_ok, List.getElem?_cons_zero, List.getElem?_cons_succ, Option.bind_some, Option.map_some, Option.bind_eq_bind, id_eq, List.set_cons_zero, List.set_cons_succ, if_true, if_false, Bool.false_eq_true, reduceIte, Bool.not_true, Bool.not_false, Ex.isOmit]
  rw [List.map_map, List.nil_append]; rfl
def fctA : Sm := match b28 with
  | .seq a _ => a
  | _ => .skip
def fctB : Sm := match b28 with
  | .seq _ (.seq b _) => b
  | _ => .skip
def fctC : Sm := match b28 with
  | .seq _ (.seq _ c) => c
  | _ => .skip
theorem fct_sh : b28 = .seq fctA (.seq fctB fctC) := rfl
theorem law_fact {n : Nat} {st : Sto} (many : Nat) (hm : 2 ≤ many ∧ many ≤ 4) (sizes : List Int) (h : SrcAt n st) : Ok (RU N (d + 3) 28 [.cel n, .int many, .tup (sizes.map .int)] st) fun v st' => ∃ x : Fct, v = fV x ∧ FctOk many x ∧ UpdS n st st' := by
  rw [RU, u28]
  obtain ⟨_, st1, e1, a, rfl, ha, u1⟩ := law_lot (N := N) (d := d) many 4 (by omega) (by decide) h
  have s1 := u1.src h
  obtain ⟨_, st2, e2, b, rfl, hb, u2⟩ := law_lot (N := N) (d := d) many 4 (by omega) (by decide) s1
  have s2 := u2.src s1
  obtain ⟨_, st3, e3, r, rfl, r0, r1, u3⟩ := draw (N := N) (d := d + 1) s2 (m := 2) (by decide) (by decide)
  have s3 := u3.src s2
  have u13 := u1.trans (u2.trans u3)
  -- the rest, for any two lots
  have rest : ∀ (a b : List Int) (st4 : Sto), lotB many (.tup (a.map .int)) = true → lotB many (.tup (b.map .int)) = true → SrcAt n st4 → Ok ((evS G (RU N (d + 2)) N fctC [some (.cel n), some (.int many), some (.tup (sizes.map .int)), none, none, none, some (.tup (a.map .int)), some (.tup (b.map .int))] st4).bind Fl.val) fun v st' => ∃ x : Fct, v = fV x ∧ FctOk many x ∧ UpdS n st4 st' := by
    intro a b st4 ha hb s4
    obtain ⟨w, st5, e5, hw0, u5⟩ := law_of (N := N) (d := d) (xs := [.str ("more" : Str), .str ("atleast" : Str), .str ("same" : Str)]) s4 (by simp) (by simp)
    have s5 := u5.src s4
    obtain ⟨w, rfl, hw⟩ : ∃ x : Str, w = .str x ∧ x ∈ fwords := by
      simp only [List.mem_cons, List.not_mem_nil, or_false] at hw0
      rcases hw0 with rfl | rfl | rfl <;> exact ⟨_, rfl, by decide⟩
    obtain ⟨_, st6, e6, r, rfl, r0, r1, u6⟩ := draw (N := N) (d := d + 1) s5 (m := 10) (by decide) (by decide)
    have s6 := u6.src s5
    by_cases q : r = 0
    · subst q
      refine .eq (a := fV (w, a, b)) (st := st6) ?_ ⟨_, rfl, ⟨hw, ha, hb⟩, u5.trans u6⟩
      simp (implicitDefEqProofs := false) only [Mi.seqK_nx, Mi.seqK_rt, Mi.andK_t, Mi.andK_f, Mi.orK_t, Mi.orK_f, Mi.forB_nm, Mi.forB_2, Mi.binK2_d, Mi.binK1_d, Mi.negK_d, Mi.truK_d, Mi.tstK_d, Mi.notK_d, Mi.cmpK2_d, Mi.cmpK1_d, Mi.chnK3_t, Mi.chnK3_f, Mi.chnK2_d, Mi.chnK1_d, Mi.iteK_t, Mi.iteK_f, Mi.tupK_d, Mi.lstK_d, Mi.cellK_d, Mi.callK_d, Mi.biK_d, Mi.idxK2_d, Mi.idxK1_d, Mi.sliK3_t, Mi.sliK3_l, Mi.oIntK_i, Mi.sliK2_d, Mi.sliK1_d, Mi.lcT_d, Mi.lcE_d, Mi.lcK_d, Mi.lrgK2_d, Mi.lrgK1_d, Mi.consK2_d, Mi.consK1_d, Mi.rng1K_d, Mi.rng2K2_d, Mi.rng2K1_d, Mi.zipO_d, Mi.zipK2_d, Mi.zipK1_d, Mi.enuK_d, Mi.sqK_d, Mi.setK_d, Mi.setTK_d, Mi.putK3_d, Mi.putK2_d, Mi.putK1_d, Mi.appK2_d, Mi.appK1_d, Mi.dropK_d, Mi.retK_d, Mi.iteS_t, Mi.iteS_f, Mi.forK_d, Mi.turnK2_d, Mi.turnK1_t, Mi.turnK1_f, Mi.whK_t, Mi.whK_f, Mi.lcB_nm, Mi.lcB_2, Mi.evE_var, Mi.evE_non, Mi.evE_bl, Mi.evE_int, Mi.evE_str, Mi.evE_gl, Mi.evE_bty, Mi.evE_bin, Mi.evE_neg, Mi.evE_not, Mi.evE_and, Mi.evE_or, Mi.evE_cmp, Mi.evE_chn, Mi.evE_ite, Mi.evE_tup, Mi.evE_lst, Mi.evE_cell, Mi.evE_call, Mi.callP_sto, Mi.evE_bi, Mi.evE_idx, Mi.evE_sli, Mi.evE_lc, Mi.evE_lrg, Mi.evE_lrd, Mi.evA_nil, Mi.evA_cons, Mi.evI_rng1, Mi.evI_rng2, Mi.evI_zip, Mi.evI_enu, Mi.evI_sq, Mi.tstR_false, Mi.tstR_true, Mi.optR_false, Mi.optR_true, Mi.oInt_int, Mi.isOmit_omit, Mi.evS_skip, Mi.evS_seq, Mi.evS_set, Mi.evS_setT, Mi.evS_put, Mi.evS_app, Mi.evS_drop, Mi.evS_ret, Mi.evS_ite, Mi.evS_for, Mi.evS_while, Mi.evS_raise, Mi.sto_some, Mi.sto_none, Mi.val_nx, Mi.val_rt, Mi.setTg_nm, Mi.setTg_nil, Mi.setTg_cons, Mi.wipe_nil, Mi.wipe_cons, Mi.forR_nil, Mi.truV_bl, Mi.truV_non, Mi.truV_int, Mi.add_ii, Mi.sub_ii, Mi.lt_ii, Mi.le_ii, Mi.gt_ii, Mi.ge_ii, Mi.isn_v, Mi.notn_v, Mi.isN_non, Mi.isN_int, Mi.isN_tup, Mi.isN_bl, Mi.isN_str, Mi.eq_ii, Mi.ne_ii, Mi.eq_ss, Mi.ne_ss, Mi.neg_i, Mi.walk_lst, Mi.walk_tup, Mi.walk_scr, Mi.len_tup, Mi.len_lst, Mi.len_scr, Mi.tuple_lst, Mi.tuple_tup, Mi.list_tup, Mi.list_lst, Mi.int_int, Mi.int_bl, Mi.abs_int, Mi.min_int, Mi.max_int, Mi.isi_def, Mi.sum_lst, Mi.all_lst, Mi.any_lst, Mi.ints_map, Mi.bools_map, R.bind_ok, R.bind_ex, R.bind_bad, R.lift_some, R.noEx_ok, List.getElem?_cons_zero, List.getElem?_cons_succ, Option.bind_some, Option.map_some, Option.bind_eq_bind, id_eq, List.set_cons_zero, List.set_cons_succ, if_true, if_false, Bool.false_eq_true, reduceIte, Bool.not_true, Bool.not_false, Ex.isOmit, fctC, b28, e5, e6, show ((0 : Int) == 0) = true from rfl, fV]
    · have q2 : (r == 0) = false := by rw [beq_eq_false_iff_ne]; exact q
      have e7 : RU N (d + 2) 25 [.int many, .tup [.str w, .tup (a.map .int), .tup (b.map .int)]] st6 = _ := law_fact_line (N := N) (d := d + 1) (st := st6) many (by omega) (w, a, b)
      have e8 := law_sum (N := N) (d := d + 1) (st := st6) (lineF many a b) sizes (lineF_small many a b) (by rw [lineF_len]; omega)
      have pick : ∀ (ws : List PV), ws = [.str ("same" : Str), .str ("atleast" : Str)] ∨ ws = [.str ("more" : Str), .str ("atleast" : Str)] → ∃ (w : Str) (st7 : Sto), RU N (d + 2) 23 [.cel n, .lst ws] st6 = .ok (.str w) st7 ∧ w ∈ fwords ∧ UpdS n st6 st7 := by
        intro ws hws
        obtain ⟨w, st7, e, hw, u7⟩ := law_of (N := N) (d := d) (xs := ws) s6 (by rcases hws with rfl | rfl <;> simp) (by rcases hws with rfl | rfl <;> simp)
        rcases hws with rfl | rfl <;> (simp only [List.mem_cons, List.not_mem_nil, or_false] at hw; rcases hw with rfl | rfl <;> exact ⟨_, st7, e, by decide, u7⟩)
      by_cases z : dotZ (lineF many a b) sizes = 0
      · obtain ⟨w', st7, e9, hw', u7⟩ := pick _ (.inl rfl)
        refine .eq (a := fV (w', a, b)) (st := st7) ?_ ⟨_, rfl, ⟨hw', ha, hb⟩, u5.trans (u6.trans u7)⟩
        simp (implicitDefEqProofs := false) only [Mi.seqK_nx, Mi.seqK_rt, Mi.andK_t, Mi.andK_f, Mi.orK_t, Mi.orK_f, Mi.forB_nm, Mi.forB_2, Mi.binK2_d, Mi.binK1_d, Mi.negK_d, Mi.truK_d, Mi.tstK_d, Mi.notK_d, Mi.cmpK2_d, Mi.cmpK1_d, Mi.chnK3_t, Mi.chnK3_f, Mi.chnK2_d, Mi.chnK1_d, Mi.iteK_t, Mi.iteK_f, Mi.tupK_d, Mi.lstK_d, Mi.cellK_d, Mi.callK_d, Mi.biK_d, Mi.idxK2_d, Mi.idxK1_d, Mi.sliK3_t, Mi.sliK3_l, Mi.oIntK_i, Mi.sliK2_d, Mi.sliK1_d, Mi.lcT_d, Mi.lcE_d, Mi.lcK_d, Mi.lrgK2_d, Mi.lrgK1_d, Mi.consK2_d, Mi.consK1_d, Mi.rng1K_d, Mi.rng2K2_d, Mi.rng2K1_d, Mi.zipO_d, Mi.zipK2_d, Mi.zipK1_d, Mi.enuK_d, Mi.sqK_d, Mi.setK_d, Mi.setTK_d, Mi.putK3_d, Mi.putK2_d, Mi.putK1_d, Mi.appK2_d, Mi.appK1_d, Mi.dropK_d, Mi.retK_d, Mi.iteS_t, Mi.iteS_f, Mi.forK_d, Mi.turnK2_d, Mi.turnK1_t, Mi.turnK1_f, Mi.whK_t, Mi.whK_f, Mi.lcB_nm, Mi.lcB_2, Mi.evE_var, Mi.evE_non, Mi.evE_bl, Mi.evE_int, Mi.evE_str, Mi.evE_gl, Mi.evE_bty, Mi.evE_bin, Mi.evE_neg, Mi.evE_not, Mi.evE_and, Mi.evE_or, Mi.evE_cmp, Mi.evE_chn, Mi.evE_ite, Mi.evE_tup, Mi.evE_lst, Mi.evE_cell, Mi.evE_call, Mi.callP_sto, Mi.evE_bi, Mi.evE_idx, Mi.evE_sli, Mi.evE_lc, Mi.evE_lrg, Mi.evE_lrd, Mi.evA_nil, Mi.evA_cons, Mi.evI_rng1, Mi.evI_rng2, Mi.evI_zip, Mi.evI_enu, Mi.evI_sq, Mi.tstR_false, Mi.tstR_true, Mi.optR_false, Mi.optR_true, Mi.oInt_int, Mi.isOmit_omit, Mi.evS_skip, Mi.evS_seq, Mi.evS_set, Mi.evS_setT, Mi.evS_put, Mi.evS_app, Mi.evS_drop, Mi.evS_ret, Mi.evS_ite, Mi.evS_for, Mi.evS_while, Mi.evS_raise, Mi.sto_some, Mi.sto_none, Mi.val_nx, Mi.val_rt, Mi.setTg_nm, Mi.setTg_nil, Mi.setTg_cons, Mi.wipe_nil, Mi.wipe_cons, Mi.forR_nil, Mi.truV_bl, Mi.truV_non, Mi.truV_int, Mi.add_ii, Mi.sub_ii, Mi.lt_ii, Mi.le_ii, Mi.gt_ii, Mi.ge_ii, Mi.isn_v, Mi.notn_v, Mi.isN_non, Mi.isN_int, Mi.isN_tup, Mi.isN_bl, Mi.isN_str, Mi.eq_ii, Mi.ne_ii, Mi.eq_ss, Mi.ne_ss, Mi.neg_i, Mi.walk_lst, Mi.walk_tup, Mi.walk_scr, Mi.len_tup, Mi.len_lst, Mi.len_scr, Mi.tuple_lst, Mi.tuple_tup, Mi.list_tup, Mi.list_lst, Mi.int_int, Mi.int_bl, Mi.abs_int, Mi.min_int, Mi.max_int, Mi.isi_def, Mi.sum_lst, Mi.all_lst, Mi.any_lst, Mi.ints_map, Mi.bools_map, R.bind_ok, R.bind_ex, R.bind_bad, R.lift_some, R.noEx_ok, List.getElem?_cons_zero, List.getElem?_cons_succ, Option.bind_some, Option.map_some, Option.bind_eq_bind, id_eq, List.set_cons_zero, List.set_cons_succ, if_true, if_false, Bool.false_eq_true, reduceIte, Bool.not_true, Bool.not_false, Ex.isOmit, fctC, b28, e5, e6, q2, e7, e8, z, show decide ((0 : Int) < 0) = false from rfl, show ((0 : Int) == 0) = true from rfl, e9, fV]
      · have z2 : (dotZ (lineF many a b) sizes == 0) = false := by rw [beq_eq_false_iff_ne]; exact z
        obtain ⟨w', st7, e9, hw', u7⟩ := pick _ (.inr rfl)
        by_cases y : dotZ (lineF many a b) sizes < 0
        · refine .eq (a := fV (w', b, a)) (st := st7) ?_ ⟨_, rfl, ⟨hw', hb, ha⟩, u5.trans (u6.trans u7)⟩
          simp (implicitDefEqProofs := false) only [Mi.seqK_nx, Mi.seqK_rt, Mi.andK_t, Mi.andK_f, Mi.orK_t, Mi.orK_f, Mi.forB_nm, Mi.forB_2, Mi.binK2_d, Mi.binK1_d, Mi.negK_d, Mi.truK_d, Mi.tstK_d, Mi.notK_d, Mi.cmpK2_d, Mi.cmpK1_d, Mi.chnK3_t, Mi.chnK3_f, Mi.chnK2_d, Mi.chnK1_d, Mi.iteK_t, Mi.iteK_f, Mi.tupK_d, Mi.lstK_d, Mi.cellK_d, Mi.callK_d, Mi.biK_d, Mi.idxK2_d, Mi.idxK1_d, Mi.sliK3_t, Mi.sliK3_l, Mi.oIntK_i, Mi.sliK2_d, Mi.sliK1_d, Mi.lcT_d, Mi.lcE_d, Mi.lcK_d, Mi.lrgK2_d, Mi.lrgK1_d, Mi.consK2_d, Mi.consK1_d, Mi.rng1K_d, Mi.rng2K2_d, Mi.rng2K1_d, Mi.zipO_d, Mi.zipK2_d, Mi.zipK1_d, Mi.enuK_d, Mi.sqK_d, Mi.setK_d, Mi.setTK_d, Mi.putK3_d, Mi.putK2_d, Mi.putK1_d, Mi.appK2_d, Mi.appK1_d, Mi.dropK_d, Mi.retK_d, Mi.iteS_t, Mi.iteS_f, Mi.forK_d, Mi.turnK2_d, Mi.turnK1_t, Mi.turnK1_f, Mi.whK_t, Mi.whK_f, Mi.lcB_nm, Mi.lcB_2, Mi.evE_var, Mi.evE_non, Mi.evE_bl, Mi.evE_int, Mi.evE_str, Mi.evE_gl, Mi.evE_bty, Mi.evE_bin, Mi.evE_neg, Mi.evE_not, Mi.evE_and, Mi.evE_or, Mi.evE_cmp, Mi.evE_chn, Mi.evE_ite, Mi.evE_tup, Mi.evE_lst, Mi.evE_cell, Mi.evE_call, Mi.callP_sto, Mi.evE_bi, Mi.evE_idx, Mi.evE_sli, Mi.evE_lc, Mi.evE_lrg, Mi.evE_lrd, Mi.evA_nil, Mi.evA_cons, Mi.evI_rng1, Mi.evI_rng2, Mi.evI_zip, Mi.evI_enu, Mi.evI_sq, Mi.tstR_false, Mi.tstR_true, Mi.optR_false, Mi.optR_true, Mi.oInt_int, Mi.isOmit_omit, Mi.evS_skip, Mi.evS_seq, Mi.evS_set, Mi.evS_setT, Mi.evS_put, Mi.evS_app, Mi.evS_drop, Mi.evS_ret, Mi.evS_ite, Mi.evS_for, Mi.evS_while, Mi.evS_raise, Mi.sto_some, Mi.sto_none, Mi.val_nx, Mi.val_rt, Mi.setTg_nm, Mi.setTg_nil, Mi.setTg_cons, Mi.wipe_nil, Mi.wipe_cons, Mi.forR_nil, Mi.truV_bl, Mi.truV_non, Mi.truV_int, Mi.add_ii, Mi.sub_ii, Mi.lt_ii, Mi.le_ii, Mi.gt_ii, Mi.ge_ii, Mi.isn_v, Mi.notn_v, Mi.isN_non, Mi.isN_int, Mi.isN_tup, Mi.isN_bl, Mi.isN_str, Mi.eq_ii, Mi.ne_ii, Mi.eq_ss, Mi.ne_ss, Mi.neg_i, Mi.walk_lst, Mi.walk_tup, Mi.walk_scr, Mi.len_tup, Mi.len_lst, Mi.len_scr, Mi.tuple_lst, Mi.tuple_tup, Mi.list_tup, Mi.list_lst, Mi.int_int, Mi.int_bl, Mi.abs_int, Mi.min_int, Mi.max_int, Mi.isi_def, Mi.sum_lst, Mi.all_lst, Mi.any_lst, Mi.ints_map, Mi.bools_map, R.bind_ok, R.bind_ex, R.bind_bad, R.lift_some, R.noEx_ok, List.getElem?_cons_zero, List.getElem?_cons_succ, Option.bind_some, Option.map_some, Option.bind_eq_bind, id_eq, List.set_cons_zero, List.set_cons_succ, if_true, if_false, Bool.false_eq_true, reduceIte, Bool.not_true, Bool.not_false, Ex.isOmit, fctC, b28, e5, e6, q2, e7, e8, z2, decide_eq_true y, e9, fV]
        · refine .eq (a := fV (w', a, b)) (st := st7) ?_ ⟨_, rfl, ⟨hw', ha, hb⟩, u5.trans (u6.trans u7)⟩
          simp (implicitDefEqProofs := false) only [Mi.seqK_nx, Mi.seqK_rt, Mi.andK_t, Mi.andK_f, Mi.orK_t, Mi.orK_f, Mi.forB_nm, Mi.forB_2, Mi.binK2_d, Mi.binK1_d, Mi.negK_d, Mi.truK_d, Mi.tstK_d, Mi.notK_d, Mi.cmpK2_d, Mi.cmpK1_d, Mi.chnK3_t, Mi.chnK3_f, Mi.chnK2_d, Mi.chnK1_d, Mi.iteK_t, Mi.iteK_f, Mi.tupK_d, Mi.lstK_d, Mi.cellK_d, Mi.callK_d, Mi.biK_d, Mi.idxK2_d, Mi.idxK1_d, Mi.sliK3_t, Mi.sliK3_l, Mi.oIntK_i, Mi.sliK2_d, Mi.sliK1_d, Mi.lcT_d, Mi.lcE_d, Mi.lcK_d, Mi.lrgK2_d, Mi.lrgK1_d, Mi.consK2_d, Mi.consK1_d, Mi.rng1K_d, Mi.rng2K2_d, Mi.rng2K1_d, Mi.zipO_d, Mi.zipK2_d, Mi.zipK1_d, Mi.enuK_d, Mi.sqK_d, Mi.setK_d, Mi.setTK_d, Mi.putK3_d, Mi.putK2_d, Mi.putK1_d, Mi.appK2_d, Mi.appK1_d, Mi.dropK_d, Mi.retK_d, Mi.iteS_t, Mi.iteS_f, Mi.forK_d, Mi.turnK2_d, Mi.turnK1_t, Mi.turnK1_f, Mi.whK_t, Mi.whK_f, Mi.lcB_nm, Mi.lcB_2, Mi.evE_var, Mi.evE_non, Mi.evE_bl, Mi.evE_int, Mi.evE_str, Mi.evE_gl, Mi.evE_bty, Mi.evE_bin, Mi.evE_neg, Mi.evE_not, Mi.evE_and, Mi.evE_or, Mi.evE_cmp, Mi.evE_chn, Mi.evE_ite, Mi.evE_tup, Mi.evE_lst, Mi.evE_cell, Mi.evE_call, Mi.callP_sto, Mi.evE_bi, Mi.evE_idx, Mi.evE_sli, Mi.evE_lc, Mi.evE_lrg, Mi.evE_lrd, Mi.evA_nil, Mi.evA_cons, Mi.evI_rng1, Mi.evI_rng2, Mi.evI_zip, Mi.evI_enu, Mi.evI_sq, Mi.tstR_false, Mi.tstR_true, Mi.optR_false, Mi.optR_true, Mi.oInt_int, Mi.isOmit_omit, Mi.evS_skip, Mi.evS_seq, Mi.evS_set, Mi.evS_setT, Mi.evS_put, Mi.evS_app, Mi.evS_drop, Mi.evS_ret, Mi.evS_ite, Mi.evS_for, Mi.evS_while, Mi.evS_raise, Mi.sto_some, Mi.sto_none, Mi.val_nx, Mi.val_rt, Mi.setTg_nm, Mi.setTg_nil, Mi.setTg_cons, Mi.wipe_nil, Mi.wipe_cons, Mi.forR_nil, Mi.truV_bl, Mi.truV_non, Mi.truV_int, Mi.add_ii, Mi.sub_ii, Mi.lt_ii, Mi.le_ii, Mi.gt_ii, Mi.ge_ii, Mi.isn_v, Mi.notn_v, Mi.isN_non, Mi.isN_int, Mi.isN_tup, Mi.isN_bl, Mi.isN_str, Mi.eq_ii, Mi.ne_ii, Mi.eq_ss, Mi.ne_ss, Mi.neg_i, Mi.walk_lst, Mi.walk_tup, Mi.walk_scr, Mi.len_tup, Mi.len_lst, Mi.len_scr, Mi.tuple_lst, Mi.tuple_tup, Mi.list_tup, Mi.list_lst, Mi.int_int, Mi.int_bl, Mi.abs_int, Mi.min_int, Mi.max_int, Mi.isi_def, Mi.sum_lst, Mi.all_lst, Mi.any_lst, Mi.ints_map, Mi.bools_map, R.bind_ok, R.bind_ex, R.bind_bad, R.lift_some, R.noEx_ok, List.getElem?_cons_zero, List.getElem?_cons_succ, Option.bind_some, Option.map_some, Option.bind_eq_bind, id_eq, List.set_cons_zero, List.set_cons_succ, if_true, if_false, Bool.false_eq_true, reduceIte, Bool.not_true, Bool.not_false, Ex.isOmit, fctC, b28, e5, e6, q2, e7, e8, z2, decide_eq_false y, e9, fV]
  by_cases q : r = 0
  · subst q
    obtain ⟨_, st4, e4, i, rfl, i0, i1, u4⟩ := draw (N := N) (d := d + 1) s3 (m := (many : Int)) (by omega) (by omega)
    have s4 := u4.src s3
    obtain ⟨_, st5, e5, j, rfl, j0, j1, u5⟩ := draw (N := N) (d := d + 1) s4 (m := (many : Int) - 1) (by omega) (by omega)
    have s5 := u5.src s4
    obtain ⟨v, st6, e6, x, rfl, hx, u6⟩ := rest [i] [(many : Int) + j] st5 (lot_one many (by omega) i (by omega)) (lot_one many (by omega) _ (by omega)) s5
    refine .eq (a := fV x) (st := st6) ?_ ⟨x, rfl, hx, u13.trans (u4.trans (u5.trans u6))⟩
    rw [fct_sh]
    simp (implicitDefEqProofs := false) only [Mi.seqK_nx, Mi.seqK_rt, Mi.andK_t, Mi.andK_f, Mi.orK_t, Mi.orK_f, Mi.forB_nm, Mi.forB_2, Mi.binK2_d, Mi.binK1_d, Mi.negK_d, Mi.truK_d, Mi.tstK_d, Mi.notK_d, Mi.cmpK2_d, Mi.cmpK1_d, Mi.chnK3_t, Mi.chnK3_f, Mi.chnK2_d, Mi.chnK1_d, Mi.iteK_t, Mi.iteK_f, Mi.tupK_d, Mi.lstK_d, Mi.cellK_d, Mi.callK_d, Mi.biK_d, Mi.idxK2_d, Mi.idxK1_d, Mi.sliK3_t, Mi.sliK3_l, Mi.oIntK_i, Mi.sliK2_d, Mi.sliK1_d, Mi.lcT_d, Mi.lcE_d, Mi.lcK_d, Mi.lrgK2_d, Mi.lrgK1_d, Mi.consK2_d, Mi.consK1_d, Mi.rng1K_d, Mi.rng2K2_d, Mi.rng2K1_d, Mi.zipO_d, Mi.zipK2_d, Mi.zipK1_d, Mi.enuK_d, Mi.sqK_d, Mi.setK_d, Mi.setTK_d, Mi.putK3_d, Mi.putK2_d, Mi.putK1_d, Mi.appK2_d, Mi.appK1_d, Mi.dropK_d, Mi.retK_d, Mi.iteS_t, Mi.iteS_f, Mi.forK_d, Mi.turnK2_d, Mi.turnK1_t, Mi.turnK1_f, Mi.whK_t, Mi.whK_f, Mi.lcB_nm, Mi.lcB_2, Mi.evE_var, Mi.evE_non, Mi.evE_bl, Mi.evE_int, Mi.evE_str, Mi.evE_gl, Mi.evE_bty, Mi.evE_bin, Mi.evE_neg, Mi.evE_not, Mi.evE_and, Mi.evE_or, Mi.evE_cmp, Mi.evE_chn, Mi.evE_ite, Mi.evE_tup, Mi.evE_lst, Mi.evE_cell, Mi.evE_call, Mi.callP_sto, Mi.evE_bi, Mi.evE_idx, Mi.evE_sli, Mi.evE_lc, Mi.evE_lrg, Mi.evE_lrd, Mi.evA_nil, Mi.evA_cons, Mi.evI_rng1, Mi.evI_rng2, Mi.evI_zip, Mi.evI_enu, Mi.evI_sq, Mi.tstR_false, Mi.tstR_true, Mi.optR_false, Mi.optR_true, Mi.oInt_int, Mi.isOmit_omit, Mi.evS_skip, Mi.evS_seq, Mi.evS_set, Mi.evS_setT, Mi.evS_put, Mi.evS_app, Mi.evS_drop, Mi.evS_ret, Mi.evS_ite, Mi.evS_for, Mi.evS_while, Mi.evS_raise, Mi.sto_some, Mi.sto_none, Mi.val_nx, Mi.val_rt, Mi.setTg_nm, Mi.setTg_nil, Mi.setTg_cons, Mi.wipe_nil, Mi.wipe_cons, Mi.forR_nil, Mi.truV_bl, Mi.truV_non, Mi.truV_int, Mi.add_ii, Mi.sub_ii, Mi.lt_ii, Mi.le_ii, Mi.gt_ii, Mi.ge_ii, Mi.isn_v, Mi.notn_v, Mi.isN_non, Mi.isN_int, Mi.isN_tup, Mi.isN_bl, Mi.isN_str, Mi.eq_ii, Mi.ne_ii, Mi.eq_ss, Mi.ne_ss, Mi.neg_i, Mi.walk_lst, Mi.walk_tup, Mi.walk_scr, Mi.len_tup, Mi.len_lst, Mi.len_scr, Mi.tuple_lst, Mi.tuple_tup, Mi.list_tup, Mi.list_lst, Mi.int_int, Mi.int_bl, Mi.abs_int, Mi.min_int, Mi.max_int, Mi.isi_def, Mi.sum_lst, Mi.all_lst, Mi.any_lst, Mi.ints_map, Mi.bools_map, R.bind_ok, R.bind_ex, R.bind_bad, R.lift_some, R.noEx_ok, List.getElem?_cons_zero, List.getElem?_cons_succ, Option.bind_some, Option.map_some, Option.bind_eq_bind, id_eq, List.set_cons_zero, List.set_cons_succ, if_true, if_false, Bool.false_eq_true, reduceIte, Bool.not_true, Bool.not_false, Ex.isOmit, fctA, fctB, b28, e1, e2, e3, show ((0 : Int) == 0) = true from rfl, e4, e5]
    exact e6
  · have q2 : (r == 0) = false := by rw [beq_eq_false_iff_ne]; exact q
    obtain ⟨v, st6, e6, x, rfl, hx, u6⟩ := rest a b st3 ha hb s3
    refine .eq (a := fV x) (st := st6) ?_ ⟨x, rfl, hx, u13.trans u6⟩
    rw [fct_sh]
    simp (implicitDefEqProofs := false) only [Mi.seqK_nx, Mi.seqK_rt, Mi.andK_t, Mi.andK_f, Mi.orK_t, Mi.orK_f, Mi.forB_nm, Mi.forB_2, Mi.binK2_d, Mi.binK1_d, Mi.negK_d, Mi.truK_d, Mi.tstK_d, Mi.notK_d, Mi.cmpK2_d, Mi.cmpK1_d, Mi.chnK3_t, Mi.chnK3_f, Mi.chnK2_d, Mi.chnK1_d, Mi.iteK_t, Mi.iteK_f, Mi.tupK_d, Mi.lstK_d, Mi.cellK_d, Mi.callK_d, Mi.biK_d, Mi.idxK2_d, Mi.idxK1_d, Mi.sliK3_t, Mi.sliK3_l, Mi.oIntK_i, Mi.sliK2_d, Mi.sliK1_d, Mi.lcT_d, Mi.lcE_d, Mi.lcK_d, Mi.lrgK2_d, Mi.lrgK1_d, Mi.consK2_d, Mi.consK1_d, Mi.rng1K_d, Mi.rng2K2_d, Mi.rng2K1_d, Mi.zipO_d, Mi.zipK2_d, Mi.zipK1_d, Mi.enuK_d, Mi.sqK_d, Mi.setK_d, Mi.setTK_d, Mi.putK3_d, Mi.putK2_d, Mi.putK1_d, Mi.appK2_d, Mi.appK1_d, Mi.dropK_d, Mi.retK_d, Mi.iteS_t, Mi.iteS_f, Mi.forK_d, Mi.turnK2_d, Mi.turnK1_t, Mi.turnK1_f, Mi.whK_t, Mi.whK_f, Mi.lcB_nm, Mi.lcB_2, Mi.evE_var, Mi.evE_non, Mi.evE_bl, Mi.evE_int, Mi.evE_str, Mi.evE_gl, Mi.evE_bty, Mi.evE_bin, Mi.evE_neg, Mi.evE_not, Mi.evE_and, Mi.evE_or, Mi.evE_cmp, Mi.evE_chn, Mi.evE_ite, Mi.evE_tup, Mi.evE_lst, Mi.evE_cell, Mi.evE_call, Mi.callP_sto, Mi.evE_bi, Mi.evE_idx, Mi.evE_sli, Mi.evE_lc, Mi.evE_lrg, Mi.evE_lrd, Mi.evA_nil, Mi.evA_cons, Mi.evI_rng1, Mi.evI_rng2, Mi.evI_zip, Mi.evI_enu, Mi.evI_sq, Mi.tstR_false, Mi.tstR_true, Mi.optR_false, Mi.optR_true, Mi.oInt_int, Mi.isOmit_omit, Mi.evS_skip, Mi.evS_seq, Mi.evS_set, Mi.evS_setT, Mi.evS_put, Mi.evS_app, Mi.evS_drop, Mi.evS_ret, Mi.evS_ite, Mi.evS_for, Mi.evS_while, Mi.evS_raise, Mi.sto_some, Mi.sto_none, Mi.val_nx, Mi.val_rt, Mi.setTg_nm, Mi.setTg_nil, Mi.setTg_cons, Mi.wipe_nil, Mi.wipe_cons, Mi.forR_nil, Mi.truV_bl, Mi.truV_non, Mi.truV_int, Mi.add_ii, Mi.sub_ii, Mi.lt_ii, Mi.le_ii, Mi.gt_ii, Mi.ge_ii, Mi.isn_v, Mi.notn_v, Mi.isN_non, Mi.isN_int, Mi.isN_tup, Mi.isN_bl, Mi.isN_str, Mi.eq_ii, Mi.ne_ii, Mi.eq_ss, Mi.ne_ss, Mi.neg_i, Mi.walk_lst, Mi.walk_tup, Mi.walk_scr, Mi.len_tup, Mi.len_lst, Mi.len_scr, Mi.tuple_lst, Mi.tuple_tup, Mi.list_tup, Mi.list_lst, Mi.int_int, Mi.int_bl, Mi.abs_int, Mi.min_int, Mi.max_int, Mi.isi_def, Mi.sum_lst, Mi.all_lst, Mi.any_lst, Mi.ints_map, Mi.bools_map, R.bind_ok, R.bind_ex, R.bind_bad, R.lift_some, R.noEx_ok, List.getElem?_cons_zero, List.getElem?_cons_succ, Option.bind_some, Option.map_some, Option.bind_eq_bind, id_eq, List.set_cons_zero, List.set_cons_succ, if_true, if_false, Bool.false_eq_true, reduceIte, Bool.not_true, Bool.not_false, Ex.isOmit, fctA, fctB, b28, e1, e2, e3, q2]
    exact e6
theorem law_facts {n : Nat} {st : Sto} (many most : Nat) (hm : 2 ≤ many ∧ many ≤ 4) (h1 : most ≤ 100) (h : SrcAt n st) : Ok (RU N (d + 4) 29 [.cel n, .int many, .int most] st) fun v st' => ∃ fs : List Fct, v = .tup (fs.map fV) ∧ fs.length ≤ most ∧ (∀ x ∈ fs, FctOk many x) ∧ UpdS n st st' := by
  have hb := big_lt
  rw [RU, u29]
  obtain ⟨_, st1, e1, sizes, rfl, hs, u1⟩ := law_sizes (N := N) (d := d) many hm h
  have s1 := u1.src h
  have key : ∀ (js : List Nat) (zs : List Fct) (v : Option PV) (st : Sto), SrcAt n st → zs.length + js.length ≤ 100 → (∀ x ∈ zs, FctOk many x) →
      ∃ (zs' : List Fct) (v' : Option PV) (st' : Sto), forR (forB (.nm 3) (evS G (RU N (d + 3)) N (.seq (.set 5 (.bin .Add (.var 5) (.tup (.cons (.call .sto 28 (.cons (.var 0) (.cons (.var 1) (.cons (.var 4) .nil)))) .nil)))) .skip)))
        (js.map fun j => PV.int (j : Nat)) [some (.cel n), some (.int many), some (.int most), v, some (.tup (sizes.map .int)), some (.tup (zs.map fV))] st =
        .ok (.nx [some (.cel n), some (.int many), some (.int most), v', some (.tup (sizes.map .int)), some (.tup (zs'.map fV))]) st' ∧
        zs'.length = zs.length + js.length ∧ (∀ x ∈ zs', FctOk many x) ∧ UpdS n st st' := by
    intro js
    induction js with
    | nil => intro zs v st hs hl hz; exact ⟨zs, v, st, rfl, rfl, hz, .refl hs⟩
    | cons j js ih =>
      intro zs v st hs hl hz
      rw [List.length_cons] at hl
      obtain ⟨_, st2, e2, x, rfl, hx, u2⟩ := law_fact (N := N) (d := d) many hm sizes hs
      have hs2 := u2.src hs
      obtain ⟨zs', v', st', e, l', z', u'⟩ := ih (zs ++ [x]) (some (.int (j : Nat))) st2 hs2 (by rw [List.length_append, List.length_singleton]; omega) (fun y hy => by
        rcases List.mem_append.mp hy with q | q
        · exact hz y q
        · rw [List.mem_singleton.mp q]; exact hx)
      refine ⟨zs', v', st', ?_, by rw [l', List.length_append, List.length_singleton, List.length_cons]; omega, z', u2.trans u'⟩
      have ad : binV st2 .Add (.tup (zs.map fV)) (.tup [fV x]) = some (.tup ((zs ++ [x]).map fV)) := by
        rw [addT (by rw [List.length_map, List.length_singleton]; omega), List.map_append]; rfl
      rw [List.map_cons, forR_cons]
      simp (implicitDefEqProofs := false) only [Mi.seqK_nx, Mi.seqK_rt, Mi.andK_t, Mi.andK_f, Mi.orK_t, Mi.orK_f, Mi.forB_nm, Mi.forB_2, Mi.binK2_d, Mi.binK1_d, Mi.negK_d, Mi.truK_d, Mi.tstK_d, Mi.notK_d, Mi.cmpK2_d, Mi.cmpK1_d, Mi.chnK3_t, Mi.chnK3_f, Mi.chnK2_d, Mi.chnK1_d, Mi.iteK_t, Mi.iteK_f, Mi.tupK_d, Mi.lstK_d, Mi.cellK_d, Mi.callK_d, Mi.biK_d, Mi.idxK2_d, Mi.idxK1_d, Mi.sliK3_t, Mi.sliK3_l, Mi.oIntK_i, Mi.sliK2_d, Mi.sliK1_d, Mi.lcT_d, Mi.lcE_d, Mi.lcK_d, Mi.lrgK2_d, Mi.lrgK1_d, Mi.consK2_d, Mi.consK1_d, Mi.rng1K_d, Mi.rng2K2_d, Mi.rng2K1_d, Mi.zipO_d, Mi.zipK2_d, Mi.zipK1_d, Mi.enuK_d, Mi.sqK_d, Mi.setK_d, Mi.setTK_d, Mi.putK3_d, Mi.putK2_d, Mi.putK1_d, Mi.appK2_d, Mi.appK1_d, Mi.dropK_d, Mi.retK_d, Mi.iteS_t, Mi.iteS_f, Mi.forK_d, Mi.turnK2_d, Mi.turnK1_t, Mi.turnK1_f, Mi.whK_t, Mi.whK_f, Mi.lcB_nm, Mi.lcB_2, Mi.evE_var, Mi.evE_non, Mi.evE_bl, Mi.evE_int, Mi.evE_str, Mi.evE_gl, Mi.evE_bty, Mi.evE_bin, Mi.evE_neg, Mi.evE_not, Mi.evE_and, Mi.evE_or, Mi.evE_cmp, Mi.evE_chn, Mi.evE_ite, Mi.evE_tup, Mi.evE_lst, Mi.evE_cell, Mi.evE_call, Mi.callP_sto, Mi.evE_bi, Mi.evE_idx, Mi.evE_sli, Mi.evE_lc, Mi.evE_lrg, Mi.evE_lrd, Mi.evA_nil, Mi.evA_cons, Mi.evI_rng1, Mi.evI_rng2, Mi.evI_zip, Mi.evI_enu, Mi.evI_sq, Mi.tstR_false, Mi.tstR_true, Mi.optR_false, Mi.optR_true, Mi.oInt_int, Mi.isOmit_omit, Mi.evS_skip, Mi.evS_seq, Mi.evS_set, Mi.evS_setT, Mi.evS_put, Mi.evS_app, Mi.evS_drop, Mi.evS_ret, Mi.evS_ite, Mi.evS_for, Mi.evS_while, Mi.evS_raise, Mi.sto_some, Mi.sto_none, Mi.val_nx, Mi.val_rt, Mi.setTg_nm, Mi.setTg_nil, Mi.setTg_cons, Mi.wipe_nil, Mi.wipe_cons, Mi.forR_nil, Mi.truV_bl, Mi.truV_non, Mi.truV_int, Mi.add_ii, Mi.sub_ii, Mi.lt_ii, Mi.le_ii, Mi.gt_ii, Mi.ge_ii, Mi.isn_v, Mi.notn_v, Mi.isN_non, Mi.isN_int, Mi.isN_tup, Mi.isN_bl, Mi.isN_str, Mi.eq_ii, Mi.ne_ii, Mi.eq_ss, Mi.ne_ss, Mi.neg_i, Mi.walk_lst, Mi.walk_tup, Mi.walk_scr, Mi.len_tup, Mi.len_lst, Mi.len_scr, Mi.tuple_lst, Mi.tuple_tup, Mi.list_tup, Mi.list_lst, Mi.int_int, Mi.int_bl, Mi.abs_int, Mi.min_int, Mi.max_int, Mi.isi_def, Mi.sum_lst, Mi.all_lst, Mi.any_lst, Mi.ints_map, Mi.bools_map, R.bind_ok, R.bind_ex, R.bind_bad, R.lift_some, R.noEx_ok, List.getElem?_cons_zero, List.getElem?_cons_succ, Option.bind_some, Option.map_some, Option.bind_eq_bind, id_eq, List.set_cons_zero, List.set_cons_succ, if_true, if_false, Bool.false_eq_true, reduceIte, Bool.not_true, Bool.not_false, Ex.isOmit, e2, ad]
      exact e
  obtain ⟨_, st2, e2, r, rfl, r0, r1, u2⟩ := draw (N := N) (d := d + 2) s1 (m := (most : Int) + 1) (by omega) (by omega)
  obtain ⟨k, rfl⟩ : ∃ k : Nat, r = (k : Int) := ⟨r.toNat, by omega⟩
  have hs2 := u2.src s1
  obtain ⟨zs, v', st', e, l', z', u'⟩ := key (List.range k) [] none st2 hs2 (by rw [List.length_range]; simp; omega) (by simp)
  refine .eq (a := .tup (zs.map fV)) (st := st') ?_ ⟨zs, rfl, by rw [l', List.length_range]; simp; omega, z', u1.trans (u2.trans u')⟩
  simp (implicitDefEqProofs := false) only [Mi.seqK_nx, Mi.seqK_rt, Mi.andK_t, Mi.andK_f, Mi.orK_t, Mi.orK_f, Mi.forB_nm, Mi.forB_2, Mi.binK2_d, Mi.binK1_d, Mi.negK_d, Mi.truK_d, Mi.tstK_d, Mi.notK_d, Mi.cmpK2_d, Mi.cmpK1_d, Mi.chnK3_t, Mi.chnK3_f, Mi.chnK2_d, Mi.chnK1_d, Mi.iteK_t, Mi.iteK_f, Mi.tupK_d, Mi.lstK_d, Mi.cellK_d, Mi.callK_d, Mi.biK_d, Mi.idxK2_d, Mi.idxK1_d, Mi.sliK3_t, Mi.sliK3_l, Mi.oIntK_i, Mi.sliK2_d, Mi.sliK1_d, Mi.lcT_d, Mi.lcE_d, Mi.lcK_d, Mi.lrgK2_d, Mi.lrgK1_d, Mi.consK2_d, Mi.consK1_d, Mi.rng1K_d, Mi.rng2K2_d, Mi.rng2K1_d, Mi.zipO_d, Mi.zipK2_d, Mi.zipK1_d, Mi.enuK_d, Mi.sqK_d, Mi.setK_d, Mi.setTK_d, Mi.putK3_d, Mi.putK2_d, Mi.putK1_d, Mi.appK2_d, Mi.appK1_d, Mi.dropK_d, Mi.retK_d, Mi.iteS_t, Mi.iteS_f, Mi.forK_d, Mi.turnK2_d, Mi.turnK1_t, Mi.turnK1_f, Mi.whK_t, Mi.whK_f, Mi.lcB_nm, Mi.lcB_2, Mi.evE_var, Mi.evE_non, Mi.evE_bl, Mi.evE_int, Mi.evE_str, Mi.evE_gl, Mi.evE_bty, Mi.evE_bin, Mi.evE_neg, Mi.evE_not, Mi.evE_and, Mi.evE_or, Mi.evE_cmp, Mi.evE_chn, Mi.evE_ite, Mi.evE_tup, Mi.evE_lst, Mi.evE_cell, Mi.evE_call, Mi.callP_sto, Mi.evE_bi, Mi.evE_idx, Mi.evE_sli, Mi.evE_lc, Mi.evE_lrg, Mi.evE_lrd, Mi.evA_nil, Mi.evA_cons, Mi.evI_rng1, Mi.evI_rng2, Mi.evI_zip, Mi.evI_enu, Mi.evI_sq, Mi.tstR_false, Mi.tstR_true, Mi.optR_false, Mi.optR_true, Mi.oInt_int, Mi.isOmit_omit, Mi.evS_skip, Mi.evS_seq, Mi.evS_set, Mi.evS_setT, Mi.evS_put, Mi.evS_app, Mi.evS_drop, Mi.evS_ret, Mi.evS_ite, Mi.evS_for, Mi.evS_while, Mi.evS_raise, Mi.sto_some, Mi.sto_none, Mi.val_nx, Mi.val_rt, Mi.setTg_nm, Mi.setTg_nil, Mi.setTg_cons, Mi.wipe_nil, Mi.wipe_cons, Mi.forR_nil, Mi.truV_bl, Mi.truV_non, Mi.truV_int, Mi.add_ii, Mi.sub_ii, Mi.lt_ii, Mi.le_ii, Mi.gt_ii, Mi.ge_ii, Mi.isn_v, Mi.notn_v, Mi.isN_non, Mi.isN_int, Mi.isN_tup, Mi.isN_bl, Mi.isN_str, Mi.eq_ii, Mi.ne_ii, Mi.eq_ss, Mi.ne_ss, Mi.neg_i, Mi.walk_lst, Mi.walk_tup, Mi.walk_scr, Mi.len_tup, Mi.len_lst, Mi.len_scr, Mi.tuple_lst, Mi.tuple_tup, Mi.list_tup, Mi.list_lst, Mi.int_int, Mi.int_bl, Mi.abs_int, Mi.min_int, Mi.max_int, Mi.isi_def, Mi.sum_lst, Mi.all_lst, Mi.any_lst, Mi.ints_map, Mi.bools_map, R.bind_ok, R.bind_ex, R.bind_bad, R.lift_some, R.noEx_ok, List.getElem?_cons_zero, List.getElem?_cons_succ, Option.bind_some, Option.map_some, Option.bind_eq_bind, id_eq, List.set_cons_zero, List.set_cons_succ, if_true, if_false, Bool.false_eq_true, reduceIte, Bool.not_true, Bool.not_false, Ex.isOmit, b29, e1, e2, small_nat (n := k) (by omega), Int.toNat_natCast, rngL_nat]
  rw [show (PV.tup []) = PV.tup (([] : List Fct).map fV) from rfl, e]
  simp (implicitDefEqProofs := false) only [Mi.seqK_nx, Mi.seqK_rt, Mi.andK_t, Mi.andK_f, Mi.orK_t, Mi.orK_f, Mi.forB_nm, Mi.forB_2, Mi.binK2_d, Mi.binK1_d, Mi.negK_d, Mi.truK_d, Mi.tstK_d, Mi.notK_d, Mi.cmpK2_d, Mi.cmpK1_d, Mi.chnK3_t, Mi.chnK3_f, Mi.chnK2_d, Mi.chnK1_d, Mi.iteK_t, Mi.iteK_f, Mi.tupK_d, Mi.lstK_d, Mi.cellK_d, Mi.callK_d, Mi.biK_d, Mi.idxK2_d, Mi.idxK1_d, Mi.sliK3_t, Mi.sliK3_l, Mi.oIntK_i, Mi.sliK2_d, Mi.sliK1_d, Mi.lcT_d, Mi.lcE_d, Mi.lcK_d, Mi.lrgK2_d, Mi.lrgK1_d, Mi.consK2_d, Mi.consK1_d, Mi.rng1K_d, Mi.rng2K2_d, Mi.rng2K1_d, Mi.zipO_d, Mi.zipK2_d, Mi.zipK1_d, Mi.enuK_d, Mi.sqK_d, Mi.setK_d, Mi.setTK_d, Mi.putK3_d, Mi.putK2_d, Mi.putK1_d, Mi.appK2_d, Mi.appK1_d, Mi.dropK_d, Mi.retK_d, Mi.iteS_t, Mi.iteS_f, Mi.forK_d, Mi.turnK2_d, Mi.turnK1_t, Mi.turnK1_f, Mi.whK_t, Mi.whK_f, Mi.lcB_nm, Mi.lcB_2, Mi.evE_var, Mi.evE_non, Mi.evE_bl, Mi.evE_int, Mi.evE_str, Mi.evE_gl, Mi.evE_bty, Mi.evE_bin, Mi.evE_neg, Mi.evE_not, Mi.evE_and, Mi.evE_or, Mi.evE_cmp, Mi.evE_chn, Mi.evE_ite, Mi.evE_tup, Mi.evE_lst, Mi.evE_cell, Mi.evE_call, Mi.callP_sto, Mi.evE_bi, Mi.evE_idx, Mi.evE_sli, Mi.evE_lc, Mi.evE_lrg, Mi.evE_lrd, Mi.evA_nil, Mi.evA_cons, Mi.evI_rng1, Mi.evI_rng2, Mi.evI_zip, Mi.evI_enu, Mi.evI_sq, Mi.tstR_false, Mi.tstR_true, Mi.optR_false, Mi.optR_true, Mi.oInt_int, Mi.isOmit_omit, Mi.evS_skip, Mi.evS_seq, Mi.evS_set, Mi.evS_setT, Mi.evS_put, Mi.evS_app, Mi.evS_drop, Mi.evS_ret, Mi.evS_ite, Mi.evS_for, Mi.evS_while, Mi.evS_raise, Mi.sto_some, Mi.sto_none, Mi.val_nx, Mi.val_rt, Mi.setTg_nm, Mi.setTg_nil, Mi.setTg_cons, Mi.wipe_nil, Mi.wipe_cons, Mi.forR_nil, Mi.truV_bl, Mi.truV_non, Mi.truV_int, Mi.add_ii, Mi.sub_ii, Mi.lt_ii, Mi.le_ii, Mi.gt_ii, Mi.ge_ii, Mi.isn_v, Mi.notn_v, Mi.isN_non, Mi.isN_int, Mi.isN_tup, Mi.isN_bl, Mi.isN_str, Mi.eq_ii, Mi.ne_ii, Mi.eq_ss, Mi.ne_ss, Mi.neg_i, Mi.walk_lst, Mi.walk_tup, Mi.walk_scr, Mi.len_tup, Mi.len_lst, Mi.len_scr, Mi.tuple_lst, Mi.tuple_tup, Mi.list_tup, Mi.list_lst, Mi.int_int, Mi.int_bl, Mi.abs_int, Mi.min_int, Mi.max_int, Mi.isi_def, Mi.sum_lst, Mi.all_lst, Mi.any_lst, Mi.ints_map, Mi.bools_map, R.bind_ok, R.bind_ex, R.bind_bad, R.lift_some, R.noEx_ok, List.getElem?_cons_zero, List.getElem?_cons_succ, Option.bind_some, Option.map_some, Option.bind_eq_bind, id_eq, List.set_cons_zero, List.set_cons_succ, if_true, if_false, Bool.false_eq_true, reduceIte, Bool.not_true, Bool.not_false, Ex.isOmit]

theorem law_odd {c : Nat} {st : Sto} (h : SrcAt c st) : Ok (RU N (d + 3) 38 [.cel c] st) fun v st' => vB 2 1 v = true ∧ UpdS c st st' := by
  rw [RU, u38]
  have pw : ∀ st : Sto, binV st .Pow (.int 10) (.int 13) = some (.int 10000000000000) := fun _ => rfl
  obtain ⟨v, st1, e, hv, u⟩ := law_of (N := N) (d := d) (xs := [.non, .bl true, .bl false, .int 0, .int 1, .int 3, .int 4, .int 6, .int 7, .int (-1), .str ("" : Str), .str ("more" : Str), .str ("left" : Str), .str ("take" : Str), .str ("push" : Str), .tup [], .lst [], .tup [.int 0], .tup [.int 1, .int 0],
    .tup [.int 0, .int 1], .tup [.int 2, .int 2], .tup [.str ("left" : Str), .int 0], .tup [.str ("right" : Str), .bl true], .int 10000000000000, .str ("atleast" : Str)]) h (by simp) (by simp)
  refine .eq (a := v) (st := st1) ?_ ⟨?_, u⟩
  · have ad : ∀ (st : Sto) (xs ys : List PV), xs.length + ys.length ≤ 1000 → binV st .Add (.lst xs) (.lst ys) = some (.lst (xs ++ ys)) := fun st xs ys h => addL (Nat.le_trans h big_lt)
    simp (implicitDefEqProofs := false) only [Mi.seqK_nx, Mi.seqK_rt, Mi.andK_t, Mi.andK_f, Mi.orK_t, Mi.orK_f, Mi.forB_nm, Mi.forB_2, Mi.binK2_d, Mi.binK1_d, Mi.negK_d, Mi.truK_d, Mi.tstK_d, Mi.notK_d, Mi.cmpK2_d, Mi.cmpK1_d, Mi.chnK3_t, Mi.chnK3_f, Mi.chnK2_d, Mi.chnK1_d, Mi.iteK_t, Mi.iteK_f, Mi.tupK_d, Mi.lstK_d, Mi.cellK_d, Mi.callK_d, Mi.biK_d, Mi.idxK2_d, Mi.idxK1_d, Mi.sliK3_t, Mi.sliK3_l, Mi.oIntK_i, Mi.sliK2_d, Mi.sliK1_d, Mi.lcT_d, Mi.lcE_d, Mi.lcK_d, Mi.lrgK2_d, Mi.lrgK1_d, Mi.consK2_d, Mi.consK1_d, Mi.rng1K_d, Mi.rng2K2_d, Mi.rng2K1_d, Mi.zipO_d, Mi.zipK2_d, Mi.zipK1_d, Mi.enuK_d, Mi.sqK_d, Mi.setK_d, Mi.setTK_d, Mi.putK3_d, Mi.putK2_d, Mi.putK1_d, Mi.appK2_d, Mi.appK1_d, Mi.dropK_d, Mi.retK_d, Mi.iteS_t, Mi.iteS_f, Mi.forK_d, Mi.turnK2_d, Mi.turnK1_t, Mi.turnK1_f, Mi.whK_t, Mi.whK_f, Mi.lcB_nm, Mi.lcB_2, Mi.evE_var, Mi.evE_non, Mi.evE_bl, Mi.evE_int, Mi.evE_str, Mi.evE_gl, Mi.evE_bty, Mi.evE_bin, Mi.evE_neg, Mi.evE_not, Mi.evE_and, Mi.evE_or, Mi.evE_cmp, Mi.evE_chn, Mi.evE_ite, Mi.evE_tup, Mi.evE_lst, Mi.evE_cell, Mi.evE_call, Mi.callP_sto, Mi.evE_bi, Mi.evE_idx, Mi.evE_sli, Mi.evE_lc, Mi.evE_lrg, Mi.evE_lrd, Mi.evA_nil, Mi.evA_cons, Mi.evI_rng1, Mi.evI_rng2, Mi.evI_zip, Mi.evI_enu, Mi.evI_sq, Mi.tstR_false, Mi.tstR_true, Mi.optR_false, Mi.optR_true, Mi.oInt_int, Mi.isOmit_omit, Mi.evS_skip, Mi.evS_seq, Mi.evS_set, Mi.evS_setT, Mi.evS_put, Mi.evS_app, Mi.evS_drop, Mi.evS_ret, Mi.evS_ite, Mi.evS_for, Mi.evS_while, Mi.evS_raise, Mi.sto_some, Mi.sto_none, Mi.val_nx, Mi.val_rt, Mi.setTg_nm, Mi.setTg_nil, Mi.setTg_cons, Mi.wipe_nil, Mi.wipe_cons, Mi.forR_nil, Mi.truV_bl, Mi.truV_non, Mi.truV_int, Mi.add_ii, Mi.sub_ii, Mi.lt_ii, Mi.le_ii, Mi.gt_ii, Mi.ge_ii, Mi.isn_v, Mi.notn_v, Mi.isN_non, Mi.isN_int, Mi.isN_tup, Mi.isN_bl, Mi.isN_str, Mi.eq_ii, Mi.ne_ii, Mi.eq_ss, Mi.ne_ss, Mi.neg_i, Mi.walk_lst, Mi.walk_tup, Mi.walk_scr, Mi.len_tup, Mi.len_lst, Mi.len_scr, Mi.tuple_lst, Mi.tuple_tup, Mi.list_tup, Mi.list_lst, Mi.int_int, Mi.int_bl, Mi.abs_int, Mi.min_int, Mi.max_int, Mi.isi_def, Mi.sum_lst, Mi.all_lst, Mi.any_lst, Mi.ints_map, Mi.bools_map, R.bind_ok, R.bind_ex, R.bind_bad, R.lift_some, R.noEx_ok, List.getElem?_cons_zero, List.getElem?_cons_succ, Option.bind_some, Option.map_some, Option.bind_eq_bind, id_eq, List.set_cons_zero, List.set_cons_succ, if_true, if_false, Bool.false_eq_true, reduceIte, Bool.not_true, Bool.not_false, Ex.isOmit, b38, pw]
    rw [ad st _ _ (by decide)]
    simp (implicitDefEqProofs := false) only [Mi.seqK_nx, Mi.seqK_rt, Mi.andK_t, Mi.andK_f, Mi.orK_t, Mi.orK_f, Mi.forB_nm, Mi.forB_2, Mi.binK2_d, Mi.binK1_d, Mi.negK_d, Mi.truK_d, Mi.tstK_d, Mi.notK_d, Mi.cmpK2_d, Mi.cmpK1_d, Mi.chnK3_t, Mi.chnK3_f, Mi.chnK2_d, Mi.chnK1_d, Mi.iteK_t, Mi.iteK_f, Mi.tupK_d, Mi.lstK_d, Mi.cellK_d, Mi.callK_d, Mi.biK_d, Mi.idxK2_d, Mi.idxK1_d, Mi.sliK3_t, Mi.sliK3_l, Mi.oIntK_i, Mi.sliK2_d, Mi.sliK1_d, Mi.lcT_d, Mi.lcE_d, Mi.lcK_d, Mi.lrgK2_d, Mi.lrgK1_d, Mi.consK2_d, Mi.consK1_d, Mi.rng1K_d, Mi.rng2K2_d, Mi.rng2K1_d, Mi.zipO_d, Mi.zipK2_d, Mi.zipK1_d, Mi.enuK_d, Mi.sqK_d, Mi.setK_d, Mi.setTK_d, Mi.putK3_d, Mi.putK2_d, Mi.putK1_d, Mi.appK2_d, Mi.appK1_d, Mi.dropK_d, Mi.retK_d, Mi.iteS_t, Mi.iteS_f, Mi.forK_d, Mi.turnK2_d, Mi.turnK1_t, Mi.turnK1_f, Mi.whK_t, Mi.whK_f, Mi.lcB_nm, Mi.lcB_2, Mi.evE_var, Mi.evE_non, Mi.evE_bl, Mi.evE_int, Mi.evE_str, Mi.evE_gl, Mi.evE_bty, Mi.evE_bin, Mi.evE_neg, Mi.evE_not, Mi.evE_and, Mi.evE_or, Mi.evE_cmp, Mi.evE_chn, Mi.evE_ite, Mi.evE_tup, Mi.evE_lst, Mi.evE_cell, Mi.evE_call, Mi.callP_sto, Mi.evE_bi, Mi.evE_idx, Mi.evE_sli, Mi.evE_lc, Mi.evE_lrg, Mi.evE_lrd, Mi.evA_nil, Mi.evA_cons, Mi.evI_rng1, Mi.evI_rng2, Mi.evI_zip, Mi.evI_enu, Mi.evI_sq, Mi.tstR_false, Mi.tstR_true, Mi.optR_false, Mi.optR_true, Mi.oInt_int, Mi.isOmit_omit, Mi.evS_skip, Mi.evS_seq, Mi.evS_set, Mi.evS_setT, Mi.evS_put, Mi.evS_app, Mi.evS_drop, Mi.evS_ret, Mi.evS_ite, Mi.evS_for, Mi.evS_while, Mi.evS_raise, Mi.sto_some, Mi.sto_none, Mi.val_nx, Mi.val_rt, Mi.setTg_nm, Mi.setTg_nil, Mi.setTg_cons, Mi.wipe_nil, Mi.wipe_cons, Mi.forR_nil, Mi.truV_bl, Mi.truV_non, Mi.truV_int, Mi.add_ii, Mi.sub_ii, Mi.lt_ii, Mi.le_ii, Mi.gt_ii, Mi.ge_ii, Mi.isn_v, Mi.notn_v, Mi.isN_non, Mi.isN_int, Mi.isN_tup, Mi.isN_bl, Mi.isN_str, Mi.eq_ii, Mi.ne_ii, Mi.eq_ss, Mi.ne_ss, Mi.neg_i, Mi.walk_lst, Mi.walk_tup, Mi.walk_scr, Mi.len_tup, Mi.len_lst, Mi.len_scr, Mi.tuple_lst, Mi.tuple_tup, Mi.list_tup, Mi.list_lst, Mi.int_int, Mi.int_bl, Mi.abs_int, Mi.min_int, Mi.max_int, Mi.isi_def, Mi.sum_lst, Mi.all_lst, Mi.any_lst, Mi.ints_map, Mi.bools_map, R.bind_ok, R.bind_ex, R.bind_bad, R.lift_some, R.noEx_ok, List.getElem?_cons_zero, List.getElem?_cons_succ, Option.bind_some, Option.map_some, Option.bind_eq_bind, id_eq, List.set_cons_zero, List.set_cons_succ, if_true, if_false, Bool.false_eq_true, reduceIte, Bool.not_true, Bool.not_false, Ex.isOmit, List.cons_append, List.nil_append, e]
  · have al : ([.non, .bl true, .bl false, .int 0, .int 1, .int 3, .int 4, .int 6, .int 7, .int (-1), .str ("" : Str), .str ("more" : Str), .str ("left" : Str), .str ("take" : Str), .str ("push" : Str), .tup [], .lst [], .tup [.int 0], .tup [.int 1, .int 0],
      .tup [.int 0, .int 1], .tup [.int 2, .int 2], .tup [.str ("left" : Str), .int 0], .tup [.str ("right" : Str), .bl true], .int 10000000000000, .str ("atleast" : Str)] : List PV).all (vB 2 1) = true := rfl
    exact List.all_eq_true.mp al v hv
theorem eq_nilT {xs : List PV} (h : dats xs = true) : cmpV st .Eq (.tup xs) (.tup []) = some xs.isEmpty := by
  show eqV st (.tup xs) (.tup []) = _
  show (if (PV.tup xs).dat && (true && (decide ((PV.tup xs).dep ≤ 60) || decide ((PV.tup []).dep ≤ 60))) then some ((PV.tup xs).eqv (.tup [])) else none) = _
  have h1 : (PV.tup xs).dat = true := h
  rw [h1, decide_eq_true (show (PV.tup []).dep ≤ 60 by decide), Bool.or_true]
  cases xs <;> rfl
theorem cut_take1 {α : Type} (xs : List α) (k : Nat) (h : k < xs.length) : cutG xs none (some ((k : Int) + 1)) = xs.take (k + 1) := cut_take xs (k + 1) h
theorem cut_drop1 {α : Type} (xs : List α) (k : Nat) (h : k < xs.length) : cutG xs (some ((k : Int) + 1)) none = xs.drop (k + 1) := cut_drop xs (k + 1) h
theorem vB_app {L n : Nat} {xs ys : List PV} (h1 : xs.all (vB L n) = true) (h2 : ys.all (vB L n) = true) : (xs ++ ys).all (vB L n) = true := by
  rw [List.all_append, h1, h2]; rfl
def intQ : PV → Bool
  | .int _ => true
  | .bl _ => true
  | _ => false
theorem isi_intQ {v : PV} (h : sh1 v = true) : isiV v "int" = some (intQ v) := by cases v <;> first | rfl | cases h
theorem law_spoilt {c : Nat} : ∀ (n L : Nat) (v : PV) (st : Sto), SrcAt c st → vB L n v = true → 2 ≤ L → L ≤ 50 → Ok (RU N (d + n + 4) 39 [.cel c, v] st) fun v' st' => vB (L + 1) (n + 1) v' = true ∧ UpdS c st st' := by
  intro n
  induction n with
  | zero =>
    intro L v st hs hv h2 h5
    obtain ⟨w, st1, e, hw, u⟩ := law_odd (N := N) (d := d) hs
    refine .eq (a := w) (st := st1) ?_ ⟨vB_mono (by omega) (by omega) hw, u⟩
    have e2 : isiV v "tuple" = some false := by cases v <;> first | rfl | cases hv
    rw [show d + 0 + 4 = (d + 3) + 1 from rfl, RU, u39]
    simp (implicitDefEqProofs := false) only [Mi.seqK_nx, Mi.seqK_rt, Mi.andK_t, Mi.andK_f, Mi.orK_t, Mi.orK_f, Mi.forB_nm, Mi.forB_2, Mi.binK2_d, Mi.binK1_d, Mi.negK_d, Mi.truK_d, Mi.tstK_d, Mi.notK_d, Mi.cmpK2_d, Mi.cmpK1_d, Mi.chnK3_t, Mi.chnK3_f, Mi.chnK2_d, Mi.chnK1_d, Mi.iteK_t, Mi.iteK_f, Mi.tupK_d, Mi.lstK_d, Mi.cellK_d, Mi.callK_d, Mi.biK_d, Mi.idxK2_d, Mi.idxK1_d, Mi.sliK3_t, Mi.sliK3_l, Mi.oIntK_i, Mi.sliK2_d, Mi.sliK1_d, Mi.lcT_d, Mi.lcE_d, Mi.lcK_d, Mi.lrgK2_d, Mi.lrgK1_d, Mi.consK2_d, Mi.consK1_d, Mi.rng1K_d, Mi.rng2K2_d, Mi.rng2K1_d, Mi.zipO_d, Mi.zipK2_d, Mi.zipK1_d, Mi.enuK_d, Mi.sqK_d, Mi.setK_d, Mi.setTK_d, Mi.putK3_d, Mi.putK2_d, Mi.putK1_d, Mi.appK2_d, Mi.appK1_d, Mi.dropK_d, Mi.retK_d, Mi.iteS_t, Mi.iteS_f, Mi.forK_d, Mi.turnK2_d, Mi.turnK1_t, Mi.turnK1_f, Mi.whK_t, Mi.whK_f, Mi.lcB_nm, Mi.lcB_2, Mi.evE_var, Mi.evE_non, Mi.evE_bl, Mi.evE_int, Mi.evE_str, Mi.evE_gl, Mi.evE_bty, Mi.evE_bin, Mi.evE_neg, Mi.evE_not, Mi.evE_and, Mi.evE_or, Mi.evE_cmp, Mi.evE_chn, Mi.evE_ite, Mi.evE_tup, Mi.evE_lst, Mi.evE_cell, Mi.evE_call, Mi.callP_sto, Mi.evE_bi, Mi.evE_idx, Mi.evE_sli, Mi.evE_lc, Mi.evE_lrg, Mi.evE_lrd, Mi.evA_nil, Mi.evA_cons, Mi.evI_rng1, Mi.evI_rng2, Mi.evI_zip, Mi.evI_enu, Mi.evI_sq, Mi.tstR_false, Mi.tstR_true, Mi.optR_false, Mi.optR_true, Mi.oInt_int, Mi.isOmit_omit, Mi.evS_skip, Mi.evS_seq, Mi.evS_set, Mi.evS_setT, Mi.evS_put, Mi.evS_app, Mi.evS_drop, Mi.evS_ret, Mi.evS_ite, Mi.evS_for, Mi.evS_while, Mi.evS_raise, Mi.sto_some, Mi.sto_none, Mi.val_nx, Mi.val_rt, Mi.setTg_nm, Mi.setTg_nil, Mi.setTg_cons, Mi.wipe_nil, Mi.wipe_cons, Mi.forR_nil, Mi.truV_bl, Mi.truV_non, Mi.truV_int, Mi.add_ii, Mi.sub_ii, Mi.lt_ii, Mi.le_ii, Mi.gt_ii, Mi.ge_ii, Mi.isn_v, Mi.notn_v, Mi.isN_non, Mi.isN_int, Mi.isN_tup, Mi.isN_bl, Mi.isN_str, Mi.eq_ii, Mi.ne_ii, Mi.eq_ss, Mi.ne_ss, Mi.neg_i, Mi.walk_lst, Mi.walk_tup, Mi.walk_scr, Mi.len_tup, Mi.len_lst, Mi.len_scr, Mi.tuple_lst, Mi.tuple_tup, Mi.list_tup, Mi.list_lst, Mi.int_int, Mi.int_bl, Mi.abs_int, Mi.min_int, Mi.max_int, Mi.isi_def, Mi.sum_lst, Mi.all_lst, Mi.any_lst, Mi.ints_map, Mi.bools_map, R.bind_ok, R.bind_ex, R.bind_bad, R.lift_some, R.noEx_ok, List.getElem?_cons_zero, List.getElem?_cons_succ, Option.bind_some, Option.map_some, Option.bind_eq_bind, id_eq, List.set_cons_zero, List.set_cons_succ, if_true, if_false, Bool.false_eq_true, reduceIte, Bool.not_true, Bool.not_false, Ex.isOmit, b39, e2, e]
  | succ n ih =>
    intro L v st hs hv h2 h5
    have hbig := big_lt
    rw [show d + (n + 1) + 4 = (d + n + 4) + 1 by omega, RU, u39]
    have odd : ∀ st : Sto, SrcAt c st → Ok (RU N (d + n + 4) 38 [.cel c] st) fun v' st' => (∀ k, vB (L + 1) (k + 1) v' = true) ∧ UpdS c st st' := by
      intro st hs
      obtain ⟨w, st1, e, hw, u⟩ := law_odd (N := N) (d := d + n + 1) hs
      exact .eq (a := w) (st := st1) e ⟨fun k => vB_mono (by omega) (by omega) hw, u⟩
    by_cases q : ∃ xs, v = .tup xs
    · obtain ⟨xs, rfl⟩ := q
      have e2 : isiV (.tup xs) "tuple" = some true := rfl
      have e3 := eq_nilT (st := st) (show dats xs = true from vB_dat hv)
      obtain ⟨hl, hx⟩ := Bool.and_eq_true_iff.mp (show (decide (xs.length ≤ L) && xs.all (vB L n)) = true from hv)
      have hl := of_decide_eq_true hl
      have hx' : xs.all (vB (L + 1) (n + 1)) = true := vB_up hx
      by_cases q0 : xs = []
      · obtain ⟨w, st1, e, hw, u⟩ := odd st hs
        refine .eq (a := w) (st := st1) ?_ ⟨hw _, u⟩
        subst q0
        simp (implicitDefEqProofs := false) only [Mi.seqK_nx, Mi.seqK_rt, Mi.andK_t, Mi.andK_f, Mi.orK_t, Mi.orK_f, Mi.forB_nm, Mi.forB_2, Mi.binK2_d, Mi.binK1_d, Mi.negK_d, Mi.truK_d, Mi.tstK_d, Mi.notK_d, Mi.cmpK2_d, Mi.cmpK1_d, Mi.chnK3_t, Mi.chnK3_f, Mi.chnK2_d, Mi.chnK1_d, Mi.iteK_t, Mi.iteK_f, Mi.tupK_d, Mi.lstK_d, Mi.cellK_d, Mi.callK_d, Mi.biK_d, Mi.idxK2_d, Mi.idxK1_d, Mi.sliK3_t, Mi.sliK3_l, Mi.oIntK_i, Mi.sliK2_d, Mi.sliK1_d, Mi.lcT_d, Mi.lcE_d, Mi.lcK_d, Mi.lrgK2_d, Mi.lrgK1_d, Mi.consK2_d, Mi.consK1_d, Mi.rng1K_d, Mi.rng2K2_d, Mi.rng2K1_d, Mi.zipO_d, Mi.zipK2_d, Mi.zipK1_d, Mi.enuK_d, Mi.sqK_d, Mi.setK_d, Mi.setTK_d, Mi.putK3_d, Mi.putK2_d, Mi.putK1_d, Mi.appK2_d, Mi.appK1_d, Mi.dropK_d, Mi.retK_d, Mi.iteS_t, Mi.iteS_f, Mi.forK_d, Mi.turnK2_d, Mi.turnK1_t, Mi.turnK1_f, Mi.whK_t, Mi.whK_f, Mi.lcB_nm, Mi.lcB_2, Mi.evE_var, Mi.evE_non, Mi.evE_bl, Mi.evE_int, Mi.evE_str, Mi.evE_gl, Mi.evE_bty, Mi.evE_bin, Mi.evE_neg, Mi.evE_not, Mi.evE_and, Mi.evE_or, Mi.evE_cmp, Mi.evE_chn, Mi.evE_ite, Mi.evE_tup, Mi.evE_lst, Mi.evE_cell, Mi.evE_call, Mi.callP_sto, Mi.evE_bi, Mi.evE_idx, Mi.evE_sli, Mi.evE_lc, Mi.evE_lrg, Mi.evE_lrd, Mi.evA_nil, Mi.evA_cons, Mi.evI_rng1, Mi.evI_rng2, Mi.evI_zip, Mi.evI_enu, Mi.evI_sq, Mi.tstR_false, Mi.tstR_true, Mi.optR_false, Mi.optR_true, Mi.oInt_int, Mi.isOmit_omit, Mi.evS_skip, Mi.evS_seq, Mi.evS_set, Mi.evS_setT, Mi.evS_put, Mi.evS_app, Mi.evS_drop, Mi.evS_ret, Mi.evS_ite, Mi.evS_for, Mi.evS_while, Mi.evS_raise, Mi.sto_some, Mi.sto_none, Mi.val_nx, Mi.val_rt, Mi.setTg_nm, Mi.setTg_nil, Mi.setTg_cons, Mi.wipe_nil, Mi.wipe_cons, Mi.forR_nil, Mi.truV_bl, Mi.truV_non, Mi.truV_int, Mi.add_ii, Mi.sub_ii, Mi.lt_ii, Mi.le_ii, Mi.gt_ii, Mi.ge_ii, Mi.isn_v, Mi.notn_v, Mi.isN_non, Mi.isN_int, Mi.isN_tup, Mi.isN_bl, Mi.isN_str, Mi.eq_ii, Mi.ne_ii, Mi.eq_ss, Mi.ne_ss, Mi.neg_i, Mi.walk_lst, Mi.walk_tup, Mi.walk_scr, Mi.len_tup, Mi.len_lst, Mi.len_scr, Mi.tuple_lst, Mi.tuple_tup, Mi.list_tup, Mi.list_lst, Mi.int_int, Mi.int_bl, Mi.abs_int, Mi.min_int, Mi.max_int, Mi.isi_def, Mi.sum_lst, Mi.all_lst, Mi.any_lst, Mi.ints_map, Mi.bools_map, R.bind_ok, R.bind_ex, R.bind_bad, R.lift_some, R.noEx_ok, List.getElem?_cons_zero, List.getElem?_cons_succ, Option.bind_some, Option.map_some, Option.bind_eq_bind, id_eq, List.set_cons_zero, List.set_cons_succ, if_true, if_false, Bool.false_eq_true, reduceIte, Bool.not_true, Bool.not_false, Ex.isOmit, b39, e2, e3, List.isEmpty_nil, e]
      · have hn : xs.isEmpty = false := by cases xs <;> first | rfl | exact absurd rfl q0
        have hp : 0 < xs.length := List.length_pos_iff.mpr q0
        obtain ⟨_, st1, e4, r, rfl, r0, r1, u1⟩ := draw (N := N) (d := d + n + 3) hs (m := 6) (by decide) (by decide)
        have s1 := u1.src hs
        by_cases qr : r = 0
        · subst qr
          obtain ⟨w, st2, e, hw, u⟩ := odd st1 s1
          refine .eq (a := w) (st := st2) ?_ ⟨hw _, u1.trans u⟩
          simp (implicitDefEqProofs := false) only [Mi.seqK_nx, Mi.seqK_rt, Mi.andK_t, Mi.andK_f, Mi.orK_t, Mi.orK_f, Mi.forB_nm, Mi.forB_2, Mi.binK2_d, Mi.binK1_d, Mi.negK_d, Mi.truK_d, Mi.tstK_d, Mi.notK_d, Mi.cmpK2_d, Mi.cmpK1_d, Mi.chnK3_t, Mi.chnK3_f, Mi.chnK2_d, Mi.chnK1_d, Mi.iteK_t, Mi.iteK_f, Mi.tupK_d, Mi.lstK_d, Mi.cellK_d, Mi.callK_d, Mi.biK_d, Mi.idxK2_d, Mi.idxK1_d, Mi.sliK3_t, Mi.sliK3_l, Mi.oIntK_i, Mi.sliK2_d, Mi.sliK1_d, Mi.lcT_d, Mi.lcE_d, Mi.lcK_d, Mi.lrgK2_d, Mi.lrgK1_d, Mi.consK2_d, Mi.consK1_d, Mi.rng1K_d, Mi.rng2K2_d, Mi.rng2K1_d, Mi.zipO_d, Mi.zipK2_d, Mi.zipK1_d, Mi.enuK_d, Mi.sqK_d, Mi.setK_d, Mi.setTK_d, Mi.putK3_d, Mi.putK2_d, Mi.putK1_d, Mi.appK2_d, Mi.appK1_d, Mi.dropK_d, Mi.retK_d, Mi.iteS_t, Mi.iteS_f, Mi.forK_d, Mi.turnK2_d, Mi.turnK1_t, Mi.turnK1_f, Mi.whK_t, Mi.whK_f, Mi.lcB_nm, Mi.lcB_2, Mi.evE_var, Mi.evE_non, Mi.evE_bl, Mi.evE_int, Mi.evE_str, Mi.evE_gl, Mi.evE_bty, Mi.evE_bin, Mi.evE_neg, Mi.evE_not, Mi.evE_and, Mi.evE_or, Mi.evE_cmp, Mi.evE_chn, Mi.evE_ite, Mi.evE_tup, Mi.evE_lst, Mi.evE_cell, Mi.evE_call, Mi.callP_sto, Mi.evE_bi, Mi.evE_idx, Mi.evE_sli, Mi.evE_lc, Mi.evE_lrg, Mi.evE_lrd, Mi.evA_nil, Mi.evA_cons, Mi.evI_rng1, Mi.evI_rng2, Mi.evI_zip, Mi.evI_enu, Mi.evI_sq, Mi.tstR_false, Mi.tstR_true, Mi.optR_false, Mi.optR_true, Mi.oInt_int, Mi.isOmit_omit, Mi.evS_skip, Mi.evS_seq, Mi.evS_set, Mi.evS_setT, Mi.evS_put, Mi.evS_app, Mi.evS_drop, Mi.evS_ret, Mi.evS_ite, Mi.evS_for, Mi.evS_while, Mi.evS_raise, Mi.sto_some, Mi.sto_none, Mi.val_nx, Mi.val_rt, Mi.setTg_nm, Mi.setTg_nil, Mi.setTg_cons, Mi.wipe_nil, Mi.wipe_cons, Mi.forR_nil, Mi.truV_bl, Mi.truV_non, Mi.truV_int, Mi.add_ii, Mi.sub_ii, Mi.lt_ii, Mi.le_ii, Mi.gt_ii, Mi.ge_ii, Mi.isn_v, Mi.notn_v, Mi.isN_non, Mi.isN_int, Mi.isN_tup, Mi.isN_bl, Mi.isN_str, Mi.eq_ii, Mi.ne_ii, Mi.eq_ss, Mi.ne_ss, Mi.neg_i, Mi.walk_lst, Mi.walk_tup, Mi.walk_scr, Mi.len_tup, Mi.len_lst, Mi.len_scr, Mi.tuple_lst, Mi.tuple_tup, Mi.list_tup, Mi.list_lst, Mi.int_int, Mi.int_bl, Mi.abs_int, Mi.min_int, Mi.max_int, Mi.isi_def, Mi.sum_lst, Mi.all_lst, Mi.any_lst, Mi.ints_map, Mi.bools_map, R.bind_ok, R.bind_ex, R.bind_bad, R.lift_some, R.noEx_ok, List.getElem?_cons_zero, List.getElem?_cons_succ, Option.bind_some, Option.map_some, Option.bind_eq_bind, id_eq, List.set_cons_zero, List.set_cons_succ, if_true, if_false, Bool.false_eq_true, reduceIte, Bool.not_true, Bool.not_false, Ex.isOmit, b39, e2, e3, hn, e4, show ((0 : Int) == 0) = true from rfl, e]
        · have qr2 : (r == 0) = false := by rw [beq_eq_false_iff_ne]; exact qr
          obtain ⟨_, st2, e5, a, rfl, a0, a1, u2⟩ := draw (N := N) (d := d + n + 3) s1 (m := (xs.length : Int)) (by omega) (by omega)
          have s2 := u2.src s1
          obtain ⟨k, rfl⟩ : ∃ k : Nat, a = (k : Int) := ⟨a.toNat, by omega⟩
          have hk : k < xs.length := by omega
          obtain ⟨_, st3, e6, m, rfl, m0, m1, u3⟩ := draw (N := N) (d := d + n + 3) s2 (m := 9) (by decide) (by decide)
          have s3 := u3.src s2
          have u13 := u1.trans (u2.trans u3)
          have lt := List.length_take_le k xs
          have ld : (xs.drop (k + 1)).length = xs.length - (k + 1) := List.length_drop
          have ltk : (xs.take k).length = k := by rw [List.length_take]; omega
          have ltk1 : (xs.take (k + 1)).length = k + 1 := by rw [List.length_take]; omega
          have ldk : (xs.drop k).length = xs.length - k := List.length_drop
          -- one item put between
          have mid : ∀ (y : PV) (st : Sto), vB (L + 1) (n + 1) y = true → (∀ z : List PV, z = xs.drop k ∨ z = xs.drop (k + 1) → binV st .Add (.tup (xs.take k)) (.tup [y]) = some (.tup (xs.take k ++ [y])) ∧ binV st .Add (.tup (xs.take k ++ [y])) (.tup z) = some (.tup (xs.take k ++ [y] ++ z)) ∧ vB (L + 1) (n + 2) (.tup (xs.take k ++ [y] ++ z)) = true) := by
            intro y st hy z hz
            have lz : z.length ≤ xs.length - k := by rcases hz with rfl | rfl <;> omega
            have az : z.all (vB (L + 1) (n + 1)) = true := by rcases hz with rfl | rfl <;> exact vB_drop hx' _
            refine ⟨addT (by rw [List.length_singleton]; omega), addT (by rw [List.length_append, List.length_singleton]; omega), vB_tup (by rw [List.length_append, List.length_append, List.length_singleton]; omega) (vB_app (vB_app (vB_take hx' _) (by rw [List.all_cons, hy]; rfl)) az)⟩
          have pre : ∀ (P : PV → Sto → Prop) (r : Sm), b39 = .seq (match b39 with | .seq a _ => a | _ => .skip) (.seq (match b39 with | .seq _ (.seq a _) => a | _ => .skip) r) → Ok ((evS G (RU N (d + n + 4)) N r [some (.cel c), some (.tup xs), some (.int (k : Nat)), some (.int m)] st3).bind Fl.val) P → Ok ((evS G (RU N (d + n + 4)) N b39 [some (.cel c), some (.tup xs), none, none] st).bind Fl.val) P := by
            intro P r hr ho
            obtain ⟨w, st4, e, hw⟩ := ho
            refine .eq (a := w) (st := st4) ?_ hw
            rw [hr]
            simp (implicitDefEqProofs := false) only [Mi.seqK_nx, Mi.seqK_rt, Mi.andK_t, Mi.andK_f, Mi.orK_t, Mi.orK_f, Mi.forB_nm, Mi.forB_2, Mi.binK2_d, Mi.binK1_d, Mi.negK_d, Mi.truK_d, Mi.tstK_d, Mi.notK_d, Mi.cmpK2_d, Mi.cmpK1_d, Mi.chnK3_t, Mi.chnK3_f, Mi.chnK2_d, Mi.chnK1_d, Mi.iteK_t, Mi.iteK_f, Mi.tupK_d, Mi.lstK_d, Mi.cellK_d, Mi.callK_d, Mi.biK_d, Mi.idxK2_d, Mi.idxK1_d, Mi.sliK3_t, Mi.sliK3_l, Mi.oIntK_i, Mi.sliK2_d, Mi.sliK1_d, Mi.lcT_d, Mi.lcE_d, Mi.lcK_d, Mi.lrgK2_d, Mi.lrgK1_d, Mi.consK2_d, Mi.consK1_d, Mi.rng1K_d, Mi.rng2K2_d, Mi.rng2K1_d, Mi.zipO_d, Mi.zipK2_d, Mi.zipK1_d, Mi.enuK_d, Mi.sqK_d, Mi.setK_d, Mi.setTK_d, Mi.putK3_d, Mi.putK2_d, Mi.putK1_d, Mi.appK2_d, Mi.appK1_d, Mi.dropK_d, Mi.retK_d, Mi.iteS_t, Mi.iteS_f, Mi.forK_d, Mi.turnK2_d, Mi.turnK1_t, Mi.turnK1_f, Mi.whK_t, Mi.whK_f, Mi.lcB_nm, Mi.lcB_2, Mi.evE_var, Mi.evE_non, Mi.evE_bl, Mi.evE_int, Mi.evE_str, Mi.evE_gl, Mi.evE_bty, Mi.evE_bin, Mi.evE_neg, Mi.evE_not, Mi.evE_and, Mi.evE_or, Mi.evE_cmp, Mi.evE_chn, Mi.evE_ite, Mi.evE_tup, Mi.evE_lst, Mi.evE_cell, Mi.evE_call, Mi.callP_sto, Mi.evE_bi, Mi.evE_idx, Mi.evE_sli, Mi.evE_lc, Mi.evE_lrg, Mi.evE_lrd, Mi.evA_nil, Mi.evA_cons, Mi.evI_rng1, Mi.evI_rng2, Mi.evI_zip, Mi.evI_enu, Mi.evI_sq, Mi.tstR_false, Mi.tstR_true, Mi.optR_false, Mi.optR_true, Mi.oInt_int, Mi.isOmit_omit, Mi.evS_skip, Mi.evS_seq, Mi.evS_set, Mi.evS_setT, Mi.evS_put, Mi.evS_app, Mi.evS_drop, Mi.evS_ret, Mi.evS_ite, Mi.evS_for, Mi.evS_while, Mi.evS_raise, Mi.sto_some, Mi.sto_none, Mi.val_nx, Mi.val_rt, Mi.setTg_nm, Mi.setTg_nil, Mi.setTg_cons, Mi.wipe_nil, Mi.wipe_cons, Mi.forR_nil, Mi.truV_bl, Mi.truV_non, Mi.truV_int, Mi.add_ii, Mi.sub_ii, Mi.lt_ii, Mi.le_ii, Mi.gt_ii, Mi.ge_ii, Mi.isn_v, Mi.notn_v, Mi.isN_non, Mi.isN_int, Mi.isN_tup, Mi.isN_bl, Mi.isN_str, Mi.eq_ii, Mi.ne_ii, Mi.eq_ss, Mi.ne_ss, Mi.neg_i, Mi.walk_lst, Mi.walk_tup, Mi.walk_scr, Mi.len_tup, Mi.len_lst, Mi.len_scr, Mi.tuple_lst, Mi.tuple_tup, Mi.list_tup, Mi.list_lst, Mi.int_int, Mi.int_bl, Mi.abs_int, Mi.min_int, Mi.max_int, Mi.isi_def, Mi.sum_lst, Mi.all_lst, Mi.any_lst, Mi.ints_map, Mi.bools_map, R.bind_ok, R.bind_ex, R.bind_bad, R.lift_some, R.noEx_ok, List.getElem?_cons_zero, List.getElem?_cons_succ, Option.bind_some, Option.map_some, Option.bind_eq_bind, id_eq, List.set_cons_zero, List.set_cons_succ, if_true, if_false, Bool.false_eq_true, reduceIte, Bool.not_true, Bool.not_false, Ex.isOmit, b39, e2, e3, hn, e4, qr2, e5, e6]
            exact e
          refine pre _ _ rfl ?_
          by_cases m_0 : m = 0
          · subst m_0
            refine .eq (a := .tup (xs.take k ++ xs.drop (k + 1))) (st := st3) ?_ ⟨vB_tup (by rw [List.length_append]; omega) (vB_app (vB_take hx' _) (vB_drop hx' _)), u13⟩
            simp (implicitDefEqProofs := false) only [Mi.seqK_nx, Mi.seqK_rt, Mi.andK_t, Mi.andK_f, Mi.orK_t, Mi.orK_f, Mi.forB_nm, Mi.forB_2, Mi.binK2_d, Mi.binK1_d, Mi.negK_d, Mi.truK_d, Mi.tstK_d, Mi.notK_d, Mi.cmpK2_d, Mi.cmpK1_d, Mi.chnK3_t, Mi.chnK3_f, Mi.chnK2_d, Mi.chnK1_d, Mi.iteK_t, Mi.iteK_f, Mi.tupK_d, Mi.lstK_d, Mi.cellK_d, Mi.callK_d, Mi.biK_d, Mi.idxK2_d, Mi.idxK1_d, Mi.sliK3_t, Mi.sliK3_l, Mi.oIntK_i, Mi.sliK2_d, Mi.sliK1_d, Mi.lcT_d, Mi.lcE_d, Mi.lcK_d, Mi.lrgK2_d, Mi.lrgK1_d, Mi.consK2_d, Mi.consK1_d, Mi.rng1K_d, Mi.rng2K2_d, Mi.rng2K1_d, Mi.zipO_d, Mi.zipK2_d, Mi.zipK1_d, Mi.enuK_d, Mi.sqK_d, Mi.setK_d, Mi.setTK_d, Mi.putK3_d, Mi.putK2_d, Mi.putK1_d, Mi.appK2_d, Mi.appK1_d, Mi.dropK_d, Mi.retK_d, Mi.iteS_t, Mi.iteS_f, Mi.forK_d, Mi.turnK2_d, Mi.turnK1_t, Mi.turnK1_f, Mi.whK_t, Mi.whK_f, Mi.lcB_nm, Mi.lcB_2, Mi.evE_var, Mi.evE_non, Mi.evE_bl, Mi.evE_int, Mi.evE_str, Mi.evE_gl, Mi.evE_bty, Mi.evE_bin, Mi.evE_neg, Mi.evE_not, Mi.evE_and, Mi.evE_or, Mi.evE_cmp, Mi.evE_chn, Mi.evE_ite, Mi.evE_tup, Mi.evE_lst, Mi.evE_cell, Mi.evE_call, Mi.callP_sto, Mi.evE_bi, Mi.evE_idx, Mi.evE_sli, Mi.evE_lc, Mi.evE_lrg, Mi.evE_lrd, Mi.evA_nil, Mi.evA_cons, Mi.evI_rng1, Mi.evI_rng2, Mi.evI_zip, Mi.evI_enu, Mi.evI_sq, Mi.tstR_false, Mi.tstR_true, Mi.optR_false, Mi.optR_true, Mi.oInt_int, Mi.isOmit_omit, Mi.evS_skip, Mi.evS_seq, Mi.evS_set, Mi.evS_setT, Mi.evS_put, Mi.evS_app, Mi.evS_drop, Mi.evS_ret, Mi.evS_ite, Mi.evS_for, Mi.evS_while, Mi.evS_raise, Mi.sto_some, Mi.sto_none, Mi.val_nx, Mi.val_rt, Mi.setTg_nm, Mi.setTg_nil, Mi.setTg_cons, Mi.wipe_nil, Mi.wipe_cons, Mi.forR_nil, Mi.truV_bl, Mi.truV_non, Mi.truV_int, Mi.add_ii, Mi.sub_ii, Mi.lt_ii, Mi.le_ii, Mi.gt_ii, Mi.ge_ii, Mi.isn_v, Mi.notn_v, Mi.isN_non, Mi.isN_int, Mi.isN_tup, Mi.isN_bl, Mi.isN_str, Mi.eq_ii, Mi.ne_ii, Mi.eq_ss, Mi.ne_ss, Mi.neg_i, Mi.walk_lst, Mi.walk_tup, Mi.walk_scr, Mi.len_tup, Mi.len_lst, Mi.len_scr, Mi.tuple_lst, Mi.tuple_tup, Mi.list_tup, Mi.list_lst, Mi.int_int, Mi.int_bl, Mi.abs_int, Mi.min_int, Mi.max_int, Mi.isi_def, Mi.sum_lst, Mi.all_lst, Mi.any_lst, Mi.ints_map, Mi.bools_map, R.bind_ok, R.bind_ex, R.bind_bad, R.lift_some, R.noEx_ok, List.getElem?_cons_zero, List.getElem?_cons_succ, Option.bind_some, Option.map_some, Option.bind_eq_bind, id_eq, List.set_cons_zero, List.set_cons_succ, if_true, if_false, Bool.false_eq_true, reduceIte, Bool.not_true, Bool.not_false, Ex.isOmit, show ((0 : Int) == 0) = true from rfl, cut_take xs k (by omega), cut_drop1 xs k hk, addT (xs := xs.take k) (ys := xs.drop (k + 1)) (by omega)]
          have f0 : (m == 0) = false := by rw [beq_eq_false_iff_ne]; exact m_0
          by_cases m_1 : m = 1
          · subst m_1
            refine .eq (a := .tup (xs.take (k + 1) ++ xs.drop k)) (st := st3) ?_ ⟨vB_tup (by rw [List.length_append]; omega) (vB_app (vB_take hx' _) (vB_drop hx' _)), u13⟩
            simp (implicitDefEqProofs := false) only [Mi.seqK_nx, Mi.seqK_rt, Mi.andK_t, Mi.andK_f, Mi.orK_t, Mi.orK_f, Mi.forB_nm, Mi.forB_2, Mi.binK2_d, Mi.binK1_d, Mi.negK_d, Mi.truK_d, Mi.tstK_d, Mi.notK_d, Mi.cmpK2_d, Mi.cmpK1_d, Mi.chnK3_t, Mi.chnK3_f, Mi.chnK2_d, Mi.chnK1_d, Mi.iteK_t, Mi.iteK_f, Mi.tupK_d, Mi.lstK_d, Mi.cellK_d, Mi.callK_d, Mi.biK_d, Mi.idxK2_d, Mi.idxK1_d, Mi.sliK3_t, Mi.sliK3_l, Mi.oIntK_i, Mi.sliK2_d, Mi.sliK1_d, Mi.lcT_d, Mi.lcE_d, Mi.lcK_d, Mi.lrgK2_d, Mi.lrgK1_d, Mi.consK2_d, Mi.consK1_d, Mi.rng1K_d, Mi.rng2K2_d, Mi.rng2K1_d, Mi.zipO_d, Mi.zipK2_d, Mi.zipK1_d, Mi.enuK_d, Mi.sqK_d, Mi.setK_d, Mi.setTK_d, Mi.putK3_d, Mi.putK2_d, Mi.putK1_d, Mi.appK2_d, Mi.appK1_d, Mi.dropK_d, Mi.retK_d, Mi.iteS_t, Mi.iteS_f, Mi.forK_d, Mi.turnK2_d, Mi.turnK1_t, Mi.turnK1_f, Mi.whK_t, Mi.whK_f, Mi.lcB_nm, Mi.lcB_2, Mi.evE_var, Mi.evE_non, Mi.evE_bl, Mi.evE_int, Mi.evE_str, Mi.evE_gl, Mi.evE_bty, Mi.evE_bin, Mi.evE_neg, Mi.evE_not, Mi.evE_and, Mi.evE_or, Mi.evE_cmp, Mi.evE_chn, Mi.evE_ite, Mi.evE_tup, Mi.evE_lst, Mi.evE_cell, Mi.evE_call, Mi.callP_sto, Mi.evE_bi, Mi.evE_idx, Mi.evE_sli, Mi.evE_lc, Mi.evE_lrg, Mi.evE_lrd, Mi.evA_nil, Mi.evA_cons, Mi.evI_rng1, Mi.evI_rng2, Mi.evI_zip, Mi.evI_enu, Mi.evI_sq, Mi.tstR_false, Mi.tstR_true, Mi.optR_false, Mi.optR_true, Mi.oInt_int, Mi.isOmit_omit, Mi.evS_skip, Mi.evS_seq, Mi.evS_set, Mi.evS_setT, Mi.evS_put, Mi.evS_app, Mi.evS_drop, Mi.evS_ret, Mi.evS_ite, Mi.evS_for, Mi.evS_while, Mi.evS_raise, Mi.sto_some, Mi.sto_none, Mi.val_nx, Mi.val_rt, Mi.setTg_nm, Mi.setTg_nil, Mi.setTg_cons, Mi.wipe_nil, Mi.wipe_cons, Mi.forR_nil, Mi.truV_bl, Mi.truV_non, Mi.truV_int, Mi.add_ii, Mi.sub_ii, Mi.lt_ii, Mi.le_ii, Mi.gt_ii, Mi.ge_ii, Mi.isn_v, Mi.notn_v, Mi.isN_non, Mi.isN_int, Mi.isN_tup, Mi.isN_bl, Mi.isN_str, Mi.eq_ii, Mi.ne_ii, Mi.eq_ss, Mi.ne_ss, Mi.neg_i, Mi.walk_lst, Mi.walk_tup, Mi.walk_scr, Mi.len_tup, Mi.len_lst, Mi.len_scr, Mi.tuple_lst, Mi.tuple_tup, Mi.list_tup, Mi.list_lst, Mi.int_int, Mi.int_bl, Mi.abs_int, Mi.min_int, Mi.max_int, Mi.isi_def, Mi.sum_lst, Mi.all_lst, Mi.any_lst, Mi.ints_map, Mi.bools_map, R.bind_ok, R.bind_ex, R.bind_bad, R.lift_some, R.noEx_ok, List.getElem?_cons_zero, List.getElem?_cons_succ, Option.bind_some, Option.map_some, Option.bind_eq_bind, id_eq, List.set_cons_zero, List.set_cons_succ, if_true, if_false, Bool.false_eq_true, reduceIte, Bool.not_true, Bool.not_false, Ex.isOmit, show ((1 : Int) == 0) = false from rfl, show ((1 : Int) == 1) = true from rfl, cut_take1 xs k hk, cut_drop xs k (by omega), addT (xs := xs.take (k + 1)) (ys := xs.drop k) (by omega)]
          have f1 : (m == 1) = false := by rw [beq_eq_false_iff_ne]; exact m_1
          by_cases m_2 : m = 2
          · subst m_2
            obtain ⟨w, st4, e, hw, u⟩ := odd st3 s3
            obtain ⟨p1, p2, p3⟩ := mid w st4 (hw n) (xs.drop k) (.inl rfl)
            refine .eq (a := .tup (xs.take k ++ [w] ++ xs.drop k)) (st := st4) ?_ ⟨p3, u13.trans u⟩
            simp (implicitDefEqProofs := false) only [Mi.seqK_nx, Mi.seqK_rt, Mi.andK_t, Mi.andK_f, Mi.orK_t, Mi.orK_f, Mi.forB_nm, Mi.forB_2, Mi.binK2_d, Mi.binK1_d, Mi.negK_d, Mi.truK_d, Mi.tstK_d, Mi.notK_d, Mi.cmpK2_d, Mi.cmpK1_d, Mi.chnK3_t, Mi.chnK3_f, Mi.chnK2_d, Mi.chnK1_d, Mi.iteK_t, Mi.iteK_f, Mi.tupK_d, Mi.lstK_d, Mi.cellK_d, Mi.callK_d, Mi.biK_d, Mi.idxK2_d, Mi.idxK1_d, Mi.sliK3_t, Mi.sliK3_l, Mi.oIntK_i, Mi.sliK2_d, Mi.sliK1_d, Mi.lcT_d, Mi.lcE_d, Mi.lcK_d, Mi.lrgK2_d, Mi.lrgK1_d, Mi.consK2_d, Mi.consK1_d, Mi.rng1K_d, Mi.rng2K2_d, Mi.rng2K1_d, Mi.zipO_d, Mi.zipK2_d, Mi.zipK1_d, Mi.enuK_d, Mi.sqK_d, Mi.setK_d, Mi.setTK_d, Mi.putK3_d, Mi.putK2_d, Mi.putK1_d, Mi.appK2_d, Mi.appK1_d, Mi.dropK_d, Mi.retK_d, Mi.iteS_t, Mi.iteS_f, Mi.forK_d, Mi.turnK2_d, Mi.turnK1_t, Mi.turnK1_f, Mi.whK_t, Mi.whK_f, Mi.lcB_nm, Mi.lcB_2, Mi.evE_var, Mi.evE_non, Mi.evE_bl, Mi.evE_int, Mi.evE_str, Mi.evE_gl, Mi.evE_bty, Mi.evE_bin, Mi.evE_neg, Mi.evE_not, Mi.evE_and, Mi.evE_or, Mi.evE_cmp, Mi.evE_chn, Mi.evE_ite, Mi.evE_tup, Mi.evE_lst, Mi.evE_cell, Mi.evE_call, Mi.callP_sto, Mi.evE_bi, Mi.evE_idx, Mi.evE_sli, Mi.evE_lc, Mi.evE_lrg, Mi.evE_lrd, Mi.evA_nil, Mi.evA_cons, Mi.evI_rng1, Mi.evI_rng2, Mi.evI_zip, Mi.evI_enu, Mi.evI_sq, Mi.tstR_false, Mi.tstR_true, Mi.optR_false, Mi.optR_true, Mi.oInt_int, Mi.isOmit_omit, Mi.evS_skip, Mi.evS_seq, Mi.evS_set, Mi.evS_setT, Mi.evS_put, Mi.evS_app, Mi.evS_drop, Mi.evS_ret, Mi.evS_ite, Mi.evS_for, Mi.evS_while, Mi.evS_raise, Mi.sto_some, Mi.sto_none, Mi.val_nx, Mi.val_rt, Mi.setTg_nm, Mi.setTg_nil, Mi.setTg_cons, Mi.wipe_nil, Mi.wipe_cons, Mi.forR_nil, Mi.truV_bl, Mi.truV_non, Mi.truV_int, Mi.add_ii, Mi.sub_ii, Mi.lt_ii, Mi.le_ii, Mi.gt_ii, Mi.ge_ii, Mi.isn_v, Mi.notn_v, Mi.isN_non, Mi.isN_int, Mi.isN_tup, Mi.isN_bl, Mi.isN_str, Mi.eq_ii, Mi.ne_ii, Mi.eq_ss, Mi.ne_ss, Mi.neg_i, Mi.walk_lst, Mi.walk_tup, Mi.walk_scr, Mi.len_tup, Mi.len_lst, Mi.len_scr, Mi.tuple_lst, Mi.tuple_tup, Mi.list_tup, Mi.list_lst, Mi.int_int, Mi.int_bl, Mi.abs_int, Mi.min_int, Mi.max_int, Mi.isi_def, Mi.sum_lst, Mi.all_lst, Mi.any_lst, Mi.ints_map, Mi.bools_map, R.bind_ok, R.bind_ex, R.bind_bad, R.lift_some, R.noEx_ok, List.getElem?_cons_zero, List.getElem?_cons_succ, Option.bind_some, Option.map_some, Option.bind_eq_bind, id_eq, List.set_cons_zero, List.set_cons_succ, if_true, if_false, Bool.false_eq_true, reduceIte, Bool.not_true, Bool.not_false, Ex.isOmit, show ((2 : Int) == 0) = false from rfl, show ((2 : Int) == 1) = false from rfl, show ((2 : Int) == 2) = true from rfl, cut_take xs k (by omega), e, p1, cut_drop xs k (by omega), p2]
          have f2 : (m == 2) = false := by rw [beq_eq_false_iff_ne]; exact m_2
          by_cases m_3 : m = 3
          · subst m_3
            refine .eq (a := .lst xs) (st := st3) ?_ ⟨?_, u13⟩
            · simp (implicitDefEqProofs := false) only [Mi.seqK_nx, Mi.seqK_rt, Mi.andK_t, Mi.andK_f, Mi.orK_t, Mi.orK_f, Mi.forB_nm, Mi.forB_2, Mi.binK2_d, Mi.binK1_d, Mi.negK_d, Mi.truK_d, Mi.tstK_d, Mi.notK_d, Mi.cmpK2_d, Mi.cmpK1_d, Mi.chnK3_t, Mi.chnK3_f, Mi.chnK2_d, Mi.chnK1_d, Mi.iteK_t, Mi.iteK_f, Mi.tupK_d, Mi.lstK_d, Mi.cellK_d, Mi.callK_d, Mi.biK_d, Mi.idxK2_d, Mi.idxK1_d, Mi.sliK3_t, Mi.sliK3_l, Mi.oIntK_i, Mi.sliK2_d, Mi.sliK1_d, Mi.lcT_d, Mi.lcE_d, Mi.lcK_d, Mi.lrgK2_d, Mi.lrgK1_d, Mi.consK2_d, Mi.consK1_d, Mi.rng1K_d, Mi.rng2K2_d, Mi.rng2K1_d, Mi.zipO_d, Mi.zipK2_d, Mi.zipK1_d, Mi.enuK_d, Mi.sqK_d, Mi.setK_d, Mi.setTK_d, Mi.putK3_d, Mi.putK2_d, Mi.putK1_d, Mi.appK2_d, Mi.appK1_d, Mi.dropK_d, Mi.retK_d, Mi.iteS_t, Mi.iteS_f, Mi.forK_d, Mi.turnK2_d, Mi.turnK1_t, Mi.turnK1_f, Mi.whK_t, Mi.whK_f, Mi.lcB_nm, Mi.lcB_2, Mi.evE_var, Mi.evE_non, Mi.evE_bl, Mi.evE_int, Mi.evE_str, Mi.evE_gl, Mi.evE_bty, Mi.evE_bin, Mi.evE_neg, Mi.evE_not, Mi.evE_and, Mi.evE_or, Mi.evE_cmp, Mi.evE_chn, Mi.evE_ite, Mi.evE_tup, Mi.evE_lst, Mi.evE_cell, Mi.evE_call, Mi.callP_sto, Mi.evE_bi, Mi.evE_idx, Mi.evE_sli, Mi.evE_lc, Mi.evE_lrg, Mi.evE_lrd, Mi.evA_nil, Mi.evA_cons, Mi.evI_rng1, Mi.evI_rng2, Mi.evI_zip, Mi.evI_enu, Mi.evI_sq, Mi.tstR_false, Mi.tstR_true, Mi.optR_false, Mi.optR_true, Mi.oInt_int, Mi.isOmit_omit, Mi.evS_skip, Mi.evS_seq, Mi.evS_set, Mi.evS_setT, Mi.evS_put, Mi.evS_app, Mi.evS_drop, Mi.evS_ret, Mi.evS_ite, Mi.evS_for, Mi.evS_while, Mi.evS_raise, Mi.sto_some, Mi.sto_none, Mi.val_nx, Mi.val_rt, Mi.setTg_nm, Mi.setTg_nil, Mi.setTg_cons, Mi.wipe_nil, Mi.wipe_cons, Mi.forR_nil, Mi.truV_bl, Mi.truV_non, Mi.truV_int, Mi.add_ii, Mi.sub_ii, Mi.lt_ii, Mi.le_ii, Mi.gt_ii, Mi.ge_ii, Mi.isn_v, Mi.notn_v, Mi.isN_non, Mi.isN_int, Mi.isN_tup, Mi.isN_bl, Mi.isN_str, Mi.eq_ii, Mi.ne_ii, Mi.eq_ss, Mi.ne_ss, Mi.neg_i, Mi.walk_lst, Mi.walk_tup, Mi.walk_scr, Mi.len_tup, Mi.len_lst, Mi.len_scr, Mi.tuple_lst, Mi.tuple_tup, Mi.list_tup, Mi.list_lst, Mi.int_int, Mi.int_bl, Mi.abs_int, Mi.min_int, Mi.max_int, Mi.isi_def, Mi.sum_lst, Mi.all_lst, Mi.any_lst, Mi.ints_map, Mi.bools_map, R.bind_ok, R.bind_ex, R.bind_bad, R.lift_some, R.noEx_ok, List.getElem?_cons_zero, List.getElem?_cons_succ, Option.bind_some, Option.map_some, Option.bind_eq_bind, id_eq, List.set_cons_zero, List.set_cons_succ, if_true, if_false, Bool.false_eq_true, reduceIte, Bool.not_true, Bool.not_false, Ex.isOmit, show ((3 : Int) == 0) = false from rfl, show ((3 : Int) == 1) = false from rfl, show ((3 : Int) == 2) = false from rfl, show ((3 : Int) == 3) = true from rfl]
            · show (decide (xs.length ≤ L + 1) && xs.all (vB (L + 1) (n + 1))) = true
              rw [hx', decide_eq_true (by omega)]; rfl
          have f3 : (m == 3) = false := by rw [beq_eq_false_iff_ne]; exact m_3
          have ix : ∀ st : Sto, ixV st (.tup xs) (.int (k : Nat)) = some xs[k] := fun st => by rw [Mi.ix_tup, atI_nat _ _ hk, List.getElem?_eq_getElem hk]
          have hy : vB L n xs[k] = true := List.all_eq_true.mp hx _ (List.getElem_mem hk)
          have isi := isi_intQ (vB_sh hy)
          by_cases qi : intQ xs[k] = true ∧ m < 6
          · obtain ⟨_, st4, e, r, rfl, _, _, u⟩ := draw (N := N) (d := d + n + 3) s3 (m := 3) (by decide) (by decide)
            obtain ⟨j, ad⟩ : ∃ j : Int, ∀ st : Sto, binV st .Add xs[k] (.int r) = some (.int j) := by
              have := qi.1
              cases hxk : xs[k] <;> (rw [hxk] at this; first | (cases this; done) | exact ⟨_, fun _ => rfl⟩)
            obtain ⟨p1, p2, p3⟩ := mid (.int (j - 1)) st4 (by cases n <;> rfl) (xs.drop (k + 1)) (.inr rfl)
            refine .eq (a := .tup (xs.take k ++ [.int (j - 1)] ++ xs.drop (k + 1))) (st := st4) ?_ ⟨p3, u13.trans u⟩
            simp (implicitDefEqProofs := false) only [Mi.seqK_nx, Mi.seqK_rt, Mi.andK_t, Mi.andK_f, Mi.orK_t, Mi.orK_f, Mi.forB_nm, Mi.forB_2, Mi.binK2_d, Mi.binK1_d, Mi.negK_d, Mi.truK_d, Mi.tstK_d, Mi.notK_d, Mi.cmpK2_d, Mi.cmpK1_d, Mi.chnK3_t, Mi.chnK3_f, Mi.chnK2_d, Mi.chnK1_d, Mi.iteK_t, Mi.iteK_f, Mi.tupK_d, Mi.lstK_d, Mi.cellK_d, Mi.callK_d, Mi.biK_d, Mi.idxK2_d, Mi.idxK1_d, Mi.sliK3_t, Mi.sliK3_l, Mi.oIntK_i, Mi.sliK2_d, Mi.sliK1_d, Mi.lcT_d, Mi.lcE_d, Mi.lcK_d, Mi.lrgK2_d, Mi.lrgK1_d, Mi.consK2_d, Mi.consK1_d, Mi.rng1K_d, Mi.rng2K2_d, Mi.rng2K1_d, Mi.zipO_d, Mi.zipK2_d, Mi.zipK1_d, Mi.enuK_d, Mi.sqK_d, Mi.setK_d, Mi.setTK_d, Mi.putK3_d, Mi.putK2_d, Mi.putK1_d, Mi.appK2_d, Mi.appK1_d, Mi.dropK_d, Mi.retK_d, Mi.iteS_t, Mi.iteS_f, Mi.forK_d, Mi.turnK2_d, Mi.turnK1_t, Mi.turnK1_f, Mi.whK_t, Mi.whK_f, Mi.lcB_nm, Mi.lcB_2, Mi.evE_var, Mi.evE_non, Mi.evE_bl, Mi.evE_int, Mi.evE_str, Mi.evE_gl, Mi.evE_bty, Mi.evE_bin, Mi.evE_neg, Mi.evE_not, Mi.evE_and, Mi.evE_or, Mi.evE_cmp, Mi.evE_chn, Mi.evE_ite, Mi.evE_tup, Mi.evE_lst, Mi.evE_cell, Mi.evE_call, Mi.callP_sto, Mi.evE_bi, Mi.evE_idx, Mi.evE_sli, Mi.evE_lc, Mi.evE_lrg, Mi.evE_lrd, Mi.evA_nil, Mi.evA_cons, Mi.evI_rng1, Mi.evI_rng2, Mi.evI_zip, Mi.evI_enu, Mi.evI_sq, Mi.tstR_false, Mi.tstR_true, Mi.optR_false, Mi.optR_true, Mi.oInt_int, Mi.isOmit_omit, Mi.evS_skip, Mi.evS_seq, Mi.evS_set, Mi.evS_setT, Mi.evS_put, Mi.evS_app, Mi.evS_drop, Mi.evS_ret, Mi.evS_ite, Mi.evS_for, Mi.evS_while, Mi.evS_raise, Mi.sto_some, Mi.sto_none, Mi.val_nx, Mi.val_rt, Mi.setTg_nm, Mi.setTg_nil, Mi.setTg_cons, Mi.wipe_nil, Mi.wipe_cons, Mi.forR_nil, Mi.truV_bl, Mi.truV_non, Mi.truV_int, Mi.add_ii, Mi.sub_ii, Mi.lt_ii, Mi.le_ii, Mi.gt_ii, Mi.ge_ii, Mi.isn_v, Mi.notn_v, Mi.isN_non, Mi.isN_int, Mi.isN_tup, Mi.isN_bl, Mi.isN_str, Mi.eq_ii, Mi.ne_ii, Mi.eq_ss, Mi.ne_ss, Mi.neg_i, Mi.walk_lst, Mi.walk_tup, Mi.walk_scr, Mi.len_tup, Mi.len_lst, Mi.len_scr, Mi.tuple_lst, Mi.tuple_tup, Mi.list_tup, Mi.list_lst, Mi.int_int, Mi.int_bl, Mi.abs_int, Mi.min_int, Mi.max_int, Mi.isi_def, Mi.sum_lst, Mi.all_lst, Mi.any_lst, Mi.ints_map, Mi.bools_map, R.bind_ok, R.bind_ex, R.bind_bad, R.lift_some, R.noEx_ok, List.getElem?_cons_zero, List.getElem?_cons_succ, Option.bind_some, Option.map_some, Option.bind_eq_bind, id_eq, List.set_cons_zero, List.set_cons_succ, if_true, if_false, Bool.false_eq_true, reduceIte, Bool.not_true, Bool.not_false, Ex.isOmit, f0, f1, f2, f3, ix, isi, qi.1, decide_eq_true qi.2, cut_take xs k (by omega), e, ad, p1, cut_drop1 xs k hk, p2]
          · obtain ⟨w, st4, e, hw, u⟩ := ih L xs[k] st3 s3 hy h2 h5
            obtain ⟨p1, p2, p3⟩ := mid w st4 hw (xs.drop (k + 1)) (.inr rfl)
            refine .eq (a := .tup (xs.take k ++ [w] ++ xs.drop (k + 1))) (st := st4) ?_ ⟨p3, u13.trans u⟩
            rcases Bool.eq_false_or_eq_true (intQ xs[k]) with z | z
            · simp (implicitDefEqProofs := false) only [Mi.seqK_nx, Mi.seqK_rt, Mi.andK_t, Mi.andK_f, Mi.orK_t, Mi.orK_f, Mi.forB_nm, Mi.forB_2, Mi.binK2_d, Mi.binK1_d, Mi.negK_d, Mi.truK_d, Mi.tstK_d, Mi.notK_d, Mi.cmpK2_d, Mi.cmpK1_d, Mi.chnK3_t, Mi.chnK3_f, Mi.chnK2_d, Mi.chnK1_d, Mi.iteK_t, Mi.iteK_f, Mi.tupK_d, Mi.lstK_d, Mi.cellK_d, Mi.callK_d, Mi.biK_d, Mi.idxK2_d, Mi.idxK1_d, Mi.sliK3_t, Mi.sliK3_l, Mi.oIntK_i, Mi.sliK2_d, Mi.sliK1_d, Mi.lcT_d, Mi.lcE_d, Mi.lcK_d, Mi.lrgK2_d, Mi.lrgK1_d, Mi.consK2_d, Mi.consK1_d, Mi.rng1K_d, Mi.rng2K2_d, Mi.rng2K1_d, Mi.zipO_d, Mi.zipK2_d, Mi.zipK1_d, Mi.enuK_d, Mi.sqK_d, Mi.setK_d, Mi.setTK_d, Mi.putK3_d, Mi.putK2_d, Mi.putK1_d, Mi.appK2_d, Mi.appK1_d, Mi.dropK_d, Mi.retK_d, Mi.iteS_t, Mi.iteS_f, Mi.forK_d, Mi.turnK2_d, Mi.turnK1_t, Mi.turnK1_f, Mi.whK_t, Mi.whK_f, Mi.lcB_nm, Mi.lcB_2, Mi.evE_var, Mi.evE_non, Mi.evE_bl, Mi.evE_int, Mi.evE_str, Mi.evE_gl, Mi.evE_bty, Mi.evE_bin, Mi.evE_neg, Mi.evE_not, Mi.evE_and, Mi.evE_or, Mi.evE_cmp, Mi.evE_chn, Mi.evE_ite, Mi.evE_tup, Mi.evE_lst, Mi.evE_cell, Mi.evE_call, Mi.callP_sto, Mi.evE_bi, Mi.evE_idx, Mi.evE_sli, Mi.evE_lc, Mi.evE_lrg, Mi.evE_lrd, Mi.evA_nil, Mi.evA_cons, Mi.evI_rng1, Mi.evI_rng2, Mi.evI_zip, Mi.evI_enu, Mi.evI_sq, Mi.tstR_false, Mi.tstR_true, Mi.optR_false, Mi.optR_true, Mi.oInt_int, Mi.isOmit_omit, Mi.evS_skip, Mi.evS_seq, Mi.evS_set, Mi.evS_setT, Mi.evS_put, Mi.evS_app, Mi.evS_drop, Mi.evS_ret, Mi.evS_ite, Mi.evS_for, Mi.evS_while, Mi.evS_raise, Mi.sto_some, Mi.sto_none, Mi.val_nx, Mi.val_rt, Mi.setTg_nm, Mi.setTg_nil, Mi.setTg_cons, Mi.wipe_nil, Mi.wipe_cons, Mi.forR_nil, Mi.truV_bl, Mi.truV_non, Mi.truV_int, Mi.add_ii, Mi.sub_ii, Mi.lt_ii, Mi.le_ii, Mi.gt_ii, Mi.ge_ii, Mi.isn_v, Mi.notn_v, Mi.isN_non, Mi.isN_int, Mi.isN_tup, Mi.isN_bl, Mi.isN_str, Mi.eq_ii, Mi.ne_ii, Mi.eq_ss, Mi.ne_ss, Mi.neg_i, Mi.walk_lst, Mi.walk_tup, Mi.walk_scr, Mi.len_tup, Mi.len_lst, Mi.len_scr, Mi.tuple_lst, Mi.tuple_tup, Mi.list_tup, Mi.list_lst, Mi.int_int, Mi.int_bl, Mi.abs_int, Mi.min_int, Mi.max_int, Mi.isi_def, Mi.sum_lst, Mi.all_lst, Mi.any_lst, Mi.ints_map, Mi.bools_map, R.bind_ok, R.bind_ex, R.bind_bad, R.lift_some, R.noEx_ok, List.getElem?_cons_zero, List.getElem?_cons_succ, Option.bind_some, Option.map_some, Option.bind_eq_bind, id_eq, List.set_cons_zero, List.set_cons_succ, if_true, if_false, Bool.false_eq_true, reduceIte, Bool.not_true, Bool.not_false, Ex.isOmit, f0, f1, f2, f3, ix, isi, z, decide_eq_false (show ¬ m < 6 from fun y => qi ⟨z, y⟩), cut_take xs k (by omega), e, p1, cut_drop1 xs k hk, p2]
            · simp (implicitDefEqProofs := false) only [Mi.seqK_nx, Mi.seqK_rt, Mi.andK_t, Mi.andK_f, Mi.orK_t, Mi.orK_f, Mi.forB_nm, Mi.forB_2, Mi.binK2_d, Mi.binK1_d, Mi.negK_d, Mi.truK_d, Mi.tstK_d, Mi.notK_d, Mi.cmpK2_d, Mi.cmpK1_d, Mi.chnK3_t, Mi.chnK3_f, Mi.chnK2_d, Mi.chnK1_d, Mi.iteK_t, Mi.iteK_f, Mi.tupK_d, Mi.lstK_d, Mi.cellK_d, Mi.callK_d, Mi.biK_d, Mi.idxK2_d, Mi.idxK1_d, Mi.sliK3_t, Mi.sliK3_l, Mi.oIntK_i, Mi.sliK2_d, Mi.sliK1_d, Mi.lcT_d, Mi.lcE_d, Mi.lcK_d, Mi.lrgK2_d, Mi.lrgK1_d, Mi.consK2_d, Mi.consK1_d, Mi.rng1K_d, Mi.rng2K2_d, Mi.rng2K1_d, Mi.zipO_d, Mi.zipK2_d, Mi.zipK1_d, Mi.enuK_d, Mi.sqK_d, Mi.setK_d, Mi.setTK_d, Mi.putK3_d, Mi.putK2_d, Mi.putK1_d, Mi.appK2_d, Mi.appK1_d, Mi.dropK_d, Mi.retK_d, Mi.iteS_t, Mi.iteS_f, Mi.forK_d, Mi.turnK2_d, Mi.turnK1_t, Mi.turnK1_f, Mi.whK_t, Mi.whK_f, Mi.lcB_nm, Mi.lcB_2, Mi.evE_var, Mi.evE_non, Mi.evE_bl, Mi.evE_int, Mi.evE_str, Mi.evE_gl, Mi.evE_bty, Mi.evE_bin, Mi.evE_neg, Mi.evE_not, Mi.evE_and, Mi.evE_or, Mi.evE_cmp, Mi.evE_chn, Mi.evE_ite, Mi.evE_tup, Mi.evE_lst, Mi.evE_cell, Mi.evE_call, Mi.callP_sto, Mi.evE_bi, Mi.evE_idx, Mi.evE_sli, Mi.evE_lc, Mi.evE_lrg, Mi.evE_lrd, Mi.evA_nil, Mi.evA_cons, Mi.evI_rng1, Mi.evI_rng2, Mi.evI_zip, Mi.evI_enu, Mi.evI_sq, Mi.tstR_false, Mi.tstR_true, Mi.optR_false, Mi.optR_true, Mi.oInt_int, Mi.isOmit_omit, Mi.evS_skip, Mi.evS_seq, Mi.evS_set, Mi.evS_setT, Mi.evS_put, Mi.evS_app, Mi.evS_drop, Mi.evS_ret, Mi.evS_ite, Mi.evS_for, Mi.evS_while, Mi.evS_raise, Mi.sto_some, Mi.sto_none, Mi.val_nx, Mi.val_rt, Mi.setTg_nm, Mi.setTg_nil, Mi.setTg_cons, Mi.wipe_nil, Mi.wipe_cons, Mi.forR_nil, Mi.truV_bl, Mi.truV_non, Mi.truV_int, Mi.add_ii, Mi.sub_ii, Mi.lt_ii, Mi.le_ii, Mi.gt_ii, Mi.ge_ii, Mi.isn_v, Mi.notn_v, Mi.isN_non, Mi.isN_int, Mi.isN_tup, Mi.isN_bl, Mi.isN_str, Mi.eq_ii, Mi.ne_ii, Mi.eq_ss, Mi.ne_ss, Mi.neg_i, Mi.walk_lst, Mi.walk_tup, Mi.walk_scr, Mi.len_tup, Mi.len_lst, Mi.len_scr, Mi.tuple_lst, Mi.tuple_tup, Mi.list_tup, Mi.list_lst, Mi.int_int, Mi.int_bl, Mi.abs_int, Mi.min_int, Mi.max_int, Mi.isi_def, Mi.sum_lst, Mi.all_lst, Mi.any_lst, Mi.ints_map, Mi.bools_map, R.bind_ok, R.bind_ex, R.bind_bad, R.lift_some, R.noEx_ok, List.getElem?_cons_zero, List.getElem?_cons_succ, Option.bind_some, Option.map_some, Option.bind_eq_bind, id_eq, List.set_cons_zero, List.set_cons_succ, if_true, if_false, Bool.false_eq_true, reduceIte, Bool.not_true, Bool.not_false, Ex.isOmit, f0, f1, f2, f3, ix, isi, z, cut_take xs k (by omega), e, p1, cut_drop1 xs k hk, p2]
    · have e2 : isiV v "tuple" = some false := by rw [isi_tup (vB_sh hv)]; cases v <;> first | rfl | exact absurd ⟨_, rfl⟩ q
      obtain ⟨w, st1, e, hw, u⟩ := odd st hs
      refine .eq (a := w) (st := st1) ?_ ⟨hw _, u⟩
      simp (implicitDefEqProofs := false) only [Mi.seqK_nx, Mi.seqK_rt, Mi.andK_t, Mi.andK_f, Mi.orK_t, Mi.orK_f, Mi.forB_nm, Mi.forB_2, Mi.binK2_d, Mi.binK1_d, Mi.negK_d, Mi.truK_d, Mi.tstK_d, Mi.notK_d, Mi.cmpK2_d, Mi.cmpK1_d, Mi.chnK3_t, Mi.chnK3_f, Mi.chnK2_d, Mi.chnK1_d, Mi.iteK_t, Mi.iteK_f, Mi.tupK_d, Mi.lstK_d, Mi.cellK_d, Mi.callK_d, Mi.biK_d, Mi.idxK2_d, Mi.idxK1_d, Mi.sliK3_t, Mi.sliK3_l, Mi.oIntK_i, Mi.sliK2_d, Mi.sliK1_d, Mi.lcT_d, Mi.lcE_d, Mi.lcK_d, Mi.lrgK2_d, Mi.lrgK1_d, Mi.consK2_d, Mi.consK1_d, Mi.rng1K_d, Mi.rng2K2_d, Mi.rng2K1_d, Mi.zipO_d, Mi.zipK2_d, Mi.zipK1_d, Mi.enuK_d, Mi.sqK_d, Mi.setK_d, Mi.setTK_d, Mi.putK3_d, Mi.putK2_d, Mi.putK1_d, Mi.appK2_d, Mi.appK1_d, Mi.dropK_d, Mi.retK_d, Mi.iteS_t, Mi.iteS_f, Mi.forK_d, Mi.turnK2_d, Mi.turnK1_t, Mi.turnK1_f, Mi.whK_t, Mi.whK_f, Mi.lcB_nm, Mi.lcB_2, Mi.evE_var, Mi.evE_non, Mi.evE_bl, Mi.evE_int, Mi.evE_str, Mi.evE_gl, Mi.evE_bty, Mi.evE_bin, Mi.evE_neg, Mi.evE_not, Mi.evE_and, Mi.evE_or, Mi.evE_cmp, Mi.evE_chn, Mi.evE_ite, Mi.evE_tup, Mi.evE_lst, Mi.evE_cell, Mi.evE_call, Mi.callP_sto, Mi.evE_bi, Mi.evE_idx, Mi.evE_sli, Mi.evE_lc, Mi.evE_lrg, Mi.evE_lrd, Mi.evA_nil, Mi.evA_cons, Mi.evI_rng1, Mi.evI_rng2, Mi.evI_zip, Mi.evI_enu, Mi.evI_sq, Mi.tstR_false, Mi.tstR_true, Mi.optR_false, Mi.optR_true, Mi.oInt_int, Mi.isOmit_omit, Mi.evS_skip, Mi.evS_seq, Mi.evS_set, Mi.evS_setT, Mi.evS_put, Mi.evS_app, Mi.evS_drop, Mi.evS_ret, Mi.evS_ite, Mi.evS_for, Mi.evS_while, Mi.evS_raise, Mi.sto_some, Mi.sto_none, Mi.val_nx, Mi.val_rt, Mi.setTg_nm, Mi.setTg_nil, Mi.setTg_cons, Mi.wipe_nil, Mi.wipe_cons, Mi.forR_nil, Mi.truV_bl, Mi.truV_non, Mi.truV_int, Mi.add_ii, Mi.sub_ii, Mi.lt_ii, Mi.le_ii, Mi.gt_ii, Mi.ge_ii, Mi.isn_v, Mi.notn_v, Mi.isN_non, Mi.isN_int, Mi.isN_tup, Mi.isN_bl, Mi.isN_str, Mi.eq_ii, Mi.ne_ii, Mi.eq_ss, Mi.ne_ss, Mi.neg_i, Mi.walk_lst, Mi.walk_tup, Mi.walk_scr, Mi.len_tup, Mi.len_lst, Mi.len_scr, Mi.tuple_lst, Mi.tuple_tup, Mi.list_tup, Mi.list_lst, Mi.int_int, Mi.int_bl, Mi.abs_int, Mi.min_int, Mi.max_int, Mi.isi_def, Mi.sum_lst, Mi.all_lst, Mi.any_lst, Mi.ints_map, Mi.bools_map, R.bind_ok, R.bind_ex, R.bind_bad, R.lift_some, R.noEx_ok, List.getElem?_cons_zero, List.getElem?_cons_succ, Option.bind_some, Option.map_some, Option.bind_eq_bind, id_eq, List.set_cons_zero, List.set_cons_succ, if_true, if_false, Bool.false_eq_true, reduceIte, Bool.not_true, Bool.not_false, Ex.isOmit, b39, e2, e]

def turnB : Sm := match b40 with
  | .seq (.for _ _ (.seq _ (.seq _ (.seq _ (.seq _ (.seq (.for _ _ (.seq (.for _ _ b) _)) _)))))) _ => b
  | _ => .skip
def valB : Sm := .seq (.for (.nm 7) (.rng1 (.int 5)) turnB) .skip
def caseB : Sm := match b40 with
  | .seq (.for _ _ b) _ => b
  | _ => .skip
def lastB : Sm := match b40 with
  | .seq _ r => r
  | _ => .skip
theorem turns {n : Nat} (many : Nat) (hm : 2 ≤ many ∧ many ≤ 4) (v0 v1 v2 v6 : Option PV) : ∀ (js : List PV) (k : Nat) (v : PV) (v7 : Option PV) (st : Sto), k + js.length ≤ 5 → SrcAt n st → vB (7 + k) (3 + k) v = true → ∃ (w5 w7 : Option PV) (st' : Sto),
    forR (forB (.nm 7) (evS G (RU N (d + 20)) N turnB)) js [v0, v1, v2, some (.cel n), some (.int many), some v, v6, v7] st = .ok (.nx [v0, v1, v2, some (.cel n), some (.int many), w5, v6, w7]) st' ∧ UpdS n st st'
  | [], k, v, v7, st, _, hs, _ => ⟨some v, v7, st, rfl, .refl hs⟩
  | j :: js, k, v, v7, st, hk, hs, hv => by
    rw [List.length_cons] at hk
    obtain ⟨w, st1, e1, hw, u1⟩ := law_spoilt (N := N) (d := d + 13 - k) (3 + k) (7 + k) v st hs hv (by omega) (by omega)
    rw [show d + 13 - k + (3 + k) + 4 = d + 20 by omega] at e1
    obtain ⟨w5, w7, st', e2, u2⟩ := turns many hm v0 v1 v2 v6 js (k + 1) w (some j) st1 (by omega) (u1.src hs) hw
    have e3 : RU N (d + 20) 37 [.int (many : Nat), v] st = .ok (.bl true) st := told_right (N := N) (d := d + 14) (st := st) many hm v ⟨3 + k, vB_mono (by omega) (Nat.le_refl _) hv⟩
    refine ⟨w5, w7, st', ?_, u1.trans u2⟩
    rw [forR_cons]
    simp (implicitDefEqProofs := false) only [Mi.seqK_nx, Mi.seqK_rt, Mi.andK_t, Mi.andK_f, Mi.orK_t, Mi.orK_f, Mi.forB_nm, Mi.forB_2, Mi.binK2_d, Mi.binK1_d, Mi.negK_d, Mi.truK_d, Mi.tstK_d, Mi.notK_d, Mi.cmpK2_d, Mi.cmpK1_d, Mi.chnK3_t, Mi.chnK3_f, Mi.chnK2_d, Mi.chnK1_d, Mi.iteK_t, Mi.iteK_f, Mi.tupK_d, Mi.lstK_d, Mi.cellK_d, Mi.callK_d, Mi.biK_d, Mi.idxK2_d, Mi.idxK1_d, Mi.sliK3_t, Mi.sliK3_l, Mi.oIntK_i, Mi.sliK2_d, Mi.sliK1_d, Mi.lcT_d, Mi.lcE_d, Mi.lcK_d, Mi.lrgK2_d, Mi.lrgK1_d, Mi.consK2_d, Mi.consK1_d, Mi.rng1K_d, Mi.rng2K2_d, Mi.rng2K1_d, Mi.zipO_d, Mi.zipK2_d, Mi.zipK1_d, Mi.enuK_d, Mi.sqK_d, Mi.setK_d, Mi.setTK_d, Mi.putK3_d, Mi.putK2_d, Mi.putK1_d, Mi.appK2_d, Mi.appK1_d, Mi.dropK_d, Mi.retK_d, Mi.iteS_t, Mi.iteS_f, Mi.forK_d, Mi.turnK2_d, Mi.turnK1_t, Mi.turnK1_f, Mi.whK_t, Mi.whK_f, Mi.lcB_nm, Mi.lcB_2, Mi.evE_var, Mi.evE_non, Mi.evE_bl, Mi.evE_int, Mi.evE_str, Mi.evE_gl, Mi.evE_bty, Mi.evE_bin, Mi.evE_neg, Mi.evE_not, Mi.evE_and, Mi.evE_or, Mi.evE_cmp, Mi.evE_chn, Mi.evE_ite, Mi.evE_tup, Mi.evE_lst, Mi.evE_cell, Mi.evE_call, Mi.callP_sto, Mi.evE_bi, Mi.evE_idx, Mi.evE_sli, Mi.evE_lc, Mi.evE_lrg, Mi.evE_lrd, Mi.evA_nil, Mi.evA_cons, Mi.evI_rng1, Mi.evI_rng2, Mi.evI_zip, Mi.evI_enu, Mi.evI_sq, Mi.tstR_false, Mi.tstR_true, Mi.optR_false, Mi.optR_true, Mi.oInt_int, Mi.isOmit_omit, Mi.evS_skip, Mi.evS_seq, Mi.evS_set, Mi.evS_setT, Mi.evS_put, Mi.evS_app, Mi.evS_drop, Mi.evS_ret, Mi.evS_ite, Mi.evS_for, Mi.evS_while, Mi.evS_raise, Mi.sto_some, Mi.sto_none, Mi.val_nx, Mi.val_rt, Mi.setTg_nm, Mi.setTg_nil, Mi.setTg_cons, Mi.wipe_nil, Mi.wipe_cons, Mi.forR_nil, Mi.truV_bl, Mi.truV_non, Mi.truV_int, Mi.add_ii, Mi.sub_ii, Mi.lt_ii, Mi.le_ii, Mi.gt_ii, Mi.ge_ii, Mi.isn_v, Mi.notn_v, Mi.isN_non, Mi.isN_int, Mi.isN_tup, Mi.isN_bl, Mi.isN_str, Mi.eq_ii, Mi.ne_ii, Mi.eq_ss, Mi.ne_ss, Mi.neg_i, Mi.walk_lst, Mi.walk_tup, Mi.walk_scr, Mi.len_tup, Mi.len_lst, Mi.len_scr, Mi.tuple_lst, Mi.tuple_tup, Mi.list_tup, Mi.list_lst, Mi.int_int, Mi.int_bl, Mi.abs_int, Mi.min_int, Mi.max_int, Mi.isi_def, Mi.sum_lst, Mi.all_lst, Mi.any_lst, Mi.ints_map, Mi.bools_map, R.bind_ok, R.bind_ex, R.bind_bad, R.lift_some, R.noEx_ok, List.getElem?_cons_zero, List.getElem?_cons_succ, Option.bind_some, Option.map_some, Option.bind_eq_bind, id_eq, List.set_cons_zero, List.set_cons_succ, if_true, if_false, Bool.false_eq_true, reduceIte, Bool.not_true, Bool.not_false, Ex.isOmit, turnB, b40, e3, e1]
    exact e2
theorem vals {n : Nat} (many : Nat) (hm : 2 ≤ many ∧ many ≤ 4) (v0 v1 v2 v6 : Option PV) : ∀ (vs : List PV) (v5 v7 : Option PV) (st : Sto), (∀ v ∈ vs, vB 7 3 v = true) → SrcAt n st → ∃ (w5 w7 : Option PV) (st' : Sto),
    forR (forB (.nm 5) (evS G (RU N (d + 20)) N valB)) vs [v0, v1, v2, some (.cel n), some (.int many), v5, v6, v7] st = .ok (.nx [v0, v1, v2, some (.cel n), some (.int many), w5, v6, w7]) st' ∧ UpdS n st st'
  | [], v5, v7, st, _, hs => ⟨v5, v7, st, rfl, .refl hs⟩
  | v :: vs, v5, v7, st, hv, hs => by
    obtain ⟨x5, x7, st1, e1, u1⟩ := turns (N := N) (d := d) many hm v0 v1 v2 v6 (rngL 0 (5 : Int).toNat) 0 v v7 st (by decide) hs (hv v List.mem_cons_self)
    obtain ⟨w5, w7, st', e2, u2⟩ := vals many hm v0 v1 v2 v6 vs x5 x7 st1 (fun y hy => hv y (List.mem_cons_of_mem _ hy)) (u1.src hs)
    refine ⟨w5, w7, st', ?_, u1.trans u2⟩
    rw [forR_cons]
    simp (implicitDefEqProofs := false) only [Mi.seqK_nx, Mi.seqK_rt, Mi.andK_t, Mi.andK_f, Mi.orK_t, Mi.orK_f, Mi.forB_nm, Mi.forB_2, Mi.binK2_d, Mi.binK1_d, Mi.negK_d, Mi.truK_d, Mi.tstK_d, Mi.notK_d, Mi.cmpK2_d, Mi.cmpK1_d, Mi.chnK3_t, Mi.chnK3_f, Mi.chnK2_d, Mi.chnK1_d, Mi.iteK_t, Mi.iteK_f, Mi.tupK_d, Mi.lstK_d, Mi.cellK_d, Mi.callK_d, Mi.biK_d, Mi.idxK2_d, Mi.idxK1_d, Mi.sliK3_t, Mi.sliK3_l, Mi.oIntK_i, Mi.sliK2_d, Mi.sliK1_d, Mi.lcT_d, Mi.lcE_d, Mi.lcK_d, Mi.lrgK2_d, Mi.lrgK1_d, Mi.consK2_d, Mi.consK1_d, Mi.rng1K_d, Mi.rng2K2_d, Mi.rng2K1_d, Mi.zipO_d, Mi.zipK2_d, Mi.zipK1_d, Mi.enuK_d, Mi.sqK_d, Mi.setK_d, Mi.setTK_d, Mi.putK3_d, Mi.putK2_d, Mi.putK1_d, Mi.appK2_d, Mi.appK1_d, Mi.dropK_d, Mi.retK_d, Mi.iteS_t, Mi.iteS_f, Mi.forK_d, Mi.turnK2_d, Mi.turnK1_t, Mi.turnK1_f, Mi.whK_t, Mi.whK_f, Mi.lcB_nm, Mi.lcB_2, Mi.evE_var, Mi.evE_non, Mi.evE_bl, Mi.evE_int, Mi.evE_str, Mi.evE_gl, Mi.evE_bty, Mi.evE_bin, Mi.evE_neg, Mi.evE_not, Mi.evE_and, Mi.evE_or, Mi.evE_cmp, Mi.evE_chn, Mi.evE_ite, Mi.evE_tup, Mi.evE_lst, Mi.evE_cell, Mi.evE_call, Mi.callP_sto, Mi.evE_bi, Mi.evE_idx, Mi.evE_sli, Mi.evE_lc, Mi.evE_lrg, Mi.evE_lrd, Mi.evA_nil, Mi.evA_cons, Mi.evI_rng1, Mi.evI_rng2, Mi.evI_zip, Mi.evI_enu, Mi.evI_sq, Mi.tstR_false, Mi.tstR_true, Mi.optR_false, Mi.optR_true, Mi.oInt_int, Mi.isOmit_omit, Mi.evS_skip, Mi.evS_seq, Mi.evS_set, Mi.evS_setT, Mi.evS_put, Mi.evS_app, Mi.evS_drop, Mi.evS_ret, Mi.evS_ite, Mi.evS_for, Mi.evS_while, Mi.evS_raise, Mi.sto_some, Mi.sto_none, Mi.val_nx, Mi.val_rt, Mi.setTg_nm, Mi.setTg_nil, Mi.setTg_cons, Mi.wipe_nil, Mi.wipe_cons, Mi.forR_nil, Mi.truV_bl, Mi.truV_non, Mi.truV_int, Mi.add_ii, Mi.sub_ii, Mi.lt_ii, Mi.le_ii, Mi.gt_ii, Mi.ge_ii, Mi.isn_v, Mi.notn_v, Mi.isN_non, Mi.isN_int, Mi.isN_tup, Mi.isN_bl, Mi.isN_str, Mi.eq_ii, Mi.ne_ii, Mi.eq_ss, Mi.ne_ss, Mi.neg_i, Mi.walk_lst, Mi.walk_tup, Mi.walk_scr, Mi.len_tup, Mi.len_lst, Mi.len_scr, Mi.tuple_lst, Mi.tuple_tup, Mi.list_tup, Mi.list_lst, Mi.int_int, Mi.int_bl, Mi.abs_int, Mi.min_int, Mi.max_int, Mi.isi_def, Mi.sum_lst, Mi.all_lst, Mi.any_lst, Mi.ints_map, Mi.bools_map, R.bind_ok, R.bind_ex, R.bind_bad, R.lift_some, R.noEx_ok, List.getElem?_cons_zero, List.getElem?_cons_succ, Option.bind_some, Option.map_some, Option.bind_eq_bind, id_eq, List.set_cons_zero, List.set_cons_succ, if_true, if_false, Bool.false_eq_true, reduceIte, Bool.not_true, Bool.not_false, Ex.isOmit, valB, show smallI 5 = true from rfl]
    rw [e1]
    simp (implicitDefEqProofs := false) only [Mi.seqK_nx, Mi.seqK_rt, Mi.andK_t, Mi.andK_f, Mi.orK_t, Mi.orK_f, Mi.forB_nm, Mi.forB_2, Mi.binK2_d, Mi.binK1_d, Mi.negK_d, Mi.truK_d, Mi.tstK_d, Mi.notK_d, Mi.cmpK2_d, Mi.cmpK1_d, Mi.chnK3_t, Mi.chnK3_f, Mi.chnK2_d, Mi.chnK1_d, Mi.iteK_t, Mi.iteK_f, Mi.tupK_d, Mi.lstK_d, Mi.cellK_d, Mi.callK_d, Mi.biK_d, Mi.idxK2_d, Mi.idxK1_d, Mi.sliK3_t, Mi.sliK3_l, Mi.oIntK_i, Mi.sliK2_d, Mi.sliK1_d, Mi.lcT_d, Mi.lcE_d, Mi.lcK_d, Mi.lrgK2_d, Mi.lrgK1_d, Mi.consK2_d, Mi.consK1_d, Mi.rng1K_d, Mi.rng2K2_d, Mi.rng2K1_d, Mi.zipO_d, Mi.zipK2_d, Mi.zipK1_d, Mi.enuK_d, Mi.sqK_d, Mi.setK_d, Mi.setTK_d, Mi.putK3_d, Mi.putK2_d, Mi.putK1_d, Mi.appK2_d, Mi.appK1_d, Mi.dropK_d, Mi.retK_d, Mi.iteS_t, Mi.iteS_f, Mi.forK_d, Mi.turnK2_d, Mi.turnK1_t, Mi.turnK1_f, Mi.whK_t, Mi.whK_f, Mi.lcB_nm, Mi.lcB_2, Mi.evE_var, Mi.evE_non, Mi.evE_bl, Mi.evE_int, Mi.evE_str, Mi.evE_gl, Mi.evE_bty, Mi.evE_bin, Mi.evE_neg, Mi.evE_not, Mi.evE_and, Mi.evE_or, Mi.evE_cmp, Mi.evE_chn, Mi.evE_ite, Mi.evE_tup, Mi.evE_lst, Mi.evE_cell, Mi.evE_call, Mi.callP_sto, Mi.evE_bi, Mi.evE_idx, Mi.evE_sli, Mi.evE_lc, Mi.evE_lrg, Mi.evE_lrd, Mi.evA_nil, Mi.evA_cons, Mi.evI_rng1, Mi.evI_rng2, Mi.evI_zip, Mi.evI_enu, Mi.evI_sq, Mi.tstR_false, Mi.tstR_true, Mi.optR_false, Mi.optR_true, Mi.oInt_int, Mi.isOmit_omit, Mi.evS_skip, Mi.evS_seq, Mi.evS_set, Mi.evS_setT, Mi.evS_put, Mi.evS_app, Mi.evS_drop, Mi.evS_ret, Mi.evS_ite, Mi.evS_for, Mi.evS_while, Mi.evS_raise, Mi.sto_some, Mi.sto_none, Mi.val_nx, Mi.val_rt, Mi.setTg_nm, Mi.setTg_nil, Mi.setTg_cons, Mi.wipe_nil, Mi.wipe_cons, Mi.forR_nil, Mi.truV_bl, Mi.truV_non, Mi.truV_int, Mi.add_ii, Mi.sub_ii, Mi.lt_ii, Mi.le_ii, Mi.gt_ii, Mi.ge_ii, Mi.isn_v, Mi.notn_v, Mi.isN_non, Mi.isN_int, Mi.isN_tup, Mi.isN_bl, Mi.isN_str, Mi.eq_ii, Mi.ne_ii, Mi.eq_ss, Mi.ne_ss, Mi.neg_i, Mi.walk_lst, Mi.walk_tup, Mi.walk_scr, Mi.len_tup, Mi.len_lst, Mi.len_scr, Mi.tuple_lst, Mi.tuple_tup, Mi.list_tup, Mi.list_lst, Mi.int_int, Mi.int_bl, Mi.abs_int, Mi.min_int, Mi.max_int, Mi.isi_def, Mi.sum_lst, Mi.all_lst, Mi.any_lst, Mi.ints_map, Mi.bools_map, R.bind_ok, R.bind_ex, R.bind_bad, R.lift_some, R.noEx_ok, List.getElem?_cons_zero, List.getElem?_cons_succ, Option.bind_some, Option.map_some, Option.bind_eq_bind, id_eq, List.set_cons_zero, List.set_cons_succ, if_true, if_false, Bool.false_eq_true, reduceIte, Bool.not_true, Bool.not_false, Ex.isOmit]
    exact e2
theorem law_cases (ns : List Int) : ∀ (js : List Nat) (v1 v2 v3 v4 v5 v6 v7 : Option PV) (st : Sto), ∃ (w1 w2 w3 w4 w5 w6 w7 : Option PV) (st' : Sto),
    forR (forB (.nm 1) (evS G (RU N (d + 20)) N caseB)) (js.map fun j => PV.int (j : Nat)) [some (.scr (ns.map .int)), v1, v2, v3, v4, v5, v6, v7] st =
    .ok (.nx [some (.scr (ns.map .int)), w1, w2, w3, w4, w5, w6, w7]) st'
  | [], v1, v2, v3, v4, v5, v6, v7, st => ⟨v1, v2, v3, v4, v5, v6, v7, st, rfl⟩
  | j :: js, v1, v2, v3, v4, v5, v6, v7, st => by
    obtain ⟨_, st1, e1, rfl, ⟨c, hc⟩, s1⟩ := source (N := N) (d := d + 19) (st := st) ns j
    obtain ⟨_, st2, e2, r, rfl, r0, r1, u2⟩ := draw (N := N) (d := d + 19) s1 (m := 3) (by decide) (by decide)
    have s2 := u2.src s1
    obtain ⟨many, hmm⟩ : ∃ many : Nat, 2 + r = (many : Int) := ⟨(2 + r).toNat, by omega⟩
    have hm : 2 ≤ many ∧ many ≤ 4 := by omega
    obtain ⟨_, st3, e3, fs, rfl, hl, hf, u3⟩ := law_facts (N := N) (d := d + 16) many 6 hm (by decide) s2
    have s3 := u3.src s2
    obtain ⟨_, st4, e4, sizes, rfl, hz, u4⟩ := law_sizes (N := N) (d := d + 17) many hm s3
    have s4 := u4.src s3
    have e5 := keeps_ok (N := N) (d := d + 13) (st := st4) many hm fs sizes hl hf hz
    have e6 := law_keeps (N := N) (d := d + 18) (st := st4) many (by omega) fs sizes hf
    obtain ⟨_, st5, e7, ds, rfl, hdl, hd, u5⟩ := law_script (N := N) (d := d + 17) many 6 hm (by decide) s4
    have s5 := u5.src s4
    obtain ⟨x5, x7, st6, e8, u6⟩ := vals (N := N) (d := d) many hm (some (.scr (ns.map .int))) (some (.int (j : Nat))) (some (.tup (fs.map fV))) (some (.tup (sizes.map .int))) [.tup (fs.map fV), .tup (sizes.map .int), .tup (ds.map dV)] v5 v7 st5 (fun v hv => by
      simp only [List.mem_cons, List.not_mem_nil, or_false] at hv
      rcases hv with rfl | rfl | rfl
      · exact facts_vb hm.2 hl hf
      · exact sizes_vb hm.2 hz
      · exact script_vb hdl) s5
    obtain ⟨w1, w2, w3, w4, w5, w6, w7, st', e9⟩ := law_cases ns js (some (.int (j : Nat))) (some (.tup (fs.map fV))) (some (.cel st.length)) (some (.int (many : Nat))) x5 (some (.tup (sizes.map .int))) x7 st6
    have e3 : RU N (d + 20) 29 [.cel st.length, .int (many : Nat), .int 6] st2 = .ok (.tup (fs.map fV)) st3 := e3
    have e7 : RU N (d + 20) 32 [.cel st.length, .int (many : Nat), .int 6] st4 = .ok (.tup (ds.map dV)) st5 := e7
    refine ⟨w1, w2, w3, w4, w5, w6, w7, st', ?_⟩
    rw [List.map_cons, forR_cons]
    simp (implicitDefEqProofs := false) only [Mi.seqK_nx, Mi.seqK_rt, Mi.andK_t, Mi.andK_f, Mi.orK_t, Mi.orK_f, Mi.forB_nm, Mi.forB_2, Mi.binK2_d, Mi.binK1_d, Mi.negK_d, Mi.truK_d, Mi.tstK_d, Mi.notK_d, Mi.cmpK2_d, Mi.cmpK1_d, Mi.chnK3_t, Mi.chnK3_f, Mi.chnK2_d, Mi.chnK1_d, Mi.iteK_t, Mi.iteK_f, Mi.tupK_d, Mi.lstK_d, Mi.cellK_d, Mi.callK_d, Mi.biK_d, Mi.idxK2_d, Mi.idxK1_d, Mi.sliK3_t, Mi.sliK3_l, Mi.oIntK_i, Mi.sliK2_d, Mi.sliK1_d, Mi.lcT_d, Mi.lcE_d, Mi.lcK_d, Mi.lrgK2_d, Mi.lrgK1_d, Mi.consK2_d, Mi.consK1_d, Mi.rng1K_d, Mi.rng2K2_d, Mi.rng2K1_d, Mi.zipO_d, Mi.zipK2_d, Mi.zipK1_d, Mi.enuK_d, Mi.sqK_d, Mi.setK_d, Mi.setTK_d, Mi.putK3_d, Mi.putK2_d, Mi.putK1_d, Mi.appK2_d, Mi.appK1_d, Mi.dropK_d, Mi.retK_d, Mi.iteS_t, Mi.iteS_f, Mi.forK_d, Mi.turnK2_d, Mi.turnK1_t, Mi.turnK1_f, Mi.whK_t, Mi.whK_f, Mi.lcB_nm, Mi.lcB_2, Mi.evE_var, Mi.evE_non, Mi.evE_bl, Mi.evE_int, Mi.evE_str, Mi.evE_gl, Mi.evE_bty, Mi.evE_bin, Mi.evE_neg, Mi.evE_not, Mi.evE_and, Mi.evE_or, Mi.evE_cmp, Mi.evE_chn, Mi.evE_ite, Mi.evE_tup, Mi.evE_lst, Mi.evE_cell, Mi.evE_call, Mi.callP_sto, Mi.evE_bi, Mi.evE_idx, Mi.evE_sli, Mi.evE_lc, Mi.evE_lrg, Mi.evE_lrd, Mi.evA_nil, Mi.evA_cons, Mi.evI_rng1, Mi.evI_rng2, Mi.evI_zip, Mi.evI_enu, Mi.evI_sq, Mi.tstR_false, Mi.tstR_true, Mi.optR_false, Mi.optR_true, Mi.oInt_int, Mi.isOmit_omit, Mi.evS_skip, Mi.evS_seq, Mi.evS_set, Mi.evS_setT, Mi.evS_put, Mi.evS_app, Mi.evS_drop, Mi.evS_ret, Mi.evS_ite, Mi.evS_for, Mi.evS_while, Mi.evS_raise, Mi.sto_some, Mi.sto_none, Mi.val_nx, Mi.val_rt, Mi.setTg_nm, Mi.setTg_nil, Mi.setTg_cons, Mi.wipe_nil, Mi.wipe_cons, Mi.forR_nil, Mi.truV_bl, Mi.truV_non, Mi.truV_int, Mi.add_ii, Mi.sub_ii, Mi.lt_ii, Mi.le_ii, Mi.gt_ii, Mi.ge_ii, Mi.isn_v, Mi.notn_v, Mi.isN_non, Mi.isN_int, Mi.isN_tup, Mi.isN_bl, Mi.isN_str, Mi.eq_ii, Mi.ne_ii, Mi.eq_ss, Mi.ne_ss, Mi.neg_i, Mi.walk_lst, Mi.walk_tup, Mi.walk_scr, Mi.len_tup, Mi.len_lst, Mi.len_scr, Mi.tuple_lst, Mi.tuple_tup, Mi.list_tup, Mi.list_lst, Mi.int_int, Mi.int_bl, Mi.abs_int, Mi.min_int, Mi.max_int, Mi.isi_def, Mi.sum_lst, Mi.all_lst, Mi.any_lst, Mi.ints_map, Mi.bools_map, R.bind_ok, R.bind_ex, R.bind_bad, R.lift_some, R.noEx_ok, List.getElem?_cons_zero, List.getElem?_cons_succ, Option.bind_some, Option.map_some, Option.bind_eq_bind, id_eq, List.set_cons_zero, List.set_cons_succ, if_true, if_false, Bool.false_eq_true, reduceIte, Bool.not_true, Bool.not_false, Ex.isOmit, caseB, b40, e1, e2]
    rw [hmm]
    simp (implicitDefEqProofs := false) only [Mi.seqK_nx, Mi.seqK_rt, Mi.andK_t, Mi.andK_f, Mi.orK_t, Mi.orK_f, Mi.forB_nm, Mi.forB_2, Mi.binK2_d, Mi.binK1_d, Mi.negK_d, Mi.truK_d, Mi.tstK_d, Mi.notK_d, Mi.cmpK2_d, Mi.cmpK1_d, Mi.chnK3_t, Mi.chnK3_f, Mi.chnK2_d, Mi.chnK1_d, Mi.iteK_t, Mi.iteK_f, Mi.tupK_d, Mi.lstK_d, Mi.cellK_d, Mi.callK_d, Mi.biK_d, Mi.idxK2_d, Mi.idxK1_d, Mi.sliK3_t, Mi.sliK3_l, Mi.oIntK_i, Mi.sliK2_d, Mi.sliK1_d, Mi.lcT_d, Mi.lcE_d, Mi.lcK_d, Mi.lrgK2_d, Mi.lrgK1_d, Mi.consK2_d, Mi.consK1_d, Mi.rng1K_d, Mi.rng2K2_d, Mi.rng2K1_d, Mi.zipO_d, Mi.zipK2_d, Mi.zipK1_d, Mi.enuK_d, Mi.sqK_d, Mi.setK_d, Mi.setTK_d, Mi.putK3_d, Mi.putK2_d, Mi.putK1_d, Mi.appK2_d, Mi.appK1_d, Mi.dropK_d, Mi.retK_d, Mi.iteS_t, Mi.iteS_f, Mi.forK_d, Mi.turnK2_d, Mi.turnK1_t, Mi.turnK1_f, Mi.whK_t, Mi.whK_f, Mi.lcB_nm, Mi.lcB_2, Mi.evE_var, Mi.evE_non, Mi.evE_bl, Mi.evE_int, Mi.evE_str, Mi.evE_gl, Mi.evE_bty, Mi.evE_bin, Mi.evE_neg, Mi.evE_not, Mi.evE_and, Mi.evE_or, Mi.evE_cmp, Mi.evE_chn, Mi.evE_ite, Mi.evE_tup, Mi.evE_lst, Mi.evE_cell, Mi.evE_call, Mi.callP_sto, Mi.evE_bi, Mi.evE_idx, Mi.evE_sli, Mi.evE_lc, Mi.evE_lrg, Mi.evE_lrd, Mi.evA_nil, Mi.evA_cons, Mi.evI_rng1, Mi.evI_rng2, Mi.evI_zip, Mi.evI_enu, Mi.evI_sq, Mi.tstR_false, Mi.tstR_true, Mi.optR_false, Mi.optR_true, Mi.oInt_int, Mi.isOmit_omit, Mi.evS_skip, Mi.evS_seq, Mi.evS_set, Mi.evS_setT, Mi.evS_put, Mi.evS_app, Mi.evS_drop, Mi.evS_ret, Mi.evS_ite, Mi.evS_for, Mi.evS_while, Mi.evS_raise, Mi.sto_some, Mi.sto_none, Mi.val_nx, Mi.val_rt, Mi.setTg_nm, Mi.setTg_nil, Mi.setTg_cons, Mi.wipe_nil, Mi.wipe_cons, Mi.forR_nil, Mi.truV_bl, Mi.truV_non, Mi.truV_int, Mi.add_ii, Mi.sub_ii, Mi.lt_ii, Mi.le_ii, Mi.gt_ii, Mi.ge_ii, Mi.isn_v, Mi.notn_v, Mi.isN_non, Mi.isN_int, Mi.isN_tup, Mi.isN_bl, Mi.isN_str, Mi.eq_ii, Mi.ne_ii, Mi.eq_ss, Mi.ne_ss, Mi.neg_i, Mi.walk_lst, Mi.walk_tup, Mi.walk_scr, Mi.len_tup, Mi.len_lst, Mi.len_scr, Mi.tuple_lst, Mi.tuple_tup, Mi.list_tup, Mi.list_lst, Mi.int_int, Mi.int_bl, Mi.abs_int, Mi.min_int, Mi.max_int, Mi.isi_def, Mi.sum_lst, Mi.all_lst, Mi.any_lst, Mi.ints_map, Mi.bools_map, R.bind_ok, R.bind_ex, R.bind_bad, R.lift_some, R.noEx_ok, List.getElem?_cons_zero, List.getElem?_cons_succ, Option.bind_some, Option.map_some, Option.bind_eq_bind, id_eq, List.set_cons_zero, List.set_cons_succ, if_true, if_false, Bool.false_eq_true, reduceIte, Bool.not_true, Bool.not_false, Ex.isOmit, e3, e4, e5, e6, ne_bb, beq_self_eq_true, e7]
    refine (congrArg (fun r : R Fl => (((r.bind (seqK (evS txt.mdl.G (runF txt.mdl.G txt.mdl.T N (d + 20)) N .skip))))).bind (seqK (forR (forB (.nm 1) (evS G (RU N (d + 20)) N caseB)) (js.map fun j => PV.int (j : Nat))))) e8).trans ?_
    simp (implicitDefEqProofs := false) only [Mi.seqK_nx, Mi.seqK_rt, Mi.andK_t, Mi.andK_f, Mi.orK_t, Mi.orK_f, Mi.forB_nm, Mi.forB_2, Mi.binK2_d, Mi.binK1_d, Mi.negK_d, Mi.truK_d, Mi.tstK_d, Mi.notK_d, Mi.cmpK2_d, Mi.cmpK1_d, Mi.chnK3_t, Mi.chnK3_f, Mi.chnK2_d, Mi.chnK1_d, Mi.iteK_t, Mi.iteK_f, Mi.tupK_d, Mi.lstK_d, Mi.cellK_d, Mi.callK_d, Mi.biK_d, Mi.idxK2_d, Mi.idxK1_d, Mi.sliK3_t, Mi.sliK3_l, Mi.oIntK_i, Mi.sliK2_d, Mi.sliK1_d, Mi.lcT_d, Mi.lcE_d, Mi.lcK_d, Mi.lrgK2_d, Mi.lrgK1_d, Mi.consK2_d, Mi.consK1_d, Mi.rng1K_d, Mi.rng2K2_d, Mi.rng2K1_d, Mi.zipO_d, Mi.zipK2_d, Mi.zipK1_d, Mi.enuK_d, Mi.sqK_d, Mi.setK_d, Mi.setTK_d, Mi.putK3_d, Mi.putK2_d, Mi.putK1_d, Mi.appK2_d, Mi.appK1_d, Mi.dropK_d, Mi.retK_d, Mi.iteS_t, Mi.iteS_f, Mi.forK_d, Mi.turnK2_d, Mi.turnK1_t, Mi.turnK1_f, Mi.whK_t, Mi.whK_f, Mi.lcB_nm, Mi.lcB_2, Mi.evE_var, Mi.evE_non, Mi.evE_bl, Mi.evE_int, Mi.evE_str, Mi.evE_gl, Mi.evE_bty, Mi.evE_bin, Mi.evE_neg, Mi.evE_not, Mi.evE_and, Mi.evE_or, Mi.evE_cmp, Mi.evE_chn, Mi.evE_ite, Mi.evE_tup, Mi.evE_lst, Mi.evE_cell, Mi.evE_call, Mi.callP_sto, Mi.evE_bi, Mi.evE_idx, Mi.evE_sli, Mi.evE_lc, Mi.evE_lrg, Mi.evE_lrd, Mi.evA_nil, Mi.evA_cons, Mi.evI_rng1, Mi.evI_rng2, Mi.evI_zip, Mi.evI_enu, Mi.evI_sq, Mi.tstR_false, Mi.tstR_true, Mi.optR_false, Mi.optR_true, Mi.oInt_int, Mi.isOmit_omit, Mi.evS_skip, Mi.evS_seq, Mi.evS_set, Mi.evS_setT, Mi.evS_put, Mi.evS_app, Mi.evS_drop, Mi.evS_ret, Mi.evS_ite, Mi.evS_for, Mi.evS_while, Mi.evS_raise, Mi.sto_some, Mi.sto_none, Mi.val_nx, Mi.val_rt, Mi.setTg_nm, Mi.setTg_nil, Mi.setTg_cons, Mi.wipe_nil, Mi.wipe_cons, Mi.forR_nil, Mi.truV_bl, Mi.truV_non, Mi.truV_int, Mi.add_ii, Mi.sub_ii, Mi.lt_ii, Mi.le_ii, Mi.gt_ii, Mi.ge_ii, Mi.isn_v, Mi.notn_v, Mi.isN_non, Mi.isN_int, Mi.isN_tup, Mi.isN_bl, Mi.isN_str, Mi.eq_ii, Mi.ne_ii, Mi.eq_ss, Mi.ne_ss, Mi.neg_i, Mi.walk_lst, Mi.walk_tup, Mi.walk_scr, Mi.len_tup, Mi.len_lst, Mi.len_scr, Mi.tuple_lst, Mi.tuple_tup, Mi.list_tup, Mi.list_lst, Mi.int_int, Mi.int_bl, Mi.abs_int, Mi.min_int, Mi.max_int, Mi.isi_def, Mi.sum_lst, Mi.all_lst, Mi.any_lst, Mi.ints_map, Mi.bools_map, R.bind_ok, R.bind_ex, R.bind_bad, R.lift_some, R.noEx_ok, List.getElem?_cons_zero, List.getElem?_cons_succ, Option.bind_some, Option.map_some, Option.bind_eq_bind, id_eq, List.set_cons_zero, List.set_cons_succ, if_true, if_false, Bool.false_eq_true, reduceIte, Bool.not_true, Bool.not_false, Ex.isOmit]
    exact e9
theorem law_ok (ns : List Int) : ∃ st', RU N (d + 21) 40 [.scr (ns.map .int)] [] = .ok (.bl true) st' := by
  rw [RU, u40]
  have mn : (if (10 : Int) < ((ns.map PV.int).length : Nat) then (10 : Int) else ((ns.map PV.int).length : Nat)) = ((min ns.length 10 : Nat) : Int) := by rw [List.length_map]; split <;> omega
  have e0 : (1 : Int) + ((min ns.length 10 : Nat) : Int) = ((1 + min ns.length 10 : Nat) : Int) := by omega
  obtain ⟨w1, w2, w3, w4, w5, w6, w7, st1, e1⟩ := law_cases (N := N) (d := d) ns (List.range (1 + min ns.length 10)) none none none none none none none []
  have hf : ∀ x ∈ ([(("more" : Str), [0], [3]), (("more" : Str), [1], [4])] : List Fct), FctOk 3 x := by
    intro x hx
    simp only [List.mem_cons, List.not_mem_nil, or_false] at hx
    rcases hx with rfl | rfl <;> exact ⟨by decide, by decide, by decide⟩
  have z1 : SzOk 3 [3, 2, 1, 2, 2] := ⟨rfl, by decide⟩
  have z2 : SzOk 3 [3, 3, 1, 2, 2] := ⟨rfl, by decide⟩
  have k1 := keeps_ok (N := N) (d := d + 13) (st := st1) 3 (by decide) _ _ (by decide) hf z1
  have k2 := keeps_ok (N := N) (d := d + 13) (st := st1) 3 (by decide) _ _ (by decide) hf z2
  have c1 : keepsB 3 [(("more" : Str), [0], [3]), (("more" : Str), [1], [4])] [3, 2, 1, 2, 2] = false := by decide +kernel
  have c2 : keepsB 3 [(("more" : Str), [0], [3]), (("more" : Str), [1], [4])] [3, 3, 1, 2, 2] = true := by decide +kernel
  have s1 := is_script_v (N := N) (d := d + 16) (st := st1) 3 (by decide) (.tup [.tup [.str ("left" : Str), .int 3]]) ⟨3, rfl⟩
  have c3 : scriptB 3 (.tup [.tup [.str ("left" : Str), .int 3]]) = false := by decide +kernel
  rw [c1] at k1
  rw [c2] at k2
  rw [c3] at s1
  have k1 : RU N (d + 20) 20 [.int 3, .tup [.tup [.str ("more" : Str), .tup [.int 0], .tup [.int 3]], .tup [.str ("more" : Str), .tup [.int 1], .tup [.int 4]]], .tup [.int 3, .int 2, .int 1, .int 2, .int 2]] st1 = .ok (.bl false) st1 := k1
  have k2 : RU N (d + 20) 20 [.int 3, .tup [.tup [.str ("more" : Str), .tup [.int 0], .tup [.int 3]], .tup [.str ("more" : Str), .tup [.int 1], .tup [.int 4]]], .tup [.int 3, .int 3, .int 1, .int 2, .int 2]] st1 = .ok (.bl true) st1 := k2
  have s1 : RU N (d + 20) 19 [.int 3, .tup [.tup [.str ("left" : Str), .int 3]]] st1 = .ok (.bl false) st1 := s1
  refine ⟨st1, ?_⟩
  rw [show b40 = .seq (.for (.nm 1) (.rng1 (.bin .Add (.int 1) (.bi .min2 (.cons (.bi .len (.cons (.var 0) .nil)) (.cons (.int 10) .nil))))) caseB) lastB from rfl, evS_seq]
  simp (implicitDefEqProofs := false) only [Mi.seqK_nx, Mi.seqK_rt, Mi.andK_t, Mi.andK_f, Mi.orK_t, Mi.orK_f, Mi.forB_nm, Mi.forB_2, Mi.binK2_d, Mi.binK1_d, Mi.negK_d, Mi.truK_d, Mi.tstK_d, Mi.notK_d, Mi.cmpK2_d, Mi.cmpK1_d, Mi.chnK3_t, Mi.chnK3_f, Mi.chnK2_d, Mi.chnK1_d, Mi.iteK_t, Mi.iteK_f, Mi.tupK_d, Mi.lstK_d, Mi.cellK_d, Mi.callK_d, Mi.biK_d, Mi.idxK2_d, Mi.idxK1_d, Mi.sliK3_t, Mi.sliK3_l, Mi.oIntK_i, Mi.sliK2_d, Mi.sliK1_d, Mi.lcT_d, Mi.lcE_d, Mi.lcK_d, Mi.lrgK2_d, Mi.lrgK1_d, Mi.consK2_d, Mi.consK1_d, Mi.rng1K_d, Mi.rng2K2_d, Mi.rng2K1_d, Mi.zipO_d, Mi.zipK2_d, Mi.zipK1_d, Mi.enuK_d, Mi.sqK_d, Mi.setK_d, Mi.setTK_d, Mi.putK3_d, Mi.putK2_d, Mi.putK1_d, Mi.appK2_d, Mi.appK1_d, Mi.dropK_d, Mi.retK_d, Mi.iteS_t, Mi.iteS_f, Mi.forK_d, Mi.turnK2_d, Mi.turnK1_t, Mi.turnK1_f, Mi.whK_t, Mi.whK_f, Mi.lcB_nm, Mi.lcB_2, Mi.evE_var, Mi.evE_non, Mi.evE_bl, Mi.evE_int, Mi.evE_str, Mi.evE_gl, Mi.evE_bty, Mi.evE_bin, Mi.evE_neg, Mi.evE_not, Mi.evE_and, Mi.evE_or, Mi.evE_cmp, Mi.evE_chn, Mi.evE_ite, Mi.evE_tup, Mi.evE_lst, Mi.evE_cell, Mi.evE_call, Mi.callP_sto, Mi.evE_bi, Mi.evE_idx, Mi.evE_sli, Mi.evE_lc, Mi.evE_lrg, Mi.evE_lrd, Mi.evA_nil, Mi.evA_cons, Mi.evI_rng1, Mi.evI_rng2, Mi.evI_zip, Mi.evI_enu, Mi.evI_sq, Mi.tstR_false, Mi.tstR_true, Mi.optR_false, Mi.optR_true, Mi.oInt_int, Mi.isOmit_omit, Mi.evS_skip, Mi.evS_seq, Mi.evS_set, Mi.evS_setT, Mi.evS_put, Mi.evS_app, Mi.evS_drop, Mi.evS_ret, Mi.evS_ite, Mi.evS_for, Mi.evS_while, Mi.evS_raise, Mi.sto_some, Mi.sto_none, Mi.val_nx, Mi.val_rt, Mi.setTg_nm, Mi.setTg_nil, Mi.setTg_cons, Mi.wipe_nil, Mi.wipe_cons, Mi.forR_nil, Mi.truV_bl, Mi.truV_non, Mi.truV_int, Mi.add_ii, Mi.sub_ii, Mi.lt_ii, Mi.le_ii, Mi.gt_ii, Mi.ge_ii, Mi.isn_v, Mi.notn_v, Mi.isN_non, Mi.isN_int, Mi.isN_tup, Mi.isN_bl, Mi.isN_str, Mi.eq_ii, Mi.ne_ii, Mi.eq_ss, Mi.ne_ss, Mi.neg_i, Mi.walk_lst, Mi.walk_tup, Mi.walk_scr, Mi.len_tup, Mi.len_lst, Mi.len_scr, Mi.tuple_lst, Mi.tuple_tup, Mi.list_tup, Mi.list_lst, Mi.int_int, Mi.int_bl, Mi.abs_int, Mi.min_int, Mi.max_int, Mi.isi_def, Mi.sum_lst, Mi.all_lst, Mi.any_lst, Mi.ints_map, Mi.bools_map, R.bind_ok, R.bind_ex, R.bind_bad, R.lift_some, R.noEx_ok, List.getElem?_cons_zero, List.getElem?_cons_succ, Option.bind_some, Option.map_some, Option.bind_eq_bind, id_eq, List.set_cons_zero, List.set_cons_succ, if_true, if_false, Bool.false_eq_true, reduceIte, Bool.not_true, Bool.not_false, Ex.isOmit]
  rw [mn, e0]
  simp (implicitDefEqProofs := false) only [Mi.seqK_nx, Mi.seqK_rt, Mi.andK_t, Mi.andK_f, Mi.orK_t, Mi.orK_f, Mi.forB_nm, Mi.forB_2, Mi.binK2_d, Mi.binK1_d, Mi.negK_d, Mi.truK_d, Mi.tstK_d, Mi.notK_d, Mi.cmpK2_d, Mi.cmpK1_d, Mi.chnK3_t, Mi.chnK3_f, Mi.chnK2_d, Mi.chnK1_d, Mi.iteK_t, Mi.iteK_f, Mi.tupK_d, Mi.lstK_d, Mi.cellK_d, Mi.callK_d, Mi.biK_d, Mi.idxK2_d, Mi.idxK1_d, Mi.sliK3_t, Mi.sliK3_l, Mi.oIntK_i, Mi.sliK2_d, Mi.sliK1_d, Mi.lcT_d, Mi.lcE_d, Mi.lcK_d, Mi.lrgK2_d, Mi.lrgK1_d, Mi.consK2_d, Mi.consK1_d, Mi.rng1K_d, Mi.rng2K2_d, Mi.rng2K1_d, Mi.zipO_d, Mi.zipK2_d, Mi.zipK1_d, Mi.enuK_d, Mi.sqK_d, Mi.setK_d, Mi.setTK_d, Mi.putK3_d, Mi.putK2_d, Mi.putK1_d, Mi.appK2_d, Mi.appK1_d, Mi.dropK_d, Mi.retK_d, Mi.iteS_t, Mi.iteS_f, Mi.forK_d, Mi.turnK2_d, Mi.turnK1_t, Mi.turnK1_f, Mi.whK_t, Mi.whK_f, Mi.lcB_nm, Mi.lcB_2, Mi.evE_var, Mi.evE_non, Mi.evE_bl, Mi.evE_int, Mi.evE_str, Mi.evE_gl, Mi.evE_bty, Mi.evE_bin, Mi.evE_neg, Mi.evE_not, Mi.evE_and, Mi.evE_or, Mi.evE_cmp, Mi.evE_chn, Mi.evE_ite, Mi.evE_tup, Mi.evE_lst, Mi.evE_cell, Mi.evE_call, Mi.callP_sto, Mi.evE_bi, Mi.evE_idx, Mi.evE_sli, Mi.evE_lc, Mi.evE_lrg, Mi.evE_lrd, Mi.evA_nil, Mi.evA_cons, Mi.evI_rng1, Mi.evI_rng2, Mi.evI_zip, Mi.evI_enu, Mi.evI_sq, Mi.tstR_false, Mi.tstR_true, Mi.optR_false, Mi.optR_true, Mi.oInt_int, Mi.isOmit_omit, Mi.evS_skip, Mi.evS_seq, Mi.evS_set, Mi.evS_setT, Mi.evS_put, Mi.evS_app, Mi.evS_drop, Mi.evS_ret, Mi.evS_ite, Mi.evS_for, Mi.evS_while, Mi.evS_raise, Mi.sto_some, Mi.sto_none, Mi.val_nx, Mi.val_rt, Mi.setTg_nm, Mi.setTg_nil, Mi.setTg_cons, Mi.wipe_nil, Mi.wipe_cons, Mi.forR_nil, Mi.truV_bl, Mi.truV_non, Mi.truV_int, Mi.add_ii, Mi.sub_ii, Mi.lt_ii, Mi.le_ii, Mi.gt_ii, Mi.ge_ii, Mi.isn_v, Mi.notn_v, Mi.isN_non, Mi.isN_int, Mi.isN_tup, Mi.isN_bl, Mi.isN_str, Mi.eq_ii, Mi.ne_ii, Mi.eq_ss, Mi.ne_ss, Mi.neg_i, Mi.walk_lst, Mi.walk_tup, Mi.walk_scr, Mi.len_tup, Mi.len_lst, Mi.len_scr, Mi.tuple_lst, Mi.tuple_tup, Mi.list_tup, Mi.list_lst, Mi.int_int, Mi.int_bl, Mi.abs_int, Mi.min_int, Mi.max_int, Mi.isi_def, Mi.sum_lst, Mi.all_lst, Mi.any_lst, Mi.ints_map, Mi.bools_map, R.bind_ok, R.bind_ex, R.bind_bad, R.lift_some, R.noEx_ok, List.getElem?_cons_zero, List.getElem?_cons_succ, Option.bind_some, Option.map_some, Option.bind_eq_bind, id_eq, List.set_cons_zero, List.set_cons_succ, if_true, if_false, Bool.false_eq_true, reduceIte, Bool.not_true, Bool.not_false, Ex.isOmit, small_nat (n := 1 + min ns.length 10) (by omega), Int.toNat_natCast, rngL_nat]
  rw [e1]
  simp (implicitDefEqProofs := false) only [Mi.seqK_nx, Mi.seqK_rt, Mi.andK_t, Mi.andK_f, Mi.orK_t, Mi.orK_f, Mi.forB_nm, Mi.forB_2, Mi.binK2_d, Mi.binK1_d, Mi.negK_d, Mi.truK_d, Mi.tstK_d, Mi.notK_d, Mi.cmpK2_d, Mi.cmpK1_d, Mi.chnK3_t, Mi.chnK3_f, Mi.chnK2_d, Mi.chnK1_d, Mi.iteK_t, Mi.iteK_f, Mi.tupK_d, Mi.lstK_d, Mi.cellK_d, Mi.callK_d, Mi.biK_d, Mi.idxK2_d, Mi.idxK1_d, Mi.sliK3_t, Mi.sliK3_l, Mi.oIntK_i, Mi.sliK2_d, Mi.sliK1_d, Mi.lcT_d, Mi.lcE_d, Mi.lcK_d, Mi.lrgK2_d, Mi.lrgK1_d, Mi.consK2_d, Mi.consK1_d, Mi.rng1K_d, Mi.rng2K2_d, Mi.rng2K1_d, Mi.zipO_d, Mi.zipK2_d, Mi.zipK1_d, Mi.enuK_d, Mi.sqK_d, Mi.setK_d, Mi.setTK_d, Mi.putK3_d, Mi.putK2_d, Mi.putK1_d, Mi.appK2_d, Mi.appK1_d, Mi.dropK_d, Mi.retK_d, Mi.iteS_t, Mi.iteS_f, Mi.forK_d, Mi.turnK2_d, Mi.turnK1_t, Mi.turnK1_f, Mi.whK_t, Mi.whK_f, Mi.lcB_nm, Mi.lcB_2, Mi.evE_var, Mi.evE_non, Mi.evE_bl, Mi.evE_int, Mi.evE_str, Mi.evE_gl, Mi.evE_bty, Mi.evE_bin, Mi.evE_neg, Mi.evE_not, Mi.evE_and, Mi.evE_or, Mi.evE_cmp, Mi.evE_chn, Mi.evE_ite, Mi.evE_tup, Mi.evE_lst, Mi.evE_cell, Mi.evE_call, Mi.callP_sto, Mi.evE_bi, Mi.evE_idx, Mi.evE_sli, Mi.evE_lc, Mi.evE_lrg, Mi.evE_lrd, Mi.evA_nil, Mi.evA_cons, Mi.evI_rng1, Mi.evI_rng2, Mi.evI_zip, Mi.evI_enu, Mi.evI_sq, Mi.tstR_false, Mi.tstR_true, Mi.optR_false, Mi.optR_true, Mi.oInt_int, Mi.isOmit_omit, Mi.evS_skip, Mi.evS_seq, Mi.evS_set, Mi.evS_setT, Mi.evS_put, Mi.evS_app, Mi.evS_drop, Mi.evS_ret, Mi.evS_ite, Mi.evS_for, Mi.evS_while, Mi.evS_raise, Mi.sto_some, Mi.sto_none, Mi.val_nx, Mi.val_rt, Mi.setTg_nm, Mi.setTg_nil, Mi.setTg_cons, Mi.wipe_nil, Mi.wipe_cons, Mi.forR_nil, Mi.truV_bl, Mi.truV_non, Mi.truV_int, Mi.add_ii, Mi.sub_ii, Mi.lt_ii, Mi.le_ii, Mi.gt_ii, Mi.ge_ii, Mi.isn_v, Mi.notn_v, Mi.isN_non, Mi.isN_int, Mi.isN_tup, Mi.isN_bl, Mi.isN_str, Mi.eq_ii, Mi.ne_ii, Mi.eq_ss, Mi.ne_ss, Mi.neg_i, Mi.walk_lst, Mi.walk_tup, Mi.walk_scr, Mi.len_tup, Mi.len_lst, Mi.len_scr, Mi.tuple_lst, Mi.tuple_tup, Mi.list_tup, Mi.list_lst, Mi.int_int, Mi.int_bl, Mi.abs_int, Mi.min_int, Mi.max_int, Mi.isi_def, Mi.sum_lst, Mi.all_lst, Mi.any_lst, Mi.ints_map, Mi.bools_map, R.bind_ok, R.bind_ex, R.bind_bad, R.lift_some, R.noEx_ok, List.getElem?_cons_zero, List.getElem?_cons_succ, Option.bind_some, Option.map_some, Option.bind_eq_bind, id_eq, List.set_cons_zero, List.set_cons_succ, if_true, if_false, Bool.false_eq_true, reduceIte, Bool.not_true, Bool.not_false, Ex.isOmit, lastB, b40, k1, k2, s1]

end
end K01

end

section
set_option Elab.async false
set_option linter.all false
set_option maxRecDepth 100000
set_option maxHeartbeats 0
namespace K01
open PySem PySem.Spec PyProof.Rows L2 Mi
abbrev R : PySem.W.OpenRow := PySem.W.OpenLaw.row PySem.Challenge.rw_surefalls_k01_values_recognized
abbrev hk : PySem.W.Hook := txt.hook
def ob (s : PySem.W.SharedT) : He.AlX := He.obsX 5 txt.fa txt.fn [] [] txt.ex (HandSHeadRun.getT s)
theorem ob_eq (s : PySem.W.SharedT) : ob s = hk.obs s.abs := He.obsX_eq (HandSHeadRun.getT_eq s)
theorem run (w : World) : HandSHeadRun.RunEq R (PySem.W.view R.prog [50]) hk ob 4000 loose w := by
  intro os
  kernel_rfl
end K01

end

section
set_option Elab.async false
set_option linter.all false
set_option maxRecDepth 100000
set_option maxHeartbeats 0
namespace K01
open PySem PySem.Spec PyProof.Rows L2 Mi
theorem plain (ns : List Int) (h : ns.length ≤ 63) : ∃ N st, runF txt.mdl.G txt.mdl.T N 21 40 [.scr (ns.map PV.int)] [] = .ok (.bl true) st := ⟨0, law_ok (N := 0) (d := 0) ns⟩
end K01
open PySem PySem.W PySem.Calls PyProof.Rows
theorem PySem.Challenge.cw_surefalls_k01_values_recognized_holds : PySem.Challenge.rw_surefalls_k01_values_recognized.Holds := by
  w_on; o_law
  refine HandSHeadRun.head_any (r := OpenLaw.row PySem.Challenge.rw_surefalls_k01_values_recognized) (q := view (OpenLaw.row PySem.Challenge.rw_surefalls_k01_values_recognized).prog [50]) (H := K01.hk) (ob := K01.ob) (M := 4000) (loose := K01.loose) (d := HandSHeadRun.topDef (OpenLaw.row PySem.Challenge.rw_surefalls_k01_values_recognized).prog 50) (kwd := []) K01.ob_eq
    (by kernel_rfl) (fun s => by kernel_rfl) K01.run (by kernel_rfl) (by kernel_rfl) (by kernel_rfl) (by rfl) (by first | assumption | decide +kernel) (by decide +kernel) ⟨rfl, rfl, rfl, rfl, rfl, by decide +kernel⟩ ?hw ?hc
  case hw => w_witness2
  case hc =>
    refine L2.walk_ofE (l := PySem.Challenge.rw_surefalls_k01_values_recognized) (n := 63) (k := 21) (x := "script") (CX := Mi.CXA PySem.Challenge.rw_surefalls_k01_values_recognized.prog) rfl (by decide) (by kernel_rfl) ⟨rfl, by decide, by decide⟩ ?F Mi.cxa_end
    intro w mg fa h Y G hmg0
    have hmg : mg ("law" : PySem.Str) = some (.ref fa) := by
      have e : (HandSHeadRun.topDef (OpenLaw.row PySem.Challenge.rw_surefalls_k01_values_recognized).prog 50).name = ("law" : PySem.Str) := by kernel_rfl
      rw [← e]
      exact hmg0
    exact Mi.law_end (t := K01.txt) (d := 21) (f := 40) (D := K01.d40) K01.ok K01.bds rfl rfl K01.plain Y G hmg

end
