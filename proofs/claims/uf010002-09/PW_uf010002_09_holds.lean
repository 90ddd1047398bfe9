import PyProof.Rows.All
import Wide.All
import OpenK.AllK
import Wide.FinOn
import Open.Row
import PyProof.Rows.News
import PyProof.Rows.Nodes
import PyProof.Rows.EqMixed
import PyProof.DictDisplay
import PyProof.DictIter
import PyProof.Rows.Tup
import PyProof.Rows.CellsFrame
import KE.KEqDict
import OpenK.KRaise
import KE.KDictOf
import PyProof.Rows.ListAppend
import PyProof.Rows.DictMethods
import KE.KItem
import PyProof.StrCalls2
import PyProof.StrLawsJoin
import PyProof.StrLaws
import PyProof.DictStraight
import PyProof.Rows.Chain
import PyProof.SliceMore
import OpenK.KWalk
import PyProof.DictTable
import PyProof.RangeFor
import PyProof.Raises
import PyProof.Seq
import PyProof.TableCode
import PyProof.CompFree
import PyProof.WalksMore
import PyProof.Rows.GenSrcRange
import PyProof.ZipIter
import PyProof.TupleIter
import KE.KPairComp
import PySem.Challenge.RW_uf010002_09
set_option Elab.async false
set_option genSizeOf false

section
set_option autoImplicit false
namespace Mine
open PySem

inductive Key where
  | i (n : Int)
  | s (x : Str)
  deriving DecidableEq

/-- frozen data -/
inductive D where
  | none
  | bool (b : Bool)
  | int (i : Int)
  | str (s : Str)
  | tup (xs : List D)
  | list (xs : List D)
  | dict (ks : List Key) (vs : List D)
  | set (ks : List Key)
  deriving Inhabited

/-- values: data, or an object of the store, or a tuple that has such -/
inductive V where
  | d (x : D)
  | obj (n : Nat)
  | tup (xs : List V)
  deriving Inhabited

inductive MO where
  | list (xs : List V)
  | dict (ks : List Key) (vs : List V)
  | inst (c : Str) (ks : List Str) (vs : List V)
  deriving Inhabited

abbrev St := List (Bool × MO)
abbrev Loc := List (Str × V)

inductive Fl where
  | next
  | ret (v : V)

noncomputable def allD : List V → Option (List D)
  | [] => some []
  | .d x :: r => (allD r).map (x :: ·)
  | _ :: _ => none

noncomputable def getV (x : Str) : Loc → Option V
  | [] => none
  | (y, v) :: r => if x = y then some v else getV x r
noncomputable def setV (x : Str) (v : V) : Loc → Loc
  | [] => [(x, v)]
  | (y, u) :: r => if x = y then (y, v) :: r else (y, u) :: setV x v r

noncomputable def getK {α : Type} (k : Key) : List Key → List α → Option α
  | k' :: ks, v :: vs => if k = k' then some v else getK k ks vs
  | _, _ => none
noncomputable def putK {α : Type} (k : Key) (v : α) : List Key → List α → List Key × List α
  | k' :: ks, u :: vs => if k = k' then (k' :: ks, v :: vs) else ((k' :: (putK k v ks vs).1), u :: (putK k v ks vs).2)
  | _, _ => ([k], [v])
noncomputable def getS {α : Type} (k : Str) : List Str → List α → Option α
  | k' :: ks, v :: vs => if k = k' then some v else getS k ks vs
  | _, _ => none
noncomputable def putS {α : Type} (k : Str) (v : α) : List Str → List α → List Str × List α
  | k' :: ks, u :: vs => if k = k' then (k' :: ks, v :: vs) else ((k' :: (putS k v ks vs).1), u :: (putS k v ks vs).2)
  | _, _ => ([k], [v])

noncomputable def keyOf : V → Option Key
  | .d (.int i) => some (.i i)
  | .d (.str s) => some (.s s)
  | _ => none
noncomputable def Key.toD : Key → D
  | .i n => .int n
  | .s x => .str x

noncomputable def oget (σ : St) (n : Nat) : Option MO := (σ[n]?).map (·.2)
/-- change an object that is not locked -/
noncomputable def oput (σ : St) (n : Nat) (o : MO) : Option St :=
  match σ[n]? with
  | some (false, _) => some (σ.set n (false, o))
  | _ => none

noncomputable def mkTup (vs : List V) : V := match allD vs with
  | some ds => .d (.tup ds)
  | none => .tup vs

noncomputable def idxL {α : Type} (xs : List α) (i : Int) : Option α :=
  if 0 ≤ i then (if i < 1000000000 then xs[i.toNat]? else none)
  else if -(xs.length : Int) ≤ i ∧ -1000000000 ≤ i then xs[(i + xs.length).toNat]? else none

noncomputable def chr1 (c : Nat) : Str := ⟨#[c]⟩

noncomputable def getItemV (σ : St) (o i : V) : Option V :=
  match o, i with
  | .d (.list xs), .d (.int k) => (idxL xs k).map .d
  | .d (.tup xs), .d (.int k) => (idxL xs k).map .d
  | .d (.str s), .d (.int k) => if 0 ≤ k ∧ k < 1000000000 then (s.cps.toList[k.toNat]?).map (fun c => .d (.str (chr1 c))) else none
  | .d (.dict ks vs), i => (keyOf i).bind fun k => (getK k ks vs).map .d
  | .tup xs, .d (.int k) => idxL xs k
  | .obj n, i => match oget σ n with
    | some (.list xs) => match i with
      | .d (.int k) => idxL xs k
      | _ => none
    | some (.dict ks vs) => (keyOf i).bind fun k => getK k ks vs
    | _ => none
  | _, _ => none

noncomputable def sizeOk (n : Nat) : Bool := decide (n < 100000)

noncomputable def setItemV (σ : St) (o i v : V) : Option St :=
  match o with
  | .obj n => match oget σ n with
    | some (.list xs) => match i with
      | .d (.int k) => if 0 ≤ k ∧ k < 1000000000 ∧ k.toNat < xs.length then oput σ n (.list (xs.set k.toNat v)) else none
      | _ => none
    | some (.dict ks vs) => (keyOf i).bind fun k => if sizeOk ks.length then oput σ n (.dict (putK k v ks vs).1 (putK k v ks vs).2) else none
    | _ => none
  | _ => none

noncomputable def cutL {α : Type} (xs : List α) (lo : Nat) : Option Nat → List α
  | none => xs.drop lo
  | some hi => (xs.take hi).drop lo

noncomputable def sliceV (σ : St) (o : V) (lo : Nat) (hi : Option Nat) : Option V :=
  match o with
  | .d (.list xs) => if xs.length < 100000 then some (.d (.list (cutL xs lo hi))) else none
  | .obj n => match oget σ n with
    | some (.list xs) => if xs.length < 100000 then (allD (cutL xs lo hi)).map fun ds => .d (.list ds) else none
    | _ => none
  | _ => none

noncomputable def small (x : Int) : Bool := decide (x.natAbs < 2 ^ 64)

noncomputable def intV : V → Option Int
  | .d x => match x with
    | .int i => some i
    | _ => none
  | _ => none
noncomputable def boolV : V → Option Bool
  | .d x => match x with
    | .bool i => some i
    | _ => none
  | _ => none
noncomputable def tupV : V → Option (List D)
  | .d x => match x with
    | .tup i => some i
    | _ => none
  | _ => none
noncomputable def listV : V → Option (List D)
  | .d x => match x with
    | .list i => some i
    | _ => none
  | _ => none
noncomputable def binI (op : Operator) (a b : Int) : Option D := match op with
  | .Add => some (.int (a + b))
  | .Sub => some (.int (a - b))
  | .Mult => if small a then some (.int (a * b)) else none
  | .FloorDiv => if 0 < b ∧ b < 1000000000 then some (.int (a / b)) else none
  | .Mod => if 0 < b then some (.int (a % b)) else none
  | _ => none
noncomputable def addV (a b : V) : Option V := match intV a with
  | some x => (intV b).map fun y => .d (.int (x + y))
  | none => (tupV a).bind fun x => (tupV b).bind fun y => if sizeOk (x ++ y).length then some (.d (.tup (x ++ y))) else none
noncomputable def binV (_ : St) (op : Operator) (a b : V) : Option V :=
  match op with
  | .Add => addV a b
  | op => (intV a).bind fun x => (intV b).bind fun y => (binI op x y).map V.d

noncomputable def and2 (a b : Option Bool) : Option Bool := a.bind fun x => b.map fun y => x && y
/-- two rows of items, each with each -/
noncomputable def eqL (f : D → D → Option Bool) : List D → List D → Option Bool
  | x :: xs, y :: ys => and2 (f x y) (eqL f xs ys)
  | _, _ => some true
noncomputable def eqK (f : D → D → Option Bool) : List Key → List D → List Key → List D → Option Bool
  | k :: ks, v :: vs, js, us => match getK k js us with
    | none => some false
    | some u => and2 (f v u) (eqK f ks vs js us)
  | _, _, _, _ => some true

/-- equality of data that has no dict, so many deep -/
noncomputable def eqS (x y : D) : Option Bool := match x with
  | .int a => match y with
    | .int b => some (decide (a = b))
    | _ => none
  | .str a => match y with
    | .str b => some (decide (a = b))
    | _ => none
  | .none => match y with
    | .none => some true
    | _ => none
  | .bool a => match y with
    | .bool b => some (a == b)
    | _ => none
  | _ => none
noncomputable def eqP : Nat → D → D → Option Bool
  | 0, x, y => eqS x y
  | k + 1, x, y => match x with
    | .tup xs => match y with
      | .tup ys => (eqL (eqP k) xs ys).map fun b => b && decide (xs.length = ys.length)
      | _ => none
    | .list xs => match y with
      | .list ys => if xs.length = ys.length then eqL (eqP k) xs ys else some false
      | _ => none
    | x => eqS x y

/-- equality of data; a dict's values have no dict -/
noncomputable def eqD (x y : D) : Option Bool :=
  match x, y with
  | .dict ks vs, .dict js us => if ks.length = js.length then eqK (eqP 20) ks vs js us else some false
  | x, y => eqP 20 x y

noncomputable def mapO {α β : Type} (f : α → Option β) : List α → Option (List β)
  | [] => some []
  | x :: r => (f x).bind fun y => (mapO f r).map (y :: ·)

/-- a value as data, as it lies now -/
noncomputable def view : Nat → St → V → Option D
  | k, σ, v => match v with
    | .d x => some x
    | .tup xs => match k with
      | 0 => none
      | k + 1 => (mapO (view k σ) xs).map .tup
    | .obj n => match k with
      | 0 => none
      | k + 1 => match oget σ n with
        | some (.list xs) => (mapO (view k σ) xs).map .list
        | some (.dict ks vs) => (mapO (view k σ) vs).map (.dict ks)
        | _ => none

/-- reading: at most six deep -/
noncomputable abbrev rd (σ : St) (v : V) : Option D := view 6 σ v

noncomputable def truthV (_ : St) (v : V) : Option Bool :=
  match v with
  | .d .none => some false
  | .d (.bool b) => some b
  | .d (.int i) => some (decide (i ≠ 0))
  | _ => none

noncomputable def intsOf : List D → Option (List Int)
  | [] => some []
  | .int i :: r => (intsOf r).map (i :: ·)
  | _ :: _ => none
/-- what a loop takes from data -/
noncomputable def itemsD : D → Option (List D)
  | .dict ks _ => some (ks.map Key.toD)
  | _ => none

noncomputable def inL (x : D) : List D → Option Bool
  | [] => some false
  | y :: r => match eqP 20 y x, inL x r with
    | some a, some b => some (a || b)
    | _, _ => none

noncomputable def inD (x : D) : D → Option Bool
  | .list ys => inL x ys
  | .tup ys => inL x ys
  | .dict ks _ => (keyOf (.d x)).map fun k => ks.contains k
  | _ => none

noncomputable def cmpV (σ : St) (op : CmpOp) (a b : V) : Option Bool :=
  match op with
  | .Is => match b with
    | .d .none => match a with
      | .d .none => some true
      | _ => some false
    | _ => none
  | .IsNot => match b with
    | .d .none => match a with
      | .d .none => some false
      | _ => some true
    | _ => none
  | .Eq => (rd σ a).bind fun x => (rd σ b).bind fun y => eqD x y
  | .NotEq => (rd σ a).bind fun x => (rd σ b).bind fun y => (eqD x y).map not
  | .In => (rd σ a).bind fun x => (rd σ b).bind fun y => inD x y
  | .NotIn => (rd σ a).bind fun x => (rd σ b).bind fun y => (inD x y).map not
  | .Lt => match a, b with
    | .d (.int x), .d (.int y) => some (decide (x < y))
    | _, _ => none
  | .LtE => match a, b with
    | .d (.int x), .d (.int y) => some (decide (x ≤ y))
    | _, _ => none
  | .Gt => match a, b with
    | .d (.int x), .d (.int y) => some (decide (x > y))
    | _, _ => none
  | .GtE => match a, b with
    | .d (.int x), .d (.int y) => some (decide (x ≥ y))
    | _, _ => none

noncomputable def lenD : D → Option Nat
  | .list xs => some xs.length
  | .tup xs => some xs.length
  | .dict ks _ => some ks.length
  | .str s => some s.length
  | _ => none

noncomputable def sortI (ns : List Int) : List Int := ns.mergeSort fun a b => decide (a ≤ b)
noncomputable def sortD (xs : List D) : Option D :=
  if xs.length < 64 then (intsOf xs).map fun ns => .list ((sortI ns).map .int) else none

noncomputable def minL : List Int → Option Int
  | [] => none
  | x :: r => some (r.foldl (fun a b => if b < a then b else a) x)
noncomputable def maxL : List Int → Option Int
  | [] => none
  | x :: r => some (r.foldl (fun a b => if b > a then b else a) x)

inductive Bf where
  | len | min | max | int | list | dict | set | sorted | all
noncomputable def bfL : List (Str × Bf) := [("len", .len), ("min", .min), ("max", .max), ("int", .int), ("list", .list), ("dict", .dict), ("set", .set), ("sorted", .sorted), ("all", .all)]
noncomputable def bfOf (f : Str) : Option Bf := bfL.lookup f

noncomputable def one1 (args : List V) : Option V := match args with
  | [v] => some v
  | _ => none
noncomputable def listD : D → Option (List D)
  | .list xs => some xs
  | _ => none
noncomputable def ints1 (σ : St) (v : V) : Option (List Int) := (rd σ v).bind fun x => (listD x).bind intsOf
noncomputable def minV (σ : St) (args : List V) : Option V := match args with
  | [v] => (ints1 σ v).bind fun ns => (minL ns).map fun i => .d (.int i)
  | [a, b] => (intV a).bind fun x => (intV b).map fun y => .d (.int (if y < x then y else x))
  | _ => none
noncomputable def maxV (σ : St) (args : List V) : Option V := match args with
  | [v] => (ints1 σ v).bind fun ns => (maxL ns).map fun i => .d (.int i)
  | [a, b] => (intV a).bind fun x => (intV b).map fun y => .d (.int (if y > x then y else x))
  | _ => none
noncomputable def dictV (σ : St) (v : V) : Option V := match v with
  | .d x => match x with
    | .dict ks vs => if sizeOk ks.length then some (.d (.dict ks vs)) else none
    | _ => none
  | .obj n => match oget σ n with
    | some (.dict ks vs) => if sizeOk ks.length then (allD vs).map fun ds => .d (.dict ks ds) else none
    | _ => none
  | _ => none
noncomputable def bfV (σ : St) (f : Bf) (args : List V) : Option V :=
  match f with
  | .len => (one1 args).bind fun v => (rd σ v).bind fun x => (lenD x).bind fun n => if sizeOk n then some (.d (.int n)) else none
  | .min => minV σ args
  | .max => maxV σ args
  | .int => (one1 args).bind fun v => (boolV v).map fun b => .d (.int (if b then 1 else 0))
  | .dict => (one1 args).bind fun v => dictV σ v
  | .sorted => (one1 args).bind fun v => (rd σ v).bind fun x => (listD x).bind fun xs => (sortD xs).map .d
  | _ => none

noncomputable def isiD (t : Str) : D → Option Bool
  | .none => some false
  | .bool _ => some (t = "int" || t = "bool")
  | .int _ => some (t = "int")
  | .str _ => some (t = "str")
  | .tup _ => some (t = "tuple")
  | .list _ => some (t = "list")
  | .dict _ _ => some (t = "dict")
  | .set _ => none
noncomputable def isiV (σ : St) (t : Str) : V → Option Bool
  | .d x => isiD t x
  | .tup _ => some (t = "tuple")
  | .obj n => match oget σ n with
    | some (.list _) => some (t = "list")
    | some (.dict _ _) => some (t = "dict")
    | _ => none
noncomputable def typeNames : List Str := ["int", "bool", "str", "tuple", "dict"]

noncomputable def nameE : Expr → Option Str
  | .Name n _ => some n
  | _ => none

structure Genv where
  const : Str → Option D
  fn : Str → Bool
  cls : Str → Bool
  fresh : Str → Bool
  call : Str → List V → St → Option (V × St)
  mcall : Str → Str → List V → St → Option (V × St)
  make : Str → List V → St → Option (V × St)
  owned : Str → Bool
  ownRet : Bool

/-- a new container goes into the store -/
noncomputable def adopt (v : V) (σ : St) : V × St :=
  match v with
  | .d (.list xs) => (.obj σ.length, σ ++ [(false, .list (xs.map .d))])
  | .d (.dict ks vs) => (.obj σ.length, σ ++ [(false, .dict ks (vs.map .d))])
  | v => (v, σ)

/-- in own mode a new container goes into the store -/
noncomputable def own (b : Bool) (v : V) (σ : St) : V × St := if b then adopt v σ else (v, σ)

/-- methods of the built-in containers and of str -/
inductive Mk where
  | append | dclear | join
noncomputable def mkOf (σ : St) (m : Str) (o : V) : Option Mk :=
  match o with
  | .obj n => match oget σ n with
    | some (.list _) => if m = "append" then some .append else none
    | some (.dict _ _) => if m = "clear" then some .dclear else none
    | _ => none
  | .d (.str _) => if m = "join" then some .join else none
  | _ => none

noncomputable def strsV : List V → Option (List Str)
  | [] => some []
  | v :: r => match v with
    | .d (.str x) => (strsV r).map (x :: ·)
    | _ => none
noncomputable def joinFit (ts : List Str) : Bool := decide (ts.length ≤ 1000) && ts.all fun t => decide (t.length ≤ 1000)

noncomputable def methV (σ : St) (k : Mk) (o : V) (args : List V) : Option (V × St) :=
  match k, o, args with
  | .append, .obj n, [v] => match oget σ n with
      | some (.list xs) => if sizeOk xs.length then (oput σ n (.list (xs ++ [v]))).map fun σ => (.d .none, σ) else none
      | _ => none
  | .dclear, .obj n, [] => match oget σ n with
      | some (.dict ks _) => if sizeOk ks.length then (oput σ n (.dict [] [])).map fun σ => (.d .none, σ) else none
      | _ => none
  | .join, .d (.str s), [.obj n] => match oget σ n with
      | some (.list xs) => (strsV xs).bind fun ts => if s.length = 0 ∧ joinFit ts = true then some (.d (.str (Str.join s ts)), σ) else none
      | _ => none
  | _, _, _ => none

noncomputable def clsOf (σ : St) : V → Option Str
  | .obj n => match oget σ n with
    | some (.inst c _ _) => some c
    | _ => none
  | _ => none

noncomputable def attrV (σ : St) (o : V) (a : Str) : Option V :=
  match o with
  | .obj n => match oget σ n with
    | some (.inst _ ks vs) => getS a ks vs
    | _ => none
  | _ => none
noncomputable def setAttrV (σ : St) (o : V) (a : Str) (v : V) : Option St :=
  match o with
  | .obj n => match oget σ n with
    | some (.inst c ks vs) => oput σ n (.inst c (putS a v ks vs).1 (putS a v ks vs).2)
    | _ => none
  | _ => none

noncomputable def rangeD (a b : Int) : List V := (List.range (b - a).toNat).map fun (k : Nat) => .d (.int (a + k))

noncomputable def lockO (b : Bool) (n : Nat) (σ : St) : St := match σ[n]? with
  | some (_, o) => σ.set n (b, o)
  | none => σ
noncomputable def lockd (n : Nat) (σ : St) : Bool := match σ[n]? with
  | some (b, _) => b
  | none => false

noncomputable def zipD : List D → List D → List V
  | x :: xs, y :: ys => .d (.tup [x, y]) :: zipD xs ys
  | _, _ => []

/-- a loop over items -/
noncomputable def loopL (f : V → Loc → St → Option (Fl × Loc × St)) : List V → Loc → St → Option (Fl × Loc × St)
  | [], ρ, σ => some (.next, ρ, σ)
  | v :: r, ρ, σ => (f v ρ σ).bind fun (fl, ρ, σ) => match fl with
    | .next => loopL f r ρ σ
    | .ret v => some (.ret v, ρ, σ)
noncomputable def whileL (t : Loc → St → Option (Bool × St)) (f : Loc → St → Option (Fl × Loc × St)) : Nat → Loc → St → Option (Fl × Loc × St)
  | 0, _, _ => none
  | k + 1, ρ, σ => (t ρ σ).bind fun (b, σ) => if b then (f ρ σ).bind fun (fl, ρ, σ) => match fl with
      | .next => whileL t f k ρ σ
      | .ret v => some (.ret v, ρ, σ)
    else some (.next, ρ, σ)

noncomputable def captured (sc : Scope) (ρ : Loc) : Loc := ρ.filter fun p => sc.names.lookup p.1 == some .free

noncomputable def constD : Const → Option D
  | .none => some .none
  | .bool b => some (.bool b)
  | .int i => some (.int i)
  | .str s => some (.str s)
  | _ => none

noncomputable def natV : V → Option Nat
  | .d (.int k) => if 0 ≤ k then some k.toNat else none
  | _ => none

/-- the items of a value to be looped over, and the object that must not change meanwhile -/
noncomputable def iterV (_ : St) (v : V) : Option (List V × Option Nat) :=
  match v with
  | .d x => (itemsD x).map fun xs => (xs.map .d, none)
  | _ => none


noncomputable def iterF (_ : St) (f : Str) (vs : List V) : Option (List V × Option Nat) :=
  if f = "range" then match vs with
    | [.d (.int b)] => if -1000000 ≤ b ∧ b ≤ 1000000 then some (rangeD 0 b, none) else none
    | [.d (.int a), .d (.int b)] => if (-1000000 ≤ a ∧ a ≤ 1000000) ∧ (-1000000 ≤ b ∧ b ≤ 1000000) then some (rangeD a b, none) else none
    | _ => none
  else if f = "zip" then match vs with
    | [a, b] => (tupV a).bind fun xs => (tupV b).bind fun ys => if xs.length = ys.length ∧ xs.length ≤ 1000 then some (zipD xs ys, none) else none
    | _ => none
  else none
noncomputable def isItF (f : Str) : Bool := f = "range" || f = "zip"
noncomputable def isIt : Expr → Bool
  | .Call (.Name f _) _ _ _ => isItF f
  | _ => false

noncomputable def bindT (t : Expr) (v : V) : Option Loc :=
  match t with
  | .Name x _ => some [(x, v)]
  | .Tuple [.Name x _, .Name y _] _ _ => match v with
    | .d (.tup [a, b]) => some [(x, .d a), (y, .d b)]
    | _ => none
  | _ => none

noncomputable def constKeys : List (Option Expr) → Option (List Key)
  | [] => some []
  | some (.Constant c _ _) :: r => (constD c).bind fun d => (keyOf (.d d)).bind fun k => (constKeys r).map (k :: ·)
  | _ :: _ => none

noncomputable def mkList (o : Bool) (vs : List V) (σ : St) : Option (V × St) :=
  if o then some (.obj σ.length, σ ++ [(false, .list vs)]) else (allD vs).map fun ds => (.d (.list ds), σ)
noncomputable def mkDict (ks : List Key) (vs : List V) (σ : St) : Option (V × St) :=
  if ks.length = vs.length ∧ ks.length ≤ 15 ∧ ks.Nodup then (allD vs).map fun ds => (.d (.dict ks ds), σ) else none

/-- the number that a value is, the text that it is -/
noncomputable def intD : Option D → Option Int
  | some (.int a) => some a
  | _ => none
noncomputable def strD : Option D → Option Str
  | some (.str a) => some a
  | _ => none
/-- what a comprehension's item may be -/
noncomputable def evP (ρ : Loc) : Expr → Option D
  | .Constant c _ _ => constD c
  | .Name x _ => match getV x ρ with
    | some (.d d) => some d
    | _ => none
  | .BinOp l op r _ => (intD (evP ρ l)).bind fun a => (intD (evP ρ r)).bind fun b => binI op a b
  | .Subscript e i _ => (strD (evP ρ e)).bind fun s => (intD (evP ρ i)).bind fun k => if 0 ≤ k ∧ k < 1000000000 then (s.cps.toList[k.toNat]?).map fun c => .str (chr1 c) else none
  | _ => none
noncomputable def scalar : D → Bool
  | .int _ => true
  | .str _ => true
  | _ => false
noncomputable def itemP (sc : Scope) (ρ : Loc) (tgt elt : Expr) (v : V) : Option D :=
  (bindT tgt v).bind fun l => (evP (l ++ captured sc ρ) elt).bind fun d => if scalar d then some d else none

noncomputable def lockS (src : Option Nat) (σ : St) : St := match src with
  | some n => lockO true n σ
  | none => σ
noncomputable def unlockS (src : Option Nat) (σ σ' : St) : St := match src with
  | some n => lockO (lockd n σ) n σ'
  | none => σ'

mutual
noncomputable def evE (G : Genv) (ρ : Loc) (o : Bool) : Expr → St → Option (V × St)
  | .Constant c _ _, σ => (constD c).map fun d => (.d d, σ)
  | .Name x _, σ => match getV x ρ with
    | some v => some (v, σ)
    | none => (G.const x).map fun d => (.d d, σ)
  | .BoolOp op es _, σ => evB G ρ op es σ
  | .BinOp l op r _, σ => (evE G ρ false l σ).bind fun (a, σ) => (evE G ρ false r σ).bind fun (b, σ) => (binV σ op a b).map fun v => own o v σ
  | .UnaryOp op e _, σ => (evE G ρ false e σ).bind fun (a, σ) => match op with
    | .Not => (truthV σ a).map fun b => (.d (.bool !b), σ)
    | .USub => match a with
      | .d (.int i) => some (.d (.int (-i)), σ)
      | _ => none
    | _ => none
  | .Compare l ops es _, σ => (evE G ρ false l σ).bind fun (a, σ) => (evC G ρ a ops es σ).map fun (b, σ) => (.d (.bool b), σ)
  | .Tuple es _ _, σ => (evEs G ρ o es σ).map fun (vs, σ) => (mkTup vs, σ)
  | .List es _, σ => (evEs G ρ o es σ).bind fun (vs, σ) => mkList o vs σ
  | .Dict ks vs _, σ => match ks with
    | [] => match vs with
      | [] => some (own o (.d (.dict [] [])) σ)
      | _ => none
    | ks => if o then none else (constKeys ks).bind fun js => (evEs G ρ false vs σ).bind fun (vs, σ) => mkDict js vs σ
  | .Subscript e i _, σ => (evE G ρ false e σ).bind fun (ov, σ) => match i with
    | .Slice lo hi st _ => match lo, st with
      | some lo, none => (evE G ρ false lo σ).bind fun (lv, σ) => (natV lv).bind fun ln => match hi with
        | none => (sliceV σ ov ln none).map fun v => own o v σ
        | some hi => (evE G ρ false hi σ).bind fun (hv, σ) => (natV hv).bind fun hn => (sliceV σ ov ln (some hn)).map fun v => own o v σ
      | _, _ => none
    | i => (evE G ρ false i σ).bind fun (iv, σ) => (getItemV σ ov iv).map fun v => (v, σ)
  | .Attribute e a _, σ => (evE G ρ false e σ).bind fun (ov, σ) => (attrV σ ov a).map fun v => (v, σ)
  | .Call f args ks _, σ => match ks with
    | _ :: _ => none
    | [] => match f with
      | .Name f _ =>
        if f = "isinstance" then match args with
          | [x, t] => (evE G ρ false x σ).bind fun (v, σ) => (nameE t).bind fun t => if typeNames.contains t then (isiV σ t v).map fun b => (.d (.bool b), σ) else none
          | _ => none
        else match bfOf f with
        | some b => (evEs G ρ false args σ).bind fun (vs, σ) => (bfV σ b vs).map fun v => own o v σ
        | none => if G.fn f then (evEs G ρ false args σ).bind fun (vs, σ) => (G.call f vs σ).map fun (v, σ) => own (o && G.fresh f) v σ
          else if G.cls f then (evEs G ρ false args σ).bind fun (vs, σ) => G.make f vs σ else none
      | .Attribute e m _ => (evE G ρ false e σ).bind fun (ov, σ) => match clsOf σ ov with
        | some c => (evEs G ρ false args σ).bind fun (vs, σ) => G.mcall c m (ov :: vs) σ
        | none => (mkOf σ m ov).bind fun k => (evEs G ρ true args σ).bind fun (vs, σ) => methV σ k ov vs
      | _ => none
  | .ListComp elt gens sc _, σ => match gens with
    | [⟨tgt, it, ifs, a⟩] => match ifs with
      | [] => if a = 0 then (evI G ρ it σ).bind fun (vs, _, σ) => (mapO (itemP sc ρ tgt elt) vs).bind fun ds => if sizeOk ds.length then some (own o (.d (.list ds)) σ) else none else none
      | _ => none
    | _ => none
  | _, _ => none
noncomputable def evEs (G : Genv) (ρ : Loc) (o : Bool) : List Expr → St → Option (List V × St)
  | [], σ => some ([], σ)
  | e :: r, σ => (evE G ρ o e σ).bind fun (v, σ) => (evEs G ρ o r σ).map fun (vs, σ) => (v :: vs, σ)
noncomputable def evB (G : Genv) (ρ : Loc) (op : BoolOp) : List Expr → St → Option (V × St)
  | [], _ => none
  | e :: r, σ => (evE G ρ false e σ).bind fun (v, σ) => match r with
    | [] => some (v, σ)
    | r => (truthV σ v).bind fun b => match op, b with
      | .And, false => some (v, σ)
      | .Or, true => some (v, σ)
      | _, _ => evB G ρ op r σ
noncomputable def evC (G : Genv) (ρ : Loc) (a : V) : List CmpOp → List Expr → St → Option (Bool × St)
  | op :: ops, e :: r, σ => (evE G ρ false e σ).bind fun (b, σ) => (cmpV σ op a b).bind fun c => match ops with
    | [] => match r with
      | [] => some (c, σ)
      | _ => none
    | ops => match r with
      | [] => none
      | r => if c then evC G ρ b ops r σ else some (false, σ)
  | _, _, _ => none
noncomputable def evI (G : Genv) (ρ : Loc) : Expr → St → Option (List V × Option Nat × St)
  | .Call (.Name f _) args [] _, σ => (evEs G ρ false args σ).bind fun (vs, σ) => (iterF σ f vs).map fun (vs, src) => (vs, src, σ)
  | _, _ => none
end

mutual
noncomputable def evS (G : Genv) : Stmt → Loc → St → Option (Fl × Loc × St)
  | .Pass _, ρ, σ => some (.next, ρ, σ)
  | .Expr e _, ρ, σ => (evE G ρ false e σ).map fun (_, σ) => (.next, ρ, σ)
  | .Return e _, ρ, σ => match e with
    | none => some (.ret (.d .none), ρ, σ)
    | some e => (evE G ρ G.ownRet e σ).map fun (v, σ) => (.ret v, ρ, σ)
  | .Assign ts e _, ρ, σ => match ts with
    | [t] => match t with
      | .Name x _ => (evE G ρ (G.owned x) e σ).map fun (v, σ) => (.next, setV x v ρ, σ)
      | .Subscript b i _ => (evE G ρ true e σ).bind fun (v, σ) => (evE G ρ false b σ).bind fun (bv, σ) => (evE G ρ false i σ).bind fun (iv, σ) => (setItemV σ bv iv v).map fun σ => (.next, ρ, σ)
      | .Attribute b a _ => (evE G ρ true e σ).bind fun (v, σ) => (evE G ρ false b σ).bind fun (bv, σ) => (setAttrV σ bv a v).map fun σ => (.next, ρ, σ)
      | _ => none
    | _ => none
  | .If t b e _, ρ, σ => (evE G ρ false t σ).bind fun (v, σ) => (truthV σ v).bind fun c => if c then evSs G b ρ σ else evSs G e ρ σ
  | .For t it body e _, ρ, σ => match t, e with
    | .Name x _, [] =>
      (if isIt it then evI G ρ it σ else (evE G ρ false it σ).bind fun (v, σ) => (iterV σ v).map fun (vs, src) => (vs, src, σ)).bind fun (vs, src, σ) =>
        (loopL (fun v ρ σ => evSs G body (setV x v ρ) σ) vs ρ (lockS src σ)).map fun (fl, ρ, σ') => (fl, ρ, unlockS src σ σ')
    | _, _ => none
  | .While t body e _, ρ, σ => match e with
    | [] => whileL (fun ρ σ => (evE G ρ false t σ).bind fun (v, σ) => (truthV σ v).map fun b => (b, σ)) (fun ρ σ => evSs G body ρ σ) 500 ρ σ
    | _ => none
  | _, _, _ => none
noncomputable def evSs (G : Genv) : List Stmt → Loc → St → Option (Fl × Loc × St)
  | [], ρ, σ => some (.next, ρ, σ)
  | s :: r, ρ, σ => (evS G s ρ σ).bind fun (fl, ρ, σ) => match fl with
    | .next => evSs G r ρ σ
    | .ret v => some (.ret v, ρ, σ)
end

/-- a def of the text -/
structure FnRec where
  name : Str
  args : Arguments
  body : List Stmt
  scope : Scope

noncomputable def fnRec? : Stmt → Option FnRec
  | .FunctionDef n a b _ _ _ sc _ _ _ => some ⟨n, a, b, sc⟩
  | _ => none
noncomputable def findFn (f : Str) : List Stmt → Option FnRec
  | [] => none
  | s :: r => match fnRec? s with
    | some d => if d.name = f then some d else findFn f r
    | none => findFn f r

/-- what is told of a program beside its text -/
structure Hints where
  owned : List (Str × Str)
  fresh : List Str
  impure : List Str
  consts : List (Str × D)

noncomputable def bindP : List Arg → List V → Option Loc
  | [], [] => some []
  | a :: r, v :: vs => (bindP r vs).map ((a.arg, v) :: ·)
  | _, _ => none

/-- the arguments of a pure call as data; whether one of them had to be read from the store -/
noncomputable def snaps (σ : St) : List V → Option (List D × Bool)
  | [] => some ([], false)
  | v :: r => (rd σ v).bind fun d => (snaps σ r).map fun (ds, b) => (d :: ds, (match v with | .d _ => b | _ => true))

mutual
noncomputable def plainD : D → Bool
  | .list _ => false
  | .dict _ _ => false
  | .set _ => false
  | .tup xs => plainDs xs
  | _ => true
noncomputable def plainDs : List D → Bool
  | [] => true
  | x :: r => plainD x && plainDs r
end

noncomputable def retV : Fl → V
  | .next => .d .none
  | .ret v => v

/-- what a pure call hands back -/
noncomputable def handD (fresh : Bool) (σ : St) (v : V) : Option D :=
  match v with
  | .d x => if fresh && !plainD x then none else some x
  | .obj n => match oget σ n with
    | some (.list xs) => (allD xs).map .list
    | some (.dict ks vs) => (allD vs).map (.dict ks)
    | _ => none
  | .tup xs => view 2 σ (.tup xs)

noncomputable def callN (body : List Stmt) (H : Hints) : Nat → Str → List V → St → Option (V × St)
  | 0, _, _, _ => none
  | d + 1, f, args, σ => (findFn f body).bind fun r =>
    if H.impure.contains f then none
    else (snaps σ args).bind fun (ds, snap) => (bindP r.args.args (ds.map .d)).bind fun ρ =>
      (evSs { const := fun x => H.consts.lookup x, fn := fun x => (findFn x body).isSome, cls := fun _ => false, fresh := fun x => H.fresh.contains x,
              call := callN body H d, mcall := fun _ _ _ _ => none, make := fun _ _ _ => none, owned := fun x => H.owned.contains (f, x), ownRet := false } r.body ρ []).bind fun (fl, _, σ') =>
      (handD (H.fresh.contains f) σ' (retV fl)).bind fun x => if snap && !plainD x then none else some (.d x, σ)

/-- equations, by computation -/
theorem getK_cons {β : Type} {k k' : Key} {ks : List Key} {v : β} {vs : List β} : getK k (k' :: ks) (v :: vs) = if k = k' then some v else getK k ks vs := rfl
theorem putK_cons {β : Type} {k k' : Key} {ks : List Key} {u v : β} {vs : List β} : putK k v (k' :: ks) (u :: vs) = if k = k' then (k' :: ks, v :: vs) else (k' :: (putK k v ks vs).1, u :: (putK k v ks vs).2) := rfl
theorem putK_n1 {β : Type} {k : Key} {v : β} {vs : List β} : putK k v [] vs = ([k], [v]) := rfl
theorem putK_n2 {β : Type} {k k' : Key} {ks : List Key} {v : β} : putK k v (k' :: ks) [] = ([k], [v]) := rfl
theorem plainD_t {xs : List D} : plainD (.tup xs) = plainDs xs := rfl
theorem plainD_c {x : D} {r : List D} : plainDs (x :: r) = (plainD x && plainDs r) := rfl
theorem allD_n : allD [] = some [] := rfl
theorem allD_c {x : D} {r : List V} : allD (.d x :: r) = (allD r).map (x :: ·) := rfl
theorem view_0 {σ : St} {x : D} : view 0 σ (.d x) = some x := rfl
theorem view_d {k : Nat} {σ : St} {x : D} : view (k + 1) σ (.d x) = some x := rfl
theorem view_6 {σ : St} {x : D} : view 6 σ (.d x) = some x := rfl
theorem view_t {k : Nat} {σ : St} {xs : List V} : view (k + 1) σ (.tup xs) = (mapO (view k σ) xs).map .tup := rfl
theorem view_2 {σ : St} {xs : List V} : view 2 σ (.tup xs) = (mapO (view 1 σ) xs).map .tup := rfl
theorem view_o {k : Nat} {σ : St} {n : Nat} : view (k + 1) σ (.obj n) = match oget σ n with
        | some (.list xs) => (mapO (view k σ) xs).map .list
        | some (.dict ks vs) => (mapO (view k σ) vs).map (.dict ks)
        | _ => none := rfl
theorem mapO_n {β γ : Type} {f : β → Option γ} : mapO f [] = some [] := rfl
theorem mapO_c {β γ : Type} {f : β → Option γ} {x : β} {r : List β} : mapO f (x :: r) = (f x).bind fun y => (mapO f r).map (y :: ·) := rfl
theorem intsOf_n : intsOf [] = some [] := rfl
theorem intsOf_c {i : Int} {r : List D} : intsOf (.int i :: r) = (intsOf r).map (i :: ·) := rfl
theorem snaps_n {σ : St} : snaps σ [] = some ([], false) := rfl
theorem snaps_c {σ : St} {v : V} {r : List V} : snaps σ (v :: r) = (rd σ v).bind fun d => (snaps σ r).map fun (ds, b) => (d :: ds, (match v with | .d _ => b | _ => true)) := rfl
theorem getV_n {x : Str} : getV x [] = none := rfl
theorem getV_c {x y : Str} {v : V} {r : Loc} : getV x ((y, v) :: r) = if x = y then some v else getV x r := rfl
theorem setV_n {x : Str} {v : V} : setV x v [] = [(x, v)] := rfl
theorem setV_c {x y : Str} {u v : V} {r : Loc} : setV x v ((y, u) :: r) = if x = y then (y, v) :: r else (y, u) :: setV x v r := rfl
theorem loopL_n {f : V → Loc → St → Option (Fl × Loc × St)} {ρ : Loc} {σ : St} : loopL f [] ρ σ = some (.next, ρ, σ) := rfl
theorem loopL_c {f : V → Loc → St → Option (Fl × Loc × St)} {v : V} {r : List V} {ρ : Loc} {σ : St} : loopL f (v :: r) ρ σ = (f v ρ σ).bind fun (fl, ρ, σ) => match fl with
    | .next => loopL f r ρ σ
    | .ret v => some (.ret v, ρ, σ) := rfl
theorem findFn_c {f : Str} {s : Stmt} {r : List Stmt} : findFn f (s :: r) = match fnRec? s with
    | some d => if d.name = f then some d else findFn f r
    | none => findFn f r := rfl
theorem callN_s {body : List Stmt} {H : Hints} {d : Nat} {f : Str} {args : List V} {σ : St} : callN body H (d + 1) f args σ = (findFn f body).bind fun r =>
    if H.impure.contains f then none
    else (snaps σ args).bind fun (ds, snap) => (bindP r.args.args (ds.map .d)).bind fun ρ =>
      (evSs { const := fun x => H.consts.lookup x, fn := fun x => (findFn x body).isSome, cls := fun _ => false, fresh := fun x => H.fresh.contains x,
              call := callN body H d, mcall := fun _ _ _ _ => none, make := fun _ _ _ => none, owned := fun x => H.owned.contains (f, x), ownRet := false } r.body ρ []).bind fun (fl, _, σ') =>
      (handD (H.fresh.contains f) σ' (retV fl)).bind fun x => if snap && !plainD x then none else some (.d x, σ) := rfl
theorem and2_some {a b : Option Bool} {c : Bool} (h : and2 a b = some c) : ∃ x y, a = some x ∧ b = some y ∧ (x && y) = c := by
  cases a with
  | none => cases h
  | some x => cases b with
    | none => cases h
    | some y => cases h; exact ⟨x, y, rfl, rfl, rfl⟩

end Mine
end

section
set_option autoImplicit false
namespace Mine
open PySem
section
variable {G : Genv} {ρ : Loc} {o : Bool} {σ : St}
theorem evE_Constant {c : Const} {k : Nat} {p : Pos} : evE G ρ o (.Constant c k p) σ = (constD c).map fun d => (.d d, σ) := rfl
theorem evE_Name {x : Str} {p : Pos} : evE G ρ o (.Name x p) σ = match getV x ρ with
    | some v => some (v, σ)
    | none => (G.const x).map fun d => (.d d, σ) := rfl
theorem evE_BoolOp {op : BoolOp} {es : List Expr} {p : Pos} : evE G ρ o (.BoolOp op es p) σ = evB G ρ op es σ := rfl
theorem evE_BinOp {l r : Expr} {op : Operator} {p : Pos} : evE G ρ o (.BinOp l op r p) σ = (evE G ρ false l σ).bind fun (a, σ) => (evE G ρ false r σ).bind fun (b, σ) => (binV σ op a b).map fun v => own o v σ := rfl
theorem evE_UnaryOp {e : Expr} {op : UnaryOp} {p : Pos} : evE G ρ o (.UnaryOp op e p) σ = (evE G ρ false e σ).bind fun (a, σ) => match op with
    | .Not => (truthV σ a).map fun b => (.d (.bool !b), σ)
    | .USub => match a with
      | .d (.int i) => some (.d (.int (-i)), σ)
      | _ => none
    | _ => none := rfl
theorem evE_Compare {l : Expr} {ops : List CmpOp} {es : List Expr} {p : Pos} : evE G ρ o (.Compare l ops es p) σ = (evE G ρ false l σ).bind fun (a, σ) => (evC G ρ a ops es σ).map fun (b, σ) => (.d (.bool b), σ) := rfl
theorem evE_Tuple {es : List Expr} {k : Nat} {p : Pos} : evE G ρ o (.Tuple es k p) σ = (evEs G ρ o es σ).map fun (vs, σ) => (mkTup vs, σ) := rfl
theorem evE_List {es : List Expr} {p : Pos} : evE G ρ o (.List es p) σ = (evEs G ρ o es σ).bind fun (vs, σ) => mkList o vs σ := rfl
theorem evE_Dict0 {p : Pos} : evE G ρ o (.Dict [] [] p) σ = some (own o (.d (.dict [] [])) σ) := rfl
theorem evE_Dict0' {v : Expr} {vs : List Expr} {p : Pos} : evE G ρ o (.Dict [] (v :: vs) p) σ = none := rfl
theorem evE_Dict {k : Option Expr} {ks : List (Option Expr)} {vs : List Expr} {p : Pos} : evE G ρ o (.Dict (k :: ks) vs p) σ = if o then none else (constKeys (k :: ks)).bind fun js => (evEs G ρ false vs σ).bind fun (vs, σ) => mkDict js vs σ := rfl
theorem evE_Comp {elt tgt it : Expr} {sc : Scope} {p : Pos} : evE G ρ o (.ListComp elt [⟨tgt, it, [], 0⟩] sc p) σ = (evI G ρ it σ).bind fun (vs, _, σ) => (mapO (itemP sc ρ tgt elt) vs).bind fun ds => if sizeOk ds.length then some (own o (.d (.list ds)) σ) else none := rfl
theorem evE_Slice {e : Expr} {lo hi st : Option Expr} {p q : Pos} : evE G ρ o (.Subscript e (.Slice lo hi st q) p) σ = (evE G ρ false e σ).bind fun (ov, σ) => match lo, st with
      | some lo, none => (evE G ρ false lo σ).bind fun (lv, σ) => (natV lv).bind fun ln => match hi with
        | none => (sliceV σ ov ln none).map fun v => own o v σ
        | some hi => (evE G ρ false hi σ).bind fun (hv, σ) => (natV hv).bind fun hn => (sliceV σ ov ln (some hn)).map fun v => own o v σ
      | _, _ => none := by cases lo <;> cases st <;> cases hi <;> rfl
noncomputable def isSlice : Expr → Bool
  | .Slice .. => true
  | _ => false
noncomputable def isAttr : Expr → Bool
  | .Attribute .. => true
  | _ => false
theorem isSlice_ex {i : Expr} (h : isSlice i = true) : ∃ lo hi st pp, i = .Slice lo hi st pp := by
  cases i with
  | Slice lo hi st p => exact ⟨_, _, _, _, rfl⟩
  | _ => cases h
theorem evE_Item {e i : Expr} {p : Pos} (h : isSlice i = false) : evE G ρ o (.Subscript e i p) σ = (evE G ρ false e σ).bind fun (ov, σ) => (evE G ρ false i σ).bind fun (iv, σ) => (getItemV σ ov iv).map fun v => (v, σ) := by
  cases i with
  | Slice lo hi st p => cases h
  | _ => rfl
theorem evE_CallN {f : Str} {pp p : Pos} {args : List Expr} (hf : ¬ f = "isinstance") : evE G ρ o (.Call (.Name f pp) args [] p) σ = match bfOf f with
        | some b => (evEs G ρ false args σ).bind fun (vs, σ) => (bfV σ b vs).map fun v => own o v σ
        | none => if G.fn f then (evEs G ρ false args σ).bind fun (vs, σ) => (G.call f vs σ).map fun (v, σ) => own (o && G.fresh f) v σ
          else if G.cls f then (evEs G ρ false args σ).bind fun (vs, σ) => G.make f vs σ else none := by
  match args with
  | [] => show (if f = _ then _ else _) = _; rw [if_neg hf]; try rfl
  | [_] => show (if f = _ then _ else _) = _; rw [if_neg hf]; try rfl
  | [_, _] => show (if f = _ then _ else _) = _; rw [if_neg hf]; try rfl
  | _ :: _ :: _ :: _ => show (if f = _ then _ else _) = _; rw [if_neg hf]; try rfl
theorem evE_Isi {pp p : Pos} {args : List Expr} : evE G ρ o (.Call (.Name "isinstance" pp) args [] p) σ = match args with
          | [x, t] => (evE G ρ false x σ).bind fun (v, σ) => (nameE t).bind fun t => if typeNames.contains t then (isiV σ t v).map fun b => (.d (.bool b), σ) else none
          | _ => none := by
  match args with
  | [] => show (if _ = _ then _ else _) = _; rw [if_pos rfl]
  | [_] => show (if _ = _ then _ else _) = _; rw [if_pos rfl]
  | [_, _] => show (if _ = _ then _ else _) = _; rw [if_pos rfl]
  | _ :: _ :: _ :: _ => show (if _ = _ then _ else _) = _; rw [if_pos rfl]
theorem evE_CallM {e : Expr} {m : Str} {pp p : Pos} {args : List Expr} : evE G ρ o (.Call (.Attribute e m pp) args [] p) σ = (evE G ρ false e σ).bind fun (ov, σ) => match clsOf σ ov with
        | some c => (evEs G ρ false args σ).bind fun (vs, σ) => G.mcall c m (ov :: vs) σ
        | none => (mkOf σ m ov).bind fun k => (evEs G ρ true args σ).bind fun (vs, σ) => methV σ k ov vs := by
  match args with
  | [] => rfl
  | [_] => rfl
  | [_, _] => rfl
  | _ :: _ :: _ :: _ => rfl
theorem evEs_nil : evEs G ρ o [] σ = some ([], σ) := rfl
theorem evEs_cons {e : Expr} {r : List Expr} : evEs G ρ o (e :: r) σ = (evE G ρ o e σ).bind fun (v, σ) => (evEs G ρ o r σ).map fun (vs, σ) => (v :: vs, σ) := rfl
theorem evB_nil {op : BoolOp} : evB G ρ op [] σ = none := rfl
theorem evB_one {op : BoolOp} {e : Expr} : evB G ρ op [e] σ = (evE G ρ false e σ).bind fun (v, σ) => some (v, σ) := rfl
theorem evB_more {op : BoolOp} {e e' : Expr} {r : List Expr} : evB G ρ op (e :: e' :: r) σ = (evE G ρ false e σ).bind fun (v, σ) => (truthV σ v).bind fun b => match op, b with
      | .And, false => some (v, σ)
      | .Or, true => some (v, σ)
      | _, _ => evB G ρ op (e' :: r) σ := rfl
theorem evC_nil {a : V} {ops : List CmpOp} : evC G ρ a ops [] σ = none := by cases ops <;> rfl
theorem evC_nil' {a : V} {es : List Expr} : evC G ρ a [] es σ = none := by cases es <;> rfl
theorem evC_cons {a : V} {op : CmpOp} {ops : List CmpOp} {e : Expr} {r : List Expr} : evC G ρ a (op :: ops) (e :: r) σ = (evE G ρ false e σ).bind fun (b, σ) => (cmpV σ op a b).bind fun c => match ops with
    | [] => match r with
      | [] => some (c, σ)
      | _ => none
    | ops => match r with
      | [] => none
      | r => if c then evC G ρ b ops r σ else some (false, σ) := by cases ops <;> cases r <;> rfl
theorem evI_Call {f : Str} {args : List Expr} {p q : Pos} : evI G ρ (.Call (.Name f p) args [] q) σ = (evEs G ρ false args σ).bind fun (vs, σ) => (iterF σ f vs).map fun (vs, src) => (vs, src, σ) := rfl
theorem evS_Pass {p : Pos} : evS G (.Pass p) ρ σ = some (.next, ρ, σ) := rfl
theorem evS_Expr {e : Expr} {p : Pos} : evS G (.Expr e p) ρ σ = (evE G ρ false e σ).map fun (_, σ) => (.next, ρ, σ) := rfl
theorem evS_RetN {p : Pos} : evS G (.Return none p) ρ σ = some (.ret (.d .none), ρ, σ) := rfl
theorem evS_Ret {e : Expr} {p : Pos} : evS G (.Return (some e) p) ρ σ = (evE G ρ G.ownRet e σ).map fun (v, σ) => (.ret v, ρ, σ) := rfl
theorem evS_AssignN {x : Str} {e : Expr} {p q : Pos} : evS G (.Assign [.Name x q] e p) ρ σ = (evE G ρ (G.owned x) e σ).map fun (v, σ) => (.next, setV x v ρ, σ) := rfl
theorem evS_AssignS {b i : Expr} {e : Expr} {p q : Pos} : evS G (.Assign [.Subscript b i q] e p) ρ σ = (evE G ρ true e σ).bind fun (v, σ) => (evE G ρ false b σ).bind fun (bv, σ) => (evE G ρ false i σ).bind fun (iv, σ) => (setItemV σ bv iv v).map fun σ => (.next, ρ, σ) := rfl
theorem evS_If {t : Expr} {b e : List Stmt} {p : Pos} : evS G (.If t b e p) ρ σ = (evE G ρ false t σ).bind fun (v, σ) => (truthV σ v).bind fun c => if c then evSs G b ρ σ else evSs G e ρ σ := rfl
theorem evS_ForN {x : Str} {it : Expr} {body : List Stmt} {q p : Pos} : evS G (.For (.Name x q) it body [] p) ρ σ = (if isIt it then evI G ρ it σ else (evE G ρ false it σ).bind fun (v, σ) => (iterV σ v).map fun (vs, src) => (vs, src, σ)).bind fun (vs, src, σ) =>
        (loopL (fun v ρ σ => evSs G body (setV x v ρ) σ) vs ρ (lockS src σ)).map fun (fl, ρ, σ') => (fl, ρ, unlockS src σ σ') := rfl
theorem evS_ForE {x : Str} {it : Expr} {body els : List Stmt} {s : Stmt} {q p : Pos} : evS G (.For (.Name x q) it body (s :: els) p) ρ σ = none := rfl
theorem evSs_nil : evSs G [] ρ σ = some (.next, ρ, σ) := rfl
theorem evSs_cons {s : Stmt} {r : List Stmt} : evSs G (s :: r) ρ σ = (evS G s ρ σ).bind fun (fl, ρ, σ) => match fl with
    | .next => evSs G r ρ σ
    | .ret v => some (.ret v, ρ, σ) := rfl
end
end Mine
end

section
set_option autoImplicit false
namespace Mine
open PySem PyProof.Rows

noncomputable def keyIs : Key → Value → Bool
  | .i n, v => Value.isInt n v
  | .s x, v => Value.isStrOf x v
noncomputable def keyHash (w : World) : Key → Int
  | .i n => hashInt n
  | .s x => hashStr w x

theorem keyIs_shape {k : Key} {v : Value} (h : keyIs k v = true) : (∃ n t, k = .i n ∧ v = .int n t) ∨ (∃ x t, k = .s x ∧ v = .str x t) := by
  cases k with
  | i n => obtain ⟨t, e⟩ := Value.isInt_shape h; exact .inl ⟨n, t, rfl, e⟩
  | s x => obtain ⟨t, e⟩ := Value.isStrOf_shape h; exact .inr ⟨x, t, rfl, e⟩

theorem eqBool_is {prog : Program} {w : World} {A : Around} {E : Value → Shared → Prop} {s : Shared} {n : Int} {x : Str} {t u : Tok} {Q : Bool → Shared → Prop} (h : wpAny (model prog w) A (richCompare .Eq (.int n t) (.str x u)) (fun v s' => ∃ c, v = .bool c ∧ Q c s') E s) : wpAny (model prog w) A (eqBool (.int n t) (.str x u)) Q E s := by
  unfold eqBool
  refine wpAny_holding ?_
  rw [if_neg (show ¬ (Value.int n t == Value.str x u) = true from Bool.false_ne_true)]
  exact wpAny_bind (wpAny_mono h (fun v s' hv => by obtain ⟨c, rfl, hq⟩ := hv; exact wpAny_truthy_bool hq) fun _ _ x => x)
theorem eqBool_si {prog : Program} {w : World} {A : Around} {E : Value → Shared → Prop} {s : Shared} {n : Int} {x : Str} {t u : Tok} {Q : Bool → Shared → Prop} (h : wpAny (model prog w) A (richCompare .Eq (.str x u) (.int n t)) (fun v s' => ∃ c, v = .bool c ∧ Q c s') E s) : wpAny (model prog w) A (eqBool (.str x u) (.int n t)) Q E s := by
  unfold eqBool
  refine wpAny_holding ?_
  rw [if_neg (show ¬ (Value.str x u == Value.int n t) = true from Bool.false_ne_true)]
  exact wpAny_bind (wpAny_mono h (fun v s' hv => by obtain ⟨c, rfl, hq⟩ := hv; exact wpAny_truthy_bool hq) fun _ _ x => x)

theorem keyEq {prog : Program} {w : World} {A : Around} {E : Value → Shared → Prop} {s : Shared} {a b : Key} {u v : Value} {Q : Bool → Shared → Prop} (hu : keyIs a u = true) (hv : keyIs b v = true) (h : Q (decide (a = b)) s) :
    wpAny (model prog w) A (eqBool u v) Q E s := by
  rcases keyIs_shape hu with ⟨n, t, rfl, rfl⟩ | ⟨x, t, rfl, rfl⟩ <;> rcases keyIs_shape hv with ⟨m, t', rfl, rfl⟩ | ⟨y, t', rfl, rfl⟩
  · refine wpAny_eqBool_int ?_
    simpa [Key.i.injEq, Bool.beq_eq_decide_eq] using h
  · refine eqBool_is (EqMixed.eq_int_str ⟨false, rfl, ?_⟩)
    simpa using h
  · refine eqBool_si (EqMixed.eq_str_int ⟨false, rfl, ?_⟩)
    simpa using h
  · refine wpAny_eqBool_str ?_
    simpa [Key.s.injEq] using h

noncomputable def keyKind (prog : Program) (w : World) : KeyKind prog w Key where
  is := keyIs
  hash := keyHash w
  inj := fun v a b ha hb => by
    rcases keyIs_shape ha with ⟨n, t, rfl, rfl⟩ | ⟨x, t, rfl, rfl⟩ <;> rcases keyIs_shape hb with ⟨m, t', rfl, e⟩ | ⟨y, t', rfl, e⟩ <;> cases e <;> rfl
  byValue := fun k v h => by rcases keyIs_shape h with ⟨n, t, rfl, rfl⟩ | ⟨x, t, rfl, rfl⟩ <;> rfl
  pyHash := fun hv h => by
    rcases keyIs_shape hv with ⟨n, t, rfl, rfl⟩ | ⟨x, t, rfl, rfl⟩
    · exact wpAny_pyHash_int h
    · exact wpAny_pyHash_str h
  eqBool := fun hu hv h => keyEq hu hv h
  «strs» := fun k x t v h => by
    rcases keyIs_shape h with ⟨n, t, rfl, e⟩ | ⟨y, t, rfl, e⟩
    · cases e
    · cases e; cases v <;> rfl



/-- what is fixed through a law's call -/
structure Wo where
  prog : Program
  w : World
  base : Heap
  mg : Str → Option Value
  mb : Str → Option Value

noncomputable abbrev Wo.M (C : Wo) : Model := model C.prog C.w
noncomputable abbrev Wo.kk (C : Wo) : KeyKind C.prog C.w Key := keyKind C.prog C.w

mutual
/-- how the heap bears data, at addresses that are not in B -/
noncomputable def DRel (C : Wo) (B : Addr → Prop) (h : Heap) : D → Value → Prop
  | .none, v => v = .none
  | .bool b, v => v = .bool b
  | .int i, v => ∃ t, v = .int i t
  | .str x, v => ∃ t, v = .str x t
  | .tup xs, v => ∃ a vs, v = .ref a ∧ IsTup h a vs.toArray ∧ ¬ B a ∧ DsRel C B h xs vs
  | .list xs, v => ∃ a vs, v = .ref a ∧ h.IsList a vs.toArray ∧ ¬ B a ∧ DsRel C B h xs vs
  | .dict ks xs, v => ∃ a vs, v = .ref a ∧ h.DictOf C.kk a (ks.zip vs) ∧ ks.length = vs.length ∧ C.base.objs.size ≤ a ∧ ¬ B a ∧ DsRel C B h xs vs
  | .set _, _ => False
noncomputable def DsRel (C : Wo) (B : Addr → Prop) (h : Heap) : List D → List Value → Prop
  | [], vs => vs = []
  | x :: xs, vs => ∃ v r, vs = v :: r ∧ DRel C B h x v ∧ DsRel C B h xs r
end

/-- from (B, h) to (B', h'): what may not change is there still -/
def Grow (B : Addr → Prop) (h : Heap) (B' : Addr → Prop) (h' : Heap) : Prop := ∀ a o, ¬ B a → h.get? a = some o → h'.get? a = some o ∧ ¬ B' a

theorem Grow.refl (B : Addr → Prop) (h : Heap) : Grow B h B h := fun _ _ n e => ⟨e, n⟩
theorem Grow.trans {B B' B'' : Addr → Prop} {h h' h'' : Heap} (x : Grow B h B' h') (y : Grow B' h' B'' h'') : Grow B h B'' h'' :=
  fun a o n e => let ⟨e', n'⟩ := x a o n e; y a o n' e'

theorem isTup_at {h h' : Heap} {a : Addr} {items : Array Value} (x : IsTup h a items) (k : ∀ o, h.get? a = some o → h'.get? a = some o) : IsTup h' a items := let ⟨o, ho, r⟩ := x; ⟨o, k o ho, r⟩
theorem isList_at {h h' : Heap} {a : Addr} {items : Array Value} (x : h.IsList a items) (k : ∀ o, h.get? a = some o → h'.get? a = some o) : h'.IsList a items := let ⟨o, ho, r⟩ := x; ⟨o, k o ho, r⟩
theorem dictOf_at {C : Wo} {h h' : Heap} {a : Addr} {kvs : List (Key × Value)} (x : h.DictOf C.kk a kvs) (k : ∀ o, h.get? a = some o → h'.get? a = some o) : h'.DictOf C.kk a kvs :=
  let ⟨o, es, ep, ho, r⟩ := x; ⟨o, es, ep, k o ho, r⟩
theorem isTup_get {h : Heap} {a : Addr} {items : Array Value} (x : IsTup h a items) : ∃ o, h.get? a = some o := let ⟨o, ho, _⟩ := x; ⟨o, ho⟩
theorem isList_get {h : Heap} {a : Addr} {items : Array Value} (x : h.IsList a items) : ∃ o, h.get? a = some o := let ⟨o, ho, _⟩ := x; ⟨o, ho⟩
theorem dictOf_get {C : Wo} {h : Heap} {a : Addr} {kvs : List (Key × Value)} (x : h.DictOf C.kk a kvs) : ∃ o, h.get? a = some o := let ⟨o, _, _, ho, _⟩ := x; ⟨o, ho⟩

mutual
theorem DRel.grow {C : Wo} {B B' : Addr → Prop} {h h' : Heap} (g : Grow B h B' h') : ∀ {d : D} {v : Value}, DRel C B h d v → DRel C B' h' d v
  | .none, _, x => by simpa only [DRel] using x
  | .bool _, _, x => by simpa only [DRel] using x
  | .int _, _, x => by simpa only [DRel] using x
  | .str _, _, x => by simpa only [DRel] using x
  | .tup xs, _, x => by
    simp only [DRel] at x ⊢
    obtain ⟨a, vs, e, t, n, r⟩ := x
    obtain ⟨o, ho⟩ := isTup_get t
    exact ⟨a, vs, e, isTup_at t fun o ho => (g a o n ho).1, (g a o n ho).2, DsRel.grow g r⟩
  | .list xs, _, x => by
    simp only [DRel] at x ⊢
    obtain ⟨a, vs, e, t, n, r⟩ := x
    obtain ⟨o, ho⟩ := isList_get t
    exact ⟨a, vs, e, isList_at t fun o ho => (g a o n ho).1, (g a o n ho).2, DsRel.grow g r⟩
  | .dict ks xs, _, x => by
    simp only [DRel] at x ⊢
    obtain ⟨a, vs, e, t, l, b, n, r⟩ := x
    obtain ⟨o, ho⟩ := dictOf_get t
    exact ⟨a, vs, e, dictOf_at t fun o ho => (g a o n ho).1, l, b, (g a o n ho).2, DsRel.grow g r⟩
  | .set _, _, x => by simp only [DRel] at x
theorem DsRel.grow {C : Wo} {B B' : Addr → Prop} {h h' : Heap} (g : Grow B h B' h') : ∀ {xs : List D} {vs : List Value}, DsRel C B h xs vs → DsRel C B' h' xs vs
  | [], _, x => by simpa only [DsRel] using x
  | x :: xs, _, y => by
    simp only [DsRel] at y ⊢
    obtain ⟨v, r, e, a, b⟩ := y
    exact ⟨v, r, e, DRel.grow g a, DsRel.grow g b⟩
end

mutual
theorem DRel.plain {C : Wo} {B : Addr → Prop} {h h' : Heap} {B' : Addr → Prop} : ∀ {d : D} {v : Value}, plainD d = true → DRel C B h d v → (∀ a o, h.get? a = some o → h'.get? a = some o) → (∀ a vs, IsTup h a vs → ¬ B' a) → DRel C B' h' d v
  | .none, _, _, x, _, _ => by simpa only [DRel] using x
  | .bool _, _, _, x, _, _ => by simpa only [DRel] using x
  | .int _, _, _, x, _, _ => by simpa only [DRel] using x
  | .str _, _, _, x, _, _ => by simpa only [DRel] using x
  | .tup xs, _, p, x, k, nb => by
    simp only [DRel] at x ⊢
    obtain ⟨a, vs, e, t, n, r⟩ := x
    exact ⟨a, vs, e, isTup_at t fun o ho => k a o ho, nb a _ t, DsRel.plain (p) r k nb⟩
  | .list xs, _, p, _, _, _ => by cases p
  | .dict ks xs, _, p, _, _, _ => by cases p
  | .set _, _, p, _, _, _ => by cases p
theorem DsRel.plain {C : Wo} {B : Addr → Prop} {h h' : Heap} {B' : Addr → Prop} : ∀ {xs : List D} {vs : List Value}, plainDs xs = true → DsRel C B h xs vs → (∀ a o, h.get? a = some o → h'.get? a = some o) → (∀ a vs, IsTup h a vs → ¬ B' a) → DsRel C B' h' xs vs
  | [], _, _, x, _, _ => by simpa only [DsRel] using x
  | x :: xs, _, p, y, k, nb => by
    simp only [DsRel] at y ⊢
    rw [plainD_c, Bool.and_eq_true] at p
    obtain ⟨v, r, e, a, b⟩ := y
    exact ⟨v, r, e, DRel.plain p.1 a k nb, DsRel.plain p.2 b k nb⟩
end

theorem DsRel.length {C : Wo} {B : Addr → Prop} {h : Heap} : ∀ {xs : List D} {vs : List Value}, DsRel C B h xs vs → xs.length = vs.length
  | [], _, x => by simp only [DsRel] at x; subst x; rfl
  | x :: xs, _, y => by
    simp only [DsRel] at y
    obtain ⟨v, r, rfl, _, b⟩ := y
    simp [DsRel.length b]

/-- the addresses where nothing that is told as data lies -/
def Bad (X : Addr → Prop) (α : List Addr) (a : Addr) : Prop := X a ∨ a ∈ α

mutual
noncomputable def VRel (C : Wo) (X : Addr → Prop) (α : List Addr) (h : Heap) : V → Value → Prop
  | .d x, v => DRel C (Bad X α) h x v
  | .obj n, v => ∃ a, α[n]? = some a ∧ v = .ref a
  | .tup xs, v => ∃ a vs, v = .ref a ∧ IsTup h a vs.toArray ∧ ¬ Bad X α a ∧ VsRel C X α h xs vs
noncomputable def VsRel (C : Wo) (X : Addr → Prop) (α : List Addr) (h : Heap) : List V → List Value → Prop
  | [], vs => vs = []
  | x :: xs, vs => ∃ v r, vs = v :: r ∧ VRel C X α h x v ∧ VsRel C X α h xs r
end

mutual
theorem VRel.grow {C : Wo} {X X' : Addr → Prop} {α α' : List Addr} {h h' : Heap} (g : Grow (Bad X α) h (Bad X' α') h') (p : α <+: α') : ∀ {v : V} {u : Value}, VRel C X α h v u → VRel C X' α' h' v u
  | .d x, _, y => by simp only [VRel] at y ⊢; exact y.grow g
  | .obj n, _, y => by
    simp only [VRel] at y ⊢
    obtain ⟨a, e, r⟩ := y
    obtain ⟨t, rfl⟩ := p
    exact ⟨a, by rw [List.getElem?_append_left (by have := List.getElem?_eq_some_iff.mp e; exact this.1)]; exact e, r⟩
  | .tup xs, _, y => by
    simp only [VRel] at y ⊢
    obtain ⟨a, vs, e, t, n, r⟩ := y
    obtain ⟨o, ho⟩ := isTup_get t
    exact ⟨a, vs, e, isTup_at t fun o ho => (g a o n ho).1, (g a o n ho).2, VsRel.grow g p r⟩
theorem VsRel.grow {C : Wo} {X X' : Addr → Prop} {α α' : List Addr} {h h' : Heap} (g : Grow (Bad X α) h (Bad X' α') h') (p : α <+: α') : ∀ {vs : List V} {us : List Value}, VsRel C X α h vs us → VsRel C X' α' h' vs us
  | [], _, y => by simpa only [VsRel] using y
  | x :: xs, _, y => by
    simp only [VsRel] at y ⊢
    obtain ⟨v, r, e, a, b⟩ := y
    exact ⟨v, r, e, VRel.grow g p a, VsRel.grow g p b⟩
end

theorem VsRel.length {C : Wo} {X : Addr → Prop} {α : List Addr} {h : Heap} : ∀ {xs : List V} {vs : List Value}, VsRel C X α h xs vs → xs.length = vs.length
  | [], _, x => by simp only [VsRel] at x; subst x; rfl
  | x :: xs, _, y => by
    simp only [VsRel] at y
    obtain ⟨v, r, rfl, _, b⟩ := y
    simp [VsRel.length b]

theorem VsRel.map {C : Wo} {X : Addr → Prop} {α : List Addr} {h : Heap} : ∀ {xs : List D} {vs : List Value}, VsRel C X α h (xs.map .d) vs ↔ DsRel C (Bad X α) h xs vs
  | [], _ => by simp only [List.map_nil, VsRel, DsRel]
  | x :: xs, _ => by simp only [List.map_cons, VsRel, DsRel, VRel, VsRel.map (xs := xs)]

theorem allD_map {vs : List V} {ds : List D} : allD vs = some ds → vs = ds.map .d := by
  induction vs generalizing ds with
  | nil => intro h; cases h; rfl
  | cons v r ih =>
    intro h
    cases v with
    | d x =>
      rw [allD_c, Option.map_eq_some_iff] at h
      obtain ⟨ds', h', rfl⟩ := h
      rw [ih h']; rfl
    | _ => cases h

/-- a plain list object -/
noncomputable def lobj (its : Array Value) (n : Nat) : Obj := { cls := .type "list", data := .seq its n }
theorem lobj_isList {h : Heap} {a : Addr} {its : Array Value} {n : Nat} (e : h.get? a = some (lobj its n)) : h.IsList a its := ⟨_, e, rfl, n, rfl⟩

def ORel (C : Wo) (X : Addr → Prop) (α : List Addr) (h : Heap) (a : Addr) : MO → Prop
  | .list xs => ∃ vs n, h.get? a = some (lobj vs.toArray n) ∧ VsRel C X α h xs vs
  | .dict ks xs => ∃ vs, h.DictOf C.kk a (ks.zip vs) ∧ ks.length = vs.length ∧ VsRel C X α h xs vs
  | .inst _ _ _ => False

structure SRel (C : Wo) (X : Addr → Prop) (α : List Addr) (σ : St) (h : Heap) : Prop where
  len : α.length = σ.length
  nodup : α.Nodup
  out : ∀ a ∈ α, ¬ X a
  low : ∀ a ∈ α, C.base.objs.size ≤ a
  obj : ∀ (n : Nat) (a : Addr) (b : Bool) (o : MO), α[n]? = some a → σ[n]? = some (b, o) → ORel C X α h a o

/-- the addresses of a frame -/
noncomputable def FA (env : Env) : List Addr := env.locals :: env.cells.map (·.2)

structure FRel (C : Wo) (X : Addr → Prop) (env : Env) (ρ : Loc) (α : List Addr) (h : Heap) : Prop where
  kind : env.scope.kind = .function
  glob : env.globals = mainGlobals
  blt : env.builtins = builtinsNs
  kinds : ∀ x v, getV x ρ = some v → env.kindOf x = some .local ∨ env.kindOf x = some .cell ∨ env.kindOf x = some .free
  loc : ∃ m, h.Ns env.locals m ∧ ∀ x v, getV x ρ = some v → env.kindOf x = some .local → ∃ u, m x = some u ∧ VRel C X α h v u
  cel : ∀ x v, getV x ρ = some v → env.kindOf x = some .cell ∨ env.kindOf x = some .free → ∃ c u, env.cells.lookup x = some c ∧ h.IsCell c (some u) ∧ VRel C X α h v u
  has : ∀ x, env.kindOf x = some .cell → ∃ c u, env.cells.lookup x = some c ∧ h.IsCell c u
  apart : env.cells.Pairwise fun x y => x.2 ≠ y.2
  off : ∀ x c, (x, c) ∈ env.cells → c ≠ env.locals

/-- no tuple -/
def NoTup (o : Obj) : Prop := ∀ vs n, ¬ (o.cls = .type "tuple" ∧ o.data = .seq vs n)
theorem Heap.Ns.noTup {h : Heap} {a : Addr} {m : Str → Option Value} (x : h.Ns a m) : ∃ o, h.get? a = some o ∧ NoTup o := let ⟨o, _, _, ho, hd, _⟩ := x; ⟨o, ho, fun _ _ q => nomatch hd.symm.trans q.2⟩
theorem Heap.IsCell.noTup {h : Heap} {a : Addr} {u : Option Value} (x : h.IsCell a u) : ∃ o, h.get? a = some o ∧ NoTup o := let ⟨o, ho, hd⟩ := x; ⟨o, ho, fun _ _ q => nomatch hd.symm.trans q.2⟩

/-- a state that is as told -/
structure Rel (C : Wo) (X : Addr → Prop) (env : Env) (ρ : Loc) (α : List Addr) (σ : St) (s : Shared) : Prop where
  bas : ∀ b o, C.base.get? b = some o → s.heap.get? b = some o
  fr : FRel C X env ρ α s.heap
  st : SRel C X α σ s.heap
  fa : ∀ a ∈ FA env, X a
  flow : ∀ a ∈ FA env, C.base.objs.size ≤ a
  xlt : ∀ a, X a → a < s.heap.objs.size
  xnt : ∀ a, X a → ∃ o, s.heap.get? a = some o ∧ NoTup o

/-- what a step of an expression leaves as it was -/
structure Ext (env : Env) (α : List Addr) (σ : St) (s : Shared) (α' : List Addr) (σ' : St) (s' : Shared) : Prop where
  keep : ∀ a o, s.heap.get? a = some o → a ≠ env.locals → (∀ n : Nat, α[n]? = some a → ∃ o, σ[n]? = some (true, o)) → s'.heap.get? a = some o
  ns : ∀ m, s.heap.Ns env.locals m → s'.heap.Ns env.locals m
  new : ∃ t, α' = α ++ t ∧ ∀ a ∈ t, s.heap.objs.size ≤ a
  size : s.heap.objs.size ≤ s'.heap.objs.size
  gens : s'.gens = s.gens
  os : s'.os = s.os
  lock : ∀ (n : Nat) o, σ[n]? = some (true, o) → σ'[n]? = some (true, o)
  slen : σ.length ≤ σ'.length

end Mine
end

section
set_option autoImplicit false
namespace Mine
open PySem PyProof.Rows

variable {C : Wo} {X : Addr → Prop} {env : Env} {ρ : Loc} {α α' α'' : List Addr} {σ σ' σ'' : St} {s s' s'' : Shared}

theorem Ext.refl : Ext env α σ s α σ s := ⟨fun _ _ e _ _ => e, fun _ e => e, ⟨[], by simp, by simp⟩, Nat.le_refl _, rfl, rfl, fun _ _ e => e, Nat.le_refl _⟩

theorem Ext.pre (E : Ext env α σ s α' σ' s') : α <+: α' := let ⟨t, e, _⟩ := E.new; ⟨t, e.symm⟩

/-- σ has an entry for each address -/
theorem Ext.trans (x : Ext env α σ s α' σ' s') (y : Ext env α' σ' s' α'' σ'' s'') : Ext env α σ s α'' σ'' s'' where
  keep := fun a o e n l => y.keep a o (x.keep a o e n l) n fun k hk => by
    obtain ⟨t, rfl, ht⟩ := x.new
    by_cases hk' : k < α.length
    · rw [List.getElem?_append_left hk'] at hk
      obtain ⟨o', ho'⟩ := l k hk
      exact ⟨o', x.lock k o' ho'⟩
    · rw [List.getElem?_append_right (Nat.le_of_not_lt hk')] at hk
      have := ht a (List.mem_of_getElem? hk)
      exact absurd (Heap.lt_size e) (Nat.not_lt.mpr this)
  ns := fun m h => y.ns m (x.ns m h)
  new := by
    obtain ⟨t, rfl, ht⟩ := x.new
    obtain ⟨u, rfl, hu⟩ := y.new
    exact ⟨t ++ u, by rw [List.append_assoc], fun a ha => (List.mem_append.mp ha).elim (ht a) fun q => Nat.le_trans x.size (hu a q)⟩
  size := Nat.le_trans x.size y.size
  gens := y.gens.trans x.gens
  os := y.os.trans x.os
  lock := fun n o e => y.lock n o (x.lock n o e)
  slen := Nat.le_trans x.slen y.slen

theorem ORel.get {h : Heap} {a : Addr} {o : MO} (x : ORel C X α h a o) : ∃ o, h.get? a = some o := by
  cases o with
  | list xs => obtain ⟨vs, n, t, _⟩ := x; exact ⟨_, t⟩
  | dict ks xs => obtain ⟨vs, t, _⟩ := x; exact dictOf_get t
  | inst _ _ _ => exact x.elim

theorem SRel.lt {h : Heap} (S : SRel C X α σ h) {a : Addr} (ha : a ∈ α) : a < h.objs.size := by
  obtain ⟨n, hn, e⟩ := List.getElem_of_mem ha
  have h1 : α[n]? = some a := by rw [List.getElem?_eq_getElem hn, e]
  have h2 : n < σ.length := S.len ▸ hn
  obtain ⟨o, ho⟩ := (S.obj n a _ _ h1 (show σ[n]? = some ((σ[n]).1, (σ[n]).2) by rw [List.getElem?_eq_getElem h2])).get
  exact Heap.lt_size ho

theorem Rel.ltα (R : Rel C X env ρ α σ s) : ∀ a ∈ α, a < s.heap.objs.size := fun _ ha => R.st.lt ha

theorem Ext.grow (R : Rel C X env ρ α σ s) (E : Ext env α σ s α' σ' s') : Grow (Bad X α) s.heap (Bad X α') s'.heap := fun a o n e => by
  have nx : ¬ X a := fun q => n (.inl q)
  have na : a ∉ α := fun q => n (.inr q)
  refine ⟨E.keep a o e (fun q => nx (R.fa a (by rw [q]; exact .head _))) fun k hk => absurd (List.mem_of_getElem? hk) na, fun q => ?_⟩
  rcases q with q | q
  · exact nx q
  · obtain ⟨t, rfl, ht⟩ := E.new
    rcases List.mem_append.mp q with q | q
    · exact na q
    · exact absurd (Heap.lt_size e) (Nat.not_lt.mpr (ht a q))

theorem VRel.ext (R : Rel C X env ρ α σ s) (E : Ext env α σ s α' σ' s') {v : V} {u : Value} (x : VRel C X α s.heap v u) : VRel C X α' s'.heap v u := x.grow (E.grow R) E.pre
theorem VsRel.ext (R : Rel C X env ρ α σ s) (E : Ext env α σ s α' σ' s') {v : List V} {u : List Value} (x : VsRel C X α s.heap v u) : VsRel C X α' s'.heap v u := x.grow (E.grow R) E.pre

theorem Rel.cellKept (R : Rel C X env ρ α σ s) (E : Ext env α σ s α' σ' s') {x : Str} {c : Addr} {u : Option Value} (hc : env.cells.lookup x = some c) (h : s.heap.IsCell c u) : s'.heap.IsCell c u := by
  obtain ⟨o, ho, hd⟩ := h
  have hm := mem_of_lookup hc
  have hx : X c := R.fa c (.tail _ (List.mem_map.mpr ⟨_, hm, rfl⟩))
  exact ⟨o, E.keep c o ho (R.fr.off x c hm) fun k hk => absurd hx (R.st.out c (List.mem_of_getElem? hk)), hd⟩

theorem FRel.ext (R : Rel C X env ρ α σ s) (E : Ext env α σ s α' σ' s') : FRel C X env ρ α' s'.heap where
  kind := R.fr.kind
  glob := R.fr.glob
  blt := R.fr.blt
  kinds := R.fr.kinds
  loc := let ⟨m, hm, h⟩ := R.fr.loc; ⟨m, E.ns m hm, fun x v e k => let ⟨u, hu, hv⟩ := h x v e k; ⟨u, hu, hv.ext R E⟩⟩
  cel := fun x v e k => let ⟨c, u, hc, hi, hv⟩ := R.fr.cel x v e k; ⟨c, u, hc, R.cellKept E hc hi, hv.ext R E⟩
  has := fun x k => let ⟨c, u, hc, hi⟩ := R.fr.has x k; ⟨c, u, hc, R.cellKept E hc hi⟩
  apart := R.fr.apart
  off := R.fr.off

theorem Rel.ext (R : Rel C X env ρ α σ s) (E : Ext env α σ s α' σ' s') (S : SRel C X α' σ' s'.heap) : Rel C X env ρ α' σ' s' where
  bas := fun b o e => E.keep b o (R.bas b o e) (fun q => Nat.not_lt.mpr (R.flow b (by rw [q]; exact .head _)) (Heap.lt_size e)) fun k hk => absurd (Heap.lt_size e) (Nat.not_lt.mpr (R.st.low b (List.mem_of_getElem? hk)))
  fr := FRel.ext R E
  st := S
  fa := R.fa
  flow := R.flow
  xlt := fun a ha => Nat.lt_of_lt_of_le (R.xlt a ha) E.size
  xnt := fun a ha => by
    by_cases q : a = env.locals
    · obtain ⟨m, hm, _⟩ := R.fr.loc
      rw [q]; exact Heap.Ns.noTup (E.ns m hm)
    · obtain ⟨o, ho, hn⟩ := R.xnt a ha
      exact ⟨o, E.keep a o ho q fun k hk => absurd ha (R.st.out a (List.mem_of_getElem? hk)), hn⟩

/-- a step that changes nothing that stood -/
structure Ext0 (env : Env) (s s' : Shared) : Prop where
  keep : ∀ a o, s.heap.get? a = some o → a ≠ env.locals → s'.heap.get? a = some o
  ns : ∀ m, s.heap.Ns env.locals m → s'.heap.Ns env.locals m
  size : s.heap.objs.size ≤ s'.heap.objs.size
  gens : s'.gens = s.gens
  os : s'.os = s.os

theorem Ext0.refl : Ext0 env s s := ⟨fun _ _ e _ => e, fun _ e => e, Nat.le_refl _, rfl, rfl⟩
theorem Ext0.trans (x : Ext0 env s s') (y : Ext0 env s' s'') : Ext0 env s s'' :=
  ⟨fun a o e n => y.keep a o (x.keep a o e n) n, fun m h => y.ns m (x.ns m h), Nat.le_trans x.size y.size, y.gens.trans x.gens, y.os.trans x.os⟩
theorem Ext0.toks (t : Nat) : Ext0 env s { s with toks := t } := ⟨fun _ _ e _ => e, fun _ e => e, Nat.le_refl _, rfl, rfl⟩
/-- all is kept -/
theorem Ext0.of {h : Heap} {t : Nat} (k : ∀ a o, s.heap.get? a = some o → h.get? a = some o) (z : s.heap.objs.size ≤ h.objs.size) : Ext0 env s { s with heap := h, toks := t } :=
  ⟨fun a o e _ => k a o e, fun _ e => e.keeps k, z, rfl, rfl⟩
theorem Ext0.push (o : Obj) (t : Nat) : Ext0 env s { s with heap := s.heap.push o, toks := t } := .of (fun _ _ e => Heap.get?_push_of_some o e) (by rw [Heap.size_push]; omega)

theorem Ext0.ext (x : Ext0 env s s') : Ext env α σ s α σ s' := ⟨fun a o e n _ => x.keep a o e n, x.ns, ⟨[], by simp, by simp⟩, x.size, x.gens, x.os, fun _ _ e => e, Nat.le_refl _⟩

theorem ORel.grow {h h' : Heap} {a : Addr} {o : MO} (g : Grow (Bad X α) h (Bad X α') h') (p : α <+: α') (k : ∀ o, h.get? a = some o → h'.get? a = some o) (x : ORel C X α h a o) : ORel C X α' h' a o := by
  cases o with
  | list xs => obtain ⟨vs, n, t, r⟩ := x; exact ⟨vs, n, k _ t, r.grow g p⟩
  | dict ks xs => obtain ⟨vs, t, l, r⟩ := x; exact ⟨vs, dictOf_at t k, l, r.grow g p⟩
  | inst _ _ _ => exact x.elim

theorem Rel.neLoc (R : Rel C X env ρ α σ s) {a : Addr} (ha : a ∈ α) : a ≠ env.locals := fun q => R.st.out a ha (R.fa a (by rw [q]; exact .head _))

theorem Rel.srel0 (R : Rel C X env ρ α σ s) (E : Ext0 env s s') : SRel C X α σ s'.heap where
  len := R.st.len
  nodup := R.st.nodup
  out := R.st.out
  low := R.st.low
  obj := fun n a b o h1 h2 => (R.st.obj n a b o h1 h2).grow (E.ext.grow R) (List.prefix_refl _) fun o ho => E.keep a o ho (R.neLoc (List.mem_of_getElem? h1))

theorem Rel.ext0 (R : Rel C X env ρ α σ s) (E : Ext0 env s s') : Rel C X env ρ α σ s' := R.ext E.ext (R.srel0 E)

/-- a new container, told as data -/
def FreshRel (C : Wo) (B : Addr → Prop) (h : Heap) (n : Nat) : D → Value → Prop
  | .list xs, u => ∃ a vs e, u = .ref a ∧ n ≤ a ∧ h.get? a = some (lobj vs.toArray e) ∧ ¬ B a ∧ DsRel C (fun b => B b ∨ b = a) h xs vs
  | .dict ks xs, u => ∃ a vs, u = .ref a ∧ n ≤ a ∧ h.DictOf C.kk a (ks.zip vs) ∧ ks.length = vs.length ∧ C.base.objs.size ≤ a ∧ ¬ B a ∧ DsRel C (fun b => B b ∨ b = a) h xs vs
  | x, u => DRel C B h x u

theorem DsRel.weaken {B B' : Addr → Prop} {h : Heap} {xs : List D} {vs : List Value} (k : ∀ a, B' a → B a) (x : DsRel C B h xs vs) : DsRel C B' h xs vs := x.grow fun a _ n e => ⟨e, fun q => n (k a q)⟩
theorem DRel.weaken {B B' : Addr → Prop} {h : Heap} {x : D} {v : Value} (k : ∀ a, B' a → B a) (y : DRel C B h x v) : DRel C B' h x v := y.grow fun a _ n e => ⟨e, fun q => n (k a q)⟩

theorem FreshRel.rel {B : Addr → Prop} {h : Heap} {n : Nat} {x : D} {u : Value} (y : FreshRel C B h n x u) : DRel C B h x u := by
  cases x with
  | list xs => obtain ⟨a, vs, k, e, _, t, nb, r⟩ := y; simp only [DRel]; exact ⟨a, vs, e, lobj_isList t, nb, r.weaken fun _ => .inl⟩
  | dict ks xs => obtain ⟨a, vs, e, _, t, l, b, nb, r⟩ := y; simp only [DRel]; exact ⟨a, vs, e, t, l, b, nb, r.weaken fun _ => .inl⟩
  | _ => exact y

/-- one more object in the store -/
theorem adoptRel (R : Rel C X env ρ α σ s) (E : Ext0 env s s') {a : Addr} {o : MO} (ha : s.heap.objs.size ≤ a) (hb : C.base.objs.size ≤ a) (ho : ORel C X (α ++ [a]) s'.heap a o) :
    Rel C X env ρ (α ++ [a]) (σ ++ [(false, o)]) s' ∧ Ext env α σ s (α ++ [a]) (σ ++ [(false, o)]) s' := by
  have E' : Ext env α σ s (α ++ [a]) (σ ++ [(false, o)]) s' :=
    ⟨fun a o e n _ => E.keep a o e n, E.ns, ⟨[a], rfl, by simp [ha]⟩, E.size, E.gens, E.os, fun n o e => by
      rw [List.getElem?_append_left (List.getElem?_eq_some_iff.mp e).1]; exact e, by simp⟩
  refine ⟨R.ext E' ⟨by simp [R.st.len], ?_, ?_, ?_, fun n b l q h1 h2 => ?_⟩, E'⟩
  · rw [List.nodup_append]
    refine ⟨R.st.nodup, by simp, fun b hm c hc e => ?_⟩
    simp only [List.mem_singleton] at hc
    subst hc; subst e
    exact absurd (R.st.lt hm) (Nat.not_lt.mpr ha)
  · intro b hb'
    rcases List.mem_append.mp hb' with q | q
    · exact R.st.out b q
    · simp only [List.mem_singleton] at q
      subst q
      exact fun q => absurd (R.xlt _ q) (Nat.not_lt.mpr ha)
  · intro b hb'
    rcases List.mem_append.mp hb' with q | q
    · exact R.st.low b q
    · simp only [List.mem_singleton] at q; subst q; exact hb
  · by_cases hn : n < α.length
    · rw [List.getElem?_append_left hn] at h1
      rw [List.getElem?_append_left (R.st.len ▸ hn)] at h2
      exact (R.st.obj n b l q h1 h2).grow (E'.grow R) E'.pre fun o ho => E.keep b o ho (R.neLoc (List.mem_of_getElem? h1))
    · have hn' := Nat.le_of_not_lt hn
      rw [List.getElem?_append_right hn'] at h1
      rw [List.getElem?_append_right (R.st.len ▸ hn'), ← R.st.len] at h2
      cases hk : n - α.length with
      | zero => rw [hk] at h1 h2; simp at h1 h2; obtain ⟨_, rfl⟩ := h2; subst h1; exact ho
      | succ k => rw [hk] at h1; simp at h1

theorem bad_snoc {a b : Addr} (h : Bad X (α ++ [a]) b) : Bad X α b ∨ b = a := by
  rcases h with q | q
  · exact .inl (.inl q)
  · rcases List.mem_append.mp q with q | q
    · exact .inl (.inr q)
    · exact .inr (by simpa using q)

theorem own_ok (R : Rel C X env ρ α σ s) (E : Ext0 env s s') {o : Bool} {x : D} {u : Value} {v : V} {σ' : St} (F : FreshRel C (Bad X α) s'.heap s.heap.objs.size x u) (h : own o (.d x) σ = (v, σ')) :
    ∃ α', Rel C X env ρ α' σ' s' ∧ VRel C X α' s'.heap v u ∧ Ext env α σ s α' σ' s' := by
  have plain : own o (.d x) σ = (.d x, σ) → ∃ α', Rel C X env ρ α' σ' s' ∧ VRel C X α' s'.heap v u ∧ Ext env α σ s α' σ' s' := fun e => by
    rw [e] at h; cases h
    exact ⟨α, R.ext0 E, by simp only [VRel]; exact F.rel, E.ext⟩
  cases o with
  | false => exact plain rfl
  | true =>
    cases x with
    | list xs =>
      obtain ⟨a, vs, k, rfl, ha, t, nb, r⟩ := F
      simp only [own, adopt, if_true, Prod.mk.injEq] at h
      obtain ⟨rfl, rfl⟩ := h
      have hb : C.base.objs.size ≤ a := by
        exact Nat.le_trans (Nat.le_trans (R.flow env.locals (.head _)) (Nat.le_of_lt (R.xlt _ (R.fa env.locals (.head _))))) ha
      obtain ⟨R', E'⟩ := adoptRel R E ha hb (o := .list (xs.map .d)) ⟨vs, k, t, VsRel.map.mpr (r.weaken fun _ => bad_snoc)⟩
      exact ⟨α ++ [a], R', by simp only [VRel]; exact ⟨a, by rw [← R.st.len]; simp, rfl⟩, E'⟩
    | dict ks xs =>
      obtain ⟨a, vs, rfl, ha, t, l, hb, nb, r⟩ := F
      simp only [own, adopt, if_true, Prod.mk.injEq] at h
      obtain ⟨rfl, rfl⟩ := h
      obtain ⟨R', E'⟩ := adoptRel R E ha hb (o := .dict ks (xs.map .d)) ⟨vs, t, l, VsRel.map.mpr (r.weaken fun _ => bad_snoc)⟩
      exact ⟨α ++ [a], R', by simp only [VRel]; exact ⟨a, by rw [← R.st.len]; simp, rfl⟩, E'⟩
    | _ => exact plain rfl

/-- a list that was just made of data that stood -/
theorem fresh_list (R : Rel C X env ρ α σ s) (E : Ext0 env s s') {a : Addr} {xs : List D} {vs : List Value} {k : Nat} (ha : s.heap.objs.size ≤ a) (t : s'.heap.get? a = some (lobj vs.toArray k)) (r : DsRel C (Bad X α) s.heap xs vs) :
    FreshRel C (Bad X α) s'.heap s.heap.objs.size (.list xs) (.ref a) := by
  have nb : ¬ Bad X α a := fun q => q.elim (fun q => absurd (R.xlt _ q) (Nat.not_lt.mpr ha)) fun q => absurd (R.st.lt q) (Nat.not_lt.mpr ha)
  refine ⟨a, vs, k, rfl, ha, t, nb, r.grow fun b o n e => ⟨(E.ext.grow R b o n e).1, fun q => ?_⟩⟩
  rcases q with q | q
  · exact n q
  · subst q; exact absurd (Heap.lt_size e) (Nat.not_lt.mpr ha)
theorem fresh_dict (R : Rel C X env ρ α σ s) (E : Ext0 env s s') {a : Addr} {ks : List Key} {xs : List D} {vs : List Value} (ha : s.heap.objs.size ≤ a) (t : s'.heap.DictOf C.kk a (ks.zip vs)) (l : ks.length = vs.length) (r : DsRel C (Bad X α) s.heap xs vs) :
    FreshRel C (Bad X α) s'.heap s.heap.objs.size (.dict ks xs) (.ref a) := by
  have nb : ¬ Bad X α a := fun q => q.elim (fun q => absurd (R.xlt _ q) (Nat.not_lt.mpr ha)) fun q => absurd (R.st.lt q) (Nat.not_lt.mpr ha)
  have hb : C.base.objs.size ≤ a := by
    exact Nat.le_trans (Nat.le_trans (R.flow env.locals (.head _)) (Nat.le_of_lt (R.xlt _ (R.fa env.locals (.head _))))) ha
  refine ⟨a, vs, rfl, ha, t, l, hb, nb, r.grow fun b o n e => ⟨(E.ext.grow R b o n e).1, fun q => ?_⟩⟩
  rcases q with q | q
  · exact n q
  · subst q; exact absurd (Heap.lt_size e) (Nat.not_lt.mpr ha)

end Mine
end

section
set_option autoImplicit false
namespace Mine
open PySem PyProof.Rows

variable {C : Wo} {X : Addr → Prop} {env : Env} {ρ : Loc} {α α' α'' : List Addr} {σ σ' σ'' : St} {s s' s'' : Shared} {A : Around} {E : Value → Shared → Prop}

/-- all that stands but the frame's own dict -/
noncomputable def allNews (h : Heap) (L : Addr) : List (Addr × Obj) := (List.range h.objs.size).filterMap fun a => if a = L then none else (h.get? a).map fun o => (a, o)

theorem mem_allNews {h : Heap} {L a : Addr} {o : Obj} (e : h.get? a = some o) (n : a ≠ L) : (a, o) ∈ allNews h L := by
  unfold allNews
  refine List.mem_filterMap.mpr ⟨a, List.mem_range.mpr (Heap.lt_size e), ?_⟩
  rw [if_neg n, e]; rfl

theorem of_allNews {h : Heap} {L : Addr} {p : Addr × Obj} (m : p ∈ allNews h L) : p.1 ≠ L ∧ h.get? p.1 = some p.2 := by
  unfold allNews at m
  obtain ⟨a, _, e⟩ := List.mem_filterMap.mp m
  split at e
  · cases e
  · rename_i n
    obtain ⟨o, ho, rfl⟩ := Option.map_eq_some_iff.mp e
    exact ⟨n, ho⟩

noncomputable abbrev noHeap : Heap := {}
theorem noHeap_get (a : Addr) : noHeap.get? a = none := Heap.get?_none_of_le (Nat.zero_le a)
theorem news_all (h : Heap) (L : Addr) : News noHeap L h (allNews h L) := fun _ hp => let ⟨n, e⟩ := of_allNews hp; ⟨e, n, noHeap_get _⟩
theorem fr_all {h : Heap} {L : Addr} {m : Str → Option Value} (hn : h.Ns L m) : Fr noHeap L h m := ⟨hn, fun b o e => absurd ((noHeap_get b).symm.trans e) (fun q => nomatch q), Nat.zero_le _⟩

theorem ns_unique {h : Heap} {a : Addr} {m m' : Str → Option Value} (x : h.Ns a m) (y : h.Ns a m') : m = m' := by
  obtain ⟨o, es, ep, ho, hd, _, hf⟩ := x
  obtain ⟨o', es', ep', ho', hd', _, hf'⟩ := y
  rw [ho] at ho'; cases ho'
  rw [hd] at hd'; cases hd'
  exact funext fun n => (hf n).symm.trans (hf' n)

theorem ext0_news {m : Str → Option Value} {h' : Heap} {p : Addr × Obj} {t : Nat} (hn : s.heap.Ns env.locals m) (F' : Fr noHeap env.locals h' m) (N' : News noHeap env.locals h' (p :: allNews s.heap env.locals))
    (hp : s.heap.objs.size ≤ p.1) : Ext0 env s { s with heap := h', toks := t } where
  keep := fun a o e n => (N' (a, o) (.tail _ (mem_allNews e n))).1
  ns := fun _ e => ns_unique hn e ▸ F'.ns
  size := Nat.le_of_lt (Nat.lt_of_le_of_lt hp (Heap.lt_size (N' p (.head _)).1))
  gens := rfl
  os := rfl

theorem intMulOk {x y : Int} (h : small x = true) : IntMulOk x y := by
  have h' : x.natAbs < 2 ^ 64 := of_decide_eq_true h
  exact .of_left (intBits_le_64 (by omega) (by omega))

theorem DsRel.append {B : Addr → Prop} {h : Heap} : ∀ {xs ys : List D} {vs us : List Value}, DsRel C B h xs vs → DsRel C B h ys us → DsRel C B h (xs ++ ys) (vs ++ us)
  | [], _, _, _, x, y => by simp only [DsRel] at x; subst x; exact y
  | _ :: _, _, _, _, x, y => by
    simp only [DsRel] at x
    obtain ⟨v, r, rfl, a, b⟩ := x
    simp only [List.cons_append, DsRel]
    exact ⟨v, _, rfl, a, DsRel.append b y⟩

theorem sizeLine_big {n : Nat} (h : sizeOk n = true) : n ≤ sizeLine := by
  have : n < 100000 := of_decide_eq_true h
  rw [sizeLine_eq]; omega

/-- a list of data, wherever it lies -/
theorem Rel.objList (R : Rel C X env ρ α σ s) {n : Nat} {u : Value} {xs : List V} (h : VRel C X α s.heap (.obj n) u) (o : oget σ n = some (.list xs)) : ∃ a vs, u = .ref a ∧ α[n]? = some a ∧ (∃ k, s.heap.get? a = some (lobj vs.toArray k)) ∧ VsRel C X α s.heap xs vs := by
  simp only [VRel] at h
  obtain ⟨a, e, rfl⟩ := h
  simp only [oget, Option.map_eq_some_iff] at o
  obtain ⟨⟨b, q⟩, hq, rfl⟩ := o
  obtain ⟨vs, k, t, r⟩ := R.st.obj n a b _ e hq
  exact ⟨a, vs, rfl, e, ⟨k, t⟩, r⟩
theorem Rel.objDict (R : Rel C X env ρ α σ s) {n : Nat} {u : Value} {ks : List Key} {xs : List V} (h : VRel C X α s.heap (.obj n) u) (o : oget σ n = some (.dict ks xs)) :
    ∃ a vs, u = .ref a ∧ α[n]? = some a ∧ s.heap.DictOf C.kk a (ks.zip vs) ∧ ks.length = vs.length ∧ VsRel C X α s.heap xs vs := by
  simp only [VRel] at h
  obtain ⟨a, e, rfl⟩ := h
  simp only [oget, Option.map_eq_some_iff] at o
  obtain ⟨⟨b, q⟩, hq, rfl⟩ := o
  obtain ⟨vs, t, l, r⟩ := R.st.obj n a b _ e hq
  exact ⟨a, vs, rfl, e, t, l, r⟩

theorem DRel.tup_iff {B : Addr → Prop} {h : Heap} {xs : List D} {v : Value} : DRel C B h (.tup xs) v ↔ ∃ a vs, v = .ref a ∧ IsTup h a vs.toArray ∧ ¬ B a ∧ DsRel C B h xs vs := by simp only [DRel]
theorem DRel.list_iff {B : Addr → Prop} {h : Heap} {xs : List D} {v : Value} : DRel C B h (.list xs) v ↔ ∃ a vs, v = .ref a ∧ h.IsList a vs.toArray ∧ ¬ B a ∧ DsRel C B h xs vs := by simp only [DRel]
theorem DRel.dict_iff {B : Addr → Prop} {h : Heap} {ks : List Key} {xs : List D} {v : Value} : DRel C B h (.dict ks xs) v ↔ ∃ a vs, v = .ref a ∧ h.DictOf C.kk a (ks.zip vs) ∧ ks.length = vs.length ∧ C.base.objs.size ≤ a ∧ ¬ B a ∧ DsRel C B h xs vs := by simp only [DRel]
theorem VRel.d_iff {h : Heap} {x : D} {v : Value} : VRel C X α h (.d x) v ↔ DRel C (Bad X α) h x v := by simp only [VRel]

theorem Rel.newBad (R : Rel C X env ρ α σ s) {a : Addr} (ha : s.heap.objs.size ≤ a) : ¬ Bad X α a :=
  fun q => q.elim (fun q => absurd (R.xlt _ q) (Nat.not_lt.mpr ha)) fun q => absurd (R.st.lt q) (Nat.not_lt.mpr ha)

/-- a tuple that was just made of data that stood -/
theorem new_tup (R : Rel C X env ρ α σ s) (E0 : Ext0 env s s') {a : Addr} {xs : List D} {vs : List Value} (ha : s.heap.objs.size ≤ a) (t : IsTup s'.heap a vs.toArray) (r : DsRel C (Bad X α) s.heap xs vs) :
    DRel C (Bad X α) s'.heap (.tup xs) (.ref a) := DRel.tup_iff.mpr ⟨a, vs, rfl, t, R.newBad ha, r.grow (E0.ext (α := α) (σ := σ) |>.grow R)⟩

theorem intV_some {v : V} {i : Int} (h : intV v = some i) : v = .d (.int i) := by
  cases v with
  | d x => cases x with
    | int j => cases h; rfl
    | _ => cases h
  | _ => cases h
theorem boolV_some {v : V} {i : Bool} (h : boolV v = some i) : v = .d (.bool i) := by
  cases v with
  | d x => cases x with
    | bool j => cases h; rfl
    | _ => cases h
  | _ => cases h
theorem tupV_some {v : V} {i : List D} (h : tupV v = some i) : v = .d (.tup i) := by
  cases v with
  | d x => cases x with
    | tup j => cases h; rfl
    | _ => cases h
  | _ => cases h
theorem listV_some {v : V} {i : List D} (h : listV v = some i) : v = .d (.list i) := by
  cases v with
  | d x => cases x with
    | list j => cases h; rfl
    | _ => cases h
  | _ => cases h
theorem binV_ok (R : Rel C X env ρ α σ s) {op : Operator} {a b v : V} {ua ub : Value} {Q : Value → Shared → Prop} (ha : VRel C X α s.heap a ua) (hb : VRel C X α s.heap b ub) (h : binV σ op a b = some v)
    (hQ : ∀ x u s', v = .d x → Ext0 env s s' → FreshRel C (Bad X α) s'.heap s.heap.objs.size x u → Q u s') : wpAny C.M A (binaryOp op ua ub) Q E s := by
  unfold binV at h
  split at h
  · unfold addV at h
    split at h
    · rename_i x hx
      obtain ⟨y, hy, rfl⟩ := Option.map_eq_some_iff.mp h
      obtain rfl := intV_some hx
      obtain rfl := intV_some hy
      simp only [VRel, DRel] at ha hb
      obtain ⟨t, rfl⟩ := ha; obtain ⟨t', rfl⟩ := hb
      exact add_int (hQ _ _ _ rfl (.toks _) (by simp only [FreshRel, DRel]; exact ⟨_, rfl⟩))
    · simp only [Option.bind_eq_some_iff] at h
      obtain ⟨x, hx, y, hy, h⟩ := h
      obtain rfl := tupV_some hx
      obtain rfl := tupV_some hy
      split at h
      · rename_i hs; cases h
        simp only [VRel, DRel] at ha hb
        obtain ⟨p, vs, rfl, tp, np, rp⟩ := ha
        obtain ⟨q, us, rfl, tq, nq, rq⟩ := hb
        obtain ⟨m, hm, _⟩ := R.fr.loc
        have l1 := rp.length
        have l2 := rq.length
        have hz' := sizeLine_big hs
        rw [List.length_append] at hz'
        refine add_tuples (fr_all hm) (news_all s.heap env.locals) tp tq (fun e => ?_) (fun _ e => ?_) (fun _ _ h' F' N' => ?_) (by omega)
        · subst e
          obtain rfl : x = [] := List.length_eq_zero_iff.mp l1
          exact hQ _ _ _ rfl .refl (DRel.tup_iff.mpr ⟨q, us, rfl, tq, nq, by simpa using rq⟩)
        · subst e
          obtain rfl : y = [] := List.length_eq_zero_iff.mp l2
          exact hQ _ _ _ rfl .refl (DRel.tup_iff.mpr ⟨p, vs, rfl, tp, np, by simpa using rp⟩)
        · have E0 : Ext0 env s { s with heap := h' } := ext0_news (t := s.toks) hm F' N' (Nat.le_refl _)
          exact hQ _ _ _ rfl E0 (new_tup R E0 (Nat.le_refl _) ⟨_, (N' _ (.head _)).1, rfl, 0, rfl⟩ (rp.append rq))
      · cases h
  · simp only [Option.bind_eq_some_iff, Option.map_eq_some_iff] at h
    obtain ⟨x, hx, y, hy, d, h, rfl⟩ := h
    obtain rfl := intV_some hx
    obtain rfl := intV_some hy
    simp only [VRel, DRel] at ha hb
    obtain ⟨t, rfl⟩ := ha; obtain ⟨t', rfl⟩ := hb
    unfold binI at h
    split at h
    · cases h; exact add_int (hQ _ _ _ rfl (.toks _) (by simp only [FreshRel, DRel]; exact ⟨_, rfl⟩))
    · cases h; exact sub_int (hQ _ _ _ rfl (.toks _) (by simp only [FreshRel, DRel]; exact ⟨_, rfl⟩))
    · split at h
      · rename_i hs; cases h; exact mul_int (hQ _ _ _ rfl (.toks _) (by simp only [FreshRel, DRel]; exact ⟨_, rfl⟩)) (intMulOk hs)
      · cases h
    · split at h
      · cases h; exact floordiv_int (by omega) (hQ _ _ _ rfl (.toks _) (by simp only [FreshRel, DRel]; exact ⟨_, by rw [Int.fdiv_eq_ediv_of_nonneg _ (by omega)]⟩)) (.inl (PyProof.noPylong_small (by omega)))
      · cases h
    · split at h
      · cases h; exact mod_int (by omega) (hQ _ _ _ rfl (.toks _) (by simp only [FreshRel, DRel]; exact ⟨_, by rw [Int.fmod_eq_emod_of_nonneg _ (by omega)]⟩))
      · cases h
    · cases h

end Mine
end

section
set_option autoImplicit false
namespace Mine
open PySem PyProof.Rows

variable {C : Wo} {X : Addr → Prop} {env : Env} {ρ : Loc} {α α' α'' : List Addr} {σ σ' σ'' : St} {s s' s'' : Shared} {A : Around} {E : Value → Shared → Prop}

theorem subscripted_any (slice : Expr) (o i : Value) : ∃ ops, subscripted slice false o i = operate ops (getItem o i) := by
  unfold subscripted
  split
  · exact ⟨_, rfl⟩
  · rename_i h; cases h
  · exact ⟨_, rfl⟩

theorem tail_of {value slice : Expr} {o i : Value} {T id : String} {Q : Value → Shared → Prop} (hT : s.TypeIs o T)
    (hl : typeLookup (.type T) "__getitem__" = pure (some (.builtin id))) (hg : wpAny C.M A (getItem o i) Q E s) : wpAny C.M A (subscriptTail value slice o i) Q E s :=
  let ⟨_, e⟩ := subscripted_any slice o i; tail_any hT hl hg e

theorem DsRel.get {B : Addr → Prop} {h : Heap} : ∀ {xs : List D} {vs : List Value} {n : Nat} {x : D}, DsRel C B h xs vs → xs[n]? = some x → ∃ v, vs[n]? = some v ∧ DRel C B h x v
  | [], _, _, _, _, e => by simp at e
  | y :: ys, _, n, x, r, e => by
    simp only [DsRel] at r
    obtain ⟨v, r', rfl, a, b⟩ := r
    cases n with
    | zero => simp only [List.getElem?_cons_zero, Option.some.injEq] at e; subst e; exact ⟨v, rfl, a⟩
    | succ n => simp only [List.getElem?_cons_succ] at e ⊢; exact DsRel.get b e
theorem VsRel.get {h : Heap} : ∀ {xs : List V} {vs : List Value} {n : Nat} {x : V}, VsRel C X α h xs vs → xs[n]? = some x → ∃ v, vs[n]? = some v ∧ VRel C X α h x v
  | [], _, _, _, _, e => by simp at e
  | y :: ys, _, n, x, r, e => by
    simp only [VsRel] at r
    obtain ⟨v, r', rfl, a, b⟩ := r
    cases n with
    | zero => simp only [List.getElem?_cons_zero, Option.some.injEq] at e; subst e; exact ⟨v, rfl, a⟩
    | succ n => simp only [List.getElem?_cons_succ] at e ⊢; exact VsRel.get b e

/-- where an index lies -/
theorem idxL_at {β : Type} {xs : List β} {k : Int} {x : β} (h : idxL xs k = some x) : ∃ j : Nat, xs[j]? = some x ∧ ((0 ≤ k ∧ k < 1000000000 ∧ j = k.toNat) ∨ (k < 0 ∧ -(xs.length : Int) ≤ k ∧ -1000000000 ≤ k ∧ j = (k + xs.length).toNat)) := by
  unfold idxL at h
  split at h
  · split at h
    · exact ⟨_, h, .inl ⟨by assumption, by assumption, rfl⟩⟩
    · cases h
  · split at h
    · rename_i h1 h2; exact ⟨_, h, .inr ⟨by omega, h2.1, h2.2, rfl⟩⟩
    · cases h

theorem seqIndex_at {k : Int} {n j : Nat} (hj : j < n) (hk : (0 ≤ k ∧ j = k.toNat) ∨ (k < 0 ∧ 0 ≤ k + n ∧ j = (k + n).toNat)) : seqIndex? k n = some j := by
  unfold seqIndex?
  rcases hk with ⟨h0, rfl⟩ | ⟨h0, h1, rfl⟩
  · have h : ¬ k < 0 := by omega
    simp only [h, if_false]
    rw [if_pos (by simp only [Bool.and_eq_true, decide_eq_true_eq]; omega)]
  · simp only [h0, if_true]
    rw [if_pos (by simp only [Bool.and_eq_true, decide_eq_true_eq]; omega)]

theorem getItem_listAt {a : Addr} {vs : List Value} {n j : Nat} {k : Int} {t : Tok} {u : Value} {Q : Value → Shared → Prop} (hl : s.heap.IsList a vs.toArray) (hn : n = vs.length) (hj : vs[j]? = some u)
    (hk : (0 ≤ k ∧ k < 1000000000 ∧ j = k.toNat) ∨ (k < 0 ∧ -(n : Int) ≤ k ∧ -1000000000 ≤ k ∧ j = (k + n).toNat)) (h : Q u s) : wpAny C.M A (getItem (.ref a) (.int k t)) Q E s := by
  rcases hk with ⟨h0, h1, rfl⟩ | ⟨h0, h1, h2, rfl⟩
  · exact wpAny_getItem_list hl h0 (by omega) (by simpa using hj) h
  · exact wpAny_getItem_list_neg hl h0 (by simp only [List.size_toArray]; omega) (by omega) (by simp only [List.size_toArray, ← hn]; simpa using hj) h
theorem getItem_tupAt {a : Addr} {vs : List Value} {n j : Nat} {k : Int} {t : Tok} {u : Value} {Q : Value → Shared → Prop} (hl : IsTup s.heap a vs.toArray) (hn : n = vs.length) (hj : vs[j]? = some u)
    (hk : (0 ≤ k ∧ k < 1000000000 ∧ j = k.toNat) ∨ (k < 0 ∧ -(n : Int) ≤ k ∧ -1000000000 ≤ k ∧ j = (k + n).toNat)) (h : Q u s) : wpAny C.M A (getItem (.ref a) (.int k t)) Q E s := by
  have hlt := (List.getElem?_eq_some_iff.mp hj).1
  refine getItem_tuple (j := j) hl (by omega) (by omega) ?_ (by simpa using hj) h
  rw [List.size_toArray]
  exact seqIndex_at hlt (hk.imp (fun q => ⟨q.1, q.2.2⟩) fun q => ⟨q.1, by omega, by omega⟩)

theorem keyOf_is {h : Heap} {v : V} {k : Key} {u : Value} (e : keyOf v = some k) (r : VRel C X α h v u) : C.kk.is k u = true := by
  unfold keyOf at e
  split at e
  · cases e
    simp only [VRel, DRel] at r
    obtain ⟨t, rfl⟩ := r
    simp [Wo.kk, keyKind, keyIs, Value.isInt]
  · cases e
    simp only [VRel, DRel] at r
    obtain ⟨t, rfl⟩ := r
    simp [Wo.kk, keyKind, keyIs, Value.isStrOf]
  · cases e

theorem valueAt_zip {k : Key} : ∀ {ks : List Key} {vs : List Value}, valueAt (ks.zip vs) k = getK k ks vs
  | [], _ => by cases ‹List Value› <;> rfl
  | _ :: _, [] => rfl
  | k' :: ks, v :: vs => by
    unfold valueAt
    rw [List.zip_cons_cons, List.find?_cons, getK]
    by_cases h : k = k'
    · subst h; simp
    · rw [if_neg h]
      have h' : ¬ k' = k := fun e => h e.symm
      simp only [decide_eq_false h']
      exact valueAt_zip (ks := ks) (vs := vs)

theorem DsRel.getK {B : Addr → Prop} {h : Heap} {k : Key} : ∀ {ks : List Key} {xs : List D} {vs : List Value} {x : D}, DsRel C B h xs vs → Mine.getK k ks xs = some x → ∃ v, Mine.getK k ks vs = some v ∧ DRel C B h x v
  | [], _, _, _, _, e => by cases e
  | _ :: _, [], _, _, _, e => by cases e
  | k' :: ks, y :: ys, _, x, r, e => by
    simp only [DsRel] at r
    obtain ⟨v, r', rfl, a, b⟩ := r
    simp only [getK_cons] at e ⊢
    split at e
    · rename_i hk; cases e; rw [if_pos hk]; exact ⟨v, rfl, a⟩
    · rename_i hk; rw [if_neg hk]; exact DsRel.getK b e
theorem VsRel.getK {h : Heap} {k : Key} : ∀ {ks : List Key} {xs : List V} {vs : List Value} {x : V}, VsRel C X α h xs vs → Mine.getK k ks xs = some x → ∃ v, Mine.getK k ks vs = some v ∧ VRel C X α h x v
  | [], _, _, _, _, e => by cases e
  | _ :: _, [], _, _, _, e => by cases e
  | k' :: ks, y :: ys, _, x, r, e => by
    simp only [VsRel] at r
    obtain ⟨v, r', rfl, a, b⟩ := r
    simp only [getK_cons] at e ⊢
    split at e
    · rename_i hk; cases e; rw [if_pos hk]; exact ⟨v, rfl, a⟩
    · rename_i hk; rw [if_neg hk]; exact VsRel.getK b e

theorem getItemV_ok (R : Rel C X env ρ α σ s) {o i v : V} {uo ui : Value} {value slice : Expr} {Q : Value → Shared → Prop} (ho : VRel C X α s.heap o uo) (hi : VRel C X α s.heap i ui) (h : getItemV σ o i = some v)
    (hQ : ∀ u t, VRel C X α s.heap v u → Q u { s with toks := t }) : wpAny C.M A (subscriptTail value slice uo ui) Q E s := by
  have ofList : ∀ {xs : List V} {a : Addr} {vs : List Value} {k : Int}, uo = .ref a → s.heap.IsList a vs.toArray → VsRel C X α s.heap xs vs → i = .d (.int k) → idxL xs k = some v → wpAny C.M A (subscriptTail value slice uo ui) Q E s := by
    intro xs a vs k e1 t r e2 e3
    subst e1 e2
    simp only [VRel, DRel] at hi
    obtain ⟨tk, rfl⟩ := hi
    obtain ⟨j, hj, hk⟩ := idxL_at e3
    obtain ⟨u, hu, ru⟩ := r.get hj
    exact tail_of t.typeIs slot_list_getitem.lookup (getItem_listAt t r.length hu hk (hQ u s.toks ru))
  have ofTup : ∀ {xs : List V} {a : Addr} {vs : List Value} {k : Int}, uo = .ref a → IsTup s.heap a vs.toArray → VsRel C X α s.heap xs vs → i = .d (.int k) → idxL xs k = some v → wpAny C.M A (subscriptTail value slice uo ui) Q E s := by
    intro xs a vs k e1 t r e2 e3
    subst e1 e2
    simp only [VRel, DRel] at hi
    obtain ⟨tk, rfl⟩ := hi
    obtain ⟨j, hj, hk⟩ := idxL_at e3
    obtain ⟨u, hu, ru⟩ := r.get hj
    exact tail_of t.typeIs slot_tuple_getitem.lookup (getItem_tupAt t r.length hu hk (hQ u s.toks ru))
  have ofDict : ∀ {ks : List Key} {xs : List V} {a : Addr} {vs : List Value} {k : Key}, uo = .ref a → s.heap.DictOf C.kk a (ks.zip vs) → VsRel C X α s.heap xs vs → keyOf i = some k → getK k ks xs = some v → wpAny C.M A (subscriptTail value slice uo ui) Q E s := by
    intro ks xs a vs k e1 t r e2 e3
    subst e1
    obtain ⟨u, hu, ru⟩ := r.getK e3
    exact tail_of t.typeIs slot_dict_getitem.lookup (wpAny_getItem_of (keyOf_is e2 hi) t.mapOf (valueAt_zip.trans hu) (hQ u _ ru))
  have idxMap : ∀ {xs : List D} {k : Int} {x : D}, idxL xs k = some x → idxL (xs.map V.d) k = some (.d x) := by
    intro xs k x e
    unfold idxL at e ⊢
    simp only [List.length_map, List.getElem?_map]
    split at e
    · split at e
      · rename_i h1 h2; rw [if_pos h1, if_pos h2, e]; rfl
      · cases e
    · split at e
      · rename_i h1 h2; rw [if_neg h1, if_pos h2, e]; rfl
      · cases e
  have getKMap : ∀ {ks : List Key} {xs : List D} {k : Key} {x : D}, getK k ks xs = some x → getK k ks (xs.map V.d) = some (.d x) := by
    intro ks
    induction ks with
    | nil => intro xs k x e; cases e
    | cons k' ks ih =>
      intro xs k x e
      cases xs with
      | nil => cases e
      | cons y ys =>
        simp only [List.map_cons, getK_cons] at e ⊢
        split at e
        · rename_i hk; cases e; rw [if_pos hk]
        · rename_i hk; rw [if_neg hk]; exact ih e
  unfold getItemV at h
  split at h
  · obtain ⟨x, hx, rfl⟩ := Option.map_eq_some_iff.mp h
    simp only [VRel, DRel] at ho
    obtain ⟨a, vs, e, t, _, r⟩ := ho
    exact ofList e t (VsRel.map.mpr r) rfl (idxMap hx)
  · obtain ⟨x, hx, rfl⟩ := Option.map_eq_some_iff.mp h
    simp only [VRel, DRel] at ho
    obtain ⟨a, vs, e, t, _, r⟩ := ho
    exact ofTup e t (VsRel.map.mpr r) rfl (idxMap hx)
  · split at h
    · rename_i hk
      obtain ⟨c, hc, rfl⟩ := Option.map_eq_some_iff.mp h
      simp only [VRel, DRel] at ho hi
      obtain ⟨t, rfl⟩ := ho
      obtain ⟨t', rfl⟩ := hi
      have hlt := (List.getElem?_eq_some_iff.mp hc).1
      refine tail_of (typeIs_str _ _ _) slot_str_getitem.lookup (PyProof.Rows.getItem_str (c := c) (by simp; omega) ?_ (hQ _ _ (by simp only [VRel, DRel]; exact ⟨_, rfl⟩)))
      rw [Array.length_toList] at hlt
      unfold Str.length
      rw [seqIndex_at (j := Int.toNat _) hlt (.inl ⟨hk.1, rfl⟩)]
      simpa using hc
    · cases h
  · simp only [Option.bind_eq_some_iff, Option.map_eq_some_iff] at h
    obtain ⟨k, hk, x, hx, rfl⟩ := h
    simp only [VRel, DRel] at ho
    obtain ⟨a, vs, e, t, _, _, _, r⟩ := ho
    exact ofDict e t (VsRel.map.mpr r) hk (getKMap hx)
  · simp only [VRel] at ho
    obtain ⟨a, vs, e, t, _, r⟩ := ho
    exact ofTup e t r rfl h
  · split at h
    · rename_i n xs hn
      obtain ⟨a, vs, e, _, ⟨k, t⟩, r⟩ := R.objList ho hn
      replace t := lobj_isList t
      split at h
      · exact ofList e t r rfl h
      · cases h
    · rename_i n ks xs hn
      simp only [Option.bind_eq_some_iff] at h
      obtain ⟨k, hk, hx⟩ := h
      obtain ⟨a, vs, e, _, t, _, r⟩ := R.objDict ho hn
      exact ofDict e t r hk hx
    · cases h
  · cases h

end Mine
end

section
set_option autoImplicit false
namespace Mine
open PySem PyProof.Rows

variable {C : Wo} {X : Addr → Prop} {env : Env} {ρ : Loc} {α α' α'' : List Addr} {σ σ' σ'' : St} {s s' s'' : Shared} {A : Around} {E : Value → Shared → Prop}

abbrev B0 : Addr → Prop := fun _ => False

/-- two readings of one value that can be compared are equal -/
theorem eqS_same {B : Addr → Prop} {h : Heap} {x y : D} {u : Value} {b : Bool} (e : eqS x y = some b) (rx : DRel C B h x u) (ry : DRel C B h y u) : b = true := by
  cases x with
  | int i => cases y with
    | int j =>
      cases e
      simp only [DRel] at rx ry
      obtain ⟨t, rfl⟩ := rx
      obtain ⟨t', e⟩ := ry
      cases e
      exact decide_eq_true rfl
    | _ => cases e
  | str i => cases y with
    | str j =>
      cases e
      simp only [DRel] at rx ry
      obtain ⟨t, rfl⟩ := rx
      obtain ⟨t', e⟩ := ry
      cases e
      exact decide_eq_true rfl
    | _ => cases e
  | none => cases y with
    | none => cases e; rfl
    | _ => cases e
  | bool i => cases y with
    | bool j =>
      cases e
      simp only [DRel] at rx ry
      subst rx
      cases ry
      exact beq_self_eq_true _
    | _ => cases e
  | _ => cases e
theorem eqL_same {B : Addr → Prop} {h : Heap} {f : D → D → Option Bool} (hf : ∀ x y u b, f x y = some b → DRel C B h x u → DRel C B h y u → b = true) : ∀ {xs ys : List D} {us : List Value} {b : Bool}, eqL f xs ys = some b → DsRel C B h xs us → DsRel C B h ys us → b = true
  | [], _, _, b, e, _, _ => by cases e; rfl
  | _ :: _, [], _, b, e, _, _ => by cases e; rfl
  | x :: xs, y :: ys, us, b, e, rx, ry => by
    simp only [DsRel] at rx ry
    obtain ⟨u, r, rfl, p1, p2⟩ := rx
    obtain ⟨u', r', e', q1, q2⟩ := ry
    cases e'
    obtain ⟨x', y', h1, h2, rfl⟩ := and2_some e
    rw [hf _ _ _ _ h1 p1 q1, eqL_same hf h2 p2 q2]; rfl
theorem seq_same {h : Heap} {a : Addr} {xs ys : Array Value} (p : ∃ o, h.get? a = some o ∧ ∃ n, o.data = .seq xs n) (q : ∃ o, h.get? a = some o ∧ ∃ n, o.data = .seq ys n) : xs = ys := by
  obtain ⟨o, ho, n, hd⟩ := p
  obtain ⟨o', ho', n', hd'⟩ := q
  rw [ho] at ho'
  cases ho'
  rw [hd] at hd'
  cases hd'
  rfl
theorem eqP_tup {k : Nat} {xs ys : List D} : eqP (k + 1) (.tup xs) (.tup ys) = (eqL (eqP k) xs ys).map fun b => b && decide (xs.length = ys.length) := rfl
theorem eqP_list {k : Nat} {xs ys : List D} : eqP (k + 1) (.list xs) (.list ys) = if xs.length = ys.length then eqL (eqP k) xs ys else some false := rfl
theorem eqP_same {B : Addr → Prop} {h : Heap} : ∀ (k : Nat) {x y : D} {u : Value} {b : Bool}, eqP k x y = some b → DRel C B h x u → DRel C B h y u → b = true := by
  intro k
  induction k with
  | zero => intro x y u b e rx ry; exact eqS_same e rx ry
  | succ k ih =>
    intro x y u b e rx ry
    cases x with
    | tup xs => cases y with
      | tup ys =>
        rw [eqP_tup] at e
        obtain ⟨c, hc, rfl⟩ := Option.map_eq_some_iff.mp e
        simp only [DRel] at rx ry
        obtain ⟨p, vs, rfl, ⟨o, ho, _, t⟩, _, r⟩ := rx
        obtain ⟨q, us, e', ⟨o', ho', _, t'⟩, _, r'⟩ := ry
        cases e'
        have ev : vs = us := congrArg Array.toList (seq_same ⟨o, ho, t⟩ ⟨o', ho', t'⟩)
        subst ev
        rw [eqL_same (fun _ _ _ _ => ih) hc r r', decide_eq_true (r.length.trans r'.length.symm)]
        rfl
      | _ => cases e
    | list xs => cases y with
      | list ys =>
        rw [eqP_list] at e
        simp only [DRel] at rx ry
        obtain ⟨p, vs, rfl, ⟨o, ho, _, t⟩, _, r⟩ := rx
        obtain ⟨q, us, e', ⟨o', ho', _, t'⟩, _, r'⟩ := ry
        cases e'
        have ev : vs = us := congrArg Array.toList (seq_same ⟨o, ho, t⟩ ⟨o', ho', t'⟩)
        subst ev
        rw [if_pos (r.length.trans r'.length.symm)] at e
        exact eqL_same (fun _ _ _ _ => ih) e r r'
      | _ => cases e
    | none => exact eqS_same (x := .none) e rx ry
    | bool i => exact eqS_same (x := .bool i) e rx ry
    | int i => exact eqS_same (x := .int i) e rx ry
    | str i => exact eqS_same (x := .str i) e rx ry
    | dict ks vs => exact eqS_same (x := .dict ks vs) e rx ry
    | set ks => exact eqS_same (x := .set ks) e rx ry

/-- pairs of items: the answers -/
noncomputable def ansL (f : D → D → Option Bool) (xs ys : List D) (j : Nat) : Bool := match xs[j]?, ys[j]? with
  | some x, some y => (f x y).getD false
  | _, _ => false

theorem eqL_all {f : D → D → Option Bool} : ∀ {xs ys : List D} {b : Bool}, eqL f xs ys = some b → (List.range (min xs.length ys.length)).all (ansL f xs ys) = b ∧ ∀ (j : Nat) x y, xs[j]? = some x → ys[j]? = some y → f x y = some (ansL f xs ys j)
  | [], ys, b, e => by
    cases e
    exact ⟨by simp, fun j x y h => by simp at h⟩
  | x :: xs, [], b, e => by
    cases e
    exact ⟨by simp, fun j x y _ h => by simp at h⟩
  | x :: xs, y :: ys, b, e => by
    obtain ⟨p, q, h1, h2, rfl⟩ := and2_some e
    obtain ⟨i1, i2⟩ := eqL_all h2
    have sh : ∀ j, ansL f (x :: xs) (y :: ys) (j + 1) = ansL f xs ys j := fun j => by simp only [ansL, List.getElem?_cons_succ]
    have s0 : ansL f (x :: xs) (y :: ys) 0 = p := by simp only [ansL, List.getElem?_cons_zero, h1, Option.getD_some]
    refine ⟨?_, fun j a b ha hb => ?_⟩
    · have : min (x :: xs).length (y :: ys).length = min xs.length ys.length + 1 := by simp only [List.length_cons]; omega
      rw [this, List.range_succ_eq_map, List.all_cons, List.all_map, s0, ← i1]
      congr 1
    · cases j with
      | zero => simp only [List.getElem?_cons_zero, Option.some.injEq] at ha hb; subst ha; subst hb; rw [s0]; exact h1
      | succ j => simp only [List.getElem?_cons_succ] at ha hb; rw [sh]; exact i2 j a b ha hb

theorem units_in1 : A.in1.units = A.units + 1 := rfl

section
variable (C)
theorem eqK_hits {s : Shared} {A : Around} {f : D → D → Option Bool} {js : List Key} {ys : List D} {us : List Value} (ry : DsRel C B0 s.heap ys us)
    (hf : ∀ x y u v b, f x y = some b → DRel C B0 s.heap x u → DRel C B0 s.heap y v → SeqAt.EqAt A s u v b) :
    ∀ {ks : List Key} {xs : List D} {vs : List Value} {b : Bool}, DsRel C B0 s.heap xs vs → ks.length = vs.length → eqK f ks xs js ys = some b → W.KeqHits A s (js.zip us) (ks.zip vs) b
  | [], _, vs, b, r, l, e => by
    cases e; exact .nil
  | k :: ks, [], vs, b, r, l, e => by
    simp only [DsRel] at r; subst r; cases l
  | k :: ks, x :: xs, vs, b, r, l, e => by
    simp only [DsRel] at r
    obtain ⟨v, r', rfl, p, q⟩ := r
    replace e : (match getK k js ys with | none => some false | some u => and2 (f x u) (eqK f ks xs js ys)) = some b := e
    rw [List.zip_cons_cons]
    cases hn : getK k js ys with
    | none =>
      rw [hn] at e
      cases e
      refine .miss (valueAt_zip.trans ?_)
      cases hq : getK k js us with
      | none => rfl
      | some w =>
        exfalso
        have : ∀ {js : List Key} {ys : List D} {us : List Value} {w : Value}, DsRel C B0 s.heap ys us → getK k js us = some w → getK k js ys ≠ none := by
          intro js
          induction js with
          | nil => intro ys us w _ h; cases h
          | cons j js ih =>
            intro ys us w r h
            cases ys with
            | nil => simp only [DsRel] at r; subst r; cases h
            | cons y ys =>
              simp only [DsRel] at r
              obtain ⟨v, r', rfl, p, q⟩ := r
              simp only [getK_cons] at h ⊢
              split
              · simp
              · rename_i hk; rw [if_neg hk] at h; exact ih q h
        exact this ry hq hn
    | some y =>
      rw [hn] at e
      obtain ⟨a, c, h1, h2, rfl⟩ := and2_some e
      obtain ⟨w, hw, rw'⟩ := ry.getK hn
      exact .hit (valueAt_zip.trans hw) (hf _ _ _ _ _ h1 p rw') (eqK_hits ry hf q (by simpa using l) h2)
end

theorem low_addr {a : Addr} (hb : C.base.objs.size ≤ a) (h2 : 2 ≤ C.base.objs.size) : (a == sysModules) = false := by
  have : a ≠ 1 := fun e => by subst e; omega
  exact beq_eq_false_iff_ne.mpr this

theorem bne_dec {β : Type} [DecidableEq β] {a b : β} : (a == b) = decide (a = b) := by
  by_cases h : a = b
  · subst h; simp
  · simp [h]

/-- three ways to ask -/
def Asked (A : Around) (s : Shared) (u v : Value) (b : Bool) : Prop := SeqAt.EqAt A s u v b ∧ SeqAt.RcAt A s u v b ∧ SeqAt.RcNeAt A s u v (!b)

theorem asked_items {A : Around} {f : D → D → Option Bool} {xs ys : List D} {vs us : List Value} {b : Bool} (rx : DsRel C B0 s.heap xs vs) (ry : DsRel C B0 s.heap ys us) (e : eqL f xs ys = some b)
    (hf : ∀ x y u v b, f x y = some b → DRel C B0 s.heap x u → DRel C B0 s.heap y v → SeqAt.EqAt A s u v b) :
    ∀ j (h1 : j < vs.toArray.size) (h2 : j < us.toArray.size), SeqAt.EqAt A s vs.toArray[j] us.toArray[j] (ansL f xs ys j) := by
  intro j h1 h2
  have l1 := rx.length
  have l2 := ry.length
  simp only [List.size_toArray] at h1 h2
  have hx : xs[j]? = some xs[j] := List.getElem?_eq_getElem (by omega)
  have hy : ys[j]? = some ys[j] := List.getElem?_eq_getElem (by omega)
  obtain ⟨u, hu, ru⟩ := rx.get hx
  obtain ⟨v, hv, rv⟩ := ry.get hy
  have e1 : vs.toArray[j] = u := by simpa [h1] using hu
  have e2 : us.toArray[j] = v := by simpa [h2] using hv
  rw [e1, e2]
  exact hf _ _ _ _ _ ((eqL_all e).2 j _ _ hx hy) ru rv

theorem eqS_at {A : Around} {x y : D} {u v : Value} {b : Bool} (e : eqS x y = some b) (rx : DRel C B0 s.heap x u) (ry : DRel C B0 s.heap y v) : Asked A s u v b := by
  cases x with
  | int i => cases y with
    | int j => simp only [DRel] at rx ry; obtain ⟨t, rfl⟩ := rx; obtain ⟨t', rfl⟩ := ry; cases e; rw [← bne_dec]; exact ⟨.int_int _ _ _ _, .int_int _ _ _ _, .int_int _ _ _ _⟩
    | _ => cases e
  | str i => cases y with
    | str j => simp only [DRel] at rx ry; obtain ⟨t, rfl⟩ := rx; obtain ⟨t', rfl⟩ := ry; cases e; rw [← bne_dec]; exact ⟨.str_str _ _ _ _, .str_str _ _ _ _, .str_str _ _ _ _⟩
    | _ => cases e
  | none => cases y with
    | none => simp only [DRel] at rx ry; subst rx; subst ry; cases e; exact ⟨.same _, .none_none, .none_none⟩
    | _ => cases e
  | bool i => cases y with
    | bool j => simp only [DRel] at rx ry; subst rx; subst ry; cases e; exact ⟨.bool_bool _ _, .bool_bool _ _, .bool_bool _ _⟩
    | _ => cases e
  | _ => cases e

theorem eqP_at : ∀ (k : Nat) {A : Around} {x y : D} {u v : Value} {b : Bool}, A.units + k < cLine → eqP k x y = some b → DRel C B0 s.heap x u → DRel C B0 s.heap y v → Asked A s u v b := by
  intro k
  induction k with
  | zero => intro A x y u v b hu e rx ry; exact eqS_at e rx ry
  | succ k ih =>
    intro A x y u v b hu e rx ry
    have hu' : A.units < cLine := by omega
    cases x with
    | tup xs =>
      cases y with
      | tup ys =>
        have e0 := e
        rw [eqP_tup] at e
        simp only [Option.map_eq_some_iff] at e
        obtain ⟨c, hc, rfl⟩ := e
        have rx' := rx; have ry' := ry
        simp only [DRel] at rx ry
        obtain ⟨p, vs, rfl, t, _, r⟩ := rx
        obtain ⟨q, us, rfl, t', _, r'⟩ := ry
        have it := asked_items (A := A.in1) r r' hc fun x y u v b h1 h2 h3 => (ih (by rw [units_in1]; omega) h1 h2 h3).1
        have l1 := r.length
        have l2 := r'.length
        have key : ((List.range (min vs.toArray.size us.toArray.size)).all (ansL (eqP k) xs ys) && vs.toArray.size == us.toArray.size) = (c && decide (xs.length = ys.length)) := by
          simp only [List.size_toArray, ← l1, ← l2]
          rw [(eqL_all hc).1, bne_dec]
        have rc := SeqAt.RcAt.tuples t t' hu' it
        have rn := SeqAt.RcNeAt.tuples t t' hu' it
        rw [key] at rc rn
        refine ⟨?_, rc, rn⟩
        by_cases hpq : p = q
        · subst hpq
          have h1 := eqP_same (k + 1) e0 rx' ry'
          rw [h1]
          exact SeqAt.EqAt.same (.ref p)
        · exact .of_refs hpq rc
      | _ => cases e
    | list xs =>
      cases y with
      | list ys =>
        have e0 := e
        rw [eqP_list] at e
        have rx' := rx; have ry' := ry
        simp only [DRel] at rx ry
        obtain ⟨p, vs, rfl, t, _, r⟩ := rx
        obtain ⟨q, us, rfl, t', _, r'⟩ := ry
        have l1 := r.length
        have l2 := r'.length
        split at e
        · rename_i hl
          have it := asked_items (A := A.in1) r r' e fun x y u v b h1 h2 h3 => (ih (by rw [units_in1]; omega) h1 h2 h3).1
          have hsz : vs.toArray.size = us.toArray.size := by simp only [List.size_toArray]; omega
          have key : (List.range vs.toArray.size).all (ansL (eqP k) xs ys) = b := by
            have := (eqL_all e).1
            rw [← hl, Nat.min_self] at this
            simp only [List.size_toArray, ← l1]; exact this
          have rc := SeqAt.RcAt.lists t t' hsz hu' it
          have rn := SeqAt.RcNeAt.lists t t' hsz hu' it
          rw [key] at rc rn
          refine ⟨?_, rc, rn⟩
          by_cases hpq : p = q
          · subst hpq
            have h1 := eqP_same (k + 1) e0 rx' ry'
            rw [h1]
            exact SeqAt.EqAt.same (.ref p)
          · exact .of_refs hpq rc
        · rename_i hl
          cases e
          have hsz : (vs.toArray.size != us.toArray.size) = true := by simp only [List.size_toArray, bne_iff_ne]; omega
          have rc := SeqAt.RcAt.lists_lengths t t' hsz hu'
          refine ⟨.of_refs (fun hpq => ?_) rc, rc, SeqAt.RcNeAt.lists_lengths t t' hsz hu'⟩
          subst hpq
          obtain ⟨o, ho, _, t⟩ := t
          obtain ⟨o', ho', _, t'⟩ := t'
          have ev : vs = us := congrArg Array.toList (seq_same ⟨o, ho, t⟩ ⟨o', ho', t'⟩)
          subst ev
          exact hl (l1.trans l2.symm)
      | _ => cases e
    | none => exact eqS_at (x := .none) (y := y) e rx ry
    | bool i => exact eqS_at (x := .bool i) (y := y) e rx ry
    | int i => exact eqS_at (x := .int i) (y := y) e rx ry
    | str i => exact eqS_at (x := .str i) (y := y) e rx ry
    | dict ks vs => exact eqS_at (x := .dict ks vs) (y := y) e rx ry
    | set ks => exact eqS_at (x := .set ks) (y := y) e rx ry
end Mine
end

section
set_option autoImplicit false
namespace Mine
open PySem PyProof.Rows

variable {C : Wo} {X : Addr → Prop} {env : Env} {ρ : Loc} {α α' α'' : List Addr} {σ σ' σ'' : St} {s s' s'' : Shared} {A : Around} {E : Value → Shared → Prop}

theorem DRel.any {B : Addr → Prop} {h : Heap} {x : D} {u : Value} (r : DRel C B h x u) : DRel C B0 h x u := r.weaken fun _ q => q.elim
theorem DsRel.any {B : Addr → Prop} {h : Heap} {x : List D} {u : List Value} (r : DsRel C B h x u) : DsRel C B0 h x u := r.weaken fun _ q => q.elim

/-- what is read of a value is there -/
theorem view_okB {B : Addr → Prop} (hB : ∀ a, B a → X a) (S : SRel C X α σ s.heap) : ∀ (k : Nat) {v : V} {u : Value} {x : D}, VRel C X α s.heap v u → view k σ v = some x → DRel C B s.heap x u := by
  intro k
  induction k with
  | zero =>
    intro v u x r e
    cases v with
    | d y => cases e; exact (VRel.d_iff.mp r).weaken fun a q => .inl (hB a q)
    | obj n => cases e
    | tup ys => cases e
  | succ k ih =>
    intro v u x r e
    have all : ∀ {vs : List V} {us : List Value} {xs : List D}, VsRel C X α s.heap vs us → mapO (view k σ) vs = some xs → DsRel C B s.heap xs us := by
      intro vs
      induction vs with
      | nil =>
        intro us xs r e
        cases e
        simp only [VsRel] at r
        simp only [DsRel]; exact r
      | cons v vs ihv =>
        intro us xs r e
        simp only [mapO_c, Option.bind_eq_some_iff, Option.map_eq_some_iff] at e
        obtain ⟨y, hy, ys, hys, rfl⟩ := e
        simp only [VsRel] at r
        obtain ⟨u, r', rfl, p, q⟩ := r
        simp only [DsRel]
        exact ⟨u, r', rfl, ih p hy, ihv q hys⟩
    cases v with
    | d y => cases e; exact (VRel.d_iff.mp r).weaken fun a q => .inl (hB a q)
    | tup ys =>
      simp only [view_t, Option.map_eq_some_iff] at e
      obtain ⟨xs, hx, rfl⟩ := e
      simp only [VRel] at r
      obtain ⟨a, vs, rfl, t, nb, r⟩ := r
      exact DRel.tup_iff.mpr ⟨a, vs, rfl, t, fun q => nb (.inl (hB a q)), all r hx⟩
    | obj n =>
      simp only [VRel] at r
      obtain ⟨a, ha, rfl⟩ := r
      rw [view_o] at e
      split at e
      · rename_i ys ho
        simp only [Option.map_eq_some_iff] at e
        obtain ⟨xs, hx, rfl⟩ := e
        simp only [oget, Option.map_eq_some_iff] at ho
        obtain ⟨⟨b, q⟩, hq, rfl⟩ := ho
        obtain ⟨vs, k', t, r⟩ := S.obj n a b _ ha hq
        exact DRel.list_iff.mpr ⟨a, vs, rfl, lobj_isList t, fun q => S.out a (List.mem_of_getElem? ha) (hB a q), all r hx⟩
      · rename_i ks ys ho
        simp only [Option.map_eq_some_iff] at e
        obtain ⟨xs, hx, rfl⟩ := e
        simp only [oget, Option.map_eq_some_iff] at ho
        obtain ⟨⟨b, q⟩, hq, rfl⟩ := ho
        obtain ⟨vs, t, l, r⟩ := S.obj n a b _ ha hq
        exact DRel.dict_iff.mpr ⟨a, vs, rfl, t, l, S.low a (List.mem_of_getElem? ha), fun q => S.out a (List.mem_of_getElem? ha) (hB a q), all r hx⟩
      · cases e

theorem view_ok (S : SRel C X α σ s.heap) (k : Nat) {v : V} {u : Value} {x : D} (r : VRel C X α s.heap v u) (e : view k σ v = some x) : DRel C B0 s.heap x u := view_okB (fun _ q => q.elim) S k r e

theorem eqD_ok (h2 : 2 ≤ C.base.objs.size) {x y : D} {u v : Value} {b : Bool} (hu : A.units + 30 < cLine) (e : eqD x y = some b) (rx : DRel C B0 s.heap x u) (ry : DRel C B0 s.heap y v) :
    (∀ Q : Value → Shared → Prop, Q (.bool b) s → wpAny C.M A (compareOp .Eq u v) Q E s) ∧ ∀ Q : Value → Shared → Prop, Q (.bool (!b)) s → wpAny C.M A (compareOp .NotEq u v) Q E s := by
  have plain : eqP 20 x y = some b → (∀ Q : Value → Shared → Prop, Q (.bool b) s → wpAny C.M A (compareOp .Eq u v) Q E s) ∧ ∀ Q : Value → Shared → Prop, Q (.bool (!b)) s → wpAny C.M A (compareOp .NotEq u v) Q E s := fun e =>
    have z := eqP_at 20 (by omega) e rx ry
    ⟨fun Q q => z.2.1 _ _ E Q q, fun Q q => z.2.2 _ _ E Q q⟩
  unfold eqD at e
  split at e
  · rename_i ks vs js us
    simp only [DRel] at rx ry
    obtain ⟨p, ps, rfl, t, l, lo, _, r⟩ := rx
    obtain ⟨q, qs, rfl, t', l', lo', _, r'⟩ := ry
    have z1 : (ks.zip ps).length = ks.length := by rw [List.length_zip, ← l, Nat.min_self]
    have z2 : (js.zip qs).length = js.length := by rw [List.length_zip, ← l', Nat.min_self]
    have hits : ∀ {c : Bool}, eqK (eqP 20) ks vs js us = some c → W.KeqHits A.in1 s (js.zip qs) (ks.zip ps) c := fun h =>
      eqK_hits C r' (fun x y u v b h1 h2 h3 => (eqP_at 20 (by rw [units_in1]; omega) h1 h2 h3).1) r l h
    split at e
    · rename_i hl
      have hk : ((ks.zip ps).length == (js.zip qs).length) = true := by rw [z1, z2, hl]; exact beq_self_eq_true _
      exact ⟨fun Q h => W.keq_eq (low_addr lo h2) (low_addr lo' h2) t t' (by omega) (fun _ => hits e) (by rw [hk, Bool.true_and]; exact h),
        fun Q h => W.keq_ne (low_addr lo h2) (low_addr lo' h2) t t' (by omega) (fun _ => hits e) (by rw [hk, Bool.true_and]; exact h)⟩
    · rename_i hl
      cases e
      have hk : ((ks.zip ps).length == (js.zip qs).length) = false := by rw [z1, z2]; exact beq_eq_false_iff_ne.mpr hl
      have no : ∀ {c : Bool}, (ks.zip ps).length = (js.zip qs).length → W.KeqHits A.in1 s (js.zip qs) (ks.zip ps) c := fun q => absurd (by rw [← z1, ← z2]; exact q) hl
      exact ⟨fun Q h => W.keq_eq (r := false) (low_addr lo h2) (low_addr lo' h2) t t' (by omega) no (by rw [hk, Bool.false_and]; exact h),
        fun Q h => W.keq_ne (r := false) (low_addr lo h2) (low_addr lo' h2) t t' (by omega) no (by rw [hk, Bool.false_and]; exact h)⟩
  · exact plain e

theorem inL_ans {x : D} : ∀ {ys : List D} {b : Bool}, inL x ys = some b → ∃ f : D → Bool, ys.any f = b ∧ ∀ y ∈ ys, eqP 20 y x = some (f y)
  | [], b, e => by simp only [inL, Option.some.injEq] at e; exact ⟨fun _ => false, e, by simp⟩
  | y :: ys, b, e => by
    simp only [inL] at e
    split at e
    · rename_i p q h1 h2
      cases e
      refine ⟨fun z => (eqP 20 z x).getD false, ?_, ?_⟩
      · obtain ⟨f, hf, hall⟩ := inL_ans h2
        rw [List.any_cons, h1, ← hf]
        have : ∀ {zs : List D}, (∀ y ∈ zs, eqP 20 y x = some (f y)) → zs.any (fun z => (eqP 20 z x).getD false) = zs.any f := by
          intro zs
          induction zs with
          | nil => intro _; rfl
          | cons z zs ih => intro h; rw [List.any_cons, List.any_cons, h z (.head _), ih fun y hy => h y (.tail _ hy)]; rfl
        rw [this hall]; rfl
      · intro z hz
        rcases List.mem_cons.mp hz with rfl | hz
        · simp only [h1, Option.getD_some]
        · obtain ⟨f, _, hall⟩ := inL_ans h2
          simp only [hall z hz, Option.getD_some]
    · cases e

theorem items_in {x : D} {ys : List D} {vs : List Value} {u : Value} {b : Bool} (e : inL x ys = some b) (ry : DsRel C B0 s.heap ys vs) (rx : DRel C B0 s.heap x u) (hu : A.units + 20 < cLine) :
    ∃ g : Value → Bool, vs.toArray.any g = b ∧ ∀ y, y ∈ vs.toArray → SeqAt.EqAt A s y u (g y) := by
  obtain ⟨f, hf, hall⟩ := inL_ans e
  classical
  refine ⟨fun v => decide (∃ y, y ∈ ys ∧ DRel C B0 s.heap y v ∧ f y = true), ?_, ?_⟩
  · rw [← hf, Bool.eq_iff_iff]
    simp only [List.any_toArray, List.any_eq_true, decide_eq_true_eq]
    constructor
    · rintro ⟨v, _, y, hy, _, h⟩; exact ⟨y, hy, h⟩
    · rintro ⟨y, hy, h⟩
      obtain ⟨n, hn, e⟩ := List.getElem_of_mem hy
      obtain ⟨v, hv, r⟩ := ry.get (show ys[n]? = some y by rw [List.getElem?_eq_getElem hn, e])
      exact ⟨v, List.mem_of_getElem? hv, y, hy, r, h⟩
  · intro v hv
    simp only [List.mem_toArray] at hv
    obtain ⟨n, hn, e⟩ := List.getElem_of_mem hv
    have hn' : n < ys.length := by rw [ry.length]; exact hn
    obtain ⟨v', hv', r⟩ := ry.get (show ys[n]? = some ys[n] from List.getElem?_eq_getElem hn')
    rw [List.getElem?_eq_getElem hn, e] at hv'
    cases hv'
    have hg : ∀ y ∈ ys, DRel C B0 s.heap y v → SeqAt.EqAt A s v u (f y) := fun y hy r => (eqP_at 20 (by omega) (hall y hy) r rx).1
    show SeqAt.EqAt A s v u (decide _)
    by_cases q : ∃ y, y ∈ ys ∧ DRel C B0 s.heap y v ∧ f y = true
    · rw [decide_eq_true q]
      obtain ⟨y, hy, r', hf⟩ := q
      rw [← hf]; exact hg y hy r'
    · rw [decide_eq_false q]
      have := hg _ (List.getElem_mem hn') r
      rwa [show f ys[n] = false from eq_false_of_ne_true fun hf => q ⟨_, List.getElem_mem hn', r, hf⟩] at this

theorem inD_ok (h2 : 2 ≤ C.base.objs.size) {x c : D} {u v : Value} {b : Bool} (hu : A.units + 30 < cLine) (e : inD x c = some b) (rx : DRel C B0 s.heap x u) (rc : DRel C B0 s.heap c v) :
    (∀ Q : Value → Shared → Prop, (∀ t, Q (.bool b) { s with toks := t }) → wpAny C.M A (compareOp .In u v) Q E s) ∧ ∀ Q : Value → Shared → Prop, (∀ t, Q (.bool (!b)) { s with toks := t }) → wpAny C.M A (compareOp .NotIn u v) Q E s := by
  unfold inD at e
  split at e
  · simp only [DRel] at rc
    obtain ⟨a, vs, rfl, t, _, r⟩ := rc
    obtain ⟨g, hg, hall⟩ := items_in (A := A.in1) e r rx (by rw [units_in1]; omega)
    exact ⟨fun Q q => SeqAt.in_listAt g t hall (by rw [hg]; exact q s.toks), fun Q q => SeqAt.notIn_listAt g t hall (by rw [hg]; exact q s.toks)⟩
  · simp only [DRel] at rc
    obtain ⟨a, vs, rfl, t, _, r⟩ := rc
    obtain ⟨g, hg, hall⟩ := items_in (A := A.in1) e r rx (by rw [units_in1]; omega)
    exact ⟨fun Q q => SeqAt.in_tupleAt g t hall (by rw [hg]; exact q s.toks), fun Q q => SeqAt.notIn_tupleAt g t hall (by rw [hg]; exact q s.toks)⟩
  · rename_i ks ys
    simp only [Option.map_eq_some_iff] at e
    obtain ⟨k, hk, rfl⟩ := e
    simp only [DRel] at rc
    obtain ⟨a, vs, rfl, t, l, lo, _, r⟩ := rc
    have key : C.kk.is k u = true := keyOf_is (X := B0) (α := []) hk (VRel.d_iff.mpr (rx.weaken fun _ q => q.elim id fun m => nomatch m))
    have ans : (valueAt (ks.zip vs) k).isSome = ks.contains k := by
      rw [valueAt_zip]
      have : ∀ {ks : List Key} {vs : List Value}, ks.length = vs.length → (getK k ks vs).isSome = ks.contains k := by
        intro ks
        induction ks with
        | nil => intro vs _; rfl
        | cons j js ih =>
          intro vs l
          cases vs with
          | nil => cases l
          | cons v vs =>
            simp only [getK_cons, List.contains_cons]
            by_cases h : k = j
            · subst h; simp
            · rw [if_neg h, ih (by simpa using l)]
              have : (k == j) = false := beq_eq_false_iff_ne.mpr h
              rw [this, Bool.false_or]
      exact this l
    refine ⟨fun Q q => wpAny_in_of key (low_addr lo h2) t.mapOf (by rw [ans]; exact q _), fun Q q => ?_⟩
    have h1 : wpAny C.M A (compareOp .In u (.ref a)) (fun v s' => v = .bool (ks.contains k) ∧ ∃ t, s' = { s with toks := t }) E s := wpAny_in_of key (low_addr lo h2) t.mapOf (by rw [ans]; exact ⟨rfl, _, rfl⟩)
    have h3 : wpAny C.M A (contains (.ref a) u) (fun b s' => b = ks.contains k ∧ ∃ t, s' = { s with toks := t }) E s := by
      intro Γ p hΓ
      have := h1 Γ p hΓ
      have h4 : Sem.wp C.M Γ (contains (.ref a) u >>= fun b => pure (Value.bool b)) (fun a _ s' => a = .bool (ks.contains k) ∧ ∃ t, s' = { s with toks := t }) (fun e _ s' => E e s') p s := this
      rw [Sem.wp_bind'] at h4
      exact Sem.wp_mono C.M Γ _ (fun b p' s' h => by
        have h' : Value.bool b = Value.bool (ks.contains k) ∧ ∃ t, s' = { s with toks := t } := h
        exact ⟨by have := h'.1; simpa using this, h'.2⟩) (fun _ _ _ h => h) p s h4
    show wpAny C.M A (do return .bool (!(← contains (.ref a) u))) Q E s
    refine wpAny_bind (wpAny_mono h3 (fun b s' h => ?_) fun _ _ x => x)
    obtain ⟨rfl, t, rfl⟩ := h
    exact wpAny_pure (q t)
  · cases e

end Mine
end

section
set_option autoImplicit false
namespace Mine
open PySem PyProof.Rows

variable {C : Wo} {X : Addr → Prop} {env : Env} {ρ : Loc} {α α' α'' : List Addr} {σ σ' σ'' : St} {s s' s'' : Shared} {A : Around} {E : Value → Shared → Prop}

theorem truthV_ok {v : V} {u : Value} {b : Bool} {Q : Bool → Shared → Prop} (h : truthV σ v = some b) (r : VRel C X α s.heap v u) (hQ : Q b s) : wpAny C.M A (truthy u) Q E s := by
  unfold truthV at h
  split at h
  · cases h; simp only [VRel, DRel] at r; subst r; exact truthy_none hQ
  · cases h; simp only [VRel, DRel] at r; subst r; exact wpAny_truthy_bool hQ
  · cases h; simp only [VRel, DRel] at r; obtain ⟨t, rfl⟩ := r
    refine PyProof.Rows.truthy_int ?_
    rename_i i
    have : (i != 0) = decide (i ≠ 0) := by by_cases h : i = 0 <;> simp [h]
    rw [this]; exact hQ
  · cases h

theorem cmpV_ok (h2 : 2 ≤ C.base.objs.size) (hu : A.units + 30 < cLine) (R : Rel C X env ρ α σ s) {op : CmpOp} {a b : V} {ua ub : Value} {c : Bool} {Q : Value → Shared → Prop} (ha : VRel C X α s.heap a ua) (hb : VRel C X α s.heap b ub) (h : cmpV σ op a b = some c)
    (hQ : ∀ t, Q (.bool c) { s with toks := t }) : wpAny C.M A (compareOp op ua ub) Q E s := by
  have q0 : Q (.bool c) s := hQ s.toks
  have noNone : ∀ {v : V} {u : Value}, VRel C X α s.heap v u → v ≠ .d .none → u ≠ .none := by
    intro v u r n e
    subst e
    cases v with
    | d x => cases x <;> simp [VRel, DRel] at r <;> exact n rfl
    | obj n => simp [VRel] at r
    | tup xs => simp [VRel] at r
  unfold cmpV at h
  split at h
  · split at h
    · simp only [VRel, DRel] at hb; subst hb
      split at h
      · cases h; simp only [VRel, DRel] at ha; subst ha; exact is_none_none q0
      · rename_i n; cases h; exact is_none_ne (noNone ha n) q0
    · cases h
  · split at h
    · simp only [VRel, DRel] at hb; subst hb
      split at h
      · cases h; simp only [VRel, DRel] at ha; subst ha; exact isnot_none_none q0
      · rename_i n; cases h; exact isnot_none_ne (noNone ha n) q0
    · cases h
  · simp only [Option.bind_eq_some_iff] at h
    obtain ⟨x, hx, y, hy, e⟩ := h
    exact (eqD_ok h2 hu e (view_ok R.st 6 ha hx) (view_ok R.st 6 hb hy)).1 Q q0
  · simp only [Option.bind_eq_some_iff, Option.map_eq_some_iff] at h
    obtain ⟨x, hx, y, hy, d, e, rfl⟩ := h
    exact (eqD_ok h2 hu e (view_ok R.st 6 ha hx) (view_ok R.st 6 hb hy)).2 Q q0
  · simp only [Option.bind_eq_some_iff] at h
    obtain ⟨x, hx, y, hy, e⟩ := h
    exact (inD_ok h2 hu e (view_ok R.st 6 ha hx) (view_ok R.st 6 hb hy)).1 Q hQ
  · simp only [Option.bind_eq_some_iff, Option.map_eq_some_iff] at h
    obtain ⟨x, hx, y, hy, d, e, rfl⟩ := h
    exact (inD_ok h2 hu e (view_ok R.st 6 ha hx) (view_ok R.st 6 hb hy)).2 Q hQ
  · split at h
    · cases h; simp only [VRel, DRel] at ha hb; obtain ⟨t, rfl⟩ := ha; obtain ⟨t', rfl⟩ := hb; exact lt_int q0
    · cases h
  · split at h
    · cases h; simp only [VRel, DRel] at ha hb; obtain ⟨t, rfl⟩ := ha; obtain ⟨t', rfl⟩ := hb; exact le_int q0
    · cases h
  · split at h
    · cases h; simp only [VRel, DRel] at ha hb; obtain ⟨t, rfl⟩ := ha; obtain ⟨t', rfl⟩ := hb; exact gt_int q0
    · cases h
  · split at h
    · cases h; simp only [VRel, DRel] at ha hb; obtain ⟨t, rfl⟩ := ha; obtain ⟨t', rfl⟩ := hb; exact ge_int q0
    · cases h

theorem isi_int (R : Rel C X env ρ α σ s) {v : V} {u : Value} {b : Bool} {Q : Value → Shared → Prop} (h : isiV σ "int" v = some b) (r : VRel C X α s.heap v u) (hQ : ∀ t, Q (.bool b) { s with toks := t }) :
    wpAny C.M A (call (.builtin "isinstance") [u, .type "int"]) Q E s := by
  have q0 : Q (.bool b) s := hQ s.toks
  have q1 := hQ (s.toks + 1)
  cases v with
  | d x =>
    cases x with
    | none => simp [isiV, isiD] at h; subst h; simp only [VRel, DRel] at r; subst r; exact IsiPair.NoneType_int q1
    | bool b => simp [isiV, isiD] at h; subst h; simp only [VRel, DRel] at r; subst r; exact IsiPair.bool_int q0
    | int i => simp [isiV, isiD] at h; subst h; simp only [VRel, DRel] at r; obtain ⟨t, rfl⟩ := r; exact IsiPair.int_int q0
    | str x => simp [isiV, isiD] at h; subst h; simp only [VRel, DRel] at r; obtain ⟨t, rfl⟩ := r; exact IsiPair.str_int q1
    | tup xs => simp [isiV, isiD] at h; subst h; simp only [VRel, DRel] at r; obtain ⟨a, vs, rfl, ⟨o, ho, hc, _⟩, _⟩ := r; exact IsiPair.tuple_int ho hc q1
    | list xs => simp [isiV, isiD] at h; subst h; simp only [VRel, DRel] at r; obtain ⟨a, vs, rfl, ⟨o, ho, hc, _⟩, _⟩ := r; exact IsiPair.list_int ho hc q1
    | dict ks xs => simp [isiV, isiD] at h; subst h; simp only [VRel, DRel] at r; obtain ⟨a, vs, rfl, ⟨o, _, _, ho, hc, _⟩, _⟩ := r; exact IsiPair.dict_int ho hc.1 q1
    | set ks => simp [isiV, isiD] at h
  | tup xs => simp [isiV] at h; subst h; simp only [VRel] at r; obtain ⟨a, vs, rfl, ⟨o, ho, hc, _⟩, _⟩ := r; exact IsiPair.tuple_int ho hc q1
  | obj n =>
    simp only [isiV] at h
    split at h
    · rename_i xs ho; simp at h; subst h; obtain ⟨a, vs, rfl, _, ⟨k, ho⟩, _⟩ := R.objList r ho; have hc : (lobj vs.toArray k).cls = .type "list" := rfl; exact IsiPair.list_int ho hc q1
    · rename_i ks xs ho; simp at h; subst h; obtain ⟨a, vs, rfl, _, ⟨o, _, _, ho, hc, _⟩, _⟩ := R.objDict r ho; exact IsiPair.dict_int ho hc.1 q1
    · cases h

theorem isi_bool (R : Rel C X env ρ α σ s) {v : V} {u : Value} {b : Bool} {Q : Value → Shared → Prop} (h : isiV σ "bool" v = some b) (r : VRel C X α s.heap v u) (hQ : ∀ t, Q (.bool b) { s with toks := t }) :
    wpAny C.M A (call (.builtin "isinstance") [u, .type "bool"]) Q E s := by
  have q0 : Q (.bool b) s := hQ s.toks
  have q1 := hQ (s.toks + 1)
  cases v with
  | d x =>
    cases x with
    | none => simp [isiV, isiD] at h; subst h; simp only [VRel, DRel] at r; subst r; exact IsiPair.NoneType_bool q1
    | bool b => simp [isiV, isiD] at h; subst h; simp only [VRel, DRel] at r; subst r; exact IsiPair.bool_bool q0
    | int i => simp [isiV, isiD] at h; subst h; simp only [VRel, DRel] at r; obtain ⟨t, rfl⟩ := r; exact IsiPair.int_bool q1
    | str x => simp [isiV, isiD] at h; subst h; simp only [VRel, DRel] at r; obtain ⟨t, rfl⟩ := r; exact IsiPair.str_bool q1
    | tup xs => simp [isiV, isiD] at h; subst h; simp only [VRel, DRel] at r; obtain ⟨a, vs, rfl, ⟨o, ho, hc, _⟩, _⟩ := r; exact IsiPair.tuple_bool ho hc q1
    | list xs => simp [isiV, isiD] at h; subst h; simp only [VRel, DRel] at r; obtain ⟨a, vs, rfl, ⟨o, ho, hc, _⟩, _⟩ := r; exact IsiPair.list_bool ho hc q1
    | dict ks xs => simp [isiV, isiD] at h; subst h; simp only [VRel, DRel] at r; obtain ⟨a, vs, rfl, ⟨o, _, _, ho, hc, _⟩, _⟩ := r; exact IsiPair.dict_bool ho hc.1 q1
    | set ks => simp [isiV, isiD] at h
  | tup xs => simp [isiV] at h; subst h; simp only [VRel] at r; obtain ⟨a, vs, rfl, ⟨o, ho, hc, _⟩, _⟩ := r; exact IsiPair.tuple_bool ho hc q1
  | obj n =>
    simp only [isiV] at h
    split at h
    · rename_i xs ho; simp at h; subst h; obtain ⟨a, vs, rfl, _, ⟨k, ho⟩, _⟩ := R.objList r ho; have hc : (lobj vs.toArray k).cls = .type "list" := rfl; exact IsiPair.list_bool ho hc q1
    · rename_i ks xs ho; simp at h; subst h; obtain ⟨a, vs, rfl, _, ⟨o, _, _, ho, hc, _⟩, _⟩ := R.objDict r ho; exact IsiPair.dict_bool ho hc.1 q1
    · cases h

theorem isi_str (R : Rel C X env ρ α σ s) {v : V} {u : Value} {b : Bool} {Q : Value → Shared → Prop} (h : isiV σ "str" v = some b) (r : VRel C X α s.heap v u) (hQ : ∀ t, Q (.bool b) { s with toks := t }) :
    wpAny C.M A (call (.builtin "isinstance") [u, .type "str"]) Q E s := by
  have q0 : Q (.bool b) s := hQ s.toks
  have q1 := hQ (s.toks + 1)
  cases v with
  | d x =>
    cases x with
    | none => simp [isiV, isiD] at h; subst h; simp only [VRel, DRel] at r; subst r; exact IsiPair.NoneType_str q1
    | bool b => simp [isiV, isiD] at h; subst h; simp only [VRel, DRel] at r; subst r; exact IsiPair.bool_str q1
    | int i => simp [isiV, isiD] at h; subst h; simp only [VRel, DRel] at r; obtain ⟨t, rfl⟩ := r; exact IsiPair.int_str q1
    | str x => simp [isiV, isiD] at h; subst h; simp only [VRel, DRel] at r; obtain ⟨t, rfl⟩ := r; exact IsiPair.str_str q0
    | tup xs => simp [isiV, isiD] at h; subst h; simp only [VRel, DRel] at r; obtain ⟨a, vs, rfl, ⟨o, ho, hc, _⟩, _⟩ := r; exact IsiPair.tuple_str ho hc q1
    | list xs => simp [isiV, isiD] at h; subst h; simp only [VRel, DRel] at r; obtain ⟨a, vs, rfl, ⟨o, ho, hc, _⟩, _⟩ := r; exact IsiPair.list_str ho hc q1
    | dict ks xs => simp [isiV, isiD] at h; subst h; simp only [VRel, DRel] at r; obtain ⟨a, vs, rfl, ⟨o, _, _, ho, hc, _⟩, _⟩ := r; exact IsiPair.dict_str ho hc.1 q1
    | set ks => simp [isiV, isiD] at h
  | tup xs => simp [isiV] at h; subst h; simp only [VRel] at r; obtain ⟨a, vs, rfl, ⟨o, ho, hc, _⟩, _⟩ := r; exact IsiPair.tuple_str ho hc q1
  | obj n =>
    simp only [isiV] at h
    split at h
    · rename_i xs ho; simp at h; subst h; obtain ⟨a, vs, rfl, _, ⟨k, ho⟩, _⟩ := R.objList r ho; have hc : (lobj vs.toArray k).cls = .type "list" := rfl; exact IsiPair.list_str ho hc q1
    · rename_i ks xs ho; simp at h; subst h; obtain ⟨a, vs, rfl, _, ⟨o, _, _, ho, hc, _⟩, _⟩ := R.objDict r ho; exact IsiPair.dict_str ho hc.1 q1
    · cases h

theorem isi_tuple (R : Rel C X env ρ α σ s) {v : V} {u : Value} {b : Bool} {Q : Value → Shared → Prop} (h : isiV σ "tuple" v = some b) (r : VRel C X α s.heap v u) (hQ : ∀ t, Q (.bool b) { s with toks := t }) :
    wpAny C.M A (call (.builtin "isinstance") [u, .type "tuple"]) Q E s := by
  have q0 : Q (.bool b) s := hQ s.toks
  have q1 := hQ (s.toks + 1)
  cases v with
  | d x =>
    cases x with
    | none => simp [isiV, isiD] at h; subst h; simp only [VRel, DRel] at r; subst r; exact IsiPair.NoneType_tuple q1
    | bool b => simp [isiV, isiD] at h; subst h; simp only [VRel, DRel] at r; subst r; exact IsiPair.bool_tuple q1
    | int i => simp [isiV, isiD] at h; subst h; simp only [VRel, DRel] at r; obtain ⟨t, rfl⟩ := r; exact IsiPair.int_tuple q1
    | str x => simp [isiV, isiD] at h; subst h; simp only [VRel, DRel] at r; obtain ⟨t, rfl⟩ := r; exact IsiPair.str_tuple q1
    | tup xs => simp [isiV, isiD] at h; subst h; simp only [VRel, DRel] at r; obtain ⟨a, vs, rfl, ⟨o, ho, hc, _⟩, _⟩ := r; exact IsiPair.tuple_tuple ho hc q0
    | list xs => simp [isiV, isiD] at h; subst h; simp only [VRel, DRel] at r; obtain ⟨a, vs, rfl, ⟨o, ho, hc, _⟩, _⟩ := r; exact IsiPair.list_tuple ho hc q1
    | dict ks xs => simp [isiV, isiD] at h; subst h; simp only [VRel, DRel] at r; obtain ⟨a, vs, rfl, ⟨o, _, _, ho, hc, _⟩, _⟩ := r; exact IsiPair.dict_tuple ho hc.1 q1
    | set ks => simp [isiV, isiD] at h
  | tup xs => simp [isiV] at h; subst h; simp only [VRel] at r; obtain ⟨a, vs, rfl, ⟨o, ho, hc, _⟩, _⟩ := r; exact IsiPair.tuple_tuple ho hc q0
  | obj n =>
    simp only [isiV] at h
    split at h
    · rename_i xs ho; simp at h; subst h; obtain ⟨a, vs, rfl, _, ⟨k, ho⟩, _⟩ := R.objList r ho; have hc : (lobj vs.toArray k).cls = .type "list" := rfl; exact IsiPair.list_tuple ho hc q1
    · rename_i ks xs ho; simp at h; subst h; obtain ⟨a, vs, rfl, _, ⟨o, _, _, ho, hc, _⟩, _⟩ := R.objDict r ho; exact IsiPair.dict_tuple ho hc.1 q1
    · cases h

theorem isi_dict (R : Rel C X env ρ α σ s) {v : V} {u : Value} {b : Bool} {Q : Value → Shared → Prop} (h : isiV σ "dict" v = some b) (r : VRel C X α s.heap v u) (hQ : ∀ t, Q (.bool b) { s with toks := t }) :
    wpAny C.M A (call (.builtin "isinstance") [u, .type "dict"]) Q E s := by
  have q0 : Q (.bool b) s := hQ s.toks
  have q1 := hQ (s.toks + 1)
  cases v with
  | d x =>
    cases x with
    | none => simp [isiV, isiD] at h; subst h; simp only [VRel, DRel] at r; subst r; exact IsiPair.NoneType_dict q1
    | bool b => simp [isiV, isiD] at h; subst h; simp only [VRel, DRel] at r; subst r; exact IsiPair.bool_dict q1
    | int i => simp [isiV, isiD] at h; subst h; simp only [VRel, DRel] at r; obtain ⟨t, rfl⟩ := r; exact IsiPair.int_dict q1
    | str x => simp [isiV, isiD] at h; subst h; simp only [VRel, DRel] at r; obtain ⟨t, rfl⟩ := r; exact IsiPair.str_dict q1
    | tup xs => simp [isiV, isiD] at h; subst h; simp only [VRel, DRel] at r; obtain ⟨a, vs, rfl, ⟨o, ho, hc, _⟩, _⟩ := r; exact IsiPair.tuple_dict ho hc q1
    | list xs => simp [isiV, isiD] at h; subst h; simp only [VRel, DRel] at r; obtain ⟨a, vs, rfl, ⟨o, ho, hc, _⟩, _⟩ := r; exact IsiPair.list_dict ho hc q1
    | dict ks xs => simp [isiV, isiD] at h; subst h; simp only [VRel, DRel] at r; obtain ⟨a, vs, rfl, ⟨o, _, _, ho, hc, _⟩, _⟩ := r; exact IsiPair.dict_dict ho hc.1 q0
    | set ks => simp [isiV, isiD] at h
  | tup xs => simp [isiV] at h; subst h; simp only [VRel] at r; obtain ⟨a, vs, rfl, ⟨o, ho, hc, _⟩, _⟩ := r; exact IsiPair.tuple_dict ho hc q1
  | obj n =>
    simp only [isiV] at h
    split at h
    · rename_i xs ho; simp at h; subst h; obtain ⟨a, vs, rfl, _, ⟨k, ho⟩, _⟩ := R.objList r ho; have hc : (lobj vs.toArray k).cls = .type "list" := rfl; exact IsiPair.list_dict ho hc q1
    · rename_i ks xs ho; simp at h; subst h; obtain ⟨a, vs, rfl, _, ⟨o, _, _, ho, hc, _⟩, _⟩ := R.objDict r ho; exact IsiPair.dict_dict ho hc.1 q0
    · cases h

end Mine
end

section
set_option autoImplicit false
namespace Mine
open PySem PyProof.Rows

/-- the heap never shrinks -/
theorem runs_size {M : Model} {Γ : Ctx} {p : Pos} {t : Sem Fin} {fs : List Frame} {s s' : Shared} {e : End} (h : Runs M Γ p t fs s e s') : s.heap.objs.size ≤ s'.heap.objs.size := by
  induction h with
  | done => exact Nat.le_refl _
  | raise => exact Nat.le_refl _
  | yield => exact Nat.le_refl _
  | update _ _ ih => simpa using ih
  | alloc _ ih => rw [Heap.size_push] at ih; omega
  | call _ _ i1 i2 => exact Nat.le_trans i1 i2
  | resumeFresh _ _ _ _ i1 i2 => exact Nat.le_trans i1 i2
  | resumeSuspended _ _ _ _ i1 i2 => exact Nat.le_trans i1 i2
  | segRet _ _ i1 i2 => exact Nat.le_trans i1 i2
  | segGen _ _ i1 i2 => exact Nat.le_trans i1 i2
  | segSuspGen _ _ _ _ i1 i2 => exact Nat.le_trans i1 i2
  | _ => assumption

theorem wakes_size {M : Model} {Γ : Ctx} {p : Pos} {g : Nat} {r : Resume} {s s' : Shared} {res : GenResult} (h : Wakes M Γ p g r s res s') : s.heap.objs.size ≤ s'.heap.objs.size := by
  unfold Wakes at h
  split at h
  · exact h.elim
  · split at h
    · obtain ⟨e₁, s₁, h1, _, _, rfl⟩ := h; have z := runs_size h1; exact z
    · obtain ⟨_, rfl⟩ := h; exact Nat.le_refl _
    · obtain ⟨_, rfl⟩ := h; exact Nat.le_refl _
  · obtain ⟨e₁, s₁, h1, _, _, rfl⟩ := h; have z := runs_size h1; exact z
  · obtain ⟨_, rfl⟩ := h; exact Nat.le_refl _
  · obtain ⟨_, rfl⟩ := h; exact Nat.le_refl _

theorem wp_size {α : Type} {M : Model} {Γ : Ctx} (n : Nat) : ∀ (t : Sem α) (Q : α → Pos → Shared → Prop) (E : Value → Pos → Shared → Prop) (p : Pos) (s : Shared), n ≤ s.heap.objs.size → Sem.wp M Γ t Q E p s →
    Sem.wp M Γ t (fun a p s' => n ≤ s'.heap.objs.size ∧ Q a p s') E p s := by
  intro t
  induction t with
  | pure a => intro Q E p s hn h; exact ⟨hn, h⟩
  | raise e => intro Q E p s hn h; exact h
  | unsupported w => intro Q E p s hn h; exact h
  | finish e => intro Q E p s hn h; exact h
  | rule _ k ih => intro Q E p s hn h; exact ih () Q E p s hn h
  | «at» p' k ih => intro Q E p s hn h; exact ih () Q E p' s hn h
  | load a _ k ih => intro Q E p s hn h; obtain ⟨o, ho, h⟩ := h; exact ⟨o, ho, ih o Q E p s hn h⟩
  | update a _ f k ih => intro Q E p s hn h; exact ⟨h.1, ih () Q E p _ (by simpa using hn) h.2⟩
  | alloc o k ih => intro Q E p s hn h; exact ih _ Q E p _ (by show n ≤ (s.heap.push o).objs.size; rw [Heap.size_push]; omega) h
  | loadIfAlive a k ih => intro Q E p s hn h; exact ih _ Q E p s hn h
  | point _ k ih => intro Q E p s hn h; exact ih () Q E p s hn h
  | register a k ih => intro Q E p s hn h; exact h
  | fresh k ih => intro Q E p s hn h; exact ih _ Q E p _ hn h
  | ask k ih => intro Q E p s hn h; exact ih _ Q E p s hn h
  | choose src m k ih => intro Q E p s hn h; exact ⟨h.1, ih _ Q E p _ hn h.2⟩
  | os q _ k ih => intro Q E p s hn h; exact ih _ Q E p _ hn h
  | call c hd g l k ih =>
    intro Q E p s hn h
    obtain ⟨r, s₁, hr, h⟩ := h
    exact ⟨r, s₁, hr, ih r Q E p s₁ (Nat.le_trans hn (runs_size hr)) h⟩
  | handled own k ih => intro Q E p s hn h; exact ih _ Q E p s hn h
  | newGen c k ih => intro Q E p s hn h; exact ih _ Q E p _ hn h
  | genState g k ih => intro Q E p s hn h; obtain ⟨st, hs, h⟩ := h; exact ⟨st, hs, ih _ Q E p s hn h⟩
  | resume g r l k ih =>
    intro Q E p s hn h
    obtain ⟨res, s₁, hr, h⟩ := h
    exact ⟨res, s₁, hr, ih res Q E p s₁ (Nat.le_trans hn (wakes_size hr)) h⟩
  | yield v g l k ih => intro Q E p s hn h; exact h
  | stack k ih => intro Q E p s hn h; exact ih _ Q E p s hn h
  | fork c k ih => intro Q E p s hn h; exact h
  | thread k ih => intro Q E p s hn h; exact ih _ Q E p s hn h
  | await a t d l k ih => intro Q E p s hn h; exact h

theorem wpAny_size {α : Type} {M : Model} {A : Around} {t : Sem α} {Q : α → Shared → Prop} {E : Value → Shared → Prop} {s : Shared} (h : wpAny M A t (fun a s' => s.heap.objs.size ≤ s'.heap.objs.size → Q a s') E s) : wpAny M A t Q E s :=
  fun Γ p hΓ => Sem.wp_mono M Γ t (fun a _ s' x => x.2 x.1) (fun _ _ _ x => x) p s (wp_size s.heap.objs.size t _ _ p s (Nat.le_refl _) (h Γ p hΓ))

end Mine
end

section
set_option autoImplicit false
namespace Mine
open PySem PyProof.Rows

variable {C : Wo} {X : Addr → Prop} {env : Env} {ρ : Loc} {α α' α'' : List Addr} {σ σ' σ'' : St} {s s' s'' : Shared} {A : Around} {E : Value → Shared → Prop}

theorem intsAre_of {B : Addr → Prop} {h : Heap} : ∀ {xs : List D} {vs : List Value} {ns : List Int}, DsRel C B h xs vs → intsOf xs = some ns → IntsAre vs ns
  | [], _, _, r, e => by cases e; simp only [DsRel] at r; subst r; exact .nil
  | x :: xs, _, _, r, e => by
    simp only [DsRel] at r
    obtain ⟨v, r', rfl, p, q⟩ := r
    cases x with
    | int i =>
      rw [intsOf_c, Option.map_eq_some_iff] at e
      obtain ⟨ms, hm, rfl⟩ := e
      simp only [DRel] at p
      obtain ⟨t, rfl⟩ := p
      exact .cons _ _ (intsAre_of q hm)
    | _ => cases e

theorem intsAre_rel {B : Addr → Prop} {h : Heap} {vs : List Value} {ns : List Int} (r : IntsAre vs ns) : DsRel C B h (ns.map .int) vs := by
  induction r with
  | nil => simp only [List.map_nil, DsRel]
  | cons n t _ ih => simp only [List.map_cons, DsRel, DRel]; exact ⟨_, _, rfl, ⟨t, rfl⟩, ih⟩

theorem minL_eq {ns : List Int} {m M : Int} (h : minL ns = some m) (h1 : M ∈ ns) (h2 : ∀ a ∈ ns, M ≤ a) : M = m := by
  cases ns with
  | nil => simp [minL] at h
  | cons x r =>
    simp only [minL, Option.some.injEq] at h
    have key : ∀ (r : List Int) (x : Int), (r.foldl (fun a b => if b < a then b else a) x ∈ x :: r) ∧ ∀ a ∈ x :: r, r.foldl (fun a b => if b < a then b else a) x ≤ a := by
      intro r
      induction r with
      | nil => intro x; simp
      | cons y r ih =>
        intro x
        simp only [List.foldl_cons]
        split
        · rename_i hlt
          have := ih y
          refine ⟨.tail _ this.1, fun a ha => ?_⟩
          rcases List.mem_cons.mp ha with rfl | ha
          · have := this.2 y (.head _); omega
          · exact this.2 a ha
        · rename_i hlt
          have := ih x
          refine ⟨(List.mem_cons.mp this.1).elim (fun q => by rw [q]; exact .head _) (fun q => .tail _ (.tail _ q)), fun a ha => ?_⟩
          rcases List.mem_cons.mp ha with rfl | ha
          · exact this.2 _ (.head _)
          · rcases List.mem_cons.mp ha with rfl | ha
            · have := this.2 x (.head _); omega
            · exact this.2 a (.tail _ ha)
    have k := key r x
    rw [h] at k
    have := h2 m k.1
    have := k.2 M h1
    omega
theorem maxL_eq {ns : List Int} {m M : Int} (h : maxL ns = some m) (h1 : M ∈ ns) (h2 : ∀ a ∈ ns, a ≤ M) : M = m := by
  cases ns with
  | nil => simp [maxL] at h
  | cons x r =>
    simp only [maxL, Option.some.injEq] at h
    have key : ∀ (r : List Int) (x : Int), (r.foldl (fun a b => if b > a then b else a) x ∈ x :: r) ∧ ∀ a ∈ x :: r, a ≤ r.foldl (fun a b => if b > a then b else a) x := by
      intro r
      induction r with
      | nil => intro x; simp
      | cons y r ih =>
        intro x
        simp only [List.foldl_cons]
        split
        · rename_i hlt
          have := ih y
          refine ⟨.tail _ this.1, fun a ha => ?_⟩
          rcases List.mem_cons.mp ha with rfl | ha
          · have := this.2 y (.head _); omega
          · exact this.2 a ha
        · rename_i hlt
          have := ih x
          refine ⟨(List.mem_cons.mp this.1).elim (fun q => by rw [q]; exact .head _) (fun q => .tail _ (.tail _ q)), fun a ha => ?_⟩
          rcases List.mem_cons.mp ha with rfl | ha
          · exact this.2 _ (.head _)
          · rcases List.mem_cons.mp ha with rfl | ha
            · have := this.2 x (.head _); omega
            · exact this.2 a (.tail _ ha)
    have k := key r x
    rw [h] at k
    have := h2 m k.1
    have := k.2 M h1
    omega

theorem sortI_eq {ns ns' : List Int} (hp : ns'.Perm ns) (hs : ns'.Pairwise (· ≤ ·)) : ns' = sortI ns := by
  have p1 : (sortI ns).Perm ns := List.mergeSort_perm ns _
  have s1 : (sortI ns).Pairwise (· ≤ ·) := by
    have := List.pairwise_mergeSort (le := fun a b : Int => decide (a ≤ b)) (fun a b c h1 h2 => by simp only [decide_eq_true_eq] at *; omega) (fun a b => by simp only [Bool.or_eq_true, decide_eq_true_eq]; omega) ns
    exact this.imp fun h => of_decide_eq_true h
  exact (hp.trans p1.symm).eq_of_pairwise (fun _ _ _ _ h1 h2 => Int.le_antisymm h1 h2) hs s1

noncomputable def bfVal : Bf → Value
  | .len => .builtin "len"
  | .min => .builtin "min"
  | .max => .builtin "max"
  | .int => .type "int"
  | .list => .type "list"
  | .dict => .type "dict"
  | .set => .type "set"
  | .sorted => .builtin "sorted"
  | .all => .builtin "all"

theorem Ext0.grown {h : Heap} {t : Nat} (k : ∀ a o, s.heap.get? a = some o → h.get? a = some o) (z : s.heap.objs.size ≤ ({ s with heap := h, toks := t } : Shared).heap.objs.size) : Ext0 env s { s with heap := h, toks := t } := .of k z

theorem VsRel.one {h : Heap} {a : V} {us : List Value} (r : VsRel C X α h [a] us) : ∃ u, us = [u] ∧ VRel C X α h a u := by
  simp only [VsRel] at r
  obtain ⟨v, r', rfl, p, q⟩ := r
  exact ⟨v, by rw [q], p⟩
theorem VsRel.two {h : Heap} {a b : V} {us : List Value} (r : VsRel C X α h [a, b] us) : ∃ u v, us = [u, v] ∧ VRel C X α h a u ∧ VRel C X α h b v := by
  simp only [VsRel] at r
  obtain ⟨v, r', rfl, p, w, r'', rfl, q, e⟩ := r
  exact ⟨v, w, by rw [e], p, q⟩

theorem fit63 {n : Nat} (h : sizeOk n = true) : (n : Int) < 2 ^ 63 := by
  have : n < 100000 := of_decide_eq_true h
  omega

theorem one1_some {args : List V} {v : V} (h : one1 args = some v) : args = [v] := by
  cases args with
  | nil => cases h
  | cons a r => cases r with
    | nil => cases h; rfl
    | cons _ _ => cases h
theorem listD_some {x : D} {xs : List D} (h : listD x = some xs) : x = .list xs := by
  cases x with
  | list ys => cases h; rfl
  | _ => cases h
theorem bfV_ok (h2 : 2 ≤ C.base.objs.size) (hh : A.handled = none) (R : Rel C X env ρ α σ s) {f : Bf} {args : List V} {us : List Value} {v : V} {Q : Value → Shared → Prop} (ra : VsRel C X α s.heap args us) (h : bfV σ f args = some v)
    (hQ : ∀ x u s', v = .d x → Ext0 env s s' → FreshRel C (Bad X α) s'.heap s.heap.objs.size x u → Q u s') : wpAny C.M A (call (bfVal f) us) Q E s := by
  obtain ⟨m, hm, _⟩ := R.fr.loc
  cases f with
  | len =>
    unfold bfV at h
    dsimp only at h
    simp only [Option.bind_eq_some_iff] at h
    obtain ⟨w, hw, x, hx, n, hn, h⟩ := h
    obtain rfl := one1_some hw
    obtain ⟨u, rfl, r⟩ := ra.one
    split at h
    · rename_i hz
      cases h
      have rx := view_ok R.st 6 r hx
      have done : ∀ t t', Q (.int n t) { s with toks := t' } := fun t t' => hQ _ _ _ rfl (.toks _) (by simp only [FreshRel, DRel]; exact ⟨_, rfl⟩)
      have hz' := fit63 hz
      unfold lenD at hn
      split at hn
      · cases hn; simp only [DRel] at rx; obtain ⟨a, vs, rfl, t, _, r'⟩ := rx
        have e := r'.length
        exact Calls.call_len_list t (by simp only [List.size_toArray]; omega) (by simp only [List.size_toArray, ← e]; exact done _ _)
      · cases hn; simp only [DRel] at rx; obtain ⟨a, vs, rfl, t, _, r'⟩ := rx
        have e := r'.length
        exact PyProof.Rows.len_tuple t (by simp only [List.size_toArray]; omega) (by simp only [List.size_toArray, ← e]; exact done _ _)
      · rename_i ks _
        cases hn; simp only [DRel] at rx; obtain ⟨a, vs, rfl, t, l, lo, _, r'⟩ := rx
        have e : (ks.zip vs).length = ks.length := by rw [List.length_zip, ← l, Nat.min_self]
        exact call_len_dict (low_addr lo h2) t (by rw [e]; exact hz') (by rw [e]; exact done _ _)
      · cases hn; simp only [DRel] at rx; obtain ⟨t, rfl⟩ := rx
        exact PyProof.Rows.len_str (by omega) (done _ _)
      · cases hn
    · cases h
  | min =>
    unfold bfV at h
    dsimp only at h
    unfold minV at h
    match args, h, ra with
    | [], h, _ => cases h
    | [w], h, ra =>
    obtain ⟨u, rfl, r⟩ := ra.one
    dsimp only at h
    unfold ints1 at h
    simp only [Option.bind_eq_some_iff, Option.map_eq_some_iff] at h
    obtain ⟨ns, ⟨x, hx, xs, hxs, hn⟩, i, hi, rfl⟩ := h
    have rx := view_ok R.st 6 r hx
    obtain rfl := listD_some hxs
    simp only [DRel] at rx
    obtain ⟨a, vs, rfl, t, _, r'⟩ := rx
    have hne : 0 < ns.length := by cases ns <;> simp [minL] at hi ⊢
    refine wpAny_size (min_list_N hh (fr_all hm) (news_all s.heap env.locals) t (intsAre_of r' hn) hne fun h' M t' tk F' N' m1 m2 z => ?_)
    have E0 : Ext0 env s { s with heap := h', toks := tk } := ⟨fun a o e n => (N' (a, o) (mem_allNews e n)).1, fun _ e => ns_unique hm e ▸ F'.ns, z, rfl, rfl⟩
    exact hQ _ _ _ rfl E0 (by simp only [FreshRel, DRel]; exact ⟨_, by rw [minL_eq hi m1 m2]⟩)
    | [a, b], h, ra =>
    obtain ⟨u, v, rfl, r1, r2⟩ := ra.two
    dsimp only at h
    simp only [Option.bind_eq_some_iff, Option.map_eq_some_iff] at h
    obtain ⟨x, hx, y, hy, rfl⟩ := h
    obtain rfl := intV_some hx
    obtain rfl := intV_some hy
    simp only [VRel, DRel] at r1 r2
    obtain ⟨t, rfl⟩ := r1; obtain ⟨t', rfl⟩ := r2
    refine wpAny_size (min_two_ints hh fun h' tk hk z => ?_)
    have E0 : Ext0 env s { s with heap := h', toks := tk } := .of hk z
    refine hQ _ _ _ rfl E0 ?_
    simp only [FreshRel, DRel]
    split <;> exact ⟨_, rfl⟩
    | _ :: _ :: _ :: _, h, _ => cases h
  | max =>
    unfold bfV at h
    dsimp only at h
    unfold maxV at h
    match args, h, ra with
    | [], h, _ => cases h
    | [w], h, ra =>
    obtain ⟨u, rfl, r⟩ := ra.one
    dsimp only at h
    unfold ints1 at h
    simp only [Option.bind_eq_some_iff, Option.map_eq_some_iff] at h
    obtain ⟨ns, ⟨x, hx, xs, hxs, hn⟩, i, hi, rfl⟩ := h
    have rx := view_ok R.st 6 r hx
    obtain rfl := listD_some hxs
    simp only [DRel] at rx
    obtain ⟨a, vs, rfl, t, _, r'⟩ := rx
    have hne : 0 < ns.length := by cases ns <;> simp [maxL] at hi ⊢
    refine wpAny_size (max_list_N hh (fr_all hm) (news_all s.heap env.locals) t (intsAre_of r' hn) hne fun h' M t' tk F' N' m1 m2 z => ?_)
    have E0 : Ext0 env s { s with heap := h', toks := tk } := ⟨fun a o e n => (N' (a, o) (mem_allNews e n)).1, fun _ e => ns_unique hm e ▸ F'.ns, z, rfl, rfl⟩
    exact hQ _ _ _ rfl E0 (by simp only [FreshRel, DRel]; exact ⟨_, by rw [maxL_eq hi m1 m2]⟩)
    | [a, b], h, ra =>
    obtain ⟨u, v, rfl, r1, r2⟩ := ra.two
    dsimp only at h
    simp only [Option.bind_eq_some_iff, Option.map_eq_some_iff] at h
    obtain ⟨x, hx, y, hy, rfl⟩ := h
    obtain rfl := intV_some hx
    obtain rfl := intV_some hy
    simp only [VRel, DRel] at r1 r2
    obtain ⟨t, rfl⟩ := r1; obtain ⟨t', rfl⟩ := r2
    refine wpAny_size (max_two_ints hh fun h' tk hk z => ?_)
    have E0 : Ext0 env s { s with heap := h', toks := tk } := .of hk z
    refine hQ _ _ _ rfl E0 ?_
    simp only [FreshRel, DRel]
    split <;> exact ⟨_, rfl⟩
    | _ :: _ :: _ :: _, h, _ => cases h
  | int =>
    unfold bfV at h
    dsimp only at h
    simp only [Option.bind_eq_some_iff, Option.map_eq_some_iff] at h
    obtain ⟨w, hw, b, hb, rfl⟩ := h
    obtain rfl := one1_some hw
    obtain rfl := boolV_some hb
    obtain ⟨u, rfl, r⟩ := ra.one
    simp only [VRel, DRel] at r; subst r
    exact call_int_bool (hQ _ _ _ rfl (.toks _) (by simp only [FreshRel, DRel]; exact ⟨_, rfl⟩))
  | list => cases h
  | dict =>
    unfold bfV at h
    dsimp only at h
    simp only [Option.bind_eq_some_iff] at h
    obtain ⟨w, hw, h⟩ := h
    obtain rfl := one1_some hw
    obtain ⟨u, rfl, r⟩ := ra.one
    unfold dictV at h
    cases w with
    | d x => cases x with
      | dict ks vs =>
        dsimp only at h
        split at h
        · rename_i hz; cases h
          simp only [VRel, DRel] at r
          obtain ⟨a, us, rfl, t, l, lo, _, r'⟩ := r
          have e : (ks.zip us).length = ks.length := by rw [List.length_zip, ← l, Nat.min_self]
          refine kt_call_dict (low_addr lo h2) t (by rw [e]; exact sizeLine_big hz) fun h' hd hs => ?_
          have kp : ∀ b o, s.heap.get? b = some o → h'.get? b = some o := fun b o q => (hs.2 b (Nat.ne_of_lt (Heap.lt_size q))).trans (Heap.get?_push_of_some _ q)
          have E0 : Ext0 env s { s with heap := h' } := .of (t := s.toks) kp (by rw [hs.1, Heap.size_push]; omega)
          exact hQ _ _ _ rfl E0 (fresh_dict R E0 (Nat.le_refl _) hd l r')
        · cases h
      | _ => cases h
    | obj n =>
      dsimp only at h
      split at h
      · rename_i ks vs ho
        split at h
        · rename_i hz
          obtain ⟨ds, hd, rfl⟩ := Option.map_eq_some_iff.mp h
          obtain ⟨a, us, rfl, ha, t, l, r'⟩ := R.objDict r ho
          rw [allD_map hd] at r'
          have e : (ks.zip us).length = ks.length := by rw [List.length_zip, ← l, Nat.min_self]
          refine kt_call_dict (low_addr (R.st.low a (List.mem_of_getElem? ha)) h2) t (by rw [e]; exact sizeLine_big hz) fun h' hd hs => ?_
          have kp : ∀ b o, s.heap.get? b = some o → h'.get? b = some o := fun b o q => (hs.2 b (Nat.ne_of_lt (Heap.lt_size q))).trans (Heap.get?_push_of_some _ q)
          have E0 : Ext0 env s { s with heap := h' } := .of (t := s.toks) kp (by rw [hs.1, Heap.size_push]; omega)
          exact hQ _ _ _ rfl E0 (fresh_dict R E0 (Nat.le_refl _) hd l (VsRel.map.mp r'))
        · cases h
      · cases h
    | tup _ => cases h
  | sorted =>
    unfold bfV at h
    dsimp only at h
    simp only [Option.bind_eq_some_iff] at h
    obtain ⟨w, hw, x, hx, xs, hxs, h⟩ := h
    obtain rfl := one1_some hw
    obtain ⟨u, rfl, r⟩ := ra.one
    have rx := view_ok R.st 6 r hx
    obtain rfl := listD_some hxs
    simp only [sortD, Option.map_eq_some_iff] at h
    obtain ⟨d, h, rfl⟩ := h
    split at h
    · rename_i h64
      obtain ⟨ns, hn, rfl⟩ := Option.map_eq_some_iff.mp h
      simp only [DRel] at rx
      obtain ⟨a, vs, rfl, t, _, r'⟩ := rx
      refine sorted_N (fr_all hm) (news_all s.heap env.locals) t (intsAre_of r' hn) (by rw [← r'.length]; exact h64) fun h' vs' ns' e F' N' a1 a2 a3 => ?_
      have E0 : Ext0 env s { s with heap := h' } := ext0_news (t := s.toks) hm F' N' (Nat.le_succ _)
      obtain rfl := sortI_eq a2 a3
      exact hQ _ _ _ rfl E0 (fresh_list R E0 (Nat.le_succ _) (N' _ (.head _)).1 (intsAre_rel a1))
    · cases h
  | set => cases h
  | all => cases h

end Mine
end

section
set_option autoImplicit false
namespace Mine
open PySem PyProof.Rows

variable {C : Wo} {X : Addr → Prop} {env : Env} {ρ : Loc} {α α' α'' : List Addr} {σ σ' σ'' : St} {s s' s'' : Shared} {A : Around} {E : Value → Shared → Prop}

theorem growBut {h h' : Heap} {a : Addr} (hs : Heap.SameBut a h h') (ha : a ∈ α) : Grow (Bad X α) h (Bad X α) h' := fun b o n e => by
  have hb : b ≠ a := fun q => n (.inr (q ▸ ha))
  exact ⟨(hs.2 b hb).trans e, n⟩

theorem oput_eq {n : Nat} {o : MO} (h : oput σ n o = some σ') : (∃ q, σ[n]? = some (false, q)) ∧ σ' = σ.set n (false, o) := by
  unfold oput at h
  split at h
  · rename_i q hq; cases h; exact ⟨⟨_, hq⟩, rfl⟩
  · cases h

theorem putRel (R : Rel C X env ρ α σ s) {n : Nat} {a : Addr} {o : MO} {h' : Heap} {t : Nat} (hn : α[n]? = some a) (hp : oput σ n o = some σ') (hs : Heap.SameBut a s.heap h') (ho : ORel C X α h' a o) :
    Rel C X env ρ α σ' { s with heap := h', toks := t } ∧ Ext env α σ s α σ' { s with heap := h', toks := t } := by
  obtain ⟨⟨q, hq⟩, rfl⟩ := oput_eq hp
  have ha : a ∈ α := List.mem_of_getElem? hn
  have hl : a ≠ env.locals := R.neLoc ha
  have E' : Ext env α σ s α (σ.set n (false, o)) { s with heap := h', toks := t } := by
    refine ⟨fun b p e nl l => ?_, fun m e => e.sameBut hs (Ne.symm hl), ⟨[], by simp, by simp⟩, Nat.le_of_eq hs.1.symm, rfl, rfl, fun k p e => ?_, by simp⟩
    · have hb : b ≠ a := fun q' => by
        obtain ⟨_, e'⟩ := l n (q' ▸ hn)
        rw [hq] at e'; cases e'
      exact (hs.2 b hb).trans e
    · have hk : n ≠ k := fun q' => by subst q'; rw [hq] at e; cases e
      rw [List.getElem?_set_ne hk]; exact e
  refine ⟨R.ext E' ⟨by simp [R.st.len], R.st.nodup, R.st.out, R.st.low, fun k b l p h1 h2 => ?_⟩, E'⟩
  by_cases hk : n = k
  · subst hk
    rw [hn] at h1; cases h1
    rw [List.getElem?_set_self (List.getElem?_eq_some_iff.mp hq).1] at h2
    cases h2
    exact ho
  · rw [List.getElem?_set_ne hk] at h2
    have hb : b ≠ a := fun e => hk (by
      subst e
      exact (List.getElem?_inj (List.getElem?_eq_some_iff.mp hn).1 R.st.nodup).mp (hn.trans h1.symm))
    exact (R.st.obj k b l p h1 h2).grow (growBut hs ha) (List.prefix_refl _) fun o ho => (hs.2 b hb).trans ho

theorem putK_len {β : Type} {k : Key} {v : β} : ∀ {ks : List Key} {vs : List β}, ks.length = vs.length → (putK k v ks vs).1.length = (putK k v ks vs).2.length
  | [], [], _ => rfl
  | k' :: ks, u :: vs, h => by
    simp only [putK_cons]
    split
    · simpa using h
    · simp [putK_len (ks := ks) (vs := vs) (by simpa using h)]

theorem putK_keys {β γ : Type} {k : Key} {v : β} {u : γ} : ∀ {ks : List Key} {vs : List β} {us : List γ}, vs.length = us.length → (putK k v ks vs).1 = (putK k u ks us).1
  | [], _, _, _ => rfl
  | _ :: _, [], [], _ => rfl
  | k' :: ks, _ :: vs, _ :: us, h => by
    simp only [putK_cons]
    split
    · rfl
    · simp [putK_keys (ks := ks) (vs := vs) (us := us) (v := v) (u := u) (by simpa using h)]

theorem putK_rel {h : Heap} {k : Key} {v : V} {u : Value} (hv : VRel C X α h v u) : ∀ {ks : List Key} {xs : List V} {vs : List Value}, VsRel C X α h xs vs → VsRel C X α h (putK k v ks xs).2 (putK k u ks vs).2
  | [], _, _, _ => by simp only [putK_n1, VsRel]; exact ⟨_, _, rfl, hv, rfl⟩
  | k' :: ks, [], _, r => by simp only [VsRel] at r; subst r; simp only [putK_n2, VsRel]; exact ⟨_, _, rfl, hv, rfl⟩
  | k' :: ks, x :: xs, _, r => by
    simp only [VsRel] at r
    obtain ⟨w, r', rfl, a, b⟩ := r
    simp only [putK_cons]
    split
    · simp only [VsRel]; exact ⟨_, _, rfl, hv, b⟩
    · simp only [VsRel]; exact ⟨_, _, rfl, a, putK_rel hv b⟩

theorem stored_no {k : Key} {v : Value} : ∀ {kvs : List (Key × Value)}, k ∉ kvs.map (·.1) → kvs.map (fun kv => if kv.1 = k then (kv.1, v) else kv) = kvs
  | [], _ => rfl
  | p :: r, h => by
    simp only [List.map_cons, List.mem_cons, not_or] at h
    rw [List.map_cons, stored_no h.2, if_neg (Ne.symm h.1)]

theorem stored_zip {k : Key} {v : Value} : ∀ {ks : List Key} {vs : List Value}, ks.length = vs.length → (((ks.zip vs).map (·.1)).Nodup) → stored (ks.zip vs) k v = (putK k v ks vs).1.zip (putK k v ks vs).2
  | [], [], _, _ => by simp [stored, putK_n1]
  | k' :: ks, u :: vs, hl, hn => by
    simp only [List.zip_cons_cons, List.map_cons, List.nodup_cons] at hn
    have ih := stored_zip (k := k) (v := v) (ks := ks) (vs := vs) (by simpa using hl) hn.2
    by_cases h : k = k'
    · subst h
      simp only [putK_cons, if_true, List.zip_cons_cons]
      unfold stored
      rw [if_pos (by simp), List.map_cons, if_pos rfl, stored_no hn.1]
    · simp only [putK_cons, if_neg h, List.zip_cons_cons]
      rw [← ih]
      unfold stored
      rw [List.any_cons, List.map_cons]
      have e1 : decide (k' = k) = false := by simpa using Ne.symm h
      simp only [e1, Bool.false_or, if_neg (Ne.symm h)]
      split <;> simp

theorem set_rel {h : Heap} {v : V} {u : Value} (hv : VRel C X α h v u) : ∀ {n : Nat} {xs : List V} {vs : List Value}, VsRel C X α h xs vs → VsRel C X α h (xs.set n v) (vs.set n u)
  | _, [], _, r => by simp only [VsRel] at r; subst r; simp [VsRel]
  | n, x :: xs, _, r => by
    simp only [VsRel] at r
    obtain ⟨w, r', rfl, a, b⟩ := r
    cases n with
    | zero => simp only [List.set_cons_zero, VsRel]; exact ⟨_, _, rfl, hv, b⟩
    | succ n => simp only [List.set_cons_succ, VsRel]; exact ⟨_, _, rfl, a, set_rel hv b⟩

theorem snoc_rel {h : Heap} {v : V} {u : Value} (hv : VRel C X α h v u) : ∀ {xs : List V} {vs : List Value}, VsRel C X α h xs vs → VsRel C X α h (xs ++ [v]) (vs ++ [u])
  | [], _, r => by simp only [VsRel] at r; subst r; simp only [List.nil_append, VsRel]; exact ⟨_, _, rfl, hv, rfl⟩
  | x :: xs, _, r => by
    simp only [VsRel] at r
    obtain ⟨w, r', rfl, a, b⟩ := r
    simp only [List.cons_append, VsRel]
    exact ⟨_, _, rfl, a, snoc_rel hv b⟩

theorem setItemV_ok (R : Rel C X env ρ α σ s) {o i v : V} {uo ui uv : Value} {Q : Unit → Shared → Prop} (ho : VRel C X α s.heap o uo) (hi : VRel C X α s.heap i ui) (hv : VRel C X α s.heap v uv)
    (h : setItemV σ o i v = some σ') (hQ : ∀ s', Rel C X env ρ α σ' s' → Ext env α σ s α σ' s' → Q () s') : wpAny C.M A (setItem uo ui uv) Q E s := by
  unfold setItemV at h
  split at h
  · rename_i n
    split at h
    · rename_i xs hg
      split at h
      · rename_i k
        split at h
        · rename_i hk
          obtain ⟨a, vs, rfl, hn, ⟨j, t⟩, r⟩ := R.objList ho hg
          simp only [VRel, DRel] at hi
          obtain ⟨tk, rfl⟩ := hi
          have hl := r.length
          refine W.ki_setAt (n := j) t hk.1 (by omega) (by simp only [List.size_toArray]; omega) ?_
          have hs : Heap.SameBut a s.heap (s.heap.update a (Obj.mapSeq (·.setIfInBounds k.toNat uv))) := .update ..
          have hx : a ∈ α := List.mem_of_getElem? hn
          obtain ⟨R', E'⟩ := putRel (t := s.toks) R hn h hs ⟨vs.set k.toNat uv, j, by
            rw [Heap.get?_update_self _ t (by rfl)]
            simp [Obj.mapSeq, lobj], (set_rel hv r).grow (growBut hs hx) (List.prefix_refl _)⟩
          exact hQ _ R' E'
        · cases h
      · cases h
    · rename_i ks xs hg
      simp only [Option.bind_eq_some_iff] at h
      obtain ⟨k, hk, h⟩ := h
      split at h
      · rename_i hz
        obtain ⟨a, vs, rfl, hn, t, hl, r⟩ := R.objDict ho hg
        have hx : a ∈ α := List.mem_of_getElem? hn
        have hl2 := r.length
        refine wpAny_setItem_pairs (keyOf_is hk hi) t (fun h' hd hs => ?_) ?_
        · obtain ⟨_, _, _, _, _, _, _, _, nd⟩ := id t
          rw [stored_zip hl nd] at hd
          obtain ⟨R', E'⟩ := putRel (t := s.toks + 1) R hn h hs ⟨(putK k uv ks vs).2, by rw [putK_keys (v := v) (u := uv) hl2]; exact hd, by
            rw [putK_keys (v := v) (u := uv) hl2]; exact putK_len hl, (putK_rel hv r).grow (growBut hs hx) (List.prefix_refl _)⟩
          exact hQ _ R' E'
        · have := sizeLine_big hz
          simp only [List.length_zip]; omega
      · cases h
    · cases h
  · cases h

/-- what is to be done with the method that was found -/
noncomputable def mkId : Mk → String
  | .append => "list.append"
  | .dclear => "dict.clear"
  | .join => "str.join"

theorem dictOf_noDict {a : Addr} {kvs : List (Key × Value)} (t : s.heap.DictOf C.kk a kvs) : ∀ b, Value.ref a = .ref b → ∃ ob, s.heap.get? b = some ob ∧ ob.dict = none := by
  intro b e; cases e
  obtain ⟨o, es, ep, ho, hx, _⟩ := t
  exact ⟨o, ho, hx.2.1⟩

theorem mkOf_ok (R : Rel C X env ρ α σ s) {m : Str} {o : V} {uo : Value} {k : Mk} {pos : Pos} {trees : List (Bool × Sem Value)} {Q : Value → Shared → Prop} (hm : mkOf σ m o = some k) (ho : VRel C X α s.heap o uo)
    (h : wpAny C.M A (callWith pos (.builtin (mkId k)) [uo] trees []) Q E s) : MethodOn C.prog C.w A m pos uo trees Q E s := by
  unfold mkOf at hm
  split at hm
  · rename_i n
    split at hm
    · rename_i xs hg
      obtain ⟨a, vs, rfl, hn, ⟨j, t⟩, r⟩ := R.objList ho hg
      split at hm
      · rename_i e; subst e; cases hm
        exact ⟨"list", "list.append", F.plainAttrs_list, F.slot_list_append, F.type_list_append, (lobj_isList t).typeIs, fun b e => by cases e; exact ⟨_, t, rfl⟩, h⟩
      · cases hm
    · rename_i ks xs hg
      obtain ⟨a, vs, rfl, hn, t, hl, r⟩ := R.objDict ho hg
      split at hm
      · rename_i e; subst e; cases hm
        exact ⟨"dict", "dict.clear", F.plainAttrs_dict, F.slot_dict_clear, F.type_dict_clear, t.typeIs, dictOf_noDict t, h⟩
      · cases hm
    · cases hm
  · rename_i x
    split at hm
    · rename_i e; subst e; cases hm
      simp only [VRel, DRel] at ho
      obtain ⟨tk, rfl⟩ := ho
      exact ⟨"str", "str.join", F.plainAttrs_str, F.slot_str_join, F.type_str_join, typeIs_str _ _ _, (fun b e => nomatch e), h⟩
    · cases hm
  · cases hm

theorem strs_vals {h : Heap} : ∀ {xs : List V} {vs : List Value} {ts : List Str}, strsV xs = some ts → VsRel C X α h xs vs → ∃ l : List (Str × Tok), vs = strValues l ∧ l.map (·.1) = ts
  | [], vs, ts, e, r => by
    simp only [strsV, Option.some.injEq] at e
    simp only [VsRel] at r
    subst e r
    exact ⟨[], rfl, rfl⟩
  | v :: xs, vs, ts, e, r => by
    simp only [VsRel] at r
    obtain ⟨u, us, rfl, hv, hr⟩ := r
    simp only [strsV] at e
    split at e
    · rename_i x
      simp only [Option.map_eq_some_iff] at e
      obtain ⟨ts', e, rfl⟩ := e
      obtain ⟨l, rfl, rfl⟩ := strs_vals e hr
      simp only [VRel, DRel] at hv
      obtain ⟨t, rfl⟩ := hv
      exact ⟨(x, t) :: l, rfl, rfl⟩
    · cases e
theorem join_fit {x : Str} {ts : List Str} (h0 : x.length = 0) (h : joinFit ts = true) : JoinOk x ts = true := by
  simp only [joinFit, Bool.and_eq_true, decide_eq_true_eq, List.all_eq_true] at h
  unfold JoinOk
  rw [StrLaws.joinFits (B := 1000) h.2 (by rw [h0]; omega)]
  rfl

theorem methV_ok (R : Rel C X env ρ α σ s) {o : V} {uo : Value} {k : Mk} {args : List V} {us : List Value} {v : V} {Q : Value → Shared → Prop} (ho : VRel C X α s.heap o uo) (ha : VsRel C X α s.heap args us) (h : methV σ k o args = some (v, σ'))
    (hQ : ∀ u s', Rel C X env ρ α σ' s' → Ext env α σ s α σ' s' → VRel C X α s'.heap v u → Q u s') : wpAny C.M A (call (.builtin (mkId k)) (uo :: us)) Q E s := by
  unfold methV at h
  split at h
  · rename_i n x
    obtain ⟨ux, rfl, hx⟩ := ha.one
    split at h
    · rename_i xs hg
      split at h
      · rename_i hz
        obtain ⟨a, vs, rfl, hn, ⟨j, t⟩, r⟩ := R.objList ho hg
        have hxm : a ∈ α := List.mem_of_getElem? hn
        simp only [Option.map_eq_some_iff, Prod.mk.injEq] at h
        obtain ⟨σ₁, hp, rfl, rfl⟩ := h
        refine append_at t (fun h' hs hg' => ?_) ?_
        · obtain ⟨R', E'⟩ := putRel (t := s.toks) R hn hp hs ⟨vs ++ [ux], j + 1, by rw [hg']; simp [lobj], (snoc_rel hx r).grow (growBut hs hxm) (List.prefix_refl _)⟩
          exact hQ _ _ R' E' (by simp only [VRel, DRel])
        · have := sizeLine_big hz
          have := r.length
          simp only [List.size_toArray]; omega
      · cases h
    · cases h
  · rename_i n
    simp only [VsRel] at ha
    subst ha
    split at h
    · rename_i ks xs hg
      split at h
      · rename_i hz
        obtain ⟨a, vs, rfl, hn, t, hl, r⟩ := R.objDict ho hg
        simp only [Option.map_eq_some_iff, Prod.mk.injEq] at h
        obtain ⟨σ₁, hp, rfl, rfl⟩ := h
        refine call_meetsIn F.slot_dict_clear t.typeIs F.entry_dict_clear (F.args_dict_clear_1 _) (meets_dict_clear C.kk a) ⟨_, t, ?_, fun h' hd hs => ?_⟩
        · have := sizeLine_big hz
          simp only [List.length_zip]; omega
        · obtain ⟨R', E'⟩ := putRel (t := s.toks) R hn hp hs ⟨[], hd, rfl, by simp only [VsRel]⟩
          exact hQ _ _ R' E' (by simp only [VRel, DRel])
      · cases h
    · cases h
  · rename_i x n
    obtain ⟨ux, rfl, hx⟩ := ha.one
    split at h
    · rename_i xs hg
      simp only [Option.bind_eq_some_iff] at h
      obtain ⟨ts, ht, h⟩ := h
      split at h
      · rename_i hf
        cases h
        obtain ⟨a, vs, rfl, hn, ⟨j, t⟩, r⟩ := R.objList hx hg
        obtain ⟨l, rfl, rfl⟩ := strs_vals ht r
        simp only [VRel, DRel] at ho
        obtain ⟨tk, rfl⟩ := ho
        refine SC.join (lobj_isList t) rfl (join_fit hf.1 hf.2) fun t' k => ?_
        refine hQ _ _ (R.ext0 (.toks k)) (Ext0.toks k).ext ?_
        simp only [VRel, DRel]
        exact ⟨t', by rw [← StrLaws.glued_eq_join]; rfl⟩
      · cases h
    · cases h
  · cases h

end Mine
end

section
set_option autoImplicit false
namespace Mine
open PySem PyProof.Rows PySem.Calls
open PySem.W (Looks)

noncomputable def gi (sc : Scope) (x : Str) : Bool := (sc.names.lookup x == some .globalImplicit) && !(x == ("__debug__" : Str))

/-- a call of no arguments has its own road in a method call -/
noncomputable def notBare : Expr → Bool
  | .Call (.Name _ _) [] [] _ => false
  | _ => true

noncomputable def giArgs (sc : Scope) : List Expr → Bool
  | [_, .Name t _] => gi sc t
  | _ => false

mutual
/-- what the text must be for the reading to hold -/
noncomputable def okE (K : Str → Option D) (sc : Scope) : Expr → Bool
  | .Constant _ _ _ => true
  | .Name x _ => !(x == ("__debug__" : Str)) && !(x == ("__classdict__" : Str)) && ((K x).isNone || gi sc x)
  | .BoolOp _ es _ => okEs K sc es
  | .BinOp l _ r _ => okE K sc l && okE K sc r
  | .UnaryOp _ e _ => okE K sc e
  | .Compare l ops es _ => okE K sc l && okEs K sc es && !lastMarks ops es
  | .Tuple es _ _ => okEs K sc es && decide (es.length < 1000)
  | .List es _ => okEs K sc es && decide (es.length < 1000)
  | .Subscript e i _ => okE K sc e && match i with
    | .Slice lo hi st _ => match lo, hi, st with
      | some lo, none, none => okE K sc lo
      | _, _, _ => false
    | i => okE K sc i
  | .Dict _ vs _ => okEs K sc vs
  | .Call f args ks pos => okEs K sc args && match ks with
    | [] => match f with
      | .Name f _ => gi sc f && (if f = "isinstance" then giArgs sc args else true)
      | .Attribute e _ apos => okE K sc e && notBare e && (apos.endLine == pos.line) && decide (args.length < 29)
      | _ => false
    | _ => false
  | _ => false
noncomputable def okEs (K : Str → Option D) (sc : Scope) : List Expr → Bool
  | [] => true
  | e :: r => okE K sc e && okEs K sc r
end

section
variable {K : Str → Option D} {sc : Scope}
theorem okE_Name {x : Str} {p : Pos} : okE K sc (.Name x p) = (!(x == ("__debug__" : Str)) && !(x == ("__classdict__" : Str)) && ((K x).isNone || gi sc x)) := rfl
theorem okE_BoolOp {op : BoolOp} {es : List Expr} {p : Pos} : okE K sc (.BoolOp op es p) = okEs K sc es := rfl
theorem okE_BinOp {l r : Expr} {op : Operator} {p : Pos} : okE K sc (.BinOp l op r p) = (okE K sc l && okE K sc r) := rfl
theorem okE_UnaryOp {e : Expr} {op : UnaryOp} {p : Pos} : okE K sc (.UnaryOp op e p) = okE K sc e := rfl
theorem okE_Compare {l : Expr} {ops : List CmpOp} {es : List Expr} {p : Pos} : okE K sc (.Compare l ops es p) = (okE K sc l && okEs K sc es && !lastMarks ops es) := rfl
theorem okE_Tuple {es : List Expr} {k : Nat} {p : Pos} : okE K sc (.Tuple es k p) = (okEs K sc es && decide (es.length < 1000)) := rfl
theorem okE_List {es : List Expr} {p : Pos} : okE K sc (.List es p) = (okEs K sc es && decide (es.length < 1000)) := rfl
theorem okE_Slice {e : Expr} {lo hi st : Option Expr} {p q : Pos} : okE K sc (.Subscript e (.Slice lo hi st q) p) = (okE K sc e && match lo, hi, st with
      | some lo, none, none => okE K sc lo
      | _, _, _ => false) := by cases lo <;> cases hi <;> cases st <;> rfl
theorem okE_Item {e i : Expr} {p : Pos} (h : isSlice i = false) : okE K sc (.Subscript e i p) = (okE K sc e && okE K sc i) := by
  cases i with
  | Slice lo hi st p => cases h
  | _ => rfl
theorem okE_Dict {ks : List (Option Expr)} {vs : List Expr} {p : Pos} : okE K sc (.Dict ks vs p) = okEs K sc vs := rfl
theorem okE_CallN {f : Str} {q p : Pos} {args : List Expr} : okE K sc (.Call (.Name f q) args [] p) = (okEs K sc args && (gi sc f && (if f = "isinstance" then giArgs sc args else true))) := rfl
theorem okE_CallM {e : Expr} {m : Str} {q p : Pos} {args : List Expr} : okE K sc (.Call (.Attribute e m q) args [] p) = (okEs K sc args && (okE K sc e && notBare e && (q.endLine == p.line) && decide (args.length < 29))) := rfl
theorem okE_CallK {f : Expr} {k : Keyword} {ks : List Keyword} {p : Pos} {args : List Expr} : okE K sc (.Call f args (k :: ks) p) = (okEs K sc args && false) := rfl
theorem okEs_cons {e : Expr} {r : List Expr} : okEs K sc (e :: r) = (okE K sc e && okEs K sc r) := rfl
end

/-- what a call of a def does -/
def CallAt (C : Wo) (G : Genv) (A : Around) (f : Str) (a : Addr) : Prop :=
  ∀ (X : Addr → Prop) (env : Env) (ρ : Loc) (α : List Addr) (σ : St) (s : Shared) (E : Value → Shared → Prop) (Q : Value → Shared → Prop) (args : List V) (us : List Value) (v : V) (σ' : St),
    Rel C X env ρ α σ s → VsRel C X α s.heap args us → G.call f args σ = some (v, σ') →
    (∀ x u s', v = .d x → σ' = σ → Ext0 env s s' → (G.fresh f = true → FreshRel C (Bad X α) s'.heap s.heap.objs.size x u) → DRel C (Bad X α) s'.heap x u → Q u s') →
    wpAny C.M A (call (.ref a) us) Q E s

noncomputable def typeStrs : List String := ["int", "bool", "str", "tuple", "dict"]
/-- what is known of the world around -/
structure Wk (C : Wo) (G : Genv) (A : Around) : Prop where
  h2 : 2 ≤ C.base.objs.size
  hu : A.units + 30 < cLine
  hh : A.handled = none
  gns : C.base.Ns mainGlobals C.mg
  bns : C.base.Ns builtinsNs C.mb
  bf : ∀ f b, bfOf f = some b → C.mg f = none ∧ C.mb f = some (bfVal b)
  isi : C.mg "isinstance" = none ∧ C.mb "isinstance" = some (.builtin "isinstance")
  tys : ∀ t ∈ typeStrs, C.mg (Str.ofString t) = none ∧ C.mb (Str.ofString t) = some (.type t)
  rng : C.mg "range" = none ∧ C.mb "range" = some (.type "range")
  zp : C.mg "zip" = none ∧ C.mb "zip" = some (.type "zip")
  cst : ∀ x d, G.const x = some d → ∃ u, C.mg x = some u ∧ ∀ B h, DRel C B h d u
  fns : ∀ f, G.fn f = true → ∃ a o fd, C.mg f = some (.ref a) ∧ C.base.get? a = some o ∧ o.data = .func fd ∧ CallAt C G A f a
  cls : ∀ f, G.cls f = false

section
variable {C : Wo} {G : Genv} {X : Addr → Prop} {env : Env} {ρ : Loc} {α α' α'' : List Addr} {σ σ' σ'' : St} {s s' s'' : Shared} {A : Around} {E : Value → Shared → Prop}

theorem starEach_cons {e : Expr} {r : List Expr} {o : Bool} {x : V × St} (h : evE G ρ o e σ = some x) (pos : Pos) : backTo pos (starEach (e :: r) env) = (false, eval e env) :: backTo pos (starEach r env) := by
  cases e <;> first | rfl | exact nomatch (show (none : Option (V × St)) = some x from h)

theorem evEs_plain {pos : Pos} : ∀ {es : List Expr} {σ : St} {o : Bool} {x : List V × St}, evEs G ρ o es σ = some x → (backTo pos (starEach es env)).any (·.1) = false
  | [], _, _, _, _ => rfl
  | e :: r, σ, o, x, h => by
    simp only [evEs_cons, Option.bind_eq_some_iff, Option.map_eq_some_iff] at h
    obtain ⟨⟨v, σ₁⟩, h1, ⟨vs, σ₂⟩, h2, _⟩ := h
    rw [starEach_cons h1, List.any_cons, evEs_plain h2]; rfl

theorem evEs_len : ∀ {es : List Expr} {σ : St} {o : Bool} {vs : List V} {σ' : St}, evEs G ρ o es σ = some (vs, σ') → vs.length = es.length
  | [], _, _, _, _, h => by simp only [evEs_nil, Option.some.injEq, Prod.mk.injEq] at h; rw [← h.1]; rfl
  | e :: r, σ, o, _, _, h => by
    simp only [evEs_cons, Option.bind_eq_some_iff, Option.map_eq_some_iff, Prod.mk.injEq] at h
    obtain ⟨⟨v, σ₁⟩, h1, ⟨ws, σ₂⟩, h2, rfl, rfl⟩ := h
    simp [evEs_len h2]

theorem keeper_builtin (M : Model) (h : Heap) (id : String) : Looks M h (keeperOf (.builtin id)) .machine := fun _ _ _ _ _ q => wpAny_pure q
theorem keeper_type (M : Model) (h : Heap) (id : String) : Looks M h (keeperOf (.type id)) .machine := fun _ _ _ _ _ q => wpAny_pure q
theorem keeper_fn {M : Model} {h : Heap} {a : Addr} {o : Obj} {fd : FuncData} (ho : h.get? a = some o) (hd : o.data = .func fd) : Looks M h (keeperOf (.ref a)) .frame := fun A Q E s k q => by
  unfold keeperOf
  refine wpAny_bind (wpAny_load (k _ _ ho) ?_)
  rw [hd]
  exact wpAny_pure q

theorem call_with {pos : Pos} {f : Value} {first : List Value} {es : List Expr} {P : Heap → Prop} {Q : Value → Shared → Prop} {σ : St} {o : Bool} {x : List V × St} (he : evEs G ρ o es σ = some x)
    (hk : ∀ h, P h → ∃ k, (k = Keeper.frame ∨ k = Keeper.machine ∨ k = Keeper.boundFrame) ∧ Looks C.M h (keeperOf f) k)
    (h : wpAny C.M A (spliced (backTo pos (starEach es env))) (fun us s' => P s'.heap ∧ wpAny C.M A (call f (first ++ us)) Q E s') E s) :
    wpAny C.M A (callWith pos f first (backTo pos (starEach es env)) []) Q E s := by
  refine W.callWith_of (P := P) (by rw [evEs_plain he]; rfl) hk ?_
  cases es with
  | nil =>
    unfold evalArgs
    show wpAny C.M A (spliced [] >>= _) _ E s
    refine wpAny_bind (wpAny_mono h (fun us s' h' => wpAny_bind (wpAny_pure ?_)) fun _ _ x => x)
    refine wpAny_holding ?_
    exact wpAny_bind (wpAny_pure (wpAny_bind (wpAny_pure (wpAny_pure h'))))
  | cons e r =>
    simp only [evEs_cons, Option.bind_eq_some_iff, Option.map_eq_some_iff] at he
    obtain ⟨⟨v, σ₁⟩, h1, _⟩ := he
    rw [starEach_cons h1] at h ⊢
    exact evalArgs_plain h
end

end Mine
end

section
set_option autoImplicit false
namespace Mine
open PySem PyProof.Rows PySem.Calls

section
variable {C : Wo} {G : Genv} {X X' : Addr → Prop} {env : Env} {ρ ρ' : Loc} {α α' α'' : List Addr} {σ σ' σ'' : St} {s s' s'' : Shared} {A : Around} {E : Value → Shared → Prop}

/-- the same reading of another state, with other addresses hidden -/
theorem Rel.move (R : Rel C X env ρ α σ s) (g : Grow (Bad X α) s.heap (Bad X' α) s'.heap) (kf : ∀ a ∈ FA env, ∀ o, s.heap.get? a = some o → s'.heap.get? a = some o)
    (kα : ∀ a ∈ α, ∀ o, s.heap.get? a = some o → s'.heap.get? a = some o) (kb : ∀ b o, C.base.get? b = some o → s'.heap.get? b = some o)
    (out : ∀ a ∈ α, ¬ X' a) (fa : ∀ a ∈ FA env, X' a) (xlt : ∀ a, X' a → a < s'.heap.objs.size) (xnt : ∀ a, X' a → ∃ o, s'.heap.get? a = some o ∧ NoTup o) : Rel C X' env ρ α σ s' := by
  have kc : ∀ {x : Str} {c : Addr} {u : Option Value}, env.cells.lookup x = some c → s.heap.IsCell c u → s'.heap.IsCell c u := fun hc ⟨o, ho, hd⟩ =>
    ⟨o, kf _ (.tail _ (List.mem_map.mpr ⟨_, mem_of_lookup hc, rfl⟩)) o ho, hd⟩
  refine ⟨kb, ⟨R.fr.kind, R.fr.glob, R.fr.blt, R.fr.kinds, ?_, fun x v e k => ?_, fun x k => ?_, R.fr.apart, R.fr.off⟩,
    ⟨R.st.len, R.st.nodup, out, R.st.low, fun n a b o h1 h2 => ?_⟩, fa, R.flow, xlt, xnt⟩
  · obtain ⟨m, hm, hl⟩ := R.fr.loc
    exact ⟨m, hm.at fun o ho => kf _ (.head _) o ho, fun x v e k => let ⟨u, hu, hv⟩ := hl x v e k; ⟨u, hu, hv.grow g (List.prefix_refl _)⟩⟩
  · obtain ⟨c, u, hc, hi, hv⟩ := R.fr.cel x v e k
    exact ⟨c, u, hc, kc hc hi, hv.grow g (List.prefix_refl _)⟩
  · obtain ⟨c, u, hc, hi⟩ := R.fr.has x k
    exact ⟨c, u, hc, kc hc hi⟩
  · have x := R.st.obj n a b o h1 h2
    have k := kα a (List.mem_of_getElem? h1)
    cases o with
    | list xs => obtain ⟨vs, j, t, r⟩ := x; exact ⟨vs, j, k _ t, r.grow g (List.prefix_refl _)⟩
    | dict ks xs => obtain ⟨vs, t, l, r⟩ := x; exact ⟨vs, dictOf_at t k, l, r.grow g (List.prefix_refl _)⟩
    | inst _ _ _ => exact x.elim

/-- one hidden thing changed -/
theorem Rel.but (R : Rel C X env ρ α σ s) {I : Addr} {h' : Heap} {t : Nat} (hX : X I) (hI : I ∉ FA env) (hb : C.base.objs.size ≤ I) (he : Heap.ExtBut I s.heap h') (hz : s.heap.objs.size ≤ h'.objs.size) (hno : ∃ o, h'.get? I = some o ∧ NoTup o) :
    Rel C X env ρ α σ { s with heap := h', toks := t } :=
  R.move (fun a o n e => ⟨he a o (fun q => n (.inl (q ▸ hX))) e, n⟩) (fun a ha o e => he a o (fun q => hI (q ▸ ha)) e) (fun a ha o e => he a o (fun q => R.st.out a ha (q ▸ hX)) e)
    (fun b o e => he b o (fun q => Nat.not_lt.mpr hb (q ▸ Heap.lt_size e)) (R.bas b o e)) R.st.out R.fa (fun a ha => Nat.lt_of_lt_of_le (R.xlt a ha) hz) fun a ha => by
      by_cases q : a = I
      · subst q; exact hno
      · obtain ⟨o, ho, hn⟩ := R.xnt a ha
        exact ⟨o, he a o q ho, hn⟩

def Hide (X : Addr → Prop) (I : Addr) : Addr → Prop := fun a => X a ∨ a = I

theorem Rel.widen (R : Rel C X env ρ α σ s) (E0 : Ext0 env s s') {I : Addr} (h1 : s.heap.objs.size ≤ I) (h2 : I < s'.heap.objs.size) (hno : ∃ o, s'.heap.get? I = some o ∧ NoTup o) : Rel C (Hide X I) env ρ α σ s' := by
  have R' := R.ext0 E0
  have g : Grow (Bad X α) s.heap (Bad (Hide X I) α) s'.heap := fun a o n e => by
    have := E0.ext.grow (α := α) (σ := σ) R a o n e
    refine ⟨this.1, fun q => ?_⟩
    rcases q with (q | q) | q
    · exact n (.inl q)
    · subst q; exact absurd (Heap.lt_size e) (Nat.not_lt.mpr h1)
    · exact n (.inr q)
  have F : FRel C (Hide X I) env ρ α s'.heap := by
    refine ⟨R.fr.kind, R.fr.glob, R.fr.blt, R.fr.kinds, ?_, fun x v e k => ?_, R'.fr.has, R.fr.apart, R.fr.off⟩
    · obtain ⟨m, hm, hl⟩ := R.fr.loc
      exact ⟨m, E0.ns m hm, fun x v e k => let ⟨u, hu, hv⟩ := hl x v e k; ⟨u, hu, hv.grow g (List.prefix_refl _)⟩⟩
    · obtain ⟨c, u, hc, hi, hv⟩ := R.fr.cel x v e k
      exact ⟨c, u, hc, R.cellKept E0.ext hc hi, hv.grow g (List.prefix_refl _)⟩
  refine ⟨R'.bas, F, ⟨R.st.len, R.st.nodup, fun a ha q => ?_, R.st.low, fun n a b o e1 e2 => ?_⟩, fun a ha => .inl (R.fa a ha), R.flow, fun a ha => ?_, fun a ha => ?_⟩
  · rcases q with q | q
    · exact R.st.out a ha q
    · subst q; exact absurd (R.st.lt ha) (Nat.not_lt.mpr h1)
  · exact (R.st.obj n a b o e1 e2) |> fun x => by
      have k : ∀ o, s.heap.get? a = some o → s'.heap.get? a = some o := fun o ho => E0.keep a o ho (R.neLoc (List.mem_of_getElem? e1))
      cases o with
      | list xs => obtain ⟨vs, j, t, r⟩ := x; exact ⟨vs, j, k _ t, r.grow g (List.prefix_refl _)⟩
      | dict ks xs => obtain ⟨vs, t, l, r⟩ := x; exact ⟨vs, dictOf_at t k, l, r.grow g (List.prefix_refl _)⟩
      | inst _ _ _ => exact x.elim
  · rcases ha with q | q
    · exact R'.xlt a q
    · subst q; exact h2
  · rcases ha with q | q
    · exact R'.xnt a q
    · subst q; exact hno

theorem growNarrow {I : Addr} {h : Heap} : Grow (Bad (Hide X I) α) h (Bad X α) h := fun a o n e => ⟨e, fun q => n (q.elim (fun q => .inl (.inl q)) .inr)⟩

theorem Rel.narrow {I : Addr} (R : Rel C (Hide X I) env ρ α σ s) (fa : ∀ a ∈ FA env, X a) : Rel C X env ρ α σ s :=
  R.move growNarrow (fun _ _ _ e => e) (fun _ _ _ e => e) R.bas (fun a ha q => R.st.out a ha (.inl q)) fa (fun a ha => R.xlt a (.inl ha)) fun a ha => R.xnt a (.inl ha)

theorem Rel.butNarrow {I : Addr} {h' : Heap} {t : Nat} (R : Rel C (Hide X I) env ρ α σ s) (fa : ∀ a ∈ FA env, X a) (hI : I ∉ FA env) (nX : ¬ X I) (hb : C.base.objs.size ≤ I) (he : Heap.ExtBut I s.heap h') (hz : s.heap.objs.size ≤ h'.objs.size) :
    Rel C X env ρ α σ { s with heap := h', toks := t } :=
  R.move (fun a o n e => ⟨he a o (fun q => n (.inl (.inr q))) e, fun q => n (q.elim (fun q => .inl (.inl q)) .inr)⟩) (fun a ha o e => he a o (fun q => hI (q ▸ ha)) e) (fun a ha o e => he a o (fun q => R.st.out a ha (.inr q)) e)
    (fun b o e => he b o (fun q => Nat.not_lt.mpr hb (q ▸ Heap.lt_size e)) (R.bas b o e)) (fun a ha q => R.st.out a ha (.inl q)) fa (fun a ha => Nat.lt_of_lt_of_le (R.xlt a (.inl ha)) hz) fun a ha => by
      obtain ⟨o, ho, hn⟩ := R.xnt a (.inl ha)
      exact ⟨o, he a o (fun q => nX (q ▸ ha)) ho, hn⟩

theorem Ext.but {I : Addr} {h' : Heap} {t : Nat} (x : Ext env α σ s α' σ' s') (h0 : s.heap.objs.size ≤ I) (hl : env.locals ≠ I) (he : Heap.ExtBut I s'.heap h') (hz : s'.heap.objs.size ≤ h'.objs.size) :
    Ext env α σ s α' σ' { s' with heap := h', toks := t } :=
  ⟨fun a o e n l => he a o (fun q => Nat.not_lt.mpr h0 (q ▸ Heap.lt_size e)) (x.keep a o e n l), fun m hm => let ⟨o, es, ep, y, r⟩ := x.ns m hm; ⟨o, es, ep, he _ _ hl y, r⟩, x.new, Nat.le_trans x.size hz, x.gens, x.os, x.lock, x.slen⟩
theorem merged_nodup : ∀ (more acc : List (Key × Value)), ((acc ++ more).map (·.1)).Nodup → merged acc more = acc ++ more
  | [], acc, _ => by rw [List.append_nil]; rfl
  | p :: r, acc, h => by
    have hn : p.1 ∉ acc.map (·.1) := fun q => by
      rw [List.map_append, List.map_cons] at h
      exact (List.nodup_append.mp h).2.2 _ q _ (.head _) rfl
    have hs : stored acc p.1 p.2 = acc ++ [p] := by
      unfold stored
      rw [if_neg]
      intro q
      rw [List.any_eq_true] at q
      obtain ⟨y, hy, e⟩ := q
      exact hn (List.mem_map.mpr ⟨y, hy, of_decide_eq_true e⟩)
    show merged (stored acc p.1 p.2) r = _
    rw [hs, merged_nodup r (acc ++ [p]) (by rw [List.append_assoc]; exact h), List.append_assoc]
    rfl
theorem constKeys_cons {x : Option Expr} {r : List (Option Expr)} {js : List Key} (h : constKeys (x :: r) = some js) : ∃ c k p d key js', x = some (.Constant c k p) ∧ constD c = some d ∧ keyOf (.d d) = some key ∧ constKeys r = some js' ∧ js = key :: js' := by
  cases x with
  | none => cases h
  | some e => cases e with
    | Constant c k p =>
      replace h : ((constD c).bind fun d => (keyOf (.d d)).bind fun k => (constKeys r).map (k :: ·)) = some js := h
      simp only [Option.bind_eq_some_iff, Option.map_eq_some_iff] at h
      obtain ⟨d, h1, key, h2, js', h3, rfl⟩ := h
      exact ⟨c, k, p, d, key, js', rfl, h1, h2, h3, rfl⟩
    | _ => cases h
theorem constKeys_all : ∀ {ks : List (Option Expr)} {js : List Key}, constKeys ks = some js → ks.all (·.isSome) = true ∧ js.length = ks.length
  | [], js, h => by cases h; exact ⟨rfl, rfl⟩
  | x :: r, js, h => by
    obtain ⟨c, k, p, d, key, js', rfl, _, _, h3, rfl⟩ := constKeys_cons h
    have ih := constKeys_all h3
    exact ⟨by rw [List.all_cons, ih.1]; rfl, by rw [List.length_cons, List.length_cons, ih.2]⟩
end
end Mine
end

section
set_option autoImplicit false
namespace Mine
open PySem PyProof.Rows PySem.Calls
open PySem.W (Looks)

def EOk (C : Wo) (G : Genv) (A : Around) (env : Env) (e : Expr) : Prop :=
  ∀ (X : Addr → Prop) (ρ : Loc) (α : List Addr) (σ : St) (o : Bool) (v : V) (σ' : St) (s : Shared) (E : Value → Shared → Prop) (Q : Value → Shared → Prop),
    okE G.const env.scope e = true → evE G ρ o e σ = some (v, σ') → Rel C X env ρ α σ s →
    (∀ α' u s', Rel C X env ρ α' σ' s' → Ext env α σ s α' σ' s' → VRel C X α' s'.heap v u → Q u s') → wpAny C.M A (eval e env) Q E s

def EsOk (C : Wo) (G : Genv) (A : Around) (env : Env) (es : List Expr) : Prop :=
  ∀ (X : Addr → Prop) (ρ : Loc) (α : List Addr) (σ : St) (o : Bool) (vs : List V) (σ' : St) (s : Shared) (E : Value → Shared → Prop) (pos : Pos) (Q : List Value → Shared → Prop),
    okEs G.const env.scope es = true → evEs G ρ o es σ = some (vs, σ') → Rel C X env ρ α σ s →
    (∀ α' us s', Rel C X env ρ α' σ' s' → Ext env α σ s α' σ' s' → VsRel C X α' s'.heap vs us → Q us s') → wpAny C.M A (spliced (backTo pos (starEach es env))) Q E s

section
variable {C : Wo} {G : Genv} {X : Addr → Prop} {env : Env} {ρ : Loc} {α α' α'' : List Addr} {σ σ' σ'' : St} {s s' s'' : Shared} {A : Around} {E : Value → Shared → Prop}

theorem EsOk.nil : EsOk C G A env [] := fun X ρ α σ o vs σ' s E pos Q _ h R hQ => by
  simp only [evEs_nil, Option.some.injEq, Prod.mk.injEq] at h
  obtain ⟨rfl, rfl⟩ := h
  exact spliced_nil (hQ α [] s R .refl (by simp only [VsRel]))

theorem EsOk.cons {e : Expr} {r : List Expr} (he : EOk C G A env e) (hr : EsOk C G A env r) : EsOk C G A env (e :: r) := fun X ρ α σ o vs σ' s E pos Q ok h R hQ => by
  simp only [okEs_cons, Bool.and_eq_true] at ok
  simp only [evEs_cons, Option.bind_eq_some_iff, Option.map_eq_some_iff, Prod.mk.injEq] at h
  obtain ⟨⟨v, σ₁⟩, h1, ⟨ws, σ₂⟩, h2, rfl, rfl⟩ := h
  rw [starEach_cons h1]
  refine spliced_cons (he X ρ α σ o v σ₁ s E _ ok.1 h1 R fun α₁ u s₁ R₁ E₁ V₁ => ?_)
  refine hr X ρ α₁ σ₁ o ws σ₂ s₁ E pos _ ok.2 h2 R₁ fun α₂ us s₂ R₂ E₂ V₂ => ?_
  exact hQ α₂ _ s₂ R₂ (E₁.trans E₂) (by simp only [VsRel]; exact ⟨u, us, rfl, V₁.ext R₁ E₂, V₂⟩)

theorem ok_Constant {c : Const} {k : Nat} {pos : Pos} : EOk C G A env (.Constant c k pos) := fun X ρ α σ o v σ' s E Q _ h R hQ => by
  simp only [evE_Constant, Option.map_eq_some_iff, Prod.mk.injEq] at h
  obtain ⟨d, hd, rfl, rfl⟩ := h
  unfold constD at hd
  split at hd <;> cases hd
  · exact Constant_none (hQ α _ s R .refl (by simp only [VRel, DRel]))
  · exact Constant_bool (hQ α _ s R .refl (by simp only [VRel, DRel]))
  · exact fun _ _ _ => hQ α _ _ (R.ext0 (.toks _)) (Ext0.toks _).ext (by simp only [VRel, DRel]; exact ⟨_, rfl⟩)
  · exact Constant_str (hQ α _ _ (R.ext0 (.toks _)) (Ext0.toks _).ext (by simp only [VRel, DRel]; exact ⟨_, rfl⟩))

theorem Rel.gns (W : Wk C G A) (R : Rel C X env ρ α σ s) : s.heap.Ns env.globals C.mg := by rw [R.fr.glob]; exact W.gns.keeps R.bas
theorem Rel.bns (W : Wk C G A) (R : Rel C X env ρ α σ s) : s.heap.Ns env.builtins C.mb := by rw [R.fr.blt]; exact W.bns.keeps R.bas

theorem gi_kind {x : Str} (h : gi env.scope x = true) : env.kindOf x = some .globalImplicit ∧ (x == ("__debug__" : Str)) = false := by
  simp only [gi, Bool.and_eq_true, Bool.not_eq_true', beq_iff_eq] at h
  exact h

theorem ok_Name (W : Wk C G A) {x : Str} {pos : Pos} : EOk C G A env (.Name x pos) := fun X ρ α σ o v σ' s E Q ok h R hQ => by
  simp only [okE_Name, Bool.and_eq_true, Bool.not_eq_true', Bool.or_eq_true] at ok
  obtain ⟨⟨hd, hc⟩, hk⟩ := ok
  simp only [evE_Name] at h
  split at h
  · rename_i u hu
    simp only [Option.some.injEq, Prod.mk.injEq] at h
    obtain ⟨rfl, rfl⟩ := h
    rcases R.fr.kinds x u hu with k | k | k
    · obtain ⟨m, hm, hl⟩ := R.fr.loc
      obtain ⟨w, hw, rw_⟩ := hl x u hu k
      exact wpAny_Name (wpAny_loadName_local R.fr.kind k hm hw (hQ α w s R .refl rw_)) hd
    · obtain ⟨c, w, hl, hi, rw_⟩ := R.fr.cel x u hu (.inl k)
      exact wpAny_Name (wpAny_loadName_cell R.fr.kind k hl hi (hQ α w s R .refl rw_)) hd
    · obtain ⟨c, w, hl, hi, rw_⟩ := R.fr.cel x u hu (.inr k)
      exact wpAny_Name (wpAny_loadName_free R.fr.kind k hl hi (hQ α w s R .refl rw_) hc) hd
  · simp only [Option.map_eq_some_iff, Prod.mk.injEq] at h
    obtain ⟨d, hd', rfl, rfl⟩ := h
    rcases hk with hk | hk
    · rw [hd'] at hk; cases hk
    · obtain ⟨u, hu, rd_⟩ := W.cst x d hd'
      have g := gi_kind hk
      exact Name_function_global R.fr.kind g.1 (loadGlobal_global (R.gns W) hu (hQ α u s R .refl (by simp only [VRel]; exact rd_ _ _))) hd

theorem ok_BinOp {l r : Expr} {op : Operator} {pos : Pos} (hl : EOk C G A env l) (hr : EOk C G A env r) : EOk C G A env (.BinOp l op r pos) := fun X ρ α σ o v σ' s E Q ok h R hQ => by
  simp only [okE_BinOp, Bool.and_eq_true] at ok
  simp only [evE_BinOp, Option.bind_eq_some_iff, Option.map_eq_some_iff] at h
  obtain ⟨⟨a, σ₁⟩, h1, ⟨b, σ₂⟩, h2, w, h3, h4⟩ := h
  refine wpAny_BinOp (hl X ρ α σ _ a σ₁ s E _ ok.1 h1 R fun α₁ u s₁ R₁ E₁ V₁ => ?_)
  refine hr X ρ α₁ σ₁ _ b σ₂ s₁ E _ ok.2 h2 R₁ fun α₂ u₂ s₂ R₂ E₂ V₂ => ?_
  refine binV_ok R₂ (V₁.ext R₁ E₂) V₂ h3 fun x u₃ s₃ e E₃ F => ?_
  subst e
  obtain ⟨α₃, R₃, V₃, E₃'⟩ := own_ok R₂ E₃ F h4
  exact hQ α₃ u₃ s₃ R₃ ((E₁.trans E₂).trans E₃') V₃

theorem ok_UnaryOp {e : Expr} {op : UnaryOp} {pos : Pos} (he : EOk C G A env e) : EOk C G A env (.UnaryOp op e pos) := fun X ρ α σ o v σ' s E Q ok h R hQ => by
  simp only [okE_UnaryOp] at ok
  simp only [evE_UnaryOp, Option.bind_eq_some_iff] at h
  obtain ⟨⟨a, σ₁⟩, h1, h2⟩ := h
  refine UnaryOp_ (he X ρ α σ _ a σ₁ s E _ ok h1 R fun α₁ u s₁ R₁ E₁ V₁ => ?_)
  dsimp only at h2
  split at h2
  · simp only [Option.map_eq_some_iff, Prod.mk.injEq] at h2
    obtain ⟨b, hb, rfl, rfl⟩ := h2
    exact not_of (truthV_ok hb V₁ (hQ α₁ _ s₁ R₁ E₁ (by simp only [VRel, DRel])))
  · split at h2
    · simp only [Option.some.injEq, Prod.mk.injEq] at h2
      obtain ⟨rfl, rfl⟩ := h2
      simp only [VRel, DRel] at V₁
      obtain ⟨t, rfl⟩ := V₁
      exact neg_int (hQ α₁ _ _ (R₁.ext0 (.toks _)) (E₁.trans (Ext0.toks _).ext) (by simp only [VRel, DRel]; exact ⟨_, rfl⟩))
    · cases h2
  · cases h2

theorem mkTup_ok {vs : List V} {us : List Value} (R : Rel C X env ρ α σ s) (r : VsRel C X α s.heap vs us) :
    VRel C X α (s.heap.push { cls := .type "tuple", data := .seq us.toArray }) (mkTup vs) (.ref s.heap.objs.size) := by
  have E0 : Ext0 env s { s with heap := s.heap.push { cls := .type "tuple", data := .seq us.toArray } } := .push _ s.toks
  have t : IsTup (s.heap.push { cls := .type "tuple", data := .seq us.toArray }) s.heap.objs.size us.toArray := ⟨_, Heap.get?_push_size _ rfl, rfl, 0, rfl⟩
  unfold mkTup
  split
  · rename_i ds hd
    rw [allD_map hd] at r
    simp only [VRel]
    exact new_tup R E0 (Nat.le_refl _) t (VsRel.map.mp r)
  · simp only [VRel]
    exact ⟨_, us, rfl, t, R.newBad (Nat.le_refl _), r.ext R (E0.ext (σ := σ))⟩

theorem ok_Tuple {es : List Expr} {x1} {pos : Pos} (hs : EsOk C G A env es) : EOk C G A env (.Tuple es x1 pos) := fun X ρ α σ o v σ' s E Q ok h R hQ => by
  simp only [okE_Tuple, Bool.and_eq_true, decide_eq_true_eq] at ok
  simp only [evE_Tuple, Option.map_eq_some_iff, Prod.mk.injEq] at h
  obtain ⟨⟨vs, σ₁⟩, h1, rfl, rfl⟩ := h
  refine wpAny_Tuple_spliced (hs X ρ α σ o vs σ₁ s E pos _ ok.1 h1 R fun α₁ us s₁ R₁ E₁ V₁ => ⟨?_, ?_⟩)
  · have := V₁.length
    have := evEs_len h1
    rw [sizeLine_eq]; omega
  · exact hQ α₁ _ _ (R₁.ext0 (.push _ _)) (E₁.trans (Ext0.push _ _).ext) (mkTup_ok R₁ V₁)

theorem DsRel.drop {B : Addr → Prop} {h : Heap} : ∀ {xs : List D} {vs : List Value} (n : Nat), DsRel C B h xs vs → DsRel C B h (xs.drop n) (vs.drop n)
  | _, _, 0, r => by simpa using r
  | [], _, n + 1, r => by simp only [DsRel] at r; subst r; simp [DsRel]
  | x :: xs, _, n + 1, r => by
    simp only [DsRel] at r
    obtain ⟨v, r', rfl, _, b⟩ := r
    simpa using DsRel.drop n b
theorem VsRel.drop {h : Heap} : ∀ {xs : List V} {vs : List Value} (n : Nat), VsRel C X α h xs vs → VsRel C X α h (xs.drop n) (vs.drop n)
  | _, _, 0, r => by simpa using r
  | [], _, n + 1, r => by simp only [VsRel] at r; subst r; simp [VsRel]
  | x :: xs, _, n + 1, r => by
    simp only [VsRel] at r
    obtain ⟨v, r', rfl, _, b⟩ := r
    simpa using VsRel.drop n b

theorem ok_List {es : List Expr} {pos : Pos} (hs : EsOk C G A env es) : EOk C G A env (.List es pos) := fun X ρ α σ o v σ' s E Q ok h R hQ => by
  simp only [okE_List, Bool.and_eq_true, decide_eq_true_eq] at ok
  simp only [evE_List, Option.bind_eq_some_iff] at h
  obtain ⟨⟨vs, σ₁⟩, h1, h2⟩ := h
  dsimp only at h2
  refine wpAny_List_spliced (hs X ρ α σ o vs σ₁ s E pos _ ok.1 h1 R fun α₁ us s₁ R₁ E₁ V₁ => ⟨?_, ?_⟩)
  · have := V₁.length
    have := evEs_len h1
    rw [sizeLine_eq]; omega
  · have E0 : Ext0 env s₁ { s₁ with heap := s₁.heap.push { cls := .type "list", data := .seq us.toArray } } := .push _ s₁.toks
    have t : (s₁.heap.push { cls := .type "list", data := .seq us.toArray }).get? s₁.heap.objs.size = some (lobj us.toArray 0) := Heap.get?_push_size _ rfl
    unfold mkList at h2
    split at h2
    · simp only [Option.some.injEq, Prod.mk.injEq] at h2
      obtain ⟨rfl, rfl⟩ := h2
      have hb : C.base.objs.size ≤ s₁.heap.objs.size := Nat.le_trans (R₁.flow env.locals (.head _)) (Nat.le_of_lt (R₁.xlt _ (R₁.fa env.locals (.head _))))
      have g : Grow (Bad X α₁) s₁.heap (Bad X (α₁ ++ [s₁.heap.objs.size])) (s₁.heap.push { cls := .type "list", data := .seq us.toArray }) := fun b q n e => ⟨E0.keep b q e (fun q' => n (.inl (R₁.fa b (by rw [q']; exact .head _)))), fun q' => (bad_snoc q').elim n fun q'' => by
        subst q''; exact absurd (Heap.lt_size e) (Nat.lt_irrefl _)⟩
      obtain ⟨R', E'⟩ := adoptRel R₁ E0 (o := .list vs) (Nat.le_refl _) hb ⟨us, 0, t, V₁.grow g ⟨_, rfl⟩⟩
      exact hQ _ _ _ R' (E₁.trans E') (by simp only [VRel]; exact ⟨_, by rw [← R₁.st.len]; simp, rfl⟩)
    · simp only [Option.map_eq_some_iff, Prod.mk.injEq] at h2
      obtain ⟨ds, hd, rfl, rfl⟩ := h2
      rw [allD_map hd] at V₁
      have F := fresh_list (k := 0) R₁ E0 (Nat.le_refl _) t (VsRel.map.mp V₁)
      exact hQ α₁ _ _ (R₁.ext0 E0) (E₁.trans E0.ext) (by simp only [VRel]; exact F.rel)

theorem sliceV_ok (R : Rel C X env ρ α σ s) {o v : V} {uo ul : Value} {n : Nat} {k : Int} {t : Tok} {value slice : Expr} {Q : Value → Shared → Prop} {sl : Addr} (ho : VRel C X α s.heap o uo) (hul : ul = .int k t) (hk : natV (.d (.int k)) = some n)
    (h : sliceV σ o n none = some v) (hs : s.heap.IsSliceOf sl ul .none .none)
    (hQ : ∀ x u s', v = .d x → Ext0 env s s' → FreshRel C (Bad X α) s'.heap s.heap.objs.size x u → Q u s') : wpAny C.M A (subscriptTail value slice uo (.ref sl)) Q E s := by
  subst hul
  have hk' : k = (n : Int) := by
    unfold natV at hk
    dsimp only at hk
    split at hk
    · cases hk; omega
    · cases hk
  have ofList : ∀ {a : Addr} {ds : List D} {vs : List Value}, uo = .ref a → s.heap.IsList a vs.toArray → DsRel C (Bad X α) s.heap ds vs → ds.length < 100000 → v = .d (.list (cutL ds n none)) → wpAny C.M A (subscriptTail value slice uo (.ref sl)) Q E s := by
    intro a ds vs e1 tl r hz e2
    subst e1
    have hl := r.length
    refine tail_of tl.typeIs (id := "list.__getitem__") (by rfl) (wpAny_getItem_list_slice tl hs (.int _ _) .none .none (by intro q; cases q) ?_ (by simp only [List.size_toArray]; rw [sizeLine_eq]; omega))
    rw [hk', slicePick_from']
    have E0 : Ext0 env s { s with heap := s.heap.push { cls := .type "list", data := .seq (vs.drop n).toArray } } := .push _ s.toks
    refine hQ _ _ _ e2 E0 (fresh_list (k := 0) R E0 (Nat.le_refl _) (Heap.get?_push_size _ rfl) ?_)
    exact r.drop n
  unfold sliceV at h
  split at h
  · rename_i xs
    split at h
    · rename_i hz
      simp only [VRel, DRel] at ho
      obtain ⟨a, vs, rfl, tl, nb, r⟩ := ho
      cases h
      exact ofList rfl tl r hz rfl
    · cases h
  · rename_i m
    split at h
    · rename_i xs hg
      split at h
      · rename_i hz
        obtain ⟨a, vs, rfl, hn, ⟨j, tl⟩, r⟩ := R.objList ho hg
        simp only [Option.map_eq_some_iff] at h
        obtain ⟨ds, hd, rfl⟩ := h
        have hd' := allD_map hd
        simp only [cutL] at hd'
        have hl := r.length
        refine tail_of (lobj_isList tl).typeIs (id := "list.__getitem__") (by rfl) (wpAny_getItem_list_slice (lobj_isList tl) hs (.int _ _) .none .none (by intro q; cases q) ?_ (by simp only [List.size_toArray]; rw [sizeLine_eq]; omega))
        rw [hk', slicePick_from']
        have E0 : Ext0 env s { s with heap := s.heap.push { cls := .type "list", data := .seq (vs.drop n).toArray } } := .push _ s.toks
        refine hQ _ _ _ rfl E0 (fresh_list (k := 0) R E0 (Nat.le_refl _) (Heap.get?_push_size _ rfl) ?_)
        have r' := r.drop n
        rw [hd'] at r'
        exact VsRel.map.mp r'
      · cases h
    · cases h
  · cases h

theorem natV_int {v : V} {n : Nat} (h : natV v = some n) : ∃ k, v = .d (.int k) := by
  cases v with
  | d x => cases x <;> first | exact ⟨_, rfl⟩ | simp [natV] at h
  | obj _ => simp [natV] at h
  | tup _ => simp [natV] at h

theorem ok_Subscript {e i : Expr} {pos : Pos} (he : EOk C G A env e) (hi : EOk C G A env i) (hlo : ∀ lo hi st p, i = .Slice (some lo) hi st p → EOk C G A env lo) : EOk C G A env (.Subscript e i pos) := fun X ρ α σ o v σ' s E Q ok h R hQ => by
  cases hs : isSlice i with
  | false =>
    rw [okE_Item hs, Bool.and_eq_true] at ok
    rw [evE_Item hs] at h
    simp only [Option.bind_eq_some_iff, Option.map_eq_some_iff, Prod.mk.injEq] at h
    obtain ⟨⟨ov, σ₁⟩, h1, ⟨iv, σ₂⟩, h3, w, h4, rfl, rfl⟩ := h
    refine Subscript_ (he X ρ α σ _ ov σ₁ s E _ ok.1 h1 R fun α₁ u s₁ R₁ E₁ V₁ => ?_)
    refine hi X ρ α₁ σ₁ _ iv σ₂ s₁ E _ ok.2 h3 R₁ fun α₂ ui s₂ R₂ E₂ V₂ => ?_
    exact getItemV_ok R₂ (V₁.ext R₁ E₂) V₂ h4 fun u₃ t hv => hQ α₂ u₃ _ (R₂.ext0 (.toks t)) ((E₁.trans E₂).trans (Ext0.toks t).ext) hv
  | true =>
    obtain ⟨lo, hi', st, p, rfl⟩ := isSlice_ex hs
    rw [okE_Slice, Bool.and_eq_true] at ok
    obtain ⟨ok1, ok2⟩ := ok
    cases st with
    | some _ => cases lo <;> cases hi' <;> cases ok2
    | none => cases hi' with
      | some _ => cases lo <;> cases ok2
      | none => cases lo with
        | none => cases ok2
        | some lo' =>
          dsimp only at ok2
          rw [evE_Slice] at h
          simp only [Option.bind_eq_some_iff, Option.map_eq_some_iff] at h
          obtain ⟨⟨ov, σ₁⟩, h1, ⟨lv, σ₂⟩, h3, n, h4, w, h5, h6⟩ := h
          refine Subscript_ (he X ρ α σ _ ov σ₁ s E _ ok1 h1 R fun α₁ u s₁ R₁ E₁ V₁ => ?_)
          refine wpAny_Slice ?_
          rw [evalPart_some]
          refine hlo _ _ _ _ rfl X ρ α₁ σ₁ _ lv σ₂ s₁ E _ ok2 h3 R₁ fun α₂ ul s₂ R₂ E₂ V₂ => ?_
          refine wpAny_pure (wpAny_pure ?_)
          have hlv := natV_int h4
          obtain ⟨k, rfl⟩ := hlv
          simp only [VRel, DRel] at V₂
          obtain ⟨t, rfl⟩ := V₂
          have E0 : Ext0 env s₂ { s₂ with heap := s₂.heap.push { cls := .type "slice", data := .fields #[.int k t, .none, .none] } } := .push _ s₂.toks
          have R₃ := R₂.ext0 E0
          refine sliceV_ok R₃ ((V₁.ext R₁ E₂).ext R₂ E0.ext) rfl h4 h5 (Heap.IsSliceOf.new _ _ _ _) fun x u₄ s₄ e E₄ F => ?_
          subst e
          obtain ⟨α₅, R₅, V₅, E₅⟩ := own_ok R₃ E₄ F h6
          exact hQ α₅ u₄ s₄ R₅ (((E₁.trans E₂).trans E0.ext).trans E₅) V₅

/-- keys and values of a dict display -/
theorem pairs_ok {pos : Pos} {X : Addr → Prop} {ρ : Loc} : ∀ {keys : List (Option Expr)} {values : List Expr} {js : List Key} {vs : List V} {α : List Addr} {σ σ' : St} {s : Shared} {Q : List (Value × Value) → Shared → Prop},
    constKeys keys = some js → keys.length = values.length → (∀ e ∈ values, EOk C G A env e) → okEs G.const env.scope values = true → evEs G ρ false values σ = some (vs, σ') → Rel C X env ρ α σ s →
    (∀ α' us kvs s', Rel C X env ρ α' σ' s' → Ext env α σ s α' σ' s' → VsRel C X α' s'.heap vs us → Carries C.kk kvs (js.zip us) → Q kvs s') → wpAny C.M A (evalPairs (pairTrees keys values env pos)) Q E s
  | [], [], js, vs, α, σ, σ', s, Q, h, _, _, _, ev, R, hQ => by
    cases h
    rw [evEs_nil] at ev
    simp only [Option.some.injEq, Prod.mk.injEq] at ev
    obtain ⟨rfl, rfl⟩ := ev
    exact wpAny_pure (hQ α [] [] s R .refl (by simp only [VsRel]) trivial)
  | [], _ :: _, js, vs, α, σ, σ', s, Q, _, hl, _, _, _, _, _ => nomatch hl
  | _ :: _, [], js, vs, α, σ, σ', s, Q, _, hl, _, _, _, _, _ => nomatch hl
  | x :: ks, e :: es, js, vs, α, σ, σ', s, Q, h, hl, he, ok, ev, R, hQ => by
    obtain ⟨c, k, p, d, key, js', rfl, h1, h2, h3, rfl⟩ := constKeys_cons h
    rw [okEs_cons, Bool.and_eq_true] at ok
    simp only [evEs_cons, Option.bind_eq_some_iff, Option.map_eq_some_iff, Prod.mk.injEq] at ev
    obtain ⟨⟨v, σ₁⟩, e1, ⟨ws, σ₂⟩, e2, rfl, rfl⟩ := ev
    refine wpAny_bind (ok_Constant (G := G) (k := k) X ρ α σ false (.d d) σ s E _ rfl (by rw [evE_Constant, h1]; rfl) R fun α₀ uk s₀ R₀ E₀ V₀ => ?_)
    refine wpAny_bind (wpAny_holding (wpAny_bind (he e (.head _) X ρ α₀ σ _ v σ₁ s₀ E _ ok.1 e1 R₀ fun α₁ u s₁ R₁ E₁ V₁ => ?_)))
    refine wpAny_bind (wpAny_standAt (wpAny_pure ?_))
    refine wpAny_bind (wpAny_holding ?_)
    refine pairs_ok h3 (Nat.succ.inj hl) (fun e' h' => he e' (.tail _ h')) ok.2 e2 R₁ fun α₂ us kvs s₂ R₂ E₂ V₂ hc => ?_
    exact wpAny_pure (hQ α₂ (u :: us) _ s₂ R₂ ((E₀.trans E₁).trans E₂) (by simp only [VsRel]; exact ⟨u, us, rfl, V₁.ext R₁ E₂, V₂⟩) ⟨keyOf_is h2 V₀, rfl, hc⟩)

theorem ok_Dict {ks : List (Option Expr)} {vs : List Expr} {pos : Pos} (he : ∀ e ∈ vs, EOk C G A env e) : EOk C G A env (.Dict ks vs pos) := fun X ρ α σ o v σ' s E Q ok h R hQ => by
  have E0 : Ext0 env s { s with heap := s.heap.push { cls := .type "dict", data := .dict #[] } } := .push _ s.toks
  cases ks with
  | nil => cases vs with
    | cons _ _ => rw [evE_Dict0'] at h; cases h
    | nil =>
      rw [evE_Dict0, Option.some.injEq] at h
      refine wpAny_Dict_empty ?_
      obtain ⟨α₃, R₃, V₃, E₃⟩ := own_ok R E0 (fresh_dict (ks := []) (xs := []) (vs := []) R E0 (Nat.le_refl _) (Heap.DictOf.new _) rfl (by simp only [DsRel])) h
      exact hQ α₃ _ _ R₃ E₃ V₃
  | cons k ks =>
    rw [okE_Dict] at ok
    cases o with
    | true => rw [evE_Dict, if_pos rfl] at h; cases h
    | false =>
      rw [evE_Dict] at h
      simp only [Bool.false_eq_true, if_false, Option.bind_eq_some_iff] at h
      obtain ⟨js, h1, ⟨ws, σ₁⟩, h2, h3⟩ := h
      dsimp only at h3
      unfold mkDict at h3
      split at h3
      · rename_i hk
        simp only [Option.map_eq_some_iff, Prod.mk.injEq] at h3
        obtain ⟨ds, hd, rfl, rfl⟩ := h3
        have hall := constKeys_all h1
        have hlen : (k :: ks).length = vs.length := by rw [← hall.2, hk.1]; exact evEs_len h2
        have hz : s.heap.objs.size < (s.heap.push { cls := .type "dict", data := .dict #[] }).objs.size := by rw [Heap.size_push]; exact Nat.lt_succ_self _
        have hI : s.heap.objs.size ∉ FA env := fun q => Nat.lt_irrefl _ (R.xlt _ (R.fa _ q))
        have hbs : C.base.objs.size ≤ s.heap.objs.size := Nat.le_trans (R.flow env.locals (.head _)) (Nat.le_of_lt (R.xlt _ (R.fa env.locals (.head _))))
        have R₁ := R.widen E0 (I := s.heap.objs.size) (Nat.le_refl _) hz ⟨_, Heap.get?_push_size _ rfl, fun _ _ q => nomatch q.2⟩
        have hn := pairTrees_length (k :: ks) vs env pos hall.1 hlen
        refine wpAny_Dict_pairs (knd := C.kk) (zip_pairTrees (k :: ks) vs env pos hall.1 hlen) (fun q => by rw [q] at hn; cases hn) (by rw [hn, ← hall.2]; exact hk.2.1) ?_
        refine pairs_ok h1 hlen he ok h2 R₁ fun α₂ us kvs s₂ R₂ E₂ V₂ hc => ?_
        have hnl : s.heap.objs.size ≠ env.locals := fun q => hI (by rw [q]; exact .head _)
        have hna : s.heap.objs.size ∉ α := fun q => Nat.lt_irrefl _ (R.st.lt q)
        refine ⟨js.zip us, hc, dictOf_at (Heap.DictOf.new s.heap) fun o ho => E₂.keep _ o ho hnl fun n hn => absurd (List.mem_of_getElem? hn) hna, fun h' hd' hs' => ?_⟩
        have hul : js.length = us.length := by rw [hk.1]; exact V₂.length
        have hnd : ((js.zip us).map (·.1)).Nodup := by rw [List.map_fst_zip (Nat.le_of_eq hul)]; exact hk.2.2
        rw [merged_nodup (js.zip us) [] hnd, List.nil_append] at hd'
        have hsz : s₂.heap.objs.size ≤ h'.objs.size := Nat.le_of_eq hs'.1.symm
        have nb : ¬ Bad X α₂ s.heap.objs.size := fun q => q.elim (fun q => Nat.lt_irrefl _ (R.xlt _ q)) fun q => R₂.st.out _ q (.inr rfl)
        refine hQ α₂ _ _ (R₂.butNarrow R.fa hI (fun q => Nat.lt_irrefl _ (R.xlt _ q)) hbs hs'.extBut hsz) ((E0.ext.trans E₂).but (Nat.le_refl _) (Ne.symm hnl) hs'.extBut hsz) ?_
        rw [allD_map hd] at V₂
        simp only [VRel, DRel]
        refine ⟨_, us, rfl, hd', hul, hbs, nb, (VsRel.map.mp V₂).grow fun b o n e => ⟨hs'.extBut b o (fun q => n (.inl (.inr q))) e, fun q => n (q.elim (fun q => .inl (.inl q)) .inr)⟩⟩
      · cases h3

def BOk (C : Wo) (G : Genv) (A : Around) (env : Env) (es : List Expr) : Prop :=
  ∀ (X : Addr → Prop) (ρ : Loc) (α : List Addr) (σ : St) (op : BoolOp) (v : V) (σ' : St) (s : Shared) (E : Value → Shared → Prop) (pos : Pos) (Q : Value → Shared → Prop),
    okEs G.const env.scope es = true → evB G ρ op es σ = some (v, σ') → Rel C X env ρ α σ s →
    (∀ α' u s', Rel C X env ρ α' σ' s' → Ext env α σ s α' σ' s' → VRel C X α' s'.heap v u → Q u s') → wpAny C.M A (eval (.BoolOp op es pos) env) Q E s

theorem BOk.nil : BOk C G A env [] := fun X ρ α σ op v σ' s E pos Q _ h _ _ => by simp only [evB_nil] at h; cases h

theorem BOk.cons {e : Expr} {r : List Expr} (he : EOk C G A env e) (hr : BOk C G A env r) : BOk C G A env (e :: r) := fun X ρ α σ op v σ' s E pos Q ok h R hQ => by
  simp only [okEs_cons, Bool.and_eq_true] at ok
  cases r with
  | nil =>
    simp only [evB_one, Option.bind_eq_some_iff] at h
    obtain ⟨⟨w, σ₁⟩, h1, h2⟩ := h
    cases h2
    exact BoolOp_one (he X ρ α σ _ _ _ s E _ ok.1 h1 R hQ)
  | cons e₂ r =>
    simp only [evB_more, Option.bind_eq_some_iff] at h
    obtain ⟨⟨w, σ₁⟩, h1, b, h2, h3⟩ := h
    cases op with
    | And =>
      refine BoolOp_and (he X ρ α σ _ w σ₁ s E _ ok.1 h1 R fun α₁ u s₁ R₁ E₁ V₁ => truthV_ok h2 V₁ ?_)
      cases b with
      | false => cases h3; exact hQ α₁ u s₁ R₁ E₁ V₁
      | true => exact hr X ρ α₁ σ₁ .And v σ' s₁ E pos _ ok.2 h3 R₁ fun α₂ u₂ s₂ R₂ E₂ V₂ => hQ α₂ u₂ s₂ R₂ (E₁.trans E₂) V₂
    | Or =>
      refine BoolOp_or (he X ρ α σ _ w σ₁ s E _ ok.1 h1 R fun α₁ u s₁ R₁ E₁ V₁ => truthV_ok h2 V₁ ?_)
      cases b with
      | true => cases h3; exact hQ α₁ u s₁ R₁ E₁ V₁
      | false => exact hr X ρ α₁ σ₁ .Or v σ' s₁ E pos _ ok.2 h3 R₁ fun α₂ u₂ s₂ R₂ E₂ V₂ => hQ α₂ u₂ s₂ R₂ (E₁.trans E₂) V₂

theorem ok_BoolOp {op : BoolOp} {es : List Expr} {pos : Pos} (hs : BOk C G A env es) : EOk C G A env (.BoolOp op es pos) := fun X ρ α σ o v σ' s E Q ok h R hQ => by
  simp only [okE_BoolOp] at ok
  simp only [evE_BoolOp] at h
  exact hs X ρ α σ op v σ' s E pos Q ok h R hQ

/-- a chain of comparisons, once as a value and once as a test -/
def COk (C : Wo) (G : Genv) (A : Around) (env : Env) (es : List Expr) : Prop :=
  ∀ (X : Addr → Prop) (ρ : Loc) (α : List Addr) (σ : St) (a : V) (ua : Value) (ops : List CmpOp) (b : Bool) (σ' : St) (s : Shared) (E : Value → Shared → Prop) (pos : Pos),
    okEs G.const env.scope es = true → evC G ρ a ops es σ = some (b, σ') → Rel C X env ρ α σ s → VRel C X α s.heap a ua →
    (∀ Q : Value → Shared → Prop, (∀ α' s', Rel C X env ρ α' σ' s' → Ext env α σ s α' σ' s' → Q (.bool b) s') → wpAny C.M A (compareChain pos ua ops (evalEach es env)) Q E s) ∧
    (∀ Q : Bool → Shared → Prop, (∀ α' s', Rel C X env ρ α' σ' s' → Ext env α σ s α' σ' s' → Q b s') → wpAny C.M A (testChain pos ua ops (evalEach es env)) Q E s)

theorem COk.nil : COk C G A env [] := fun X ρ α σ a ua ops b σ' s E pos _ h _ _ => by rw [evC_nil] at h; cases h

theorem COk.cons (W : Wk C G A) {e : Expr} {r : List Expr} (he : EOk C G A env e) (hr : COk C G A env r) : COk C G A env (e :: r) := fun X ρ α σ a ua ops b σ' s E pos ok h R hua => by
  simp only [okEs_cons, Bool.and_eq_true] at ok
  cases ops with
  | nil => rw [evC_nil'] at h; cases h
  | cons op ops =>
    simp only [evC_cons, Option.bind_eq_some_iff] at h
    obtain ⟨⟨w, σ₁⟩, h1, c, h2, h3⟩ := h
    dsimp only at h2 h3
    cases ops with
    | nil =>
      cases r with
      | cons _ _ => cases h3
      | nil =>
        cases h3
        refine ⟨fun Q hQ => chain_last ?_, fun Q hQ => test_last ?_⟩
        · refine he X ρ α σ _ w _ s E _ ok.1 h1 R fun α₁ u s₁ R₁ E₁ V₁ => ?_
          exact cmpV_ok W.h2 W.hu R₁ (hua.ext R E₁) V₁ h2 fun t => hQ α₁ _ (R₁.ext0 (.toks t)) (E₁.trans (Ext0.toks t).ext)
        · refine he X ρ α σ _ w _ s E _ ok.1 h1 R fun α₁ u s₁ R₁ E₁ V₁ => ?_
          exact cmpV_ok W.h2 W.hu R₁ (hua.ext R E₁) V₁ h2 fun t => wpAny_truthy_bool (hQ α₁ _ (R₁.ext0 (.toks t)) (E₁.trans (Ext0.toks t).ext))
    | cons op' ops =>
      cases r with
      | nil =>
        cases h3
      | cons e' r =>
        dsimp only at h3
        refine ⟨fun Q hQ => chain_link ?_, fun Q hQ => test_link ?_⟩
        · refine he X ρ α σ _ w _ s E _ ok.1 h1 R fun α₁ u s₁ R₁ E₁ V₁ => ?_
          refine cmpV_ok W.h2 W.hu R₁ (hua.ext R E₁) V₁ h2 fun t => wpAny_truthy_bool ?_
          have R₂ := R₁.ext0 (.toks t)
          have E₂ : Ext env α σ s α₁ σ₁ { s₁ with toks := t } := E₁.trans (Ext0.toks t).ext
          cases c with
          | false => simp at h3; obtain ⟨rfl, rfl⟩ := h3; exact hQ α₁ _ R₂ E₂
          | true => exact (hr X ρ α₁ σ₁ w u _ b σ' _ E pos ok.2 h3 R₂ (V₁.ext R₁ (Ext0.toks t).ext)).1 Q fun α₃ s₃ R₃ E₃ => hQ α₃ s₃ R₃ (E₂.trans E₃)
        · refine he X ρ α σ _ w _ s E _ ok.1 h1 R fun α₁ u s₁ R₁ E₁ V₁ => ?_
          refine cmpV_ok W.h2 W.hu R₁ (hua.ext R E₁) V₁ h2 fun t => wpAny_truthy_bool ?_
          have R₂ := R₁.ext0 (.toks t)
          have E₂ : Ext env α σ s α₁ σ₁ { s₁ with toks := t } := E₁.trans (Ext0.toks t).ext
          cases c with
          | false => simp at h3; obtain ⟨rfl, rfl⟩ := h3; exact hQ α₁ _ R₂ E₂
          | true => exact (hr X ρ α₁ σ₁ w u _ b σ' _ E pos ok.2 h3 R₂ (V₁.ext R₁ (Ext0.toks t).ext)).2 Q fun α₃ s₃ R₃ E₃ => hQ α₃ s₃ R₃ (E₂.trans E₃)

end
end Mine
end

section
set_option autoImplicit false
namespace Mine
open PySem PyProof.Rows PySem.Calls
open PySem.W (Looks)

section
variable {C : Wo} {G : Genv} {X : Addr → Prop} {env : Env} {ρ : Loc} {α α' α'' : List Addr} {σ σ' σ'' : St} {s s' s'' : Shared} {A : Around} {E : Value → Shared → Prop}

theorem attributeBase_plain {o : Expr} {name : Str} {w : Sem Value} (h : notBare o = true) : attributeBase o name env w = w := by
  cases o with
  | Call f as ks p => cases f with
    | Name n q => cases as with
      | cons _ _ => rfl
      | nil => cases ks with
        | cons _ _ => rfl
        | nil => exact absurd h Bool.false_ne_true
    | _ => rfl
  | _ => rfl

theorem isi_ok (W : Wk C G A) (R : Rel C X env ρ α σ s) {t : Str} {v : V} {u : Value} {b : Bool} (ht : typeNames.contains t = true) (h : isiV σ t v = some b) (r : VRel C X α s.heap v u) :
    ∃ T, C.mg t = none ∧ C.mb t = some (.type T) ∧ ∀ (s' : Shared) (Q : Value → Shared → Prop), s' = s → (∀ t, Q (.bool b) { s with toks := t }) → wpAny C.M A (call (.builtin "isinstance") [u, .type T]) Q E s' := by
  simp only [typeNames, List.contains_eq_mem, List.mem_cons, List.not_mem_nil, or_false, decide_eq_true_eq] at ht
  rcases ht with rfl | rfl | rfl | rfl | rfl
  · obtain ⟨a, b⟩ := W.tys "int" (by simp [typeStrs]); exact ⟨_, a, b, fun s' Q e q => by subst e; exact isi_int R h r q⟩
  · obtain ⟨a, b⟩ := W.tys "bool" (by simp [typeStrs]); exact ⟨_, a, b, fun s' Q e q => by subst e; exact isi_bool R h r q⟩
  · obtain ⟨a, b⟩ := W.tys "str" (by simp [typeStrs]); exact ⟨_, a, b, fun s' Q e q => by subst e; exact isi_str R h r q⟩
  · obtain ⟨a, b⟩ := W.tys "tuple" (by simp [typeStrs]); exact ⟨_, a, b, fun s' Q e q => by subst e; exact isi_tuple R h r q⟩
  · obtain ⟨a, b⟩ := W.tys "dict" (by simp [typeStrs]); exact ⟨_, a, b, fun s' Q e q => by subst e; exact isi_dict R h r q⟩

theorem keeper_bf (M : Model) (h : Heap) (b : Bf) : Looks M h (keeperOf (bfVal b)) .machine := by
  cases b <;> first | exact keeper_builtin _ _ _ | exact keeper_type _ _ _

theorem ok_CallName (W : Wk C G A) {f : Str} {p pos : Pos} {args : List Expr} {ks : List Keyword} (hs : EsOk C G A env args) (hx : ∀ x t, args = [x, t] → EOk C G A env x) : EOk C G A env (.Call (.Name f p) args ks pos) := fun X ρ α σ o v σ' s E Q ok h R hQ => by
  cases ks with
  | cons _ _ => rw [okE_CallK, Bool.and_false] at ok; cases ok
  | nil =>
    rw [okE_CallN] at ok
    simp only [Bool.and_eq_true] at ok
    obtain ⟨ok1, hg, ok3⟩ := ok
    have g := gi_kind hg
    show wpAny C.M A (do callWith pos (← eval (.Name f p) env) [] (backTo pos (starEach args env)) []) Q E s
    refine wpAny_bind ?_
    by_cases hf : f = "isinstance"
    · subst hf
      rw [if_pos rfl] at ok3
      rw [evE_Isi] at h
      split at h
      · rename_i x t
        simp only [Option.bind_eq_some_iff] at h
        obtain ⟨⟨w, σ₁⟩, h1, tn, h2, h3⟩ := h
        dsimp only at h3
        split at h3
        · rename_i htn
          simp only [Option.map_eq_some_iff, Prod.mk.injEq] at h3
          obtain ⟨b, hb, rfl, rfl⟩ := h3
          cases t with
          | Name tn' tp =>
            cases h2
            have gt := gi_kind (show gi env.scope tn = true from ok3)
            simp only [okEs_cons, Bool.and_eq_true] at ok1
            refine Name_function_global R.fr.kind g.1 (loadGlobal_builtin (R.gns W) W.isi.1 (R.bns W) W.isi.2 ?_) g.2
            refine PySem.W.callWith_of (P := fun _ => True) (by rw [starEach_cons h1]; rfl) (fun h _ => ⟨_, .inr (.inl rfl), keeper_builtin _ _ _⟩) ?_
            rw [starEach_cons h1]
            refine evalArgs_plain (spliced_cons (hx x _ rfl X ρ α σ _ w σ₁ s E _ ok1.1 h1 R fun α₁ u s₁ R₁ E₁ V₁ => ?_))
            obtain ⟨T, e1, e2, k⟩ := isi_ok (E := E) W R₁ htn hb V₁
            refine spliced_cons (Name_function_global R₁.fr.kind gt.1 (loadGlobal_builtin (R₁.gns W) e1 (R₁.bns W) e2 ?_) gt.2)
            refine spliced_nil ⟨trivial, ?_⟩
            exact k s₁ Q rfl fun t => hQ α₁ _ _ (R₁.ext0 (.toks t)) (E₁.trans (Ext0.toks t).ext) (by simp only [VRel, DRel])
          | _ => cases h2
        · cases h3
      · cases h
    · rw [evE_CallN hf] at h
      split at h
      · rename_i b hb
        simp only [Option.bind_eq_some_iff, Option.map_eq_some_iff] at h
        obtain ⟨⟨vs, σ₁⟩, h1, w, h2, h3⟩ := h
        have hbf := W.bf f b hb
        refine Name_function_global R.fr.kind g.1 (loadGlobal_builtin (R.gns W) hbf.1 (R.bns W) hbf.2 ?_) g.2
        refine call_with (P := fun _ => True) h1 (fun h _ => ⟨_, .inr (.inl rfl), keeper_bf _ _ _⟩) ?_
        refine hs X ρ α σ _ vs σ₁ s E pos _ ok1 h1 R fun α₁ us s₁ R₁ E₁ V₁ => ⟨trivial, ?_⟩
        rw [List.nil_append]
        refine bfV_ok W.h2 W.hh R₁ V₁ h2 fun x u s₂ e E₂ F => ?_
        subst e
        obtain ⟨α₃, R₃, V₃, E₃⟩ := own_ok R₁ E₂ F h3
        exact hQ α₃ u s₂ R₃ (E₁.trans E₃) V₃
      · split at h
        · rename_i hfn
          simp only [Option.bind_eq_some_iff, Option.map_eq_some_iff] at h
          obtain ⟨⟨vs, σ₁⟩, h1, ⟨w, σ₂⟩, h2, h3⟩ := h
          obtain ⟨a, ob, fd, e1, e2, e3, hc⟩ := W.fns f hfn
          refine Name_function_global R.fr.kind g.1 (loadGlobal_global (R.gns W) e1 ?_) g.2
          refine call_with (P := fun h => h.get? a = some ob) h1 (fun h hh => ⟨_, .inl rfl, keeper_fn hh e3⟩) ?_
          refine hs X ρ α σ _ vs σ₁ s E pos _ ok1 h1 R fun α₁ us s₁ R₁ E₁ V₁ => ⟨R₁.bas _ _ e2, ?_⟩
          rw [List.nil_append]
          refine hc X env ρ α₁ σ₁ s₁ E Q vs us w σ₂ R₁ V₁ h2 fun x u s₂ e e' E₂ F D₂ => ?_
          subst e e'
          dsimp only at h3
          cases hfr : G.fresh f with
          | true =>
            obtain ⟨α₃, R₃, V₃, E₃⟩ := own_ok R₁ E₂ (F hfr) h3
            exact hQ α₃ u s₂ R₃ (E₁.trans E₃) V₃
          | false =>
            rw [hfr, Bool.and_false] at h3
            simp only [own, Bool.false_eq_true, if_false, Prod.mk.injEq] at h3
            obtain ⟨rfl, rfl⟩ := h3
            exact hQ α₁ u s₂ (R₁.ext0 E₂) (E₁.trans E₂.ext) (by simp only [VRel]; exact D₂)
        · rw [W.cls f] at h
          simp at h

theorem ok_CallMeth {e : Expr} {m : Str} {apos pos : Pos} {args : List Expr} {ks : List Keyword} (he : EOk C G A env e) (hs : EsOk C G A env args) : EOk C G A env (.Call (.Attribute e m apos) args ks pos) := fun X ρ α σ o v σ' s E Q ok h R hQ => by
  cases ks with
  | cons _ _ => rw [okE_CallK, Bool.and_false] at ok; cases ok
  | nil =>
    rw [okE_CallM] at ok
    simp only [Bool.and_eq_true, decide_eq_true_eq] at ok
    obtain ⟨ok1, ⟨⟨oke, hb⟩, hl⟩, hn⟩ := ok
    rw [evE_CallM] at h
    simp only [Option.bind_eq_some_iff] at h
    obtain ⟨⟨ov, σ₁⟩, h1, h2⟩ := h
    dsimp only at h2
    have key : ∀ α₁ u s₁, Rel C X env ρ α₁ σ₁ s₁ → VRel C X α₁ s₁.heap ov u → clsOf σ₁ ov = none := fun α₁ u s₁ R₁ V₁ => by
      unfold clsOf
      split
      · rename_i n
        split
        · rename_i c ks vs hg
          simp only [VRel] at V₁
          obtain ⟨a, e, rfl⟩ := V₁
          simp only [oget, Option.map_eq_some_iff] at hg
          obtain ⟨⟨b, q⟩, hq, rfl⟩ := hg
          exact (R₁.st.obj n a b _ e hq).elim
        · rfl
      · rfl
    cases hc : clsOf σ₁ ov with
    | some c =>
      rw [hc] at h2
      simp only [Option.bind_eq_some_iff] at h2
      obtain ⟨⟨vs, σ₂⟩, h4, _⟩ := h2
      refine wpAny_Call_method_late (attributeBase_plain hb) ?_ hl rfl ?_
      · have := evEs_plain (env := env) (pos := pos) h4
        have e : (backTo pos (starEach args env)).all (fun x => !x.1) = true := by
          rw [List.all_eq_not_any_not]; simpa using this
        rw [e]
        rw [show keywordEach [] env = [] from rfl]; simp [backToKw]; omega
      · refine he X ρ α σ _ ov σ₁ s E _ oke h1 R fun α₁ u s₁ R₁ E₁ V₁ => ?_
        rw [key α₁ u s₁ R₁ V₁] at hc
        cases hc
    | none =>
      rw [hc] at h2
      simp only [Option.bind_eq_some_iff] at h2
      obtain ⟨k, h3, ⟨vs, σ₂⟩, h4, h5⟩ := h2
      refine wpAny_Call_method_late (attributeBase_plain hb) ?_ hl rfl ?_
      · have := evEs_plain (env := env) (pos := pos) h4
        have e : (backTo pos (starEach args env)).all (fun x => !x.1) = true := by
          rw [List.all_eq_not_any_not]; simpa using this
        rw [e]
        rw [show keywordEach [] env = [] from rfl]; simp [backToKw]; omega
      · refine he X ρ α σ _ ov σ₁ s E _ oke h1 R fun α₁ u s₁ R₁ E₁ V₁ => ?_
        refine mkOf_ok R₁ h3 V₁ ?_
        refine call_with (P := fun _ => True) h4 (fun h _ => ⟨_, .inr (.inl rfl), keeper_builtin _ _ _⟩) ?_
        refine hs X ρ α₁ σ₁ _ vs σ₂ s₁ E pos _ ok1 h4 R₁ fun α₂ us s₂ R₂ E₂ V₂ => ⟨trivial, ?_⟩
        exact methV_ok R₂ (V₁.ext R₁ E₂) V₂ h5 fun u₃ s₃ R₃ E₃ V₃ => hQ α₂ u₃ s₃ R₃ ((E₁.trans E₂).trans E₃) V₃

def TOk (C : Wo) (G : Genv) (A : Around) (env : Env) (e : Expr) : Prop :=
  ∀ (X : Addr → Prop) (ρ : Loc) (α : List Addr) (σ : St) (o : Bool) (v : V) (b : Bool) (σ' : St) (s : Shared) (E : Value → Shared → Prop) (Q : Bool → Shared → Prop),
    okE G.const env.scope e = true → evE G ρ o e σ = some (v, σ') → truthV σ' v = some b → Rel C X env ρ α σ s →
    (∀ α' s', Rel C X env ρ α' σ' s' → Ext env α σ s α' σ' s' → Q b s') → wpAny C.M A (isTrue e env (eval e env)) Q E s

theorem TOk.plain {e : Expr} (he : EOk C G A env e) (hp : ∀ whole, isTrue e env whole = (do let v ← whole; standAt e.pos; holding [v] (truthy v))) : TOk C G A env e := fun X ρ α σ o v b σ' s E Q ok h hb R hQ =>
  isTrue_plain (he X ρ α σ o v σ' s E _ ok h R fun α₁ u s₁ R₁ E₁ V₁ => truthV_ok hb V₁ (hQ α₁ s₁ R₁ E₁)) (hp _)

theorem TOk.not {e : Expr} {op : UnaryOp} {pos : Pos} (he : EOk C G A env e) (ht : TOk C G A env e) : TOk C G A env (.UnaryOp op e pos) := by
  cases op with
  | Not =>
    intro X ρ α σ o v b σ' s E Q ok h hb R hQ
    rw [okE_UnaryOp] at ok
    simp only [evE_UnaryOp, Option.bind_eq_some_iff, Option.map_eq_some_iff, Prod.mk.injEq] at h
    obtain ⟨⟨a, σ₁⟩, h1, c, hc, rfl, rfl⟩ := h
    simp only [truthV, Option.some.injEq] at hb
    subst hb
    exact isTrue_not (ht X ρ α σ _ a c σ₁ s E _ ok h1 hc R hQ)
  | _ => exact TOk.plain (ok_UnaryOp he) fun _ => rfl

def TBOk (C : Wo) (G : Genv) (A : Around) (env : Env) (es : List Expr) : Prop :=
  ∀ (X : Addr → Prop) (ρ : Loc) (α : List Addr) (σ : St) (op : BoolOp) (v : V) (b : Bool) (σ' : St) (s : Shared) (E : Value → Shared → Prop) (pos : Pos) (whole : Sem Value) (Q : Bool → Shared → Prop),
    okEs G.const env.scope es = true → evB G ρ op es σ = some (v, σ') → truthV σ' v = some b → Rel C X env ρ α σ s →
    (∀ α' s', Rel C X env ρ α' σ' s' → Ext env α σ s α' σ' s' → Q b s') → wpAny C.M A (isTrue (.BoolOp op es pos) env whole) Q E s

theorem TBOk.nil : TBOk C G A env [] := fun X ρ α σ op v b σ' s E pos whole Q _ h _ _ _ => by rw [evB_nil] at h; cases h

theorem TBOk.cons {e : Expr} {r : List Expr} (he : TOk C G A env e) (hr : TBOk C G A env r) : TBOk C G A env (e :: r) := fun X ρ α σ op v b σ' s E pos whole Q ok h hb R hQ => by
  simp only [okEs_cons, Bool.and_eq_true] at ok
  cases r with
  | nil =>
    simp only [evB_one, Option.bind_eq_some_iff] at h
    obtain ⟨⟨w, σ₁⟩, h1, h2⟩ := h
    cases h2
    cases op with
    | And =>
      refine isTrue_and (he X ρ α σ _ _ b _ s E _ ok.1 h1 hb R fun α₁ s₁ R₁ E₁ => ?_)
      cases b with
      | false => exact hQ α₁ s₁ R₁ E₁
      | true => exact isTrue_and_nil (hQ α₁ s₁ R₁ E₁)
    | Or =>
      refine isTrue_or (he X ρ α σ _ _ b _ s E _ ok.1 h1 hb R fun α₁ s₁ R₁ E₁ => ?_)
      cases b with
      | true => exact hQ α₁ s₁ R₁ E₁
      | false => exact isTrue_or_nil (hQ α₁ s₁ R₁ E₁)
  | cons e₂ r =>
    simp only [evB_more, Option.bind_eq_some_iff] at h
    obtain ⟨⟨w, σ₁⟩, h1, c, h2, h3⟩ := h
    cases op with
    | And =>
      refine isTrue_and (he X ρ α σ _ w c σ₁ s E _ ok.1 h1 h2 R fun α₁ s₁ R₁ E₁ => ?_)
      cases c with
      | false =>
        cases h3
        rw [h2] at hb; cases hb
        exact hQ α₁ s₁ R₁ E₁
      | true => exact hr X ρ α₁ σ₁ .And v b σ' s₁ E pos whole _ ok.2 h3 hb R₁ fun α₂ s₂ R₂ E₂ => hQ α₂ s₂ R₂ (E₁.trans E₂)
    | Or =>
      refine isTrue_or (he X ρ α σ _ w c σ₁ s E _ ok.1 h1 h2 R fun α₁ s₁ R₁ E₁ => ?_)
      cases c with
      | true =>
        cases h3
        rw [h2] at hb; cases hb
        exact hQ α₁ s₁ R₁ E₁
      | false => exact hr X ρ α₁ σ₁ .Or v b σ' s₁ E pos whole _ ok.2 h3 hb R₁ fun α₂ s₂ R₂ E₂ => hQ α₂ s₂ R₂ (E₁.trans E₂)

theorem ok_Compare {l : Expr} {ops : List CmpOp} {es : List Expr} {pos : Pos} (hl : EOk C G A env l) (hs : COk C G A env es) : EOk C G A env (.Compare l ops es pos) ∧ TOk C G A env (.Compare l ops es pos) := by
  constructor
  · intro X ρ α σ o v σ' s E Q ok h R hQ
    simp only [okE_Compare, Bool.and_eq_true, Bool.not_eq_true'] at ok
    simp only [evE_Compare, Option.bind_eq_some_iff, Option.map_eq_some_iff, Prod.mk.injEq] at h
    obtain ⟨⟨a, σ₁⟩, h1, ⟨b, σ₂⟩, h2, rfl, rfl⟩ := h
    show wpAny C.M A (do compareChain pos (← eval l env) ops (markedEach ops es (evalEach es env))) Q E s
    rw [markedEach_of_false _ _ _ ok.2]
    refine wpAny_bind (hl X ρ α σ _ a σ₁ s E _ ok.1.1 h1 R fun α₁ u s₁ R₁ E₁ V₁ => ?_)
    exact (hs X ρ α₁ σ₁ a u ops b σ₂ s₁ E pos ok.1.2 h2 R₁ V₁).1 Q fun α₂ s₂ R₂ E₂ => hQ α₂ _ s₂ R₂ (E₁.trans E₂) (by simp only [VRel, DRel])
  · intro X ρ α σ o v c σ' s E Q ok h hb R hQ
    simp only [okE_Compare, Bool.and_eq_true, Bool.not_eq_true'] at ok
    simp only [evE_Compare, Option.bind_eq_some_iff, Option.map_eq_some_iff, Prod.mk.injEq] at h
    obtain ⟨⟨a, σ₁⟩, h1, ⟨b, σ₂⟩, h2, rfl, rfl⟩ := h
    simp only [truthV, Option.some.injEq] at hb
    subst hb
    show wpAny C.M A (do testChain pos (← eval l env) ops (markedEach ops es (evalEach es env))) Q E s
    rw [markedEach_of_false _ _ _ ok.2]
    refine wpAny_bind (hl X ρ α σ _ a σ₁ s E _ ok.1.1 h1 R fun α₁ u s₁ R₁ E₁ V₁ => ?_)
    exact (hs X ρ α₁ σ₁ a u ops b σ₂ s₁ E pos ok.1.2 h2 R₁ V₁).2 Q fun α₂ s₂ R₂ E₂ => hQ α₂ s₂ R₂ (E₁.trans E₂)

theorem ok_none {e : Expr} (h : okE G.const env.scope e = false) : EOk C G A env e ∧ TOk C G A env e :=
  ⟨fun X ρ α σ o v σ' s E Q ok => (by rw [h] at ok; cases ok), fun X ρ α σ o v b σ' s E Q ok => (by rw [h] at ok; cases ok)⟩

def Sub (C : Wo) (G : Genv) (A : Around) (env : Env) (e : Expr) : Prop :=
  (∀ lo hi st p, e = .Slice (some lo) hi st p → EOk C G A env lo) ∧ (∀ x m p, e = .Attribute x m p → EOk C G A env x)
def HOk (C : Wo) (G : Genv) (A : Around) (env : Env) (es : List Expr) : Prop := ∀ x ∈ es, EOk C G A env x

theorem all_Call (W : Wk C G A) {f : Expr} {args : List Expr} {ks : List Keyword} {pos : Pos} (hf : Sub C G A env f) (hs : EsOk C G A env args) (hx : HOk C G A env args) :
    EOk C G A env (.Call f args ks pos) ∧ TOk C G A env (.Call f args ks pos) := by
  have h : EOk C G A env (.Call f args ks pos) := by
    cases f with
    | Name n p => exact ok_CallName W hs fun x t q => hx x (by rw [q]; exact .head _)
    | Attribute e m p => exact ok_CallMeth (hf.2 e m p rfl) hs
    | _ =>
      refine (ok_none ?_).1
      cases ks with
      | cons _ _ => rw [okE_CallK, Bool.and_false]
      | nil => exact Bool.and_false _
  exact ⟨h, .plain h fun _ => rfl⟩

theorem all_Sub {e i : Expr} {pos : Pos} (he : EOk C G A env e) (hi : EOk C G A env i) (hs : Sub C G A env i) : EOk C G A env (.Subscript e i pos) ∧ TOk C G A env (.Subscript e i pos) :=
  have h := ok_Subscript (pos := pos) he hi hs.1
  ⟨h, .plain h fun _ => rfl⟩

theorem Sub.no {e : Expr} (h1 : isSlice e = false) (h2 : isAttr e = false) : Sub C G A env e := ⟨fun lo hi st p h => by rw [h] at h1; exact Bool.noConfusion h1, fun x m p h => by rw [h] at h2; exact Bool.noConfusion h2⟩
theorem Sub.attr {e : Expr} {m : Str} {p : Pos} (h : EOk C G A env e) : Sub C G A env (.Attribute e m p) := ⟨fun lo hi st p h => (by cases h), fun x m p hh => by cases hh; exact h⟩
theorem Sub.slice {lo : Expr} {hi st : Option Expr} {p : Pos} (h : EOk C G A env lo) : Sub C G A env (.Slice (some lo) hi st p) := ⟨fun _ _ _ _ e => by cases e; exact h, fun x m p hh => by cases hh⟩
theorem Sub.slice' {hi st : Option Expr} {p : Pos} : Sub C G A env (.Slice none hi st p) := ⟨fun _ _ _ _ e => (by cases e), fun x m p hh => by cases hh⟩
theorem all_none {e : Expr} (h : okE G.const env.scope e = false) (hs : Sub C G A env e) : EOk C G A env e ∧ TOk C G A env e ∧ Sub C G A env e := ⟨(ok_none h).1, (ok_none h).2, hs⟩
theorem all_two {e : Expr} (h : EOk C G A env e ∧ TOk C G A env e) (hs : Sub C G A env e) : EOk C G A env e ∧ TOk C G A env e ∧ Sub C G A env e := ⟨h.1, h.2, hs⟩

mutual
theorem all_ok (W : Wk C G A) : ∀ e : Expr, EOk C G A env e ∧ TOk C G A env e ∧ Sub C G A env e
  | .Constant _ _ _ => ⟨ok_Constant, .plain ok_Constant fun _ => rfl, .no rfl rfl⟩
  | .Name _ _ => ⟨ok_Name W, .plain (ok_Name W) fun _ => rfl, .no rfl rfl⟩
  | .BoolOp _ es _ => ⟨ok_BoolOp (alls_ok W es).2.1, fun X ρ α σ o v b σ' s E Q ok h hb R hQ => by
      rw [okE_BoolOp] at ok
      rw [evE_BoolOp] at h
      exact (alls_ok W es).2.2.1 X ρ α σ _ v b σ' s E _ _ Q ok h hb R hQ, .no rfl rfl⟩
  | .BinOp l _ r _ => ⟨ok_BinOp (all_ok W l).1 (all_ok W r).1, .plain (ok_BinOp (all_ok W l).1 (all_ok W r).1) fun _ => rfl, .no rfl rfl⟩
  | .UnaryOp _ e _ => ⟨ok_UnaryOp (all_ok W e).1, .not (all_ok W e).1 (all_ok W e).2.1, .no rfl rfl⟩
  | .Compare l _ es _ => all_two (ok_Compare (all_ok W l).1 (alls_ok W es).2.2.2.1) (.no rfl rfl)
  | .Tuple es _ _ => ⟨ok_Tuple (alls_ok W es).1, .plain (ok_Tuple (alls_ok W es).1) fun _ => rfl, .no rfl rfl⟩
  | .List es _ => ⟨ok_List (alls_ok W es).1, .plain (ok_List (alls_ok W es).1) fun _ => rfl, .no rfl rfl⟩
  | .Subscript e i _ => all_two (all_Sub (all_ok W e).1 (all_ok W i).1 (all_ok W i).2.2) (.no rfl rfl)
  | .Call f args _ _ => all_two (all_Call W (all_ok W f).2.2 (alls_ok W args).1 (alls_ok W args).2.2.2.2) (.no rfl rfl)
  | .Attribute e _ _ => all_none (by rfl) (.attr (all_ok W e).1)
  | .Slice (some lo) _ _ _ => all_none (by rfl) (.slice (all_ok W lo).1)
  | .Slice none _ _ _ => all_none (by rfl) .slice'
  | .NamedExpr _ _ _ => all_none (by rfl) (.no rfl rfl)
  | .Lambda _ _ _ _ => all_none (by rfl) (.no rfl rfl)
  | .IfExp _ _ _ _ => all_none (by rfl) (.no rfl rfl)
  | .Dict _ vs _ => ⟨ok_Dict (alls_ok W vs).2.2.2.2, .plain (ok_Dict (alls_ok W vs).2.2.2.2) fun _ => rfl, .no rfl rfl⟩
  | .Set _ _ _ => all_none (by rfl) (.no rfl rfl)
  | .ListComp _ _ _ _ => all_none (by rfl) (.no rfl rfl)
  | .SetComp _ _ _ _ => all_none (by rfl) (.no rfl rfl)
  | .DictComp _ _ _ _ _ => all_none (by rfl) (.no rfl rfl)
  | .GeneratorExp _ _ _ _ => all_none (by rfl) (.no rfl rfl)
  | .Await _ _ => all_none (by rfl) (.no rfl rfl)
  | .Yield _ _ => all_none (by rfl) (.no rfl rfl)
  | .YieldFrom _ _ => all_none (by rfl) (.no rfl rfl)
  | .FormattedValue _ _ _ _ => all_none (by rfl) (.no rfl rfl)
  | .JoinedStr _ _ => all_none (by rfl) (.no rfl rfl)
  | .Starred _ _ => all_none (by rfl) (.no rfl rfl)
theorem alls_ok (W : Wk C G A) : ∀ es : List Expr, EsOk C G A env es ∧ BOk C G A env es ∧ TBOk C G A env es ∧ COk C G A env es ∧ HOk C G A env es
  | [] => ⟨.nil, .nil, .nil, .nil, fun _ q => nomatch q⟩
  | e :: r => ⟨.cons (all_ok W e).1 (alls_ok W r).1, .cons (all_ok W e).1 (alls_ok W r).2.1, .cons (all_ok W e).2.1 (alls_ok W r).2.2.1, .cons W (all_ok W e).1 (alls_ok W r).2.2.2.1, fun x q => (List.mem_cons.mp q).elim (fun q => q ▸ (all_ok W e).1) fun q => (alls_ok W r).2.2.2.2 x q⟩
end

end
end Mine
end

section
set_option autoImplicit false
namespace Mine
open PySem PyProof.Rows PySem.Calls

/-- what a step of a statement leaves as it was -/
structure SExt (env : Env) (α : List Addr) (σ : St) (s : Shared) (α' : List Addr) (σ' : St) (s' : Shared) : Prop where
  keep : ∀ a o, s.heap.get? a = some o → a ∉ FA env → (∀ n : Nat, α[n]? = some a → ∃ o, σ[n]? = some (true, o)) → s'.heap.get? a = some o
  new : ∃ t, α' = α ++ t ∧ ∀ a ∈ t, s.heap.objs.size ≤ a
  size : s.heap.objs.size ≤ s'.heap.objs.size
  gens : s'.gens = s.gens
  os : s'.os = s.os
  lock : ∀ (n : Nat) o, σ[n]? = some (true, o) → σ'[n]? = some (true, o)
  slen : σ.length ≤ σ'.length

section
variable {C : Wo} {G : Genv} {X X' : Addr → Prop} {env : Env} {ρ ρ' : Loc} {α α' α'' : List Addr} {σ σ' σ'' : St} {s s' s'' : Shared} {A : Around} {E : Value → Shared → Prop}

theorem SExt.refl : SExt env α σ s α σ s := ⟨fun _ _ e _ _ => e, ⟨[], by simp, by simp⟩, Nat.le_refl _, rfl, rfl, fun _ _ e => e, Nat.le_refl _⟩
theorem Ext.toS (x : Ext env α σ s α' σ' s') : SExt env α σ s α' σ' s' :=
  ⟨fun a o e n l => x.keep a o e (fun q => n (by rw [q]; exact .head _)) l, x.new, x.size, x.gens, x.os, x.lock, x.slen⟩

theorem SExt.trans (x : SExt env α σ s α' σ' s') (y : SExt env α' σ' s' α'' σ'' s'') : SExt env α σ s α'' σ'' s'' where
  keep := fun a o e n l => y.keep a o (x.keep a o e n l) n fun k hk => by
    obtain ⟨t, rfl, ht⟩ := x.new
    by_cases hk' : k < α.length
    · rw [List.getElem?_append_left hk'] at hk
      obtain ⟨o', ho'⟩ := l k hk
      exact ⟨o', x.lock k o' ho'⟩
    · rw [List.getElem?_append_right (Nat.le_of_not_lt hk')] at hk
      have := ht a (List.mem_of_getElem? hk)
      exact absurd (Heap.lt_size e) (Nat.not_lt.mpr this)
  new := by
    obtain ⟨t, rfl, ht⟩ := x.new
    obtain ⟨u, rfl, hu⟩ := y.new
    exact ⟨t ++ u, by rw [List.append_assoc], fun a ha => (List.mem_append.mp ha).elim (ht a) fun q => Nat.le_trans x.size (hu a q)⟩
  size := Nat.le_trans x.size y.size
  gens := y.gens.trans x.gens
  os := y.os.trans x.os
  lock := fun n o e => y.lock n o (x.lock n o e)
  slen := Nat.le_trans x.slen y.slen

theorem getV_setV {x y : Str} {v : V} : ∀ {ρ : Loc}, getV y (setV x v ρ) = if y = x then some v else getV y ρ
  | [] => by simp only [setV_n, getV_n, getV_c]
  | (z, u) :: r => by
    simp only [setV_c]
    by_cases hz : x = z
    · subst hz
      simp only [if_true, getV_c]
      by_cases hy : y = x
      · simp [hy]
      · simp [hy]
    · simp only [if_neg hz, getV_c]
      by_cases hy : y = z
      · subst hy; simp [Ne.symm hz]
      · simp only [if_neg hy]; exact getV_setV

theorem growFA {h h' : Heap} {a : Addr} (hs : Heap.SameBut a h h') (ha : X a) : Grow (Bad X α) h (Bad X α) h' := fun b o n e => by
  have hb : b ≠ a := fun q => n (.inl (q ▸ ha))
  exact ⟨(hs.2 b hb).trans e, n⟩

/-- a change in the frame -/
theorem Rel.frame (R : Rel C X env ρ α σ s) {a : Addr} {h' : Heap} {t : Nat} (ha : a ∈ FA env) (hs : Heap.SameBut a s.heap h') (F : FRel C X env ρ' α h') (hno : ∃ o, h'.get? a = some o ∧ NoTup o) :
    Rel C X env ρ' α σ { s with heap := h', toks := t } ∧ SExt env α σ s α σ { s with heap := h', toks := t } := by
  have g := growFA (α := α) hs (R.fa a ha)
  refine ⟨⟨fun b o e => ?_, F, ⟨R.st.len, R.st.nodup, R.st.out, R.st.low, fun n b l o h1 h2 => ?_⟩, R.fa, R.flow, fun b hb => ?_, fun b hb => ?_⟩, ⟨fun b o e n _ => ?_, ⟨[], by simp, by simp⟩, Nat.le_of_eq hs.1.symm, rfl, rfl, fun _ _ e => e, Nat.le_refl _⟩⟩
  · exact (hs.2 b (fun q => Nat.not_lt.mpr (R.flow b (q ▸ ha)) (Heap.lt_size e))).trans (R.bas b o e)
  · have hb : b ≠ a := fun q => R.st.out b (List.mem_of_getElem? h1) (R.fa b (q ▸ ha))
    exact (R.st.obj n b l o h1 h2).grow g (List.prefix_refl _) fun o ho => (hs.2 b hb).trans ho
  · show b < h'.objs.size
    rw [hs.1]; exact R.xlt b hb
  · by_cases q : b = a
    · subst q; exact hno
    · obtain ⟨o, ho, hn⟩ := R.xnt b hb
      exact ⟨o, (hs.2 b q).trans ho, hn⟩
  · exact (hs.2 b (fun q => n (q ▸ ha))).trans e

noncomputable def okN (sc : Scope) (x : Str) : Bool := sc.names.lookup x == some .local || sc.names.lookup x == some .cell

theorem cell_name {x y : Str} {c : Addr} (R : Rel C X env ρ α σ s) (hx : env.cells.lookup x = some c) (hy : env.cells.lookup y = some c) : x = y :=
  name_of_addr R.fr.apart (mem_of_lookup hx) (mem_of_lookup hy)

theorem store_ok (R : Rel C X env ρ α σ s) {x : Str} {v : V} {u : Value} {Q : Unit → Shared → Prop} (hx : okN env.scope x = true) (hv : VRel C X α s.heap v u)
    (hQ : ∀ s', Rel C X env (setV x v ρ) α σ s' → SExt env α σ s α σ s' → Q () s') : wpAny C.M A (storeName env x u) Q E s := by
  simp only [okN, Bool.or_eq_true, beq_iff_eq] at hx
  rcases hx with hx | hx
  · have hk : env.kindOf x = some .local := hx
    obtain ⟨m, hm, hl⟩ := R.fr.loc
    refine wpAny_storeName_local hk hm (fun h' hn hs => ?_) (by rw [R.fr.kind]; rfl)
    have ha : env.locals ∈ FA env := .head _
    have g := growFA (α := α) hs (R.fa _ ha)
    obtain ⟨R', S'⟩ := R.frame (ρ' := setV x v ρ) (t := s.toks + 1) ha hs
      ⟨R.fr.kind, R.fr.glob, R.fr.blt, fun y w e => by
          rw [getV_setV] at e
          split at e
          · rename_i q; subst q; exact .inl hk
          · exact R.fr.kinds y w e,
        ⟨_, hn, fun y w e k => by
          rw [getV_setV] at e
          split at e
          · rename_i q; subst q; cases e; exact ⟨u, by simp, hv.grow g (List.prefix_refl _)⟩
          · rename_i q
            obtain ⟨u', hu', hw⟩ := hl y w e k
            exact ⟨u', by simp only [if_neg q]; exact hu', hw.grow g (List.prefix_refl _)⟩⟩,
        fun y w e k => by
          rw [getV_setV] at e
          split at e
          · rename_i q; subst q; rw [hk] at k; rcases k with k | k <;> cases k
          · obtain ⟨c, u', hc, hi, hw⟩ := R.fr.cel y w e k
            exact ⟨c, u', hc, hi.sameBut hs (R.fr.off y c (mem_of_lookup hc)), hw.grow g (List.prefix_refl _)⟩,
        fun y k => by
          obtain ⟨c, u', hc, hi⟩ := R.fr.has y k
          exact ⟨c, u', hc, hi.sameBut hs (R.fr.off y c (mem_of_lookup hc))⟩, R.fr.apart, R.fr.off⟩ (Heap.Ns.noTup hn)
    exact hQ _ R' S'
  · have hk : env.kindOf x = some .cell := hx
    obtain ⟨c, u₀, hc, hi⟩ := R.fr.has x hk
    refine wpAny_storeName_cell R.fr.kind hk hc hi fun h' hn hs => ?_
    have ha : c ∈ FA env := .tail _ (List.mem_map.mpr ⟨_, mem_of_lookup hc, rfl⟩)
    have hcl : env.locals ≠ c := Ne.symm (R.fr.off x c (mem_of_lookup hc))
    have g := growFA (α := α) hs (R.fa _ ha)
    obtain ⟨m, hm, hl⟩ := R.fr.loc
    obtain ⟨R', S'⟩ := R.frame (ρ' := setV x v ρ) (t := s.toks) ha hs
      ⟨R.fr.kind, R.fr.glob, R.fr.blt, fun y w e => by
          rw [getV_setV] at e
          split at e
          · rename_i q; subst q; exact .inr (.inl hk)
          · exact R.fr.kinds y w e,
        ⟨m, hm.sameBut hs hcl, fun y w e k => by
          rw [getV_setV] at e
          split at e
          · rename_i q; subst q; rw [hk] at k; cases k
          · obtain ⟨u', hu', hw⟩ := hl y w e k
            exact ⟨u', hu', hw.grow g (List.prefix_refl _)⟩⟩,
        fun y w e k => by
          rw [getV_setV] at e
          split at e
          · rename_i q; subst q; cases e; exact ⟨c, u, hc, hn, hv.grow g (List.prefix_refl _)⟩
          · rename_i q
            obtain ⟨c', u', hc', hi', hw⟩ := R.fr.cel y w e k
            exact ⟨c', u', hc', hi'.sameBut hs (fun q' => q (cell_name R (q' ▸ hc') hc)), hw.grow g (List.prefix_refl _)⟩,
        fun y k => by
          by_cases q : y = x
          · subst q; exact ⟨c, _, hc, hn⟩
          · obtain ⟨c', u', hc', hi'⟩ := R.fr.has y k
            exact ⟨c', u', hc', hi'.sameBut hs (fun q' => q (cell_name R (q' ▸ hc') hc))⟩, R.fr.apart, R.fr.off⟩ (Heap.IsCell.noTup hn)
    exact hQ _ R' S'

end
end Mine
end

section
set_option autoImplicit false
namespace Mine
open PySem

noncomputable def gen (body : List Stmt) (H : Hints) (d : Nat) (f : Str) : Genv :=
  { const := fun x => H.consts.lookup x, fn := fun x => (findFn x body).isSome, cls := fun _ => false, fresh := fun x => H.fresh.contains x,
    call := callN body H d, mcall := fun _ _ _ _ => none, make := fun _ _ _ => none, owned := fun x => H.owned.contains (f, x), ownRet := false }

noncomputable def rangeL (x : Int) (n : Nat) : List V := (List.range n).map fun (k : Nat) => .d (.int (x + k))
theorem rangeL_succ (x : Int) (n : Nat) : rangeL x (n + 1) = .d (.int x) :: rangeL (x + 1) n := by
  unfold rangeL
  rw [List.range_succ_eq_map, List.map_cons, List.map_map]
  congr 1
  · rw [Int.natCast_zero, Int.add_zero]
  · refine List.map_congr_left fun k _ => ?_
    show V.d (D.int (x + ((k + 1 : Nat) : Int))) = V.d (D.int (x + 1 + (k : Int)))
    congr 2
    omega
theorem rangeL_zero (x : Int) : rangeL x 0 = [] := rfl

/-- what a path is told -/
inductive Tell where
  | v (x : V)
  | b (x : Bool)
  | w (x : V) (σ : St)
  | s (σ : St)
  | f (fl : Fl) (ρ : Loc) (σ : St)
abbrev Orc := List (Nat × Tell)

noncomputable def hit (n : Nat) (q : Orc) : Option (Tell × Orc) := match q with
  | [] => none
  | p :: r => match Nat.beq p.1 n with
    | true => some (p.2, r)
    | false => none

noncomputable def hitV (n : Nat) (q : Orc) : Option (V × Orc) := match hit n q with
  | some (.v y, r) => some (y, r)
  | _ => none
noncomputable def hitB (n : Nat) (q : Orc) : Option (Bool × Orc) := match hit n q with
  | some (.b y, r) => some (y, r)
  | _ => none
noncomputable def hitW (n : Nat) (q : Orc) : Option ((V × St) × Orc) := match hit n q with
  | some (.w y σ, r) => some ((y, σ), r)
  | _ => none
noncomputable def hitS (n : Nat) (q : Orc) : Option (St × Orc) := match hit n q with
  | some (.s y, r) => some (y, r)
  | _ => none
noncomputable def hitF (n : Nat) (q : Orc) : Option ((Fl × Loc × St) × Orc) := match hit n q with
  | some (.f fl ρ σ, r) => some ((fl, ρ, σ), r)
  | _ => none

noncomputable def ask {α : Type} (h : Option (α × Orc)) (x : Option α) (n : Nat) (q : Orc) (k : α → Nat → Orc → Prop) : Prop :=
  match h with
  | some p => x = some p.1 ∧ k p.1 (n + 1) p.2
  | none => match x with
    | some y => k y (n + 1) q
    | none => False
/-- what must be told -/
noncomputable def told {α : Type} (h : Option (α × Orc)) (x : Option α) (n : Nat) (k : α → Nat → Orc → Prop) : Prop :=
  match h with
  | some p => x = some p.1 ∧ k p.1 (n + 1) p.2
  | none => False

theorem ask_ok {α : Type} {h : Option (α × Orc)} {x : Option α} {n : Nat} {q : Orc} {k : α → Nat → Orc → Prop} (hh : ask h x n q k) : ∃ y n' q', x = some y ∧ k y n' q' := by
  unfold ask at hh
  cases h with
  | some p => exact ⟨_, _, _, hh.1, hh.2⟩
  | none => cases x with
    | some y => exact ⟨_, _, _, rfl, hh⟩
    | none => exact hh.elim
theorem told_ok {α : Type} {h : Option (α × Orc)} {x : Option α} {n : Nat} {k : α → Nat → Orc → Prop} (hh : told h x n k) : ∃ y n' q', x = some y ∧ k y n' q' := by
  unfold told at hh
  cases h with
  | some p => exact ⟨_, _, _, hh.1, hh.2⟩
  | none => exact hh.elim

noncomputable def opt {α : Type} (x : Option α) (k : α → Prop) : Prop := match x with
  | some y => k y
  | none => False
theorem opt_ok {α : Type} {x : Option α} {k : α → Prop} (h : opt x k) : ∃ y, x = some y ∧ k y := by
  cases x with
  | some y => exact ⟨y, rfl, h⟩
  | none => exact h.elim
noncomputable def tst (b : Bool) (x y : Prop) : Prop := match b with
  | true => x
  | false => y
theorem tst_ok {b : Bool} {x y : Prop} (h : tst b x y) : (b = true ∧ x) ∨ (b = false ∧ y) := by
  cases b with
  | true => exact .inl ⟨rfl, h⟩
  | false => exact .inr ⟨rfl, h⟩
/-- one of two -/
noncomputable def two {α : Type} (x : Option α) (k : α → Prop) (y : Prop) : Prop := match x with
  | some a => k a
  | none => y
theorem two_ok {α : Type} {x : Option α} {k : α → Prop} {y : Prop} (h : two x k y) : (∃ a, x = some a ∧ k a) ∨ (x = none ∧ y) := by
  cases x with
  | some a => exact .inl ⟨a, rfl, h⟩
  | none => exact .inr ⟨rfl, h⟩

mutual
noncomputable def wE (G : Genv) (ρ : Loc) (o : Bool) : Expr → St → Nat → Orc → (V → St → Nat → Orc → Prop) → Prop
  | .Constant c _ _, σ, n, q, k => opt (constD c) fun d => k (.d d) σ n q
  | .Name x _, σ, n, q, k => two (getV x ρ) (fun v => k v σ n q) (opt (G.const x) fun d => k (.d d) σ n q)
  | .BoolOp op es _, σ, n, q, k => wB G ρ op es σ n q k
  | .BinOp l op r _, σ, n, q, k => wE G ρ false l σ n q fun a σ n q => wE G ρ false r σ n q fun b σ n q => ask (hitV n q) (binV σ op a b) n q fun v n q => k (own o v σ).1 (own o v σ).2 n q
  | .UnaryOp op e _, σ, n, q, k => wE G ρ false e σ n q fun a σ n q => match op with
    | .Not => ask (hitB n q) (truthV σ a) n q fun b n q => k (.d (.bool !b)) σ n q
    | .USub => match a with
      | .d (.int i) => k (.d (.int (-i))) σ n q
      | _ => False
    | _ => False
  | .Compare l ops es _, σ, n, q, k => wE G ρ false l σ n q fun a σ n q => wC G ρ a ops es σ n q fun b σ n q => k (.d (.bool b)) σ n q
  | .Tuple es _ _, σ, n, q, k => wEs G ρ o es σ n q fun vs σ n q => k (mkTup vs) σ n q
  | .List es _, σ, n, q, k => wEs G ρ o es σ n q fun vs σ n q => ask (hitW n q) (mkList o vs σ) n q fun p n q => k p.1 p.2 n q
  | .Dict ks vs p, σ, n, q, k => match ks with
    | [] => ask (hitW n q) (evE G ρ o (.Dict [] vs p) σ) n q fun p n q => k p.1 p.2 n q
    | k' :: ks => tst o False (opt (constKeys (k' :: ks)) fun js => wEs G ρ false vs σ n q fun vs σ n q => ask (hitW n q) (mkDict js vs σ) n q fun p n q => k p.1 p.2 n q)
  | .Subscript e i _, σ, n, q, k => wE G ρ false e σ n q fun ov σ n q => match i with
    | .Slice lo hi st _ => match lo, st with
      | some lo, none => wE G ρ false lo σ n q fun lv σ n q => opt (natV lv) fun ln => match hi with
          | none => ask (hitV n q) (sliceV σ ov ln none) n q fun v n q => k (own o v σ).1 (own o v σ).2 n q
          | some hi => wE G ρ false hi σ n q fun hv σ n q => opt (natV hv) fun hn => ask (hitV n q) (sliceV σ ov ln (some hn)) n q fun v n q => k (own o v σ).1 (own o v σ).2 n q
      | _, _ => False
    | i => wE G ρ false i σ n q fun iv σ n q => ask (hitV n q) (getItemV σ ov iv) n q fun v n q => k v σ n q
  | .Call f args ks _, σ, n, q, k => match ks with
    | _ :: _ => False
    | [] => match f with
      | .Name f _ => tst (decide (f = "isinstance"))
        (match args with
          | [x, t] => wE G ρ false x σ n q fun v σ n q => opt (nameE t) fun t => tst (typeNames.contains t) (ask (hitB n q) (isiV σ t v) n q fun b n q => k (.d (.bool b)) σ n q) False
          | _ => False)
        (two (bfOf f) (fun b => wEs G ρ false args σ n q fun vs σ n q => ask (hitV n q) (bfV σ b vs) n q fun v n q => k (own o v σ).1 (own o v σ).2 n q)
          (tst (G.fn f) (wEs G ρ false args σ n q fun vs σ n q => told (hitW n q) (G.call f vs σ) n fun p n q => k (own (o && G.fresh f) p.1 p.2).1 (own (o && G.fresh f) p.1 p.2).2 n q) False))
      | .Attribute e m _ => wE G ρ false e σ n q fun ov σ n q => two (clsOf σ ov) (fun _ => False) (opt (mkOf σ m ov) fun j => wEs G ρ true args σ n q fun vs σ n q => ask (hitW n q) (methV σ j ov vs) n q fun p n q => k p.1 p.2 n q)
      | _ => False
  | .ListComp elt gens sc pos, σ, n, q, k => told (hitW n q) (evE G ρ o (.ListComp elt gens sc pos) σ) n fun p n q => k p.1 p.2 n q
  | _, _, _, _, _ => False
noncomputable def wEs (G : Genv) (ρ : Loc) (o : Bool) : List Expr → St → Nat → Orc → (List V → St → Nat → Orc → Prop) → Prop
  | [], σ, n, q, k => k [] σ n q
  | e :: r, σ, n, q, k => wE G ρ o e σ n q fun v σ n q => wEs G ρ o r σ n q fun vs σ n q => k (v :: vs) σ n q
noncomputable def wB (G : Genv) (ρ : Loc) (op : BoolOp) : List Expr → St → Nat → Orc → (V → St → Nat → Orc → Prop) → Prop
  | [], _, _, _, _ => False
  | e :: r, σ, n, q, k => wE G ρ false e σ n q fun v σ n q => match r with
    | [] => k v σ n q
    | r => ask (hitB n q) (truthV σ v) n q fun b n q => match op, b with
      | .And, false => k v σ n q
      | .Or, true => k v σ n q
      | _, _ => wB G ρ op r σ n q k
noncomputable def wC (G : Genv) (ρ : Loc) (a : V) : List CmpOp → List Expr → St → Nat → Orc → (Bool → St → Nat → Orc → Prop) → Prop
  | op :: ops, e :: r, σ, n, q, k => wE G ρ false e σ n q fun b σ n q => ask (hitB n q) (cmpV σ op a b) n q fun c n q => match ops with
    | [] => match r with
      | [] => k c σ n q
      | _ => False
    | ops => match r with
      | [] => False
      | r => match c with
        | true => wC G ρ b ops r σ n q k
        | false => k false σ n q
  | _, _, _, _, _, _ => False
end
end Mine
end

section
set_option autoImplicit false
namespace Mine
open PySem PyProof.Rows PySem.Calls

/-- the names that a comprehension's item may speak of -/
structure PEnv (C : Wo) (B : Addr → Prop) (h : Heap) (cenv : Env) (ρ : Loc) : Prop where
  kind : cenv.scope.kind = .function
  nm : ∀ n d, getV n ρ = some (.d d) → (cenv.kindOf n = some .local ∧ ∃ m u, h.Ns cenv.locals m ∧ m n = some u ∧ DRel C B h d u) ∨ (cenv.kindOf n = some .cell ∧ ∃ c u, cenv.cells.lookup n = some c ∧ h.IsCell c (some u) ∧ DRel C B h d u)

noncomputable def okP : Expr → Bool
  | .Constant .. => true
  | .Name x _ => !(x == ("__debug__" : Str))
  | .BinOp l _ r _ => okP l && okP r
  | .Subscript e i _ => okP e && okP i
  | _ => false

section
variable {C : Wo} {B : Addr → Prop} {cenv : Env} {ρ : Loc} {A : Around} {E : Value → Shared → Prop} {s : Shared} {Q : Value → Shared → Prop}

def PEOk (C : Wo) (B : Addr → Prop) (cenv : Env) (ρ : Loc) (A : Around) (e : Expr) : Prop :=
  ∀ (E : Value → Shared → Prop) (s : Shared) (Q : Value → Shared → Prop) (d : D), okP e = true → evP ρ e = some d → PEnv C B s.heap cenv ρ → (∀ u t, DRel C B s.heap d u → Q u { s with toks := t }) → wpAny C.M A (eval e cenv) Q E s

theorem intD_some {x : Option D} {a : Int} (h : intD x = some a) : x = some (.int a) := by
  cases x with
  | none => cases h
  | some d => cases d with
    | int i => cases h; rfl
    | _ => cases h
theorem strD_some {x : Option D} {a : Str} (h : strD x = some a) : x = some (.str a) := by
  cases x with
  | none => cases h
  | some d => cases d with
    | str i => cases h; rfl
    | _ => cases h

theorem pe_Constant {c : Const} {k : Nat} {p : Pos} : PEOk C B cenv ρ A (.Constant c k p) := fun E s Q d _ h _ hQ => by
  replace h : constD c = some d := h
  unfold constD at h
  split at h <;> cases h
  · exact Constant_none (hQ _ _ (by simp only [DRel]))
  · exact Constant_bool (hQ _ _ (by simp only [DRel]))
  · exact fun _ _ _ => hQ _ _ (by simp only [DRel]; exact ⟨_, rfl⟩)
  · exact Constant_str (hQ _ _ (by simp only [DRel]; exact ⟨_, rfl⟩))
theorem pe_Name {x : Str} {p : Pos} : PEOk C B cenv ρ A (.Name x p) := fun E s Q d ok h pe hQ => by
  replace ok : (!(x == ("__debug__" : Str))) = true := ok
  rw [Bool.not_eq_true'] at ok
  replace h : (match getV x ρ with | some (.d d) => some d | _ => none) = some d := h
  split at h
  · rename_i d' hg
    cases h
    rcases pe.nm x d hg with ⟨k, m, u, hm, hu, r⟩ | ⟨k, c, u, hc, hi, r⟩
    · exact wpAny_Name (wpAny_loadName_local pe.kind k hm hu (hQ u s.toks r)) ok
    · exact wpAny_Name (wpAny_loadName_cell pe.kind k hc hi (hQ u s.toks r)) ok
  · cases h
theorem pe_BinOp {l r : Expr} {op : Operator} {p : Pos} (hl : PEOk C B cenv ρ A l) (hr : PEOk C B cenv ρ A r) : PEOk C B cenv ρ A (.BinOp l op r p) := fun E s Q d ok h pe hQ => by
  replace ok : (okP l && okP r) = true := ok
  rw [Bool.and_eq_true] at ok
  replace h : ((intD (evP ρ l)).bind fun a => (intD (evP ρ r)).bind fun b => binI op a b) = some d := h
  simp only [Option.bind_eq_some_iff] at h
  obtain ⟨a, ha, b, hb, h⟩ := h
  refine wpAny_BinOp (hl E s _ _ ok.1 (intD_some ha) pe fun u t hu => ?_)
  simp only [DRel] at hu
  obtain ⟨t1, rfl⟩ := hu
  refine hr E { s with toks := t } _ _ ok.2 (intD_some hb) pe fun u t' hu => ?_
  simp only [DRel] at hu
  obtain ⟨t2, rfl⟩ := hu
  unfold binI at h
  split at h
  · cases h; exact add_int (hQ _ _ (by simp only [DRel]; exact ⟨_, rfl⟩))
  · cases h; exact sub_int (hQ _ _ (by simp only [DRel]; exact ⟨_, rfl⟩))
  · split at h
    · rename_i hs; cases h; exact mul_int (hQ _ _ (by simp only [DRel]; exact ⟨_, rfl⟩)) (intMulOk hs)
    · cases h
  · split at h
    · cases h; exact floordiv_int (by omega) (hQ _ _ (by simp only [DRel]; exact ⟨_, by rw [Int.fdiv_eq_ediv_of_nonneg _ (by omega)]⟩)) (.inl (PyProof.noPylong_small (by omega)))
    · cases h
  · split at h
    · cases h; exact mod_int (by omega) (hQ _ _ (by simp only [DRel]; exact ⟨_, by rw [Int.fmod_eq_emod_of_nonneg _ (by omega)]⟩))
    · cases h
  · cases h
theorem pe_Subscript {e i : Expr} {p : Pos} (he : PEOk C B cenv ρ A e) (hi : PEOk C B cenv ρ A i) : PEOk C B cenv ρ A (.Subscript e i p) := fun E s Q d ok h pe hQ => by
  replace ok : (okP e && okP i) = true := ok
  rw [Bool.and_eq_true] at ok
  replace h : ((strD (evP ρ e)).bind fun x => (intD (evP ρ i)).bind fun k => if 0 ≤ k ∧ k < 1000000000 then (x.cps.toList[k.toNat]?).map fun c => .str (chr1 c) else none) = some d := h
  simp only [Option.bind_eq_some_iff] at h
  obtain ⟨x, hx, k, hk, h⟩ := h
  refine Subscript_ (he E s _ _ ok.1 (strD_some hx) pe fun u t hu => ?_)
  simp only [DRel] at hu
  obtain ⟨t1, rfl⟩ := hu
  refine hi E { s with toks := t } _ _ ok.2 (intD_some hk) pe fun u t' hu => ?_
  simp only [DRel] at hu
  obtain ⟨t2, rfl⟩ := hu
  split at h
  · rename_i hk
    obtain ⟨c, hc, rfl⟩ := Option.map_eq_some_iff.mp h
    have hlt := (List.getElem?_eq_some_iff.mp hc).1
    refine tail_of (typeIs_str _ _ _) slot_str_getitem.lookup (PyProof.Rows.getItem_str (c := c) (by simp; omega) ?_ (hQ _ _ (by simp only [DRel]; exact ⟨_, rfl⟩)))
    rw [Array.length_toList] at hlt
    unfold Str.length
    rw [seqIndex_at (j := Int.toNat _) hlt (.inl ⟨hk.1, rfl⟩)]
    simpa using hc
  · cases h
theorem pe_no {e : Expr} (h : okP e = false) : PEOk C B cenv ρ A e := fun E s Q d ok => by rw [h] at ok; cases ok

theorem pe_all : ∀ e : Expr, PEOk C B cenv ρ A e
  | .Constant .. => pe_Constant
  | .Name .. => pe_Name
  | .BinOp l _ r _ => pe_BinOp (pe_all l) (pe_all r)
  | .Subscript e i _ => pe_Subscript (pe_all e) (pe_all i)
  | .BoolOp .. => pe_no rfl
  | .NamedExpr .. => pe_no rfl
  | .UnaryOp .. => pe_no rfl
  | .Lambda .. => pe_no rfl
  | .IfExp .. => pe_no rfl
  | .Dict .. => pe_no rfl
  | .Set .. => pe_no rfl
  | .ListComp .. => pe_no rfl
  | .SetComp .. => pe_no rfl
  | .DictComp .. => pe_no rfl
  | .GeneratorExp .. => pe_no rfl
  | .Await .. => pe_no rfl
  | .Yield .. => pe_no rfl
  | .YieldFrom .. => pe_no rfl
  | .Compare .. => pe_no rfl
  | .Call .. => pe_no rfl
  | .FormattedValue .. => pe_no rfl
  | .JoinedStr .. => pe_no rfl
  | .Attribute .. => pe_no rfl
  | .Starred .. => pe_no rfl
  | .List .. => pe_no rfl
  | .Tuple .. => pe_no rfl
  | .Slice .. => pe_no rfl
end

/-- the cells that a comprehension closes over -/
theorem closure_ok {csc : Scope} {env : Env} (h : ∀ n k, (n, k) ∈ csc.names → k = NameKind.free → ∃ c, env.cells.lookup n = some c) :
    ∃ cl, closureFor csc env = pure cl ∧ ∀ n, csc.names.lookup n = some .free → cl.lookup n = env.cells.lookup n := by
  have key : ∀ (names : List (Str × NameKind)) (acc : List (Str × Addr)), (∀ n k, (n, k) ∈ names → k = NameKind.free → ∃ c, env.cells.lookup n = some c) → (∀ n c, (n, c) ∈ acc → env.cells.lookup n = some c) →
      ∃ cl, (forIn names acc fun (x : Str × NameKind) (cs : List (Str × Addr)) => (if x.2 == NameKind.free then do let c ← cellOf env x.1; pure (ForInStep.yield ((x.1, c) :: cs)) else pure (ForInStep.yield cs) : Sem _)) = pure cl ∧
        (∀ n c, (n, c) ∈ cl → env.cells.lookup n = some c) ∧ (∀ p ∈ acc, p ∈ cl) ∧ ∀ n, (n, NameKind.free) ∈ names → ∃ c, (n, c) ∈ cl := by
    intro names
    induction names with
    | nil => intro acc _ h2; exact ⟨acc, rfl, h2, fun _ q => q, fun _ q => nomatch q⟩
    | cons x r ih =>
      intro acc h1 h2
      obtain ⟨n, k⟩ := x
      by_cases hk : k = .free
      · subst hk
        obtain ⟨c, hc⟩ := h1 n _ (.head _) rfl
        obtain ⟨cl, e, g1, g2, g3⟩ := ih ((n, c) :: acc) (fun n k q => h1 n k (.tail _ q)) (fun n' c' q => (List.mem_cons.mp q).elim (fun q => by cases q; exact hc) (h2 n' c'))
        refine ⟨cl, ?_, g1, fun p q => g2 p (.tail _ q), fun n' q => (List.mem_cons.mp q).elim (fun q => by cases q; exact ⟨c, g2 _ (.head _)⟩) (g3 n')⟩
        rw [List.forIn_cons]
        have hce : cellOf env n = pure c := by unfold cellOf; rw [hc]
        simp only [beq_self_eq_true, if_true, hce]
        exact e
      · obtain ⟨cl, e, g1, g2, g3⟩ := ih acc (fun n k q => h1 n k (.tail _ q)) h2
        refine ⟨cl, ?_, g1, g2, fun n' q => (List.mem_cons.mp q).elim (fun q => by cases q; exact absurd rfl hk) (g3 n')⟩
        rw [List.forIn_cons]
        have hb : (k == NameKind.free) = false := by simpa using hk
        simp only [hb, Bool.false_eq_true, if_false]
        exact e
  obtain ⟨cl, e, g1, _, g3⟩ := key csc.names [] h (fun _ _ q => nomatch q)
  refine ⟨cl, ?_, fun n hn => ?_⟩
  · show (forIn csc.names [] _ >>= fun cs => pure cs) = _
    have : (forIn csc.names ([] : List (Str × Addr)) fun (x : Str × NameKind) (cs : List (Str × Addr)) => (if x.2 == NameKind.free then do let c ← cellOf env x.1; pure (ForInStep.yield ((x.1, c) :: cs)) else pure (ForInStep.yield cs) : Sem _)) = pure cl := e
    exact (congrArg (fun t => t >>= fun cs => pure cs) this)
  · obtain ⟨c, hc⟩ := g3 n (mem_of_lookup hn)
    rw [g1 n c hc]
    cases hl : cl.lookup n with
    | none =>
      have := List.lookup_eq_none_iff.mp hl (n, c) hc
      simp at this
    | some c' => rw [← g1 n c' (mem_of_lookup hl), g1 n c hc]
end Mine
end

section
set_option autoImplicit false
namespace Mine
open PySem PyProof.Rows PySem.Calls

/-- a number or a text, as a value -/
def Scal : D → Value → Prop
  | .int k, y => ∃ t, y = .int k t
  | .str x, y => ∃ t, y = .str x t
  | _, _ => False
theorem Scal.of {C : Wo} {B : Addr → Prop} {h : Heap} {d : D} {y : Value} (hs : scalar d = true) (r : DRel C B h d y) : Scal d y := by
  cases d with
  | int k => simp only [DRel] at r; exact r
  | str k => simp only [DRel] at r; exact r
  | _ => cases hs
theorem Scal.rel {C : Wo} {B : Addr → Prop} {h : Heap} {d : D} {y : Value} (r : Scal d y) : DRel C B h d y := by
  cases d with
  | int k => simp only [DRel]; exact r
  | str k => simp only [DRel]; exact r
  | _ => exact r.elim

theorem mapO_cons {β γ : Type} {f : β → Option γ} {x : β} {r : List β} : mapO f (x :: r) = (f x).bind fun y => (mapO f r).map (y :: ·) := rfl

/-- the items of a comprehension over a range -/
theorem comp_items {C : Wo} {B : Addr → Prop} {h : Heap} {f : V → Option D} {F : Value → Value → Prop} (hF : ∀ v y, F v y → ∃ i t, v = .int i t ∧ ∃ d, f (.d (.int i)) = some d ∧ Scal d y) :
    ∀ {vs ys : List Value} {k : Int} {ds : List D}, mapO f (rangeL k vs.length) = some ds → (∀ (j : Nat) v, vs[j]? = some v → ∃ t, v = .int (k + j) t) → Paired F vs ys → DsRel C B h ds ys
  | [], _, k, ds, hm, _, .nil => by
    rw [List.length_nil, rangeL_zero] at hm
    cases hm
    simp only [DsRel]
  | v :: vs, y :: ys, k, ds, hm, hv, .cons h1 h2 => by
    rw [List.length_cons, rangeL_succ, mapO_cons] at hm
    simp only [Option.bind_eq_some_iff, Option.map_eq_some_iff] at hm
    obtain ⟨d, hd, ds', hm, rfl⟩ := hm
    obtain ⟨i, t, rfl, d', hd', hs⟩ := hF v y h1
    obtain ⟨t', e⟩ := hv 0 _ rfl
    simp only [Value.int.injEq] at e
    obtain ⟨rfl, rfl⟩ := e
    rw [show k + ((0 : Nat) : Int) = k from Int.add_zero k, hd] at hd'
    cases hd'
    have ih := comp_items (C := C) (B := B) (h := h) hF hm (fun j v q => by
      obtain ⟨t, e⟩ := hv (j + 1) v q
      exact ⟨t, by rw [e]; congr 1; omega⟩) h2
    simp only [DsRel]
    exact ⟨y, ys, rfl, hs.rel, ih⟩

section
variable {C : Wo} {G : Genv} {X : Addr → Prop} {env : Env} {ρ : Loc} {α : List Addr} {σ : St} {s s' : Shared} {A : Around} {E : Value → Shared → Prop}

/-- a name of the frame is bound anew -/
theorem Rel.stLocal (R : Rel C X env ρ α σ s) {x : Str} {v : V} {u : Value} {h' : Heap} {t : Nat} {m : Str → Option Value} (hk : env.kindOf x = some .local) (hm : s.heap.Ns env.locals m) (hv : VRel C X α s.heap v u)
    (hn : h'.Ns env.locals (fun z => if z = x then some u else m z)) (hs : Heap.SameBut env.locals s.heap h') :
    Rel C X env (setV x v ρ) α σ { s with heap := h', toks := t } ∧ SExt env α σ s α σ { s with heap := h', toks := t } := by
  obtain ⟨m', hm', hl⟩ := R.fr.loc
  have e := ns_unique hm hm'
  subst e
  have ha : env.locals ∈ FA env := .head _
  have g := growFA (α := α) hs (R.fa _ ha)
  exact R.frame (ρ' := setV x v ρ) (t := t) ha hs
      ⟨R.fr.kind, R.fr.glob, R.fr.blt, fun y w e => by
          rw [getV_setV] at e
          split at e
          · rename_i q; subst q; exact .inl hk
          · exact R.fr.kinds y w e,
        ⟨_, hn, fun y w e k => by
          rw [getV_setV] at e
          split at e
          · rename_i q; subst q; cases e; exact ⟨u, by simp, hv.grow g (List.prefix_refl _)⟩
          · rename_i q
            obtain ⟨u', hu', hw⟩ := hl y w e k
            exact ⟨u', by simp only [if_neg q]; exact hu', hw.grow g (List.prefix_refl _)⟩⟩,
        fun y w e k => by
          rw [getV_setV] at e
          split at e
          · rename_i q; subst q; rw [hk] at k; rcases k with k | k <;> cases k
          · obtain ⟨c, u', hc, hi, hw⟩ := R.fr.cel y w e k
            exact ⟨c, u', hc, hi.sameBut hs (R.fr.off y c (mem_of_lookup hc)), hw.grow g (List.prefix_refl _)⟩,
        fun y k => by
          obtain ⟨c, u', hc, hi⟩ := R.fr.has y k
          exact ⟨c, u', hc, hi.sameBut hs (R.fr.off y c (mem_of_lookup hc))⟩, R.fr.apart, R.fr.off⟩ (Heap.Ns.noTup hn)

/-- the block of a comprehension over an iterator that was just made -/
theorem comp_run {elt iter : Expr} {x : Str} {px pos : Pos} {csc : Scope} {cl : List (Str × Addr)} {I : Addr} {n : Nat} {P : Nat → Value → Prop} {St : Nat → Heap → Prop} (W : Walks C.prog C.w A I [I] [I] n P St) (hsz : n ≤ sizeLine)
    (F : Value → Value → Prop) {RR : Value → Addr → Result → Shared → Prop} (hcell : ∀ y ∈ csc.names, y.2 ≠ .cell) (hkind : csc.kind = .function) (hx : csc.names.lookup x = some .local) (hst : St 0 s.heap) (hI : I < s.heap.objs.size)
    (helt : ∀ (s₃ : Shared) m₃ i v E', P i v → s₃.heap.Ns (s.heap.objs.size + 1) m₃ → m₃ x = some v → (∀ b o, b ≠ I → s.heap.get? b = some o → s₃.heap.get? b = some o) →
      wpAny C.M A (eval elt (compEnvC csc cl (s.heap.objs.size + 1) env)) (fun y s₄ => F v y ∧ Keeps s₃ s₄) E' s₃)
    (hRR : ∀ h' tk m' ys (vs : List Value), h'.Ns (s.heap.objs.size + 1) m' → h'.PlainList s.heap.objs.size ys → vs.length = n → (∀ j v, vs[j]? = some v → P j v) → Paired F vs ys.toList →
      (∀ b o, b ≠ I → s.heap.get? b = some o → h'.get? b = some o) → RR (.ref s.heap.objs.size) (s.heap.objs.size + 1) (.ok .next) { s with heap := h', toks := tk }) :
    wpAny C.M A (newList []) (fun acc s₃ => wpAny C.M A (newFunctionEnv csc env.globals cl [] env.qual none .none (some env)) (fun cenv s₄ =>
      codeAny C.M A (.compStart (.ListComp elt [⟨.Name x px, iter, [], 0⟩] csc pos) 0 (.ref I) acc { cenv with scope := relabel csc env }) (RR acc cenv.locals) s₄) E s₃) E s := by
  refine wpAny_newObj_type ?_
  have hz : (s.heap.push { cls := .type "list", dict := none, data := .seq ([] : List Value).toArray }).objs.size = s.heap.objs.size + 1 := by rw [Heap.size_push]
  refine wpAny_newFunctionEnv hcell (fun y hy => nomatch hy) (fun h₁ hns₁ hsb₁ => ?_) hkind
  dsimp only at hns₁ hsb₁ ⊢
  rw [hz] at hns₁ hsb₁ ⊢
  have ne1 : ∀ {b : Addr} {o}, s.heap.get? b = some o → b ≠ s.heap.objs.size := fun e => Nat.ne_of_lt (Heap.lt_size e)
  have ne2 : ∀ {b : Addr} {o}, s.heap.get? b = some o → b ≠ s.heap.objs.size + 1 := fun e => Nat.ne_of_lt (Nat.lt_succ_of_lt (Heap.lt_size e))
  have old : ∀ b o, s.heap.get? b = some o → h₁.get? b = some o := fun b o e => hsb₁.extBut b o (ne2 e) (Heap.get?_push_of_some _ (Heap.get?_push_of_some _ e))
  have hD : h₁.PlainList s.heap.objs.size #[] := ⟨_, hsb₁.extBut _ _ (Nat.ne_of_lt (Nat.lt_succ_self _)) (Heap.get?_push_of_some _ (Heap.get?_push_size _ rfl))⟩
  have hst₁ : St 0 h₁ := W.frame _ _ _ hst fun b _ o e => old b o e
  have neI : ∀ {b : Addr}, b ∉ [I] → b ≠ I := fun h e => h (by rw [e]; exact .head _)
  have nI : ∀ {b : Addr}, b ≠ I → b ∉ [I] := fun h e => (List.mem_singleton.mp e) ▸ h <| rfl
  have loop : ∀ s₃ : Shared, s₃ = { s with heap := h₁, toks := s.toks + ([] : List (Str × Value)).length } → codeAny C.M A (.compLoop (.ListComp elt [⟨.Name x px, iter, [], 0⟩] csc pos) 0 (.ref I) (.ref s.heap.objs.size) (compEnvC csc cl (s.heap.objs.size + 1) env)) (RR (.ref s.heap.objs.size) (s.heap.objs.size + 1)) s₃ := by
    rintro s₃ rfl
    refine codeAny_compLoop_walk (hsz := hsz) (cenv := compEnvC csc cl (s.heap.objs.size + 1) env) W (fun _ => true) F (lookup_relabel_local hx) (by simp [compEnvC, relabel, hkind]) (Nat.ne_of_lt (Nat.lt_succ_self _)) (nI (Nat.ne_of_lt hI).symm) (nI (Nat.ne_of_lt (Nat.lt_succ_of_lt hI)).symm) hst₁ hD hns₁ ?_ ?_ ?_
    · intro i v s₃ m₃ _ _ _ _ _
      exact wpAny_pure ⟨rfl, s₃.heap, s₃.toks, rfl, fun _ _ e => e⟩
    · intro i v s₃ m₃ hv _ hn hm hk _
      exact helt s₃ m₃ i v _ hv hn hm fun b o hb e => hk b o (ne2 e) (nI hb) (ne1 e) (old b o e)
    · intro h' tk m' ys vs hn _ hpl hlen hP hF hk
      rw [List.filter_eq_self.mpr (fun _ _ => rfl)] at hF
      exact hRR h' tk m' ys vs hn hpl hlen hP hF fun b o hb e => hk b o (ne2 e) (nI hb) (ne1 e) (old b o e)
  exact codeAny_compStart_list (loop _ rfl) (W.self 0 _ _ _ hst₁ (loop _ rfl))
end
end Mine
end

section
set_option autoImplicit false
namespace Mine
open PySem PyProof.Rows PySem.Calls

section
variable {prog : Program} {w : World} {A : Around} {E : Value → Shared → Prop} {s : Shared}

theorem nextOf_tuple_item {it t : Addr} {i : Nat} {items : Array Value} {x : Value} {Q : Value → Shared → Prop} (hit : s.heap.IsTupleIter it t i) (ht : s.heap.IsTuple t items) (hx : items[i]? = some x)
    (hQ : ∀ h', h'.IsTupleIter it t (i + 1) → Heap.SameBut it s.heap h' → Q x { s with heap := h' }) : wpAny (model prog w) A (Builtin.SmallTypes.nextOf (.ref it)) Q E s := by
  obtain ⟨o, ho, hc, hd⟩ := id hit
  obtain ⟨ol, hol, _, nl, hdl⟩ := ht
  unfold Builtin.SmallTypes.nextOf
  refine wpAny_bind (wpAny_callSpecial?_slot (name := Str.ofString "__next__") hit.typeIs F.slot_tuple_iterator_next (wpAny_call_entry F.slot_tuple_iterator_next hit.typeIs F.entry_tuple_iterator_next ?_ (F.args_tuple_iterator_next_1 _)))
  show wpAny _ _ (field (.ref it) 0 >>= _) _ _ s
  refine wpAny_bind (wpAny_field ho hd (x := .ref t) rfl ?_)
  show wpAny _ _ (if (Value.ref t == Value.none) = true then _ else _) _ _ s
  rw [if_neg (show ¬ ((Value.ref t == Value.none) = true) from Bool.false_ne_true)]
  show wpAny _ _ (field (.ref it) 1 >>= _) _ _ s
  refine wpAny_bind (wpAny_field ho hd (x := .int i 0) rfl ?_)
  show wpAny _ _ (seqItems? (.ref t) >>= _) _ _ s
  refine wpAny_bind (wpAny_seqItems hol hdl ?_)
  simp only [Int.toNat_natCast, hx]
  refine wpAny_bind (wpAny_setField ho hd (by simp) (wpAny_pure ⟨x, rfl, wpAny_pure (hQ _ ⟨_, Heap.get?_update_self _ ho (Obj.isFreed_of_fields (Obj.data_mapFields hd _)), (Obj.cls_mapFields ..).trans hc, ?_⟩ (Heap.SameBut.update ..))⟩))
  rw [Obj.data_mapFields hd]; simp [rawInt]

theorem nextOf_tuple_end {it t : Addr} {i : Nat} {items : Array Value} {Q : Value → Shared → Prop} (hh : A.handled = none) (hit : s.heap.IsTupleIter it t i) (ht : s.heap.IsTuple t items) (hx : items[i]? = none)
    (hE : ∀ h' e, Heap.ExtBut it s.heap h' → (∃ o, h'.get? e = some o ∧ o.cls = .type "StopIteration") → E (.ref e) { s with heap := h' }) : wpAny (model prog w) A (Builtin.SmallTypes.nextOf (.ref it)) Q E s := by
  obtain ⟨o, ho, hc, hd⟩ := id hit
  obtain ⟨ol, hol, _, nl, hdl⟩ := ht
  unfold Builtin.SmallTypes.nextOf
  refine wpAny_bind (wpAny_callSpecial?_slot (name := Str.ofString "__next__") hit.typeIs F.slot_tuple_iterator_next (wpAny_call_entry F.slot_tuple_iterator_next hit.typeIs F.entry_tuple_iterator_next ?_ (F.args_tuple_iterator_next_1 _)))
  show wpAny _ _ (field (.ref it) 0 >>= _) _ _ s
  refine wpAny_bind (wpAny_field ho hd (x := .ref t) rfl ?_)
  show wpAny _ _ (if (Value.ref t == Value.none) = true then _ else _) _ _ s
  rw [if_neg (show ¬ ((Value.ref t == Value.none) = true) from Bool.false_ne_true)]
  show wpAny _ _ (field (.ref it) 1 >>= _) _ _ s
  refine wpAny_bind (wpAny_field ho hd (x := .int i 0) rfl ?_)
  show wpAny _ _ (seqItems? (.ref t) >>= _) _ _ s
  refine wpAny_bind (wpAny_seqItems hol hdl ?_)
  simp only [Int.toNat_natCast, hx]
  refine wpAny_bind (wpAny_rule (wpAny_bind (wpAny_setField ho hd (by simp) ?_)))
  show wpAny _ _ (newExc (.type "StopIteration") [] >>= _) _ _ _
  refine wpAny_bind ?_
  simp only [newExc, newTuple]
  refine wpAny_bind (wpAny_newObj_type ?_ (by size_fits))
  refine wpAny_bind (m := firstArgMember _ _) (wpAny_of_eq (a := Value.none) (by first | rfl | (simp only [firstArgMember]; rfl)) ?_)
  refine wpAny_newObj_type ?_ (by size_fits)
  simp only [raiseNew]
  refine wpAny_bind (wpAny_handled ?_)
  first | rw [show A.in1.handled = none from hh] | rw [hh]
  refine wpAny_bind (wpAny_pure (wpAny_throw ?_))
  exact hE _ _ (((Heap.SameBut.update ..).extBut.push _).push _) ⟨_, Heap.get?_push_size _ rfl, rfl⟩

/-- a zip of two tuples, just made: its parts lie at n and the four after it -/
structure ZS (h : Heap) (n : Nat) (f : Value) (t1 t2 : Addr) (xs ys : Array Value) (i : Nat) : Prop where
  z : IsZip h (n + 4) (n + 2) (n + 3) f
  ti : IsPair h (n + 2) (.ref n) (.ref (n + 1))
  to : ∃ a b, IsPair h (n + 3) a b
  i1 : h.IsTupleIter n t1 i
  i2 : h.IsTupleIter (n + 1) t2 i
  l1 : h.IsTuple t1 xs
  l2 : h.IsTuple t2 ys
theorem ZS.keep {h h' : Heap} {n : Nat} {f : Value} {t1 t2 : Addr} {xs ys : Array Value} {i : Nat} (x : ZS h n f t1 t2 xs ys i) (hk : ∀ c o, h.get? c = some o → c ≠ n + 5 → c ≠ n + 6 → h'.get? c = some o) (h1 : t1 < n) (h2 : t2 < n) : ZS h' n f t1 t2 xs ys i := by
  have k : ∀ c, c < n + 5 → ∀ o, h.get? c = some o → h'.get? c = some o := fun c hc o e => hk c o e (Nat.ne_of_lt hc) (Nat.ne_of_lt (Nat.lt_succ_of_lt hc))
  obtain ⟨z, ti, ⟨a, b, to⟩, ⟨o1, i1, r1⟩, ⟨o2, i2, r2⟩, ⟨o3, l1, r3⟩, ⟨o4, l2, r4⟩⟩ := x
  exact ⟨k _ (by omega) _ z, k _ (by omega) _ ti, ⟨a, b, k _ (by omega) _ to⟩, ⟨o1, k _ (by omega) _ i1, r1⟩, ⟨o2, k _ (by omega) _ i2, r2⟩, ⟨o3, k _ (Nat.lt_add_right 5 h1) _ l1, r3⟩, ⟨o4, k _ (Nat.lt_add_right 5 h2) _ l2, r4⟩⟩

/-- what is neither the zip, nor its tuple, nor its iterators -/
def OffZ (n c : Nat) : Prop := @Ne Nat c (n + 4) ∧ @Ne Nat c (n + 3) ∧ @Ne Nat c n ∧ @Ne Nat c (n + 1)
theorem OffZ.lt {n c : Nat} (h : c < n) : OffZ n c := ⟨by omega, by omega, by omega, by omega⟩
theorem OffZ.five {n : Nat} : OffZ n (n + 5) := ⟨by omega, by omega, by omega, by omega⟩
theorem OffZ.six {n : Nat} : OffZ n (n + 6) := ⟨by omega, by omega, by omega, by omega⟩

theorem zip_tt_item {n : Nat} {t1 t2 : Addr} {xs ys : Array Value} {i : Nat} {x y : Value} {Q : Option Value → Shared → Prop} (S : ZS s.heap n .none t1 t2 xs ys i) (h1 : t1 < n) (h2 : t2 < n) (hx : xs[i]? = some x) (hy : ys[i]? = some y)
    (hQ : ∀ h', ZS h' n (rawInt s.heap.objs.size) t1 t2 xs ys (i + 1) → IsPair h' s.heap.objs.size x y → (∀ c o, OffZ n c → s.heap.get? c = some o → h'.get? c = some o) → Q (some (.ref s.heap.objs.size)) { s with heap := h' }) :
    wpAny (model prog w) A (pyNext (.ref (n + 4))) Q E s := by
  obtain ⟨hz, hTI, ⟨a, b, hTO⟩, hi1, hi2, hl1, hl2⟩ := S
  have hT : s.TypeIs (.ref (n + 4)) "zip" := ⟨_, hz, rfl⟩
  have nt : ∀ k, t1 ≠ n + k := fun k => Nat.ne_of_lt (Nat.lt_of_lt_of_le h1 (Nat.le_add_right n k))
  have nt' : ∀ k, t2 ≠ n + k := fun k => Nat.ne_of_lt (Nat.lt_of_lt_of_le h2 (Nat.le_add_right n k))
  have nn : ∀ {j k : Nat}, j ≠ k → n + j ≠ n + k := fun h q => h (Nat.add_left_cancel q)
  have n0 : ∀ {k : Nat}, 0 < k → n ≠ n + k := fun h q => by omega
  unfold pyNext
  refine wpAny_bind (wpAny_attempt (wpAny_callSpecial?_slot (name := Str.ofString "__next__") hT F.slot_zip_next (wpAny_call_entry F.slot_zip_next hT F.entry_zip_next ?_ (F.args_zip_next_1 _))))
  show wpAny _ _ (field (.ref (n + 4)) 2 >>= _) _ _ _
  refine wpAny_bind (wpAny_field hz rfl (x := .bool false) rfl ?_)
  show wpAny _ _ (field (.ref (n + 4)) 3 >>= _) _ _ _
  refine wpAny_bind (wpAny_field hz rfl (x := .ref (n + 2)) rfl ?_)
  refine wpAny_bind (wpAny_seqItems hTI rfl ?_)
  show wpAny _ _ (Builtin.SmallTypes.ownedTupleIsFree (.ref (n + 4)) >>= _) _ _ _
  refine wpAny_bind ?_
  unfold Builtin.SmallTypes.ownedTupleIsFree
  refine wpAny_bind (wpAny_field hz rfl (x := .none) rfl (wpAny_pure ?_))
  simp only [if_true]
  refine wpAny_bind (wpAny_rule ?_)
  refine wpAny_bind (wpAny_field hz rfl (x := .ref (n + 3)) rfl ?_)
  refine wpAny_bind (wpAny_setField_rec hz (by simp) fun h₁ hz₁ hs₁ => ?_)
  replace hz₁ : IsZip h₁ (n + 4) (n + 2) (n + 3) .ellipsis := hz₁
  refine wpAny_bind ?_
  simp only [List.zipIdx_cons, List.zipIdx_nil, List.forIn_cons, List.forIn_nil]
  refine wpAny_bind (wpAny_bind (wpAny_onRaise ?_))
  show wpAny _ _ (Builtin.SmallTypes.nextOf (.ref n) >>= _) _ _ _
  refine wpAny_bind (nextOf_tuple_item (hi1.extBut hs₁.extBut (n0 (by decide))) (hl1.extBut hs₁.extBut (nt 4)) hx fun h₂ h1₂ hs₂ => wpAny_pure ?_)
  have hTO₂ : IsPair h₂ (n + 3) a b := hs₂.extBut _ _ (n0 (by decide)).symm (hs₁.extBut _ _ (nn (by decide)) hTO)
  refine wpAny_bind (wpAny_seqItems hTO₂ rfl ?_)
  refine wpAny_bind (wpAny_updateSeq_pair hTO₂ fun h₃ hTO₃ hs₃ => ?_)
  replace hTO₃ : IsPair h₃ (n + 3) x b := hTO₃
  refine wpAny_bind (wpAny_letGo (wpAny_pure ?_))
  refine wpAny_bind (wpAny_bind (wpAny_onRaise ?_))
  show wpAny _ _ (Builtin.SmallTypes.nextOf (.ref (n + 1)) >>= _) _ _ _
  refine wpAny_bind (nextOf_tuple_item (((hi2.extBut hs₁.extBut (nn (by decide))).extBut hs₂.extBut (n0 (by decide)).symm).extBut hs₃.extBut (nn (by decide)))
    (((hl2.extBut hs₁.extBut (nt' 4)).extBut hs₂.extBut (nt' 0)).extBut hs₃.extBut (nt' 3)) hy fun h₄ h2₄ hs₄ => wpAny_pure ?_)
  have hTO₄ : IsPair h₄ (n + 3) x b := hs₄.extBut _ _ (nn (by decide)) hTO₃
  refine wpAny_bind (wpAny_seqItems hTO₄ rfl ?_)
  refine wpAny_bind (wpAny_updateSeq_pair hTO₄ fun h₅ hTO₅ hs₅ => ?_)
  replace hTO₅ : IsPair h₅ (n + 3) x y := hTO₅
  refine wpAny_bind (wpAny_letGo (wpAny_pure (wpAny_pure ?_)))
  refine wpAny_bind (wpAny_seqItems hTO₅ rfl ?_)
  refine wpAny_bind (wpAny_newTuple ?_)
  have hsz : h₅.objs.size = s.heap.objs.size := by rw [hs₅.1, hs₄.1, hs₃.1, hs₂.1, hs₁.1]
  have hz₅ : IsZip h₅ (n + 4) (n + 2) (n + 3) .ellipsis := hs₅.extBut _ _ (nn (by decide)) (hs₄.extBut _ _ (nn (by decide)) (hs₃.extBut _ _ (nn (by decide)) (hs₂.extBut _ _ (n0 (by decide)).symm hz₁)))
  have hk₅ : ∀ c o, OffZ n c → s.heap.get? c = some o → h₅.get? c = some o := fun c o ⟨c1, c2, c3, c4⟩ e =>
    hs₅.extBut _ _ c2 (hs₄.extBut _ _ c4 (hs₃.extBut _ _ c2 (hs₂.extBut _ _ c3 (hs₁.extBut _ _ c1 e))))
  have h1₅ : h₅.IsTupleIter n t1 (i + 1) := ((h1₂.extBut hs₃.extBut (n0 (by decide))).extBut hs₄.extBut (n0 (by decide))).extBut hs₅.extBut (n0 (by decide))
  have h2₅ : h₅.IsTupleIter (n + 1) t2 (i + 1) := h2₄.extBut hs₅.extBut (nn (by decide))
  have hzlt : n + 4 < h₅.objs.size := Heap.lt_size hz₅
  show wpAny _ _ (Builtin.SmallTypes.ownedTupleHandOut (.ref (n + 4)) (.ref h₅.objs.size) >>= _) _ _ _
  refine wpAny_bind ?_
  unfold Builtin.SmallTypes.ownedTupleHandOut
  have hz₆ : IsZip (h₅.push { cls := .type "tuple", data := .seq #[x, y] }) (n + 4) (n + 2) (n + 3) .ellipsis := Heap.get?_push_of_some _ hz₅
  refine wpAny_bind (wpAny_setField_rec hz₆ (by simp) fun h₇ hz₇ hs₇ => ?_)
  replace hz₇ : IsZip h₇ (n + 4) (n + 2) (n + 3) (rawInt h₅.objs.size) := hz₇
  refine wpAny_setField_rec hz₇ (by simp) fun h₈ hz₈ hs₈ => ?_
  replace hz₈ : IsZip h₈ (n + 4) (n + 2) (n + 3) (rawInt h₅.objs.size) := hz₈
  have up : ∀ c o, c ≠ n + 4 → h₅.get? c = some o → h₈.get? c = some o := fun c o c1 e => hs₈.extBut _ _ c1 (hs₇.extBut _ _ c1 (Heap.get?_push_of_some _ e))
  have hT₈ : IsPair h₈ h₅.objs.size x y := hs₈.extBut _ _ (Nat.ne_of_gt hzlt) (hs₇.extBut _ _ (Nat.ne_of_gt hzlt) (Heap.get?_push_size _ rfl))
  rw [hsz] at hz₈ hT₈
  refine wpAny_pure ⟨_, rfl, ?_⟩
  show wpAny _ _ (pure (some (Value.ref h₅.objs.size))) _ _ _
  rw [hsz]
  have tl : ∀ {t : Addr} {us : Array Value}, (t < n) → s.heap.IsTuple t us → h₈.IsTuple t us := fun ht ⟨o, e, r⟩ =>
    ⟨o, up _ _ (Nat.ne_of_lt (Nat.lt_of_lt_of_le ht (Nat.le_add_right n 4))) (hk₅ _ _ ⟨Nat.ne_of_lt (Nat.lt_of_lt_of_le ht (Nat.le_add_right n 4)), Nat.ne_of_lt (Nat.lt_of_lt_of_le ht (Nat.le_add_right n 3)), Nat.ne_of_lt ht, Nat.ne_of_lt (Nat.lt_of_lt_of_le ht (Nat.le_add_right n 1))⟩ e), r⟩
  obtain ⟨o1, e1, r1⟩ := h1₅
  obtain ⟨o2, e2, r2⟩ := h2₅
  exact wpAny_pure (hQ h₈ ⟨hz₈, up _ _ (nn (by decide)) (hk₅ _ _ ⟨nn (by decide), nn (by decide), (n0 (by decide)).symm, nn (by decide)⟩ hTI), ⟨_, _, up _ _ (nn (by decide)) hTO₅⟩, ⟨o1, up _ _ (n0 (by decide)) e1, r1⟩, ⟨o2, up _ _ (nn (by decide)) e2, r2⟩, tl h1 hl1, tl h2 hl2⟩ hT₈
    fun c o hc e => up c o hc.1 (hk₅ c o hc e))

theorem zip_tt_end {n : Nat} {t1 t2 : Addr} {xs ys : Array Value} {i : Nat} {Q : Option Value → Shared → Prop} (hh : A.handled = none) (S : ZS s.heap n .none t1 t2 xs ys i) (h1 : t1 < n) (hx : xs[i]? = none)
    (hQ : ∀ h', (∀ c o, OffZ n c → s.heap.get? c = some o → h'.get? c = some o) → Q none { s with heap := h' }) : wpAny (model prog w) A (pyNext (.ref (n + 4))) Q E s := by
  obtain ⟨hz, hTI, ⟨a, b, hTO⟩, hi1, hi2, hl1, hl2⟩ := S
  have hT : s.TypeIs (.ref (n + 4)) "zip" := ⟨_, hz, rfl⟩
  have n0 : ∀ {k : Nat}, 0 < k → n ≠ n + k := fun h q => by omega
  unfold pyNext
  refine wpAny_bind (wpAny_attempt (wpAny_callSpecial?_slot (name := Str.ofString "__next__") hT F.slot_zip_next (wpAny_call_entry F.slot_zip_next hT F.entry_zip_next ?_ (F.args_zip_next_1 _))))
  show wpAny _ _ (field (.ref (n + 4)) 2 >>= _) _ _ _
  refine wpAny_bind (wpAny_field hz rfl (x := .bool false) rfl ?_)
  show wpAny _ _ (field (.ref (n + 4)) 3 >>= _) _ _ _
  refine wpAny_bind (wpAny_field hz rfl (x := .ref (n + 2)) rfl ?_)
  refine wpAny_bind (wpAny_seqItems hTI rfl ?_)
  show wpAny _ _ (Builtin.SmallTypes.ownedTupleIsFree (.ref (n + 4)) >>= _) _ _ _
  refine wpAny_bind ?_
  unfold Builtin.SmallTypes.ownedTupleIsFree
  refine wpAny_bind (wpAny_field hz rfl (x := .none) rfl (wpAny_pure ?_))
  simp only [if_true]
  refine wpAny_bind (wpAny_rule ?_)
  refine wpAny_bind (wpAny_field hz rfl (x := .ref (n + 3)) rfl ?_)
  refine wpAny_bind (wpAny_setField_rec hz (by simp) fun h₁ hz₁ hs₁ => ?_)
  replace hz₁ : IsZip h₁ (n + 4) (n + 2) (n + 3) .ellipsis := hz₁
  refine wpAny_bind ?_
  simp only [List.zipIdx_cons, List.zipIdx_nil, List.forIn_cons, List.forIn_nil]
  refine wpAny_bind (wpAny_bind (wpAny_onRaise ?_))
  show wpAny _ _ (Builtin.SmallTypes.nextOf (.ref n) >>= _) _ _ _
  refine wpAny_bind (nextOf_tuple_end hh (hi1.extBut hs₁.extBut (n0 (by decide))) (hl1.extBut hs₁.extBut (Nat.ne_of_lt (Nat.lt_of_lt_of_le h1 (Nat.le_add_right n 4)))) hx fun h₂ e hs₂ he => ?_)
  obtain ⟨oe, hoe, hce⟩ := he
  have hz₂ : IsZip h₂ (n + 4) (n + 2) (n + 3) .ellipsis := hs₂ _ _ (n0 (by decide)).symm hz₁
  have hez : e ≠ n + 4 := fun x => by subst x; rw [hz₂] at hoe; cases hoe; simp at hce
  refine wpAny_setField_rec hz₂ (by simp) fun h₃ _ hs₃ => ?_
  refine wpAny_bind (wpAny_isInstance (T := "StopIteration") (b := true) ⟨oe, hs₃.extBut _ _ hez hoe, hce⟩ isSubtype_stop ?_)
  exact wpAny_pure (hQ _ fun c o ⟨c1, _, c3, _⟩ x => hs₃.extBut _ _ c1 (hs₂ _ _ c3 (hs₁.extBut _ _ c1 x)))

noncomputable abbrev zH1 (h : Heap) (l1 : Addr) : Heap := h.push { cls := .type "tuple_iterator", data := .fields #[.ref l1, .int 0 0] }
noncomputable abbrev zH2 (h : Heap) (l1 l2 : Addr) : Heap := (zH1 h l1).push { cls := .type "tuple_iterator", data := .fields #[.ref l2, .int 0 0] }
noncomputable abbrev zH3 (h : Heap) (l1 l2 : Addr) : Heap := (zH2 h l1 l2).push { cls := .type "tuple", data := .seq #[.ref h.objs.size, .ref (zH1 h l1).objs.size] }
noncomputable abbrev zH4 (h : Heap) (l1 l2 : Addr) : Heap := (zH3 h l1 l2).push { cls := .type "tuple", data := .seq #[.none, .none] }
noncomputable abbrev zH5 (h : Heap) (l1 l2 : Addr) : Heap := (zH4 h l1 l2).push { cls := .type "zip", data := .fields #[.none, .bool false, .bool false, .ref (zH2 h l1 l2).objs.size, .ref (zH3 h l1 l2).objs.size] }

theorem meets_zip_tt (l1 l2 : Addr) (xs ys : Array Value) :
    Meets (Builtin.«zip.__new__» ⟨[.type "zip", .ref l1, .ref l2], []⟩) (fun _ R s => s.heap.IsTuple l1 xs ∧ s.heap.IsTuple l2 ys ∧ R (.ok (.ret (.ref (zH4 s.heap l1 l2).objs.size))) { s with heap := zH5 s.heap l1 l2 }) :=
  .of_wp fun prog w A R s h => by
    obtain ⟨hp, g, d, tk, os⟩ := s; obtain ⟨hl1, hl2, h⟩ := h
    have hsub := sub_zip
    have hL1 : Heap.IsTuple (Shared.heap ⟨hp, g, d, tk, os⟩) l1 xs := hl1
    have hL2 : Heap.IsTuple (Shared.heap ⟨hp.push { cls := .type "tuple_iterator", data := .fields #[.ref l1, .int 0 0] }, g, d, tk, os⟩) l2 ys := Heap.IsTuple.push hl2 _
    wp_walk using wpAny_pyIter_tuple hL1, wpAny_pyIter_tuple hL2
    exact ⟨_, rfl, h⟩

theorem call_zip_tt {l1 l2 : Addr} {xs ys : Array Value} {Q : Value → Shared → Prop} (hl1 : s.heap.IsTuple l1 xs) (hl2 : s.heap.IsTuple l2 ys)
    (h : ∀ h', ZS h' s.heap.objs.size .none l1 l2 xs ys 0 → h'.objs.size = s.heap.objs.size + 5 → (∀ c o, s.heap.get? c = some o → h'.get? c = some o) → Q (.ref (s.heap.objs.size + 4)) { s with heap := h' }) :
    wpAny (model prog w) A (call (.type "zip") [.ref l1, .ref l2]) Q E s := by
  refine callType_new F.called_zip (by decide) (F.typeCall_zip_2 _ _) (F.newCall_zip_2 _ _) (fun obj => F.args_object_init_3 obj _ _) F.entry_zip_new (meets_zip_tt l1 l2 xs ys) ⟨hl1, hl2, ?_⟩
  have z1 : (zH1 s.heap l1).objs.size = s.heap.objs.size + 1 := Heap.size_push ..
  have z2 : (zH2 s.heap l1 l2).objs.size = s.heap.objs.size + 2 := by rw [Heap.size_push, z1]
  have z3 : (zH3 s.heap l1 l2).objs.size = s.heap.objs.size + 3 := by rw [Heap.size_push, z2]
  have z4 : (zH4 s.heap l1 l2).objs.size = s.heap.objs.size + 4 := by rw [Heap.size_push, z3]
  have z5 : (zH5 s.heap l1 l2).objs.size = s.heap.objs.size + 5 := by rw [Heap.size_push, z4]
  have up : ∀ c o, s.heap.get? c = some o → (zH5 s.heap l1 l2).get? c = some o := fun c o x => Heap.get?_push_of_some _ (Heap.get?_push_of_some _ (Heap.get?_push_of_some _ (Heap.get?_push_of_some _ (Heap.get?_push_of_some _ x))))
  have g5 : (zH5 s.heap l1 l2).get? (zH4 s.heap l1 l2).objs.size = some _ := Heap.get?_push_size _ rfl
  have g4 : (zH5 s.heap l1 l2).get? (zH3 s.heap l1 l2).objs.size = some _ := Heap.get?_push_of_some _ (Heap.get?_push_size _ rfl)
  have g3 : (zH5 s.heap l1 l2).get? (zH2 s.heap l1 l2).objs.size = some _ := Heap.get?_push_of_some _ (Heap.get?_push_of_some _ (Heap.get?_push_size _ rfl))
  have g2 : (zH5 s.heap l1 l2).get? (zH1 s.heap l1).objs.size = some _ := Heap.get?_push_of_some _ (Heap.get?_push_of_some _ (Heap.get?_push_of_some _ (Heap.get?_push_size _ rfl)))
  have g1 : (zH5 s.heap l1 l2).get? s.heap.objs.size = some _ := Heap.get?_push_of_some _ (Heap.get?_push_of_some _ (Heap.get?_push_of_some _ (Heap.get?_push_of_some _ (Heap.get?_push_size _ rfl))))
  show _ ∧ _
  rw [z2, z3, z4] at g5
  rw [z1, z2] at g3
  rw [z3] at g4
  rw [z1] at g2
  rw [z4]
  refine ⟨⟨_, g5, rfl⟩, h _ ⟨g5, g3, ⟨_, _, g4⟩, ⟨_, g1, rfl, rfl⟩, ⟨_, g2, rfl, rfl⟩, ?_, ?_⟩ z5 up⟩
  · obtain ⟨o, e, r⟩ := hl1; exact ⟨o, up _ _ e, r⟩
  · obtain ⟨o, e, r⟩ := hl2; exact ⟨o, up _ _ e, r⟩
end
end Mine
end

section
set_option autoImplicit false
namespace Mine
open PySem PyProof.Rows PySem.Calls

section
variable {C : Wo} {env : Env} {A : Around} {E : Value → Shared → Prop} {s : Shared}

/-- the block of a comprehension over a zip that was just made -/
theorem zip_run {elt iter : Expr} {x y : Str} {px py tp pos : Pos} {kk : Nat} {csc : Scope} {cl : List (Str × Addr)} {n : Nat} {t1 t2 : Addr} {xs ys : Array Value} (hh : A.handled = none) (h1 : t1 < n) (h2 : t2 < n) (hxy : xs.size ≤ ys.size) (hsz : xs.size ≤ 1000)
    (F : Nat → Value → Prop) {RR : Value → Addr → Result → Shared → Prop} (hcell : ∀ q ∈ csc.names, q.2 ≠ .cell) (hkind : csc.kind = .function) (hx : csc.names.lookup x = some .local) (hy : csc.names.lookup y = some .local) (hne : x ≠ y)
    (S : ZS s.heap n .none t1 t2 xs ys 0) (hn : s.heap.objs.size = n + 5)
    (helt : ∀ (s₃ : Shared) m₃ i u v E', xs[i]? = some u → ys[i]? = some v → s₃.heap.Ns (n + 6) m₃ → m₃ x = some u → m₃ y = some v → (∀ b o, b < n → s.heap.get? b = some o → s₃.heap.get? b = some o) →
      wpAny C.M A (eval elt (compEnvC csc cl (n + 6) env)) (fun w s₄ => F i w ∧ ∃ t, s₄ = { s₃ with toks := t }) E' s₃)
    (hRR : ∀ h' tk m' ws, h'.Ns (n + 6) m' → h'.PlainList (n + 5) ws → ws.size = xs.size → (∀ i w, ws[i]? = some w → F i w) → (∀ b o, b < n → s.heap.get? b = some o → h'.get? b = some o) →
      RR (.ref (n + 5)) (n + 6) (.ok .next) { s with heap := h', toks := tk }) :
    wpAny C.M A (newList []) (fun acc s₃ => wpAny C.M A (newFunctionEnv csc env.globals cl [] env.qual none .none (some env)) (fun cenv s₄ =>
      codeAny C.M A (.compStart (.ListComp elt [⟨.Tuple [.Name x px, .Name y py] kk tp, iter, [], 0⟩] csc pos) 0 (.ref (n + 4)) acc { cenv with scope := relabel csc env }) (RR acc cenv.locals) s₄) E s₃) E s := by
  refine wpAny_newObj_type ?_
  have hz : (s.heap.push { cls := .type "list", dict := none, data := .seq ([] : List Value).toArray }).objs.size = n + 6 := by rw [Heap.size_push, hn]
  refine wpAny_newFunctionEnv hcell (fun y hy => nomatch hy) (fun h₁ hns₁ hsb₁ => ?_) hkind
  dsimp only at hns₁ hsb₁ ⊢
  rw [hz] at hns₁ hsb₁ ⊢
  have hlt : ∀ {b : Addr} {o}, s.heap.get? b = some o → b < n + 5 := fun e => hn ▸ Heap.lt_size e
  have old : ∀ b o, s.heap.get? b = some o → h₁.get? b = some o := fun b o e => hsb₁.extBut b o (Nat.ne_of_lt (Nat.lt_succ_of_lt (hlt e))) (Heap.get?_push_of_some _ (Heap.get?_push_of_some _ e))
  have hD : h₁.PlainList (n + 5) #[] := ⟨_, hsb₁.extBut _ _ (Nat.ne_of_lt (Nat.lt_succ_self _)) (Heap.get?_push_of_some _ (hn ▸ Heap.get?_push_size _ rfl))⟩
  have S₁ : ZS h₁ n .none t1 t2 xs ys 0 := S.keep (fun c o e _ _ => old c o e) h1 h2
  have loop : ∀ s₃ : Shared, s₃ = { s with heap := h₁, toks := s.toks + ([] : List (Str × Value)).length } → codeAny C.M A (.compLoop (.ListComp elt [⟨.Tuple [.Name x px, .Name y py] kk tp, iter, [], 0⟩] csc pos) 0 (.ref (n + 4)) (.ref (n + 5)) (compEnvC csc cl (n + 6) env)) (RR (.ref (n + 5)) (n + 6)) s₃ := by
    rintro s₃ rfl
    refine PySem.W.kcp_loop (fun k s' => ∃ h' tk m' ws, s' = { s with heap := h', toks := tk } ∧ ws.size ≤ xs.size ∧ k = xs.size + 1 - ws.size ∧ ZS h' n .none t1 t2 xs ys ws.size ∧ h'.PlainList (n + 5) ws ∧ h'.Ns (n + 6) m' ∧ (∀ i w, ws[i]? = some w → F i w) ∧
      (∀ b o, b < n → s.heap.get? b = some o → h'.get? b = some o)) ?_ (xs.size + 1) ⟨h₁, _, _, #[], rfl, Nat.zero_le _, rfl, S₁, hD, hns₁, fun i w q => by simp at q, fun b o _ e => old b o e⟩
    rintro k s' ⟨h', tk, m', ws, rfl, hle, rfl, S', hl', hn', hF', hk'⟩
    by_cases hi : ws.size < xs.size
    · have hxi : xs[ws.size]? = some xs[ws.size] := Array.getElem?_eq_getElem hi
      have hyi : ys[ws.size]? = some ys[ws.size] := Array.getElem?_eq_getElem (Nat.lt_of_lt_of_le hi hxy)
      refine zip_tt_item S' h1 h2 hxi hyi fun h₂ S₂ hT₂ hk₂ => ?_
      dsimp only at S₂ hT₂ hk₂ ⊢
      have hzT : n + 4 < h'.objs.size := Heap.lt_size S'.z
      have hDT : n + 5 < h'.objs.size := by obtain ⟨_, e⟩ := hl'; exact Heap.lt_size e
      refine wpAny_letOwnedTupleGo_zip S₂.z fun h₃ hz₃ hs₃ => ?_
      have up₃ : ∀ c o, OffZ n c → h'.get? c = some o → h₃.get? c = some o := fun c o hc e => hs₃.extBut c o hc.1 (hk₂ c o hc e)
      have nz : ∀ {c : Nat}, @Ne Nat c (n + 4) → ∀ o, h₂.get? c = some o → h₃.get? c = some o := fun hc o e => hs₃.extBut _ o hc e
      have S₃ : ZS h₃ n .none t1 t2 xs ys (ws.size + 1) := by
        obtain ⟨_, ti, ⟨a, b, to⟩, ⟨o1, i1, r1⟩, ⟨o2, i2, r2⟩, ⟨o3, l1, r3⟩, ⟨o4, l2, r4⟩⟩ := S₂
        exact ⟨hz₃, nz (by omega) _ ti, ⟨a, b, nz (by omega) _ to⟩, ⟨o1, nz (by omega) _ i1, r1⟩, ⟨o2, nz (by omega) _ i2, r2⟩, ⟨o3, nz (Nat.ne_of_lt (Nat.lt_of_lt_of_le h1 (Nat.le_add_right n 4))) _ l1, r3⟩, ⟨o4, nz (Nat.ne_of_lt (Nat.lt_of_lt_of_le h2 (Nat.le_add_right n 4))) _ l2, r4⟩⟩
      have hT₃ : h₃.IsTuple h'.objs.size #[xs[ws.size], ys[ws.size]] := ⟨_, hs₃.extBut _ _ (Nat.ne_of_gt hzT) hT₂, rfl, _, rfl⟩
      refine PySem.W.kcp_assign (env := compEnvC csc cl (n + 6) env) hh hT₃ (lookup_relabel_local hx) (lookup_relabel_local hy) (by simp [compEnvC, relabel, hkind]) (hn'.at' fun o e => up₃ _ o .six e) fun h₄ tk₄ hn₄ hs₄ => ?_
      have hs₄' : ∀ c o, c ≠ n + 6 → h₃.get? c = some o → h₄.get? c = some o := hs₄
      have hk₄ : ∀ b o, b < n → s.heap.get? b = some o → h₄.get? b = some o := fun b o hb e => hs₄' b o (Nat.ne_of_lt (Nat.lt_of_lt_of_le hb (Nat.le_add_right n 6))) (up₃ b o (.lt hb) (hk' b o hb e))
      refine wpAny_mono (helt { s with heap := h₄, toks := tk₄ } _ ws.size _ _ _ hxi hyi hn₄ (by rw [if_neg hne, if_pos rfl]) (by rw [if_pos rfl]) hk₄) (fun v s₅ h₅ => ?_) fun _ _ e => e
      obtain ⟨hv, t₅, rfl⟩ := h₅
      have hl₄ : h₄.PlainList (n + 5) ws := hl'.at fun o e => hs₄' _ o (by omega) (up₃ _ o .five e)
      refine wpAny_list_append_plain (hsz := Nat.le_trans (Nat.le_of_lt (Nat.lt_of_lt_of_le hi hsz)) (by rw [sizeLine_eq]; omega)) hl₄ fun h₆ hl₆ hs₆ => ?_
      have e : (ws.push v).size = ws.size + 1 := Array.size_push ..
      refine ⟨xs.size + 1 - (ws.size + 1), by omega, h₆, t₅, _, ws.push v, rfl, by rw [e]; exact hi, by rw [e], ?_, hl₆, hn₄.sameBut hs₆ (by show (n + 6 : Nat) ≠ n + 5; omega), fun i w q => ?_, fun b o hb e => hs₆.extBut b o (Nat.ne_of_lt (Nat.lt_of_lt_of_le hb (Nat.le_add_right n 5))) (hk₄ b o hb e)⟩
      · rw [e]
        exact S₃.keep (fun c o e a b => hs₆.extBut c o a (hs₄' c o b e)) h1 h2
      · rw [Array.getElem?_push] at q
        split at q
        · rename_i h; cases q; rw [h]; exact hv
        · exact hF' i w q
    · have he : ws.size = xs.size := Nat.le_antisymm hle (Nat.not_lt.mp hi)
      refine zip_tt_end hh S' h1 (by rw [he]; exact Array.getElem?_eq_none (Nat.le_refl _)) fun h₂ hk₂ => ?_
      exact hRR h₂ tk m' ws (hn'.at' fun o e => hk₂ _ o .six e) (hl'.at fun o e => hk₂ _ o .five e) he hF' fun b o hb e => hk₂ b o (.lt hb) (hk' b o hb e)
  rw [hn]
  exact codeAny_compStart_list (loop _ rfl) (wpAny_pyIter_zip S₁.z (loop _ rfl))
end
end Mine
end

section
set_option autoImplicit false
namespace Mine
open PySem PyProof.Rows PySem.Calls

section
variable {C : Wo} {G : Genv} {X X' : Addr → Prop} {env : Env} {ρ ρ' : Loc} {α α' α'' : List Addr} {σ σ' σ'' : St} {s s' s'' : Shared} {A : Around} {E : Value → Shared → Prop}

theorem SExt.but {I : Addr} {h' : Heap} {t : Nat} (x : SExt env α σ s α' σ' s') (h0 : s.heap.objs.size ≤ I) (he : Heap.ExtBut I s'.heap h') (hz : s'.heap.objs.size ≤ h'.objs.size) :
    SExt env α σ s α' σ' { s' with heap := h', toks := t } :=
  ⟨fun a o e n l => he a o (fun q => Nat.not_lt.mpr h0 (q ▸ Heap.lt_size e)) (x.keep a o e n l), x.new, Nat.le_trans x.size hz, x.gens, x.os, x.lock, x.slen⟩

def FlRel (C : Wo) (X : Addr → Prop) (α : List Addr) (h : Heap) : Fl → Flow → Prop
  | .next, f => f = .next
  | .ret v, f => ∃ u, f = .ret u ∧ VRel C X α h v u

theorem FlRel.narrow {I : Addr} {h : Heap} {fl : Fl} {f : Flow} (x : FlRel C (Hide X I) α h fl f) : FlRel C X α h fl f := by
  cases fl with
  | next => exact x
  | ret v => obtain ⟨u, e, r⟩ := x; exact ⟨u, e, r.grow growNarrow (List.prefix_refl _)⟩

/-- the shapes of expressions that are asked for -/
inductive Sh where
  | name (x : Str) (p : Pos)
  | call (f : Expr) (as : List Expr) (ks : List Keyword) (p : Pos)
  | comp (e : Expr) (g : List Comprehension) (sc : Scope) (p : Pos)
  | sub (b i : Expr) (p : Pos)
  | tup (es : List Expr) (k : Nat) (p : Pos)
  | no
noncomputable def Sh.e : Sh → Option Expr
  | .name x p => some (.Name x p)
  | .call f as ks p => some (.Call f as ks p)
  | .comp e g sc p => some (.ListComp e g sc p)
  | .sub b i p => some (.Subscript b i p)
  | .tup es k p => some (.Tuple es k p)
  | .no => none
noncomputable def sh : Expr → Sh
  | .Name x p => .name x p
  | .Call f as ks p => .call f as ks p
  | .ListComp e g sc p => .comp e g sc p
  | .Subscript b i p => .sub b i p
  | .Tuple es k p => .tup es k p
  | _ => .no
theorem sh_e {e x : Expr} (h : (sh e).e = some x) : e = x := by
  cases e <;> first | exact Option.some.inj h | cases h
noncomputable def nameP (e : Expr) : Option (Str × Pos) := match sh e with
  | .name x p => some (x, p)
  | _ => none
noncomputable def callP (e : Expr) : Option (Expr × List Expr × List Keyword × Pos) := match sh e with
  | .call f as ks p => some (f, as, ks, p)
  | _ => none
noncomputable def compP (e : Expr) : Option (Expr × List Comprehension × Scope × Pos) := match sh e with
  | .comp e g sc p => some (e, g, sc, p)
  | _ => none
noncomputable def subP (e : Expr) : Option (Expr × Expr × Pos) := match sh e with
  | .sub b i p => some (b, i, p)
  | _ => none
noncomputable def tupP (e : Expr) : Option (List Expr × Nat × Pos) := match sh e with
  | .tup es k p => some (es, k, p)
  | _ => none
theorem nameP_some {e : Expr} {x : Str × Pos} (h : nameP e = some x) : e = .Name x.1 x.2 := sh_e (by unfold nameP at h; cases q : sh e <;> rw [q] at h <;> cases h; rfl)
theorem callP_some {e : Expr} {x : Expr × List Expr × List Keyword × Pos} (h : callP e = some x) : e = .Call x.1 x.2.1 x.2.2.1 x.2.2.2 := sh_e (by unfold callP at h; cases q : sh e <;> rw [q] at h <;> cases h; rfl)
theorem compP_some {e : Expr} {x : Expr × List Comprehension × Scope × Pos} (h : compP e = some x) : e = .ListComp x.1 x.2.1 x.2.2.1 x.2.2.2 := sh_e (by unfold compP at h; cases q : sh e <;> rw [q] at h <;> cases h; rfl)
theorem subP_some {e : Expr} {x : Expr × Expr × Pos} (h : subP e = some x) : e = .Subscript x.1 x.2.1 x.2.2 := sh_e (by unfold subP at h; cases q : sh e <;> rw [q] at h <;> cases h; rfl)
theorem tupP_some {e : Expr} {x : List Expr × Nat × Pos} (h : tupP e = some x) : e = .Tuple x.1 x.2.1 x.2.2 := sh_e (by unfold tupP at h; cases q : sh e <;> rw [q] at h <;> cases h; rfl)
noncomputable def list1 {β : Type} : List β → Option β
  | [x] => some x
  | _ => none
theorem list1_some {β : Type} {l : List β} {x : β} (h : list1 l = some x) : l = [x] := by
  cases l with
  | nil => cases h
  | cons a r => cases r with
    | nil => cases h; rfl
    | cons _ _ => cases h
noncomputable def okIt (K : Str → Option D) (sc : Scope) (it : Expr) : Bool :=
  ((callP it).bind fun c => (nameP c.1).map fun f => decide (f.1 = ("range" : Str)) && gi sc f.1 && okEs K sc c.2.1 && c.2.2.1.isEmpty) == some true

noncomputable def okTgt (K : Str → Option D) (sc : Scope) (ts : List Expr) : Bool :=
  ((list1 ts).bind fun t => match nameP t with
    | some x => some (okN sc x.1)
    | none => (subP t).map fun b => okE K sc b.1 && okE K sc b.2.1) == some true
/-- what a comprehension over a range must be that is bound to a name -/
noncomputable def okCompX (K : Str → Option D) (sc : Scope) (y : Str) (py : Pos) (elt : Expr) (x : Str) (a : Expr) (csc : Scope) (pos : Pos) : Bool :=
  gi sc "range" && okE K sc a && (sc.names.lookup y == some .local) && (py.line == pos.line) && !(csc.names.any fun q => q.1 == y && (q.2 == .local || q.2 == .cell)) && csc.names.all (fun q => !(q.2 == .cell)) && (csc.kind == .function) &&
    csc.names.all (fun q => !(q.2 == .local) || csc.names.lookup q.1 == some .local) && (csc.names.lookup x == some .local) && csc.names.all (fun q => !(q.2 == .free) || sc.names.lookup q.1 == some .cell) && okP elt
noncomputable def okCompA (K : Str → Option D) (sc : Scope) (ts : List Expr) (e : Expr) : Bool :=
  ((list1 ts).bind fun t => (nameP t).bind fun y => (compP e).bind fun c => (list1 c.2.1).bind fun g => (nameP g.target).bind fun x => (callP g.iter).bind fun ca => (nameP ca.1).bind fun f => (list1 ca.2.1).map fun a =>
    ca.2.2.1.isEmpty && g.ifs.isEmpty && (g.is_async == 0) && decide (f.1 = ("range" : Str)) && okCompX K sc y.1 y.2 c.1 x.1 a c.2.2.1 c.2.2.2) == some true

/-- sorted of a comprehension over a zip, bound to a name -/
noncomputable def names2 (es : List Expr) : Option ((Str × Pos) × (Str × Pos)) := match es with
  | [a, b] => (nameP a).bind fun x => (nameP b).map fun y => (x, y)
  | _ => none
theorem names2_some {es : List Expr} {x : (Str × Pos) × (Str × Pos)} (h : names2 es = some x) : es = [.Name x.1.1 x.1.2, .Name x.2.1 x.2.2] := by
  match es, h with
  | [a, b], h =>
    obtain ⟨u, h1, h⟩ := Option.bind_eq_some_iff.mp h
    obtain ⟨v, h2, rfl⟩ := Option.map_eq_some_iff.mp h
    rw [nameP_some h1, nameP_some h2]
noncomputable def okZipX (K : Str → Option D) (sc : Scope) (elt : Expr) (x y : Str) (args : List Expr) (csc : Scope) : Bool :=
  gi sc "sorted" && gi sc "zip" && okEs K sc args && csc.names.all (fun q => !(q.2 == .cell)) && (csc.kind == .function) &&
    csc.names.all (fun q => !(q.2 == .local) || csc.names.lookup q.1 == some .local) && (csc.names.lookup x == some .local) && (csc.names.lookup y == some .local) && !(x == y) && csc.names.all (fun q => !(q.2 == .free)) && okP elt
noncomputable def okZipA (K : Str → Option D) (sc : Scope) (ts : List Expr) (e : Expr) : Bool :=
  ((list1 ts).bind fun t => (nameP t).bind fun r => (callP e).bind fun so => (nameP so.1).bind fun sf => (list1 so.2.1).bind fun ce => (compP ce).bind fun c => (list1 c.2.1).bind fun g => (tupP g.target).bind fun tg => (names2 tg.1).bind fun xy =>
    (callP g.iter).bind fun ca => (nameP ca.1).map fun f => okN sc r.1 && so.2.2.1.isEmpty && decide (sf.1 = ("sorted" : Str)) && ca.2.2.1.isEmpty && g.ifs.isEmpty && (g.is_async == 0) && decide (f.1 = ("zip" : Str)) && okZipX K sc c.1 xy.1.1 xy.2.1 ca.2.1 c.2.2.1) == some true

mutual
noncomputable def okS (K : Str → Option D) (sc : Scope) : Stmt → Bool
  | .Pass _ => true
  | .Expr e _ => okE K sc e
  | .Return e _ => match e with
    | some e => okE K sc e
    | none => true
  | .Assign ts e _ => (okE K sc e && okTgt K sc ts) || okCompA K sc ts e || okZipA K sc ts e
  | .If t b e _ => okE K sc t && okSs K sc b && okSs K sc e
  | .For t it body _ _ => (okIt K sc it || (okE K sc it && (nameP it).isSome)) && okSs K sc body && (((nameP t).map fun x => okN sc x.1) == some true)
  | _ => false
noncomputable def okSs (K : Str → Option D) (sc : Scope) : List Stmt → Bool
  | [] => true
  | s :: r => okS K sc s && okSs K sc r
end

section
variable {K : Str → Option D} {sc : Scope}
theorem okS_Expr {e : Expr} {p : Pos} : okS K sc (.Expr e p) = okE K sc e := rfl
theorem okS_Ret {e : Expr} {p : Pos} : okS K sc (.Return (some e) p) = okE K sc e := rfl
theorem okS_If {t : Expr} {b e : List Stmt} {p : Pos} : okS K sc (.If t b e p) = (okE K sc t && okSs K sc b && okSs K sc e) := rfl
theorem okTgt_ex {ts : List Expr} (h : okTgt K sc ts = true) : (∃ x q, ts = [.Name x q] ∧ okN sc x = true) ∨ ∃ b i q, ts = [.Subscript b i q] ∧ okE K sc b = true ∧ okE K sc i = true := by
  unfold okTgt at h
  rw [beq_iff_eq, Option.bind_eq_some_iff] at h
  obtain ⟨t, h1, h⟩ := h
  obtain rfl := list1_some h1
  split at h
  · rename_i x hx
    obtain rfl := nameP_some hx
    exact .inl ⟨_, _, rfl, Option.some.inj h⟩
  · obtain ⟨b, hb, h2⟩ := Option.map_eq_some_iff.mp h
    obtain rfl := subP_some hb
    rw [Bool.and_eq_true] at h2
    exact .inr ⟨_, _, _, rfl, h2⟩
theorem okS_Assign {ts : List Expr} {e : Expr} {p : Pos} (h : okS K sc (.Assign ts e p) = true) : ((okE K sc e = true ∧ okTgt K sc ts = true) ∨ okCompA K sc ts e = true) ∨ okZipA K sc ts e = true := by
  replace h : ((okE K sc e && okTgt K sc ts) || okCompA K sc ts e || okZipA K sc ts e) = true := h
  rw [Bool.or_eq_true, Bool.or_eq_true, Bool.and_eq_true] at h
  exact h
theorem okZipA_ex {ts : List Expr} {e : Expr} (h : okZipA K sc ts e = true) : ∃ r pr ps pc elt x y px py k tp pf args pz csc pos, ts = [.Name r pr] ∧ okN sc r = true ∧
    e = .Call (.Name "sorted" ps) [.ListComp elt [⟨.Tuple [.Name x px, .Name y py] k tp, .Call (.Name "zip" pf) args [] pz, [], 0⟩] csc pos] [] pc ∧ okZipX K sc elt x y args csc = true := by
  unfold okZipA at h
  rw [beq_iff_eq] at h
  obtain ⟨t, h1, k1⟩ := Option.bind_eq_some_iff.mp h
  obtain ⟨⟨r, pr⟩, h2, k2⟩ := Option.bind_eq_some_iff.mp k1
  obtain ⟨⟨sf, sa, sk, pc⟩, h3, k3⟩ := Option.bind_eq_some_iff.mp k2
  obtain ⟨⟨sn, ps⟩, h4, k4⟩ := Option.bind_eq_some_iff.mp k3
  obtain ⟨ce, h5, k5⟩ := Option.bind_eq_some_iff.mp k4
  obtain ⟨⟨elt, gs, csc, pos⟩, h6, k6⟩ := Option.bind_eq_some_iff.mp k5
  obtain ⟨⟨gt, gi', gf, ga⟩, h7, k7⟩ := Option.bind_eq_some_iff.mp k6
  obtain ⟨⟨te, k, tp⟩, h8, k8⟩ := Option.bind_eq_some_iff.mp k7
  obtain ⟨⟨⟨x, px⟩, y, py⟩, h9, k9⟩ := Option.bind_eq_some_iff.mp k8
  obtain ⟨⟨cf, ca, ck, pz⟩, h10, k10⟩ := Option.bind_eq_some_iff.mp k9
  obtain ⟨⟨f, pf⟩, h11, k11⟩ := Option.map_eq_some_iff.mp k10
  replace k11 : (okN sc r && sk.isEmpty && decide (sn = ("sorted" : Str)) && ck.isEmpty && gf.isEmpty && (ga == 0) && decide (f = ("zip" : Str)) && okZipX K sc elt x y ca csc) = true := k11
  simp only [Bool.and_eq_true, List.isEmpty_iff, beq_iff_eq, decide_eq_true_eq] at k11
  have e1 : ts = [t] := list1_some h1
  have e2 : t = .Name r pr := nameP_some h2
  have e3 : e = .Call sf sa sk pc := callP_some h3
  have e4 : sf = .Name sn ps := nameP_some h4
  have e5 : sa = [ce] := list1_some h5
  have e6 : ce = .ListComp elt gs csc pos := compP_some h6
  have e7 : gs = [⟨gt, gi', gf, ga⟩] := list1_some h7
  have e8 : gt = .Tuple te k tp := tupP_some h8
  have e9 : te = [.Name x px, .Name y py] := names2_some h9
  have e10 : gi' = .Call cf ca ck pz := callP_some h10
  have e11 : cf = .Name f pf := nameP_some h11
  refine ⟨r, pr, ps, pc, elt, x, y, px, py, k, tp, pf, ca, pz, csc, pos, ?_, k11.1.1.1.1.1.1.1, ?_, k11.2⟩
  · rw [e1, e2]
  · rw [e3, e4, e5, e6, e7, e8, e9, e10, e11, k11.1.1.1.1.1.1.2, k11.1.1.1.1.1.2, k11.1.1.1.1.2, k11.1.1.1.2, k11.1.1.2, k11.1.2]
theorem okCompA_ex {ts : List Expr} {e : Expr} (h : okCompA K sc ts e = true) : ∃ y py elt x px pf a pr csc pos, ts = [.Name y py] ∧ e = .ListComp elt [⟨.Name x px, .Call (.Name "range" pf) [a] [] pr, [], 0⟩] csc pos ∧ okCompX K sc y py elt x a csc pos = true := by
  unfold okCompA at h
  rw [beq_iff_eq] at h
  obtain ⟨t, h1, k1⟩ := Option.bind_eq_some_iff.mp h
  obtain ⟨⟨y, py⟩, h2, k2⟩ := Option.bind_eq_some_iff.mp k1
  obtain ⟨⟨elt, gs, csc, pos⟩, h3, k3⟩ := Option.bind_eq_some_iff.mp k2
  obtain ⟨⟨gt, gi', gf, ga⟩, h4, k4⟩ := Option.bind_eq_some_iff.mp k3
  obtain ⟨⟨x, px⟩, h5, k5⟩ := Option.bind_eq_some_iff.mp k4
  obtain ⟨⟨cf, ca, ck, pr⟩, h6, k6⟩ := Option.bind_eq_some_iff.mp k5
  obtain ⟨⟨f, pf⟩, h7, k7⟩ := Option.bind_eq_some_iff.mp k6
  obtain ⟨a, h8, k8⟩ := Option.map_eq_some_iff.mp k7
  replace k8 : (ck.isEmpty && gf.isEmpty && (ga == 0) && decide (f = ("range" : Str)) && okCompX K sc y py elt x a csc pos) = true := k8
  simp only [Bool.and_eq_true, List.isEmpty_iff, beq_iff_eq, decide_eq_true_eq] at k8
  have e1 : ts = [t] := list1_some h1
  have e2 : t = .Name y py := nameP_some h2
  have e3 : e = .ListComp elt gs csc pos := compP_some h3
  have e4 : gs = [⟨gt, gi', gf, ga⟩] := list1_some h4
  have e5 : gt = .Name x px := nameP_some h5
  have e6 : gi' = .Call cf ca ck pr := callP_some h6
  have e7 : cf = .Name f pf := nameP_some h7
  have e8 : ca = [a] := list1_some h8
  refine ⟨y, py, elt, x, px, pf, a, pr, csc, pos, ?_, ?_, k8.2⟩
  · rw [e1, e2]
  · rw [e3, e4, e5, e6, e7, e8, k8.1.1.1.1, k8.1.1.1.2, k8.1.1.2, k8.1.2]
theorem okIt_ex {it : Expr} (h : okIt K sc it = true) : ∃ p args q, it = .Call (.Name "range" p) args [] q ∧ gi sc "range" = true ∧ okEs K sc args = true := by
  unfold okIt at h
  rw [beq_iff_eq] at h
  simp only [Option.bind_eq_some_iff, Option.map_eq_some_iff] at h
  obtain ⟨⟨cf, ca, ck, pr⟩, h1, ⟨f, pf⟩, h2, h⟩ := h
  obtain rfl := callP_some h1
  obtain rfl := nameP_some h2
  simp only [Bool.and_eq_true, List.isEmpty_iff, decide_eq_true_eq] at h
  obtain ⟨⟨⟨rfl, hg⟩, ha⟩, rfl⟩ := h
  exact ⟨pf, ca, pr, rfl, hg, ha⟩
theorem okS_For {t it : Expr} {b e : List Stmt} {p : Pos} (h : okS K sc (.For t it b e p) = true) : (okIt K sc it = true ∨ (okE K sc it = true ∧ ∃ y q, it = .Name y q)) ∧ okSs K sc b = true ∧ ∃ x q, t = .Name x q ∧ okN sc x = true := by
  replace h : ((okIt K sc it || (okE K sc it && (nameP it).isSome)) && okSs K sc b && (((nameP t).map fun x => okN sc x.1) == some true)) = true := h
  simp only [Bool.and_eq_true, Bool.or_eq_true, beq_iff_eq, Option.map_eq_some_iff, Option.isSome_iff_exists] at h
  obtain ⟨⟨h1, h2⟩, ⟨x, q⟩, h3, h4⟩ := h
  obtain rfl := nameP_some h3
  exact ⟨h1.imp id fun ⟨a, y, b⟩ => ⟨a, y.1, y.2, nameP_some b⟩, h2, x, q, rfl, h4⟩
theorem okSs_cons {s : Stmt} {r : List Stmt} : okSs K sc (s :: r) = (okS K sc s && okSs K sc r) := rfl
end

def SOk (C : Wo) (G : Genv) (A : Around) (env : Env) (st : Stmt) : Prop :=
  ∀ (X : Addr → Prop) (ρ : Loc) (α : List Addr) (σ : St) (fl : Fl) (ρ' : Loc) (σ' : St) (s : Shared) (E : Value → Shared → Prop) (Q : Flow → Shared → Prop),
    okS G.const env.scope st = true → evS G st ρ σ = some (fl, ρ', σ') → Rel C X env ρ α σ s →
    (∀ α' f s', Rel C X env ρ' α' σ' s' → SExt env α σ s α' σ' s' → FlRel C X α' s'.heap fl f → Q f s') → wpAny C.M A (exec st env) Q E s
def SsOk (C : Wo) (G : Genv) (A : Around) (env : Env) (ss : List Stmt) : Prop :=
  ∀ (X : Addr → Prop) (ρ : Loc) (α : List Addr) (σ : St) (fl : Fl) (ρ' : Loc) (σ' : St) (s : Shared) (E : Value → Shared → Prop) (Q : Flow → Shared → Prop),
    okSs G.const env.scope ss = true → evSs G ss ρ σ = some (fl, ρ', σ') → Rel C X env ρ α σ s →
    (∀ α' f s', Rel C X env ρ' α' σ' s' → SExt env α σ s α' σ' s' → FlRel C X α' s'.heap fl f → Q f s') → wpAny C.M A (execs ss env) Q E s

theorem SsOk.nil : SsOk C G A env [] := fun X ρ α σ fl ρ' σ' s E Q _ h R hQ => by
  simp only [evSs_nil, Option.some.injEq, Prod.mk.injEq] at h
  obtain ⟨rfl, rfl, rfl⟩ := h
  exact wpAny_execs_nil (hQ α _ s R .refl rfl)

theorem SsOk.cons {st : Stmt} {r : List Stmt} (h1 : SOk C G A env st) (h2 : SsOk C G A env r) : SsOk C G A env (st :: r) := fun X ρ α σ fl ρ' σ' s E Q ok h R hQ => by
  simp only [okSs_cons, Bool.and_eq_true] at ok
  simp only [evSs_cons, Option.bind_eq_some_iff] at h
  obtain ⟨⟨fl₁, ρ₁, σ₁⟩, e1, e2⟩ := h
  dsimp only at e2
  refine wpAny_execs_cons (h1 X ρ α σ fl₁ ρ₁ σ₁ s E _ ok.1 e1 R fun α₁ f s₁ R₁ E₁ F₁ => ?_)
  cases fl₁ with
  | next =>
    simp only [FlRel] at F₁
    subst F₁
    exact h2 X ρ₁ α₁ σ₁ fl ρ' σ' s₁ E Q ok.2 e2 R₁ fun α₂ f s₂ R₂ E₂ F₂ => hQ α₂ f s₂ R₂ (E₁.trans E₂) F₂
  | ret v =>
    simp only [Option.some.injEq, Prod.mk.injEq] at e2
    obtain ⟨rfl, rfl, rfl⟩ := e2
    obtain ⟨u, rfl, hv⟩ := F₁
    exact hQ α₁ _ s₁ R₁ E₁ ⟨u, rfl, hv⟩

theorem swaps_plain {e : Expr} {t : Option Expr} {n : Nat} (ok : okE G.const env.scope e = true) : swapsWith e t n env = pure false := by
  cases e <;> first | rfl | cases ok

theorem ok_Pass {pos : Pos} : SOk C G A env (.Pass pos) := fun X ρ α σ fl ρ' σ' s E Q _ h R hQ => by
  simp only [evS_Pass, Option.some.injEq, Prod.mk.injEq] at h
  obtain ⟨rfl, rfl, rfl⟩ := h
  exact wpAny_Pass (hQ α _ s R .refl rfl)

theorem interactive_no (R : Rel C X env ρ α σ s) : interactive env = false := by
  unfold interactive
  rw [R.fr.kind]; rfl

theorem ok_Expr (W : Wk C G A) {e : Expr} {pos : Pos} : SOk C G A env (.Expr e pos) := fun X ρ α σ fl ρ' σ' s E Q ok h R hQ => by
  rw [okS_Expr] at ok
  simp only [evS_Expr, Option.map_eq_some_iff, Prod.mk.injEq] at h
  obtain ⟨⟨v, σ₁⟩, e1, rfl, rfl, rfl⟩ := h
  exact wpAny_Expr_any ((all_ok W e).1 X ρ α σ _ v σ₁ s E _ ok e1 R fun α₁ u s₁ R₁ E₁ V₁ => hQ α₁ _ s₁ R₁ E₁.toS rfl) (interactive_no R) (swaps_plain ok)

theorem ok_Return (W : Wk C G A) {e : Option Expr} {pos : Pos} : SOk C G A env (.Return e pos) := fun X ρ α σ fl ρ' σ' s E Q ok h R hQ => by
  cases e with
  | none =>
    simp only [evS_RetN, Option.some.injEq, Prod.mk.injEq] at h
    obtain ⟨rfl, rfl, rfl⟩ := h
    exact wpAny_Return_none (hQ α _ s R .refl ⟨_, rfl, by simp only [VRel, DRel]⟩)
  | some e =>
    rw [okS_Ret] at ok
    simp only [evS_Ret, Option.map_eq_some_iff, Prod.mk.injEq] at h
    obtain ⟨⟨v, σ₁⟩, e1, rfl, rfl, rfl⟩ := h
    exact wpAny_Return_some ((all_ok W e).1 X ρ α σ _ v σ₁ s E _ ok e1 R fun α₁ u s₁ R₁ E₁ V₁ => hQ α₁ _ s₁ R₁ E₁.toS ⟨u, rfl, V₁⟩)

theorem ok_Assign (W : Wk C G A) {ts : List Expr} {e : Expr} {pos : Pos} {X : Addr → Prop} {ρ : Loc} {α : List Addr} {σ : St} {fl : Fl} {ρ' : Loc} {σ' : St} {s : Shared} {E : Value → Shared → Prop} {Q : Flow → Shared → Prop}
    (oke : okE G.const env.scope e = true) (okt : okTgt G.const env.scope ts = true) (h : evS G (.Assign ts e pos) ρ σ = some (fl, ρ', σ')) (R : Rel C X env ρ α σ s)
    (hQ : ∀ α' f s', Rel C X env ρ' α' σ' s' → SExt env α σ s α' σ' s' → FlRel C X α' s'.heap fl f → Q f s') : wpAny C.M A (exec (.Assign ts e pos) env) Q E s := by
  rcases okTgt_ex okt with ⟨x, px, rfl, ok⟩ | ⟨b, i, px, rfl, ok⟩
  · simp only [evS_AssignN, Option.map_eq_some_iff, Prod.mk.injEq] at h
    obtain ⟨⟨v, σ₁⟩, e1, rfl, rfl, rfl⟩ := h
    refine wpAny_Assign_Name ((all_ok W e).1 X ρ α σ _ v σ₁ s E _ oke e1 R fun α₁ u s₁ R₁ E₁ V₁ => ?_) (swaps_plain oke)
    exact store_ok R₁ ok V₁ fun s₂ R₂ E₂ => hQ α₁ _ s₂ R₂ (E₁.toS.trans E₂) rfl
  · simp only [evS_AssignS, Option.bind_eq_some_iff, Option.map_eq_some_iff, Prod.mk.injEq] at h
    obtain ⟨⟨v, σ₁⟩, e1, ⟨bv, σ₂⟩, e2, ⟨iv, σ₃⟩, e3, σ₄, e4, rfl, rfl, rfl⟩ := h
    refine wpAny_Assign_Subscript ((all_ok W e).1 X ρ α σ _ v σ₁ s E _ oke e1 R fun α₁ u s₁ R₁ E₁ V₁ => ?_) (swaps_plain oke)
    refine (all_ok W b).1 X ρ α₁ σ₁ _ bv σ₂ s₁ E _ ok.1 e2 R₁ fun α₂ ub s₂ R₂ E₂ V₂ => ?_
    refine (all_ok W i).1 X ρ α₂ σ₂ _ iv σ₃ s₂ E _ ok.2 e3 R₂ fun α₃ ui s₃ R₃ E₃ V₃ => ?_
    exact setItemV_ok R₃ (V₂.ext R₂ E₃) V₃ ((V₁.ext R₁ E₂).ext R₂ E₃) e4 fun s₄ R₄ E₄ => hQ α₃ _ s₄ R₄ (((E₁.trans E₂).trans E₃).trans E₄).toS rfl

theorem ok_If (W : Wk C G A) {t : Expr} {b e : List Stmt} {pos : Pos} (hb : SsOk C G A env b) (he : SsOk C G A env e) : SOk C G A env (.If t b e pos) := fun X ρ α σ fl ρ' σ' s E Q ok h R hQ => by
  simp only [okS_If, Bool.and_eq_true] at ok
  simp only [evS_If, Option.bind_eq_some_iff] at h
  obtain ⟨⟨v, σ₁⟩, e1, c, e2, e3⟩ := h
  dsimp only at e3
  refine wpAny_If ((all_ok W t).2.1 X ρ α σ _ v c σ₁ s E _ ok.1.1 e1 e2 R fun α₁ s₁ R₁ E₁ => ?_)
  cases c with
  | true => exact hb X ρ α₁ σ₁ fl ρ' σ' s₁ E Q ok.1.2 e3 R₁ fun α₂ f s₂ R₂ E₂ F₂ => hQ α₂ f s₂ R₂ (E₁.toS.trans E₂) F₂
  | false => exact he X ρ α₁ σ₁ fl ρ' σ' s₁ E Q ok.2 e3 R₁ fun α₂ f s₂ R₂ E₂ F₂ => hQ α₂ f s₂ R₂ (E₁.toS.trans E₂) F₂

end
end Mine
end

section
set_option autoImplicit false
namespace Mine
open PySem PyProof.Rows PySem.Calls

theorem mapO_get {β γ : Type} {f : β → Option γ} : ∀ {l : List β} {ds : List γ} {i : Nat} {x : β}, mapO f l = some ds → l[i]? = some x → ∃ d, f x = some d ∧ ds[i]? = some d
  | [], _, _, _, _, h => by simp at h
  | y :: r, ds, i, x, hm, h => by
    rw [mapO_cons] at hm
    simp only [Option.bind_eq_some_iff, Option.map_eq_some_iff] at hm
    obtain ⟨d, hd, ds', hm, rfl⟩ := hm
    cases i with
    | zero => simp at h; subst h; exact ⟨d, hd, rfl⟩
    | succ i =>
      obtain ⟨d2, h1, h2⟩ := mapO_get (i := i) hm (by simpa using h)
      exact ⟨d2, h1, by simpa using h2⟩
theorem mapO_len {β γ : Type} {f : β → Option γ} : ∀ {l : List β} {ds : List γ}, mapO f l = some ds → ds.length = l.length
  | [], _, h => by cases h; rfl
  | y :: r, ds, hm => by
    rw [mapO_cons] at hm
    simp only [Option.bind_eq_some_iff, Option.map_eq_some_iff] at hm
    obtain ⟨d, hd, ds', hm, rfl⟩ := hm
    rw [List.length_cons, List.length_cons, mapO_len hm]

theorem zipD_get : ∀ {xs ys : List D} {i : Nat} {a b : D}, xs[i]? = some a → ys[i]? = some b → (zipD xs ys)[i]? = some (.d (.tup [a, b]))
  | [], _, _, _, _, h, _ => by simp at h
  | _ :: _, [], _, _, _, _, h => by simp at h
  | x :: xs, y :: ys, 0, a, b, h1, h2 => by simp at h1 h2; subst h1; subst h2; rfl
  | x :: xs, y :: ys, i + 1, a, b, h1, h2 => zipD_get (xs := xs) (ys := ys) (i := i) (by simpa using h1) (by simpa using h2)
theorem zipD_len : ∀ {xs ys : List D}, xs.length = ys.length → (zipD xs ys).length = xs.length
  | [], [], _ => rfl
  | [], _ :: _, h => nomatch h
  | _ :: _, [], h => nomatch h
  | x :: xs, y :: ys, h => by
    show (zipD xs ys).length + 1 = xs.length + 1
    rw [zipD_len (Nat.succ.inj h)]
theorem dsRel_at {C : Wo} {B : Addr → Prop} {h : Heap} : ∀ {xs : List D} {vs : List Value} {i : Nat} {u : Value}, DsRel C B h xs vs → vs[i]? = some u → ∃ a, xs[i]? = some a ∧ DRel C B h a u
  | [], vs, i, u, r, e => by
    simp only [DsRel] at r
    subst r
    simp at e
  | x :: xs, vs, i, u, r, e => by
    simp only [DsRel] at r
    obtain ⟨v, r', rfl, h1, h2⟩ := r
    cases i with
    | zero => simp at e; subst e; exact ⟨x, rfl, h1⟩
    | succ i =>
      obtain ⟨a, k1, k2⟩ := dsRel_at (i := i) h2 (by simpa using e)
      exact ⟨a, by simpa using k1, k2⟩
theorem dsRel_scal {C : Wo} {B : Addr → Prop} {h : Heap} : ∀ {ds : List D} {ws : List Value}, ds.length = ws.length → (∀ (i : Nat) w, ws[i]? = some w → ∃ d, ds[i]? = some d ∧ Scal d w) → DsRel C B h ds ws
  | [], [], _, _ => by simp only [DsRel]
  | [], _ :: _, h, _ => nomatch h
  | _ :: _, [], h, _ => nomatch h
  | d :: ds, w :: ws, hl, hF => by
    simp only [DsRel]
    obtain ⟨d', e, hs⟩ := hF 0 w rfl
    simp at e; subst e
    exact ⟨w, ws, rfl, hs.rel, dsRel_scal (Nat.succ.inj hl) fun i w q => hF (i + 1) w q⟩
theorem captured_nil {csc : Scope} (hf : ∀ q ∈ csc.names, ¬ q.2 = .free) (ρ : Loc) : captured csc ρ = [] := by
  unfold captured
  refine List.filter_eq_nil_iff.mpr fun p _ q => ?_
  exact hf _ (mem_of_lookup (eq_of_beq q)) rfl
theorem zipF_ex {σ : St} {ws : List V} {r : List V × Option Nat} (h : iterF σ "zip" ws = some r) : ∃ xs ys, ws = [.d (.tup xs), .d (.tup ys)] ∧ xs.length = ys.length ∧ xs.length ≤ 1000 ∧ r.1 = zipD xs ys := by
  unfold iterF at h
  rw [if_neg (by decide +kernel), if_pos rfl] at h
  split at h
  · simp only [Option.bind_eq_some_iff] at h
    obtain ⟨xs, hx, ys, hy, h⟩ := h
    split at h
    · rename_i hl
      cases h
      exact ⟨xs, ys, by rw [tupV_some hx, tupV_some hy], hl.1, hl.2, rfl⟩
    · cases h
  · cases h

section
variable {C : Wo} {G : Genv} {X X' : Addr → Prop} {env : Env} {ρ ρ' : Loc} {α α' α'' : List Addr} {σ σ' σ'' : St} {s s' s'' : Shared} {A : Around} {E : Value → Shared → Prop}

theorem zip_ev (W : Wk C G A) {x y : Str} {px py tp pf pz pos : Pos} {k : Nat} {elt : Expr} {args : List Expr} {csc : Scope} {v : V} {Q : Value → Shared → Prop} (ok : okZipX G.const env.scope elt x y args csc = true)
    (h : evE G ρ false (.ListComp elt [⟨.Tuple [.Name x px, .Name y py] k tp, .Call (.Name "zip" pf) args [] pz, [], 0⟩] csc pos) σ = some (v, σ')) (R : Rel C X env ρ α σ s)
    (hQ : ∀ α' u s', Rel C X env ρ α' σ' s' → Ext env α σ s α' σ' s' → VRel C X α' s'.heap v u → Q u s') :
    wpAny C.M A (eval (.ListComp elt [⟨.Tuple [.Name x px, .Name y py] k tp, .Call (.Name "zip" pf) args [] pz, [], 0⟩] csc pos) env) Q E s := by
  unfold okZipX at ok
  simp only [Bool.and_eq_true, beq_iff_eq, Bool.not_eq_true', List.all_eq_true, Bool.or_eq_true, beq_eq_false_iff_ne] at ok
  obtain ⟨⟨⟨⟨⟨⟨⟨⟨⟨⟨_, hg⟩, oka⟩, hcell⟩, hkind⟩, hnames⟩, hx⟩, hy⟩, hne⟩, hfree⟩, okp⟩ := ok
  have g := gi_kind hg
  rw [evE_Comp, evI_Call] at h
  simp only [Option.map_eq_some_iff, Option.bind_eq_some_iff] at h
  obtain ⟨⟨vs, src, σ₁⟩, ⟨⟨ws, σ₁'⟩, e1, ⟨vs', src'⟩, e2, e5⟩, ds, e3, e4⟩ := h
  cases e5
  dsimp only at e2 e3 e4
  obtain ⟨xs, ys, rfl, hl, hl', rfl⟩ := zipF_ex e2
  obtain ⟨cl, hclos, _⟩ := closure_ok (csc := csc) (env := env) fun n k hm hk => absurd hk (hfree (n, k) hm)
  show wpAny C.M A (comprehension (.ListComp elt [⟨.Tuple [.Name x px, .Name y py] k tp, .Call (.Name "zip" pf) args [] pz, [], 0⟩] csc pos) csc env _ (newList []) false (eval (.Call (.Name "zip" pf) args [] pz) env) none) Q E s
  refine wpAny_comprehension_free (use := none) rfl (by intro _; rfl) hclos hkind (fun q hq hl => (hnames q hq).elim (fun h => absurd hl h) id) ?_
  show wpAny C.M A (do callWith pz (← eval (.Name "zip" pf) env) [] (backTo pz (starEach args env)) []) _ E s
  refine wpAny_bind (Name_function_global R.fr.kind g.1 (loadGlobal_builtin (R.gns W) W.zp.1 (R.bns W) W.zp.2 ?_) g.2)
  refine call_with (P := fun _ => True) e1 (fun h _ => ⟨_, .inr (.inl rfl), keeper_type _ _ _⟩) ?_
  refine (alls_ok W args).1 X ρ α σ _ _ σ₁' s E pz _ oka e1 R fun α₁ us s₁ R₁ E₁ V₁ => ⟨trivial, ?_⟩
  rw [List.nil_append]
  obtain ⟨u, u', rfl, hu, hu'⟩ := V₁.two
  simp only [VRel, DRel] at hu hu'
  obtain ⟨t1, vs1, rfl, ht1, _, hd1⟩ := hu
  obtain ⟨t2, vs2, rfl, ht2, _, hd2⟩ := hu'
  refine call_zip_tt (xs := vs1.toArray) (ys := vs2.toArray) ht1 ht2 fun h₂ S₂ hz₂ up₂ => ?_
  refine wpAny_pyIter_zip S₂.z ?_
  have lt1 : t1 < s₁.heap.objs.size := by obtain ⟨o, e, _⟩ := ht1; exact Heap.lt_size e
  have lt2 : t2 < s₁.heap.objs.size := by obtain ⟨o, e, _⟩ := ht2; exact Heap.lt_size e
  have len1 := hd1.length
  have len2 := hd2.length
  have hcap := captured_nil hfree ρ
  refine zip_run (C := C) (env := env) (s := { s₁ with heap := h₂ }) (n := s₁.heap.objs.size) W.hh lt1 lt2 (by simp; omega) (by simp; omega) (fun i w => ∃ d, ds[i]? = some d ∧ Scal d w) (fun q hq => hcell q hq) hkind hx hy hne S₂ hz₂ ?_ ?_
  · intro s₃ m₃ i u v E' hxi hyi hn hmx hmy hk
    rw [List.getElem?_toArray] at hxi hyi
    obtain ⟨a, ha, ra⟩ := dsRel_at hd1 hxi
    obtain ⟨b, hb, rb⟩ := dsRel_at hd2 hyi
    obtain ⟨d, hd, hds⟩ := mapO_get e3 (zipD_get ha hb)
    unfold itemP at hd
    rw [hcap] at hd
    simp only [Option.bind_eq_some_iff] at hd
    obtain ⟨l, hl, d', hd1, hd2⟩ := hd
    cases hl
    have hsc : scalar d' = true ∧ d' = d := by
      split at hd2
      · rename_i q; cases hd2; exact ⟨q, rfl⟩
      · cases hd2
    obtain ⟨hsc, rfl⟩ := hsc
    have g3 : Grow (Bad X α₁) s₁.heap (Bad X α₁) s₃.heap := fun bb o nb e => ⟨hk bb o (Heap.lt_size e) (up₂ bb o e), nb⟩
    have pe : PEnv C (Bad X α₁) s₃.heap (compEnvC csc cl (s₁.heap.objs.size + 6) env) ([(x, V.d a), (y, V.d b)] ++ []) := by
      refine ⟨hkind, fun n dd hg => ?_⟩
      rw [List.append_nil] at hg
      simp only [getV_c] at hg
      by_cases hnx : n = x
      · subst hnx
        rw [if_pos rfl] at hg
        simp only [Option.some.injEq, V.d.injEq] at hg
        subst hg
        exact .inl ⟨lookup_relabel_local hx, m₃, _, hn, hmx, ra.grow g3⟩
      · rw [if_neg hnx] at hg
        by_cases hny : n = y
        · subst hny
          rw [if_pos rfl] at hg
          simp only [Option.some.injEq, V.d.injEq] at hg
          subst hg
          exact .inl ⟨lookup_relabel_local hy, m₃, _, hn, hmy, rb.grow g3⟩
        · rw [if_neg hny] at hg; cases hg
    exact pe_all elt E' s₃ _ d' okp hd1 pe fun u t hu => ⟨⟨d', hds, Scal.of hsc hu⟩, t, rfl⟩
  · intro h' tk m' ws hn hpl hlen hF hk
    refine ⟨m', hn, fun h'' hs'' => ?_⟩
    have keep : ∀ bb o, s₁.heap.get? bb = some o → h''.get? bb = some o := fun bb o e => hs''.extBut bb o (Nat.ne_of_lt (Nat.lt_of_lt_of_le (Heap.lt_size e) (Nat.le_add_right _ 6))) (hk bb o (Heap.lt_size e) (up₂ bb o e))
    have hpl'' : h''.PlainList (s₁.heap.objs.size + 5) ws := hpl.extBut hs''.extBut (by show (s₁.heap.objs.size + 5 : Nat) ≠ s₁.heap.objs.size + 6; omega)
    obtain ⟨kk, hpl''⟩ := hpl''
    have hsz : s₁.heap.objs.size ≤ h''.objs.size := Nat.le_of_lt (Nat.lt_of_le_of_lt (Nat.le_add_right _ 5) (Heap.lt_size hpl''))
    have Ev : Ext0 env s₁ { s₁ with heap := h'', toks := tk } := .of keep hsz
    have hdl : ds.length = ws.toList.length := by
      rw [mapO_len e3, zipD_len hl, len1]
      show vs1.length = ws.size
      rw [hlen, List.size_toArray]
    have hds : DsRel C (Bad X α₁) s₁.heap ds ws.toList := dsRel_scal hdl fun i w q => hF i w (by rw [Array.getElem?_toList] at q; exact q)
    have Fr := fresh_list (k := kk) R₁ Ev (Nat.le_add_right _ 5) (by rw [Array.toArray_toList]; exact hpl'') hds
    have e5 : own false (.d (.list ds)) σ₁' = (v, σ') := by
      split at e4
      · exact Option.some.inj e4
      · cases e4
    obtain ⟨α₃, R₃, V₃, E₃⟩ := own_ok R₁ Ev Fr e5
    exact hQ α₃ _ _ R₃ (E₁.trans E₃) V₃

theorem ok_ZipAssign (W : Wk C G A) {r x y : Str} {pr ps pc px py tp pf pz pos spos : Pos} {k : Nat} {elt : Expr} {args : List Expr} {csc : Scope} {fl : Fl} {Q : Flow → Shared → Prop} (okr : okN env.scope r = true) (ok : okZipX G.const env.scope elt x y args csc = true)
    (h : evS G (.Assign [.Name r pr] (.Call (.Name "sorted" ps) [.ListComp elt [⟨.Tuple [.Name x px, .Name y py] k tp, .Call (.Name "zip" pf) args [] pz, [], 0⟩] csc pos] [] pc) spos) ρ σ = some (fl, ρ', σ')) (R : Rel C X env ρ α σ s)
    (hQ : ∀ α' f s', Rel C X env ρ' α' σ' s' → SExt env α σ s α' σ' s' → FlRel C X α' s'.heap fl f → Q f s') :
    wpAny C.M A (exec (.Assign [.Name r pr] (.Call (.Name "sorted" ps) [.ListComp elt [⟨.Tuple [.Name x px, .Name y py] k tp, .Call (.Name "zip" pf) args [] pz, [], 0⟩] csc pos] [] pc) spos) env) Q E s := by
  have hgs : gi env.scope "sorted" = true := by
    unfold okZipX at ok
    simp only [Bool.and_eq_true] at ok
    exact ok.1.1.1.1.1.1.1.1.1.1
  have g := gi_kind hgs
  have hb : bfOf "sorted" = some .sorted := by kernel_rfl
  rw [evS_AssignN, evE_CallN (by decide +kernel), hb] at h
  simp only [Option.map_eq_some_iff, Option.bind_eq_some_iff, Prod.mk.injEq] at h
  obtain ⟨⟨v, σ₂⟩, ⟨⟨vs, σ₁⟩, h1, w, h2, h3⟩, rfl, rfl, rfl⟩ := h
  have h1' := h1
  rw [evEs_cons] at h1'
  simp only [Option.bind_eq_some_iff, Option.map_eq_some_iff] at h1'
  obtain ⟨⟨v₀, σ₀⟩, e0, ⟨vs₀, σ₀'⟩, e1, e2⟩ := h1'
  cases e1
  cases e2
  refine wpAny_Assign_Name ?_ rfl
  show wpAny C.M A (do callWith pc (← eval (.Name "sorted" ps) env) [] (backTo pc (starEach [.ListComp elt [⟨.Tuple [.Name x px, .Name y py] k tp, .Call (.Name "zip" pf) args [] pz, [], 0⟩] csc pos] env)) []) _ E s
  have hbf := W.bf "sorted" .sorted hb
  refine wpAny_bind (Name_function_global R.fr.kind g.1 (loadGlobal_builtin (R.gns W) hbf.1 (R.bns W) hbf.2 ?_) g.2)
  refine call_with (P := fun _ => True) h1 (fun h _ => ⟨_, .inr (.inl rfl), keeper_bf _ _ _⟩) ?_
  rw [starEach_cons e0]
  refine spliced_cons (zip_ev W ok e0 R fun α₁ u s₁ R₁ E₁ V₁ => spliced_nil ⟨trivial, ?_⟩)
  rw [List.nil_append]
  have V₂ : VsRel C X α₁ s₁.heap [v₀] [u] := by simp only [VsRel]; exact ⟨_, _, rfl, V₁, rfl⟩
  refine bfV_ok W.h2 W.hh R₁ V₂ h2 fun x u s₂ e E₂ F => ?_
  subst e
  obtain ⟨α₃, R₃, V₃, E₃⟩ := own_ok R₁ E₂ F h3
  exact store_ok R₃ okr V₃ fun s₃ R₄ E₄ => hQ α₃ _ s₃ R₄ ((E₁.trans E₃).toS.trans E₄) rfl
end
end Mine
end

section
set_option autoImplicit false
namespace Mine
open PySem PyProof.Rows PySem.Calls

/-- an iterator that gives such items -/
structure Drawn (C : Wo) (A : Around) (X : Addr → Prop) (env : Env) (I : Addr) (S : List V → List Addr → St → Heap → Prop) : Prop where
  keep : ∀ (r : List V) (ρ : Loc) (α : List Addr) (σ : St) (s : Shared) (α' : List Addr) (σ' : St) (s' : Shared), Rel C X env ρ α σ s → S r α σ s.heap → SExt env α σ s α' σ' s' → S r α' σ' s'.heap
  cls : ∀ (r : List V) (α : List Addr) (σ : St) (h : Heap), S r α σ h → ∃ o, h.get? I = some o ∧ NoTup o
  item : ∀ (v : V) (r : List V) (ρ : Loc) (α : List Addr) (σ : St) (s : Shared) (E : Value → Shared → Prop) (Q : Option Value → Shared → Prop), Rel C X env ρ α σ s → S (v :: r) α σ s.heap →
    (∀ u h' t, Heap.SameBut I s.heap h' → VRel C X α h' v u → S r α σ h' → Q (some u) { s with heap := h', toks := t }) → wpAny C.M A (pyNext (.ref I)) Q E s
  fin : ∀ (α : List Addr) (σ : St) (s : Shared) (E : Value → Shared → Prop) (Q : Option Value → Shared → Prop), S [] α σ s.heap → (∀ h' t, Heap.ExtBut I s.heap h' → Q none { s with heap := h', toks := t }) → wpAny C.M A (pyNext (.ref I)) Q E s

section
variable {C : Wo} {G : Genv} {X X' : Addr → Prop} {env : Env} {ρ ρ' : Loc} {α α' α'' : List Addr} {σ σ' σ'' : St} {s s' s'' : Shared} {A : Around} {E : Value → Shared → Prop}

theorem loop_ok {x : Str} {px : Pos} {body : List Stmt} {I : Addr} {S : List V → List Addr → St → Heap → Prop} (D : Drawn C A (Hide X I) env I S) (fa : ∀ a ∈ FA env, X a) (nX : ¬ X I) (hI : I ∉ FA env) (hb : C.base.objs.size ≤ I) (hx : okN env.scope x = true)
    (hbody : SsOk C G A env body) (okb : okSs G.const env.scope body = true) {vs : List V} {fl : Fl} (h : loopL (fun v ρ σ => evSs G body (setV x v ρ) σ) vs ρ σ = some (fl, ρ', σ')) (R : Rel C (Hide X I) env ρ α σ s) (hS : S vs α σ s.heap)
    {s₀ : Shared} {α₀ : List Addr} {σ₀ : St} (h0 : s₀.heap.objs.size ≤ I) (E0 : SExt env α₀ σ₀ s₀ α σ s) {Rr : Result → Shared → Prop}
    (hQ : ∀ α' f s', Rel C X env ρ' α' σ' s' → SExt env α₀ σ₀ s₀ α' σ' s' → FlRel C X α' s'.heap fl f → Rr (.ok f) s') : codeAny C.M A (.forLoop (.Name x px) (.ref I) body [] env) Rr s := by
  refine codeAny_forLoop (fun n s => ∃ r ρ α σ, r.length = n ∧ loopL (fun v ρ σ => evSs G body (setV x v ρ) σ) r ρ σ = some (fl, ρ', σ') ∧ Rel C (Hide X I) env ρ α σ s ∧ S r α σ s.heap ∧ SExt env α₀ σ₀ s₀ α σ s) (fun n s hI' => ?_) vs.length
    ⟨vs, ρ, α, σ, rfl, h, R, hS, E0⟩
  obtain ⟨r, ρ, α, σ, rfl, h, R, hS, E0⟩ := hI'
  cases r with
  | nil =>
    simp only [loopL_n, Option.some.injEq, Prod.mk.injEq] at h
    obtain ⟨rfl, rfl, rfl⟩ := h
    refine wpAny_size (D.fin α σ s _ _ hS fun h' t he hz => ?_)
    exact wpAny_execs_nil (hQ α _ _ (R.butNarrow fa hI nX hb he hz) (E0.but h0 he hz) rfl)
  | cons v r =>
    simp only [loopL_c, Option.bind_eq_some_iff] at h
    obtain ⟨⟨fl₁, ρ₁, σ₁⟩, e1, e2⟩ := h
    dsimp only at e2
    refine D.item v r ρ α σ s _ _ R hS fun u h' t hs hv hS' => ?_
    have R₁ : Rel C (Hide X I) env ρ α σ { s with heap := h', toks := t } := R.but (.inr rfl) hI hb hs.extBut (Nat.le_of_eq hs.1.symm) (D.cls _ _ _ _ hS')
    have E₁ : SExt env α₀ σ₀ s₀ α σ { s with heap := h', toks := t } := E0.but h0 hs.extBut (Nat.le_of_eq hs.1.symm)
    refine wpAny_assign_Name (store_ok R₁ hx hv fun s₂ R₂ E₂ => ?_)
    have hS₂ := D.keep r ρ α σ _ α σ s₂ R₁ hS' E₂
    refine hbody (Hide X I) (setV x v ρ) α σ fl₁ ρ₁ σ₁ s₂ _ _ okb e1 R₂ fun α₃ f s₃ R₃ E₃ F₃ => ?_
    have hS₃ := D.keep r _ α σ _ α₃ σ₁ s₃ R₂ hS₂ E₃
    cases fl₁ with
    | next =>
      simp only [FlRel] at F₃
      subst F₃
      exact ⟨r.length, by simp, r, ρ₁, α₃, σ₁, rfl, e2, R₃, hS₃, (E₁.trans E₂).trans E₃⟩
    | ret w =>
      simp only [Option.some.injEq, Prod.mk.injEq] at e2
      obtain ⟨rfl, rfl, rfl⟩ := e2
      obtain ⟨u', rfl, hw⟩ := F₃
      exact hQ α₃ _ s₃ (R₃.narrow fa) ((E₁.trans E₂).trans E₃) ⟨u', rfl, hw.grow growNarrow (List.prefix_refl _)⟩

theorem range_drawn (hh : A.handled = none) {I : Addr} (hI : I ∉ FA env) (hX : X I) : Drawn C A X env I (fun r _ _ h => ∃ (x : Int) (n : Nat), r = rangeL x n ∧ IsRangeIter h I x n 1) where
  keep := fun r ρ α σ s α' σ' s' R ⟨x, n, e, hi⟩ E => ⟨x, n, e, E.keep I _ hi hI fun k hk => absurd hX (R.st.out I (List.mem_of_getElem? hk))⟩
  cls := fun r α σ h ⟨x, n, e, hi⟩ => ⟨_, hi, fun _ _ q => nomatch q.2⟩
  item := fun v r ρ α σ s E Q R ⟨x, n, e, hi⟩ hQ => by
    cases n with
    | zero => rw [rangeL_zero] at e; cases e
    | succ n =>
      rw [rangeL_succ] at e
      simp only [List.cons.injEq] at e
      obtain ⟨rfl, rfl⟩ := e
      exact wpAny_pyNext_range_item hi (by omega) fun h' hi' hs => hQ _ h' _ hs (by simp only [VRel, DRel]; exact ⟨_, rfl⟩) ⟨x + 1, n, rfl, by
        have : ((n + 1 : Nat) : Int) - 1 = (n : Int) := by omega
        rw [← this]; exact hi'⟩
  fin := fun α σ s E Q ⟨x, n, e, hi⟩ hQ => by
    cases n with
    | succ n => rw [rangeL_succ] at e; cases e
    | zero => exact wpAny_pyNext_range_end hh hi (by omega) fun h' he => hQ h' s.toks he

theorem small_of {a b : Int} (ha : -1000000 ≤ a ∧ a ≤ 1000000) (hb : -1000000 ≤ b ∧ b ≤ 1000000) : Builtin.Range.small a b 1 = true ∧ Builtin.Range.rangeSize a b 1 = (((b - a).toNat : Nat) : Int) := by
  have e : Builtin.Range.rangeSize a b 1 = (((b - a).toNat : Nat) : Int) := by
    unfold Builtin.Range.rangeSize
    simp only [show ((1 : Int) > 0) from by decide, if_true]
    split <;> omega
  refine ⟨?_, e⟩
  unfold Builtin.Range.small
  rw [e]
  simp only [Builtin.Range.rangeFitsLong, Bool.and_eq_true, decide_eq_true_eq, Bool.or_eq_true, beq_iff_eq]
  refine ⟨⟨⟨⟨⟨?_, ?_⟩, ?_, ?_⟩, ?_, ?_⟩, ?_, ?_⟩, .inr ?_⟩
  case refine_9 =>
    rw [if_pos (by decide)]
    simp only [Bool.and_eq_true, decide_eq_true_eq]
    omega
  all_goals omega

/-- the rest of a loop over a range, from the iterator's making on -/
theorem range_loop (W : Wk C G A) {x : Str} {px : Pos} {body : List Stmt} (hx : okN env.scope x = true) (hbody : SsOk C G A env body) (okb : okSs G.const env.scope body = true) {a b : Int} {t1 t2 t3 : Tok} {r : Addr} {fl : Fl}
    (ha : -1000000 ≤ a ∧ a ≤ 1000000) (hb : -1000000 ≤ b ∧ b ≤ 1000000) (h : loopL (fun v ρ σ => evSs G body (setV x v ρ) σ) (rangeD a b) ρ σ = some (fl, ρ', σ')) (R : Rel C X env ρ α σ s) (hr : IsRange s.heap r a b 1 t1 t2 t3) {Q : Flow → Shared → Prop}
    (hQ : ∀ α' f s', Rel C X env ρ' α' σ' s' → SExt env α σ s α' σ' s' → FlRel C X α' s'.heap fl f → Q f s') :
    wpAny C.M A (pyIter (.ref r)) (fun it s₂ => codeAny C.M A (.forLoop (.Name x px) it body [] env) (fun r s' => match r with | .ok f => Q f s' | .error e => cameBackBy C.M A env E e s') s₂) E s := by
  obtain ⟨hs, hz⟩ := small_of ha hb
  refine wpAny_pyIter_range hr hs ?_
  have E0 : Ext0 env s { s with heap := s.heap.push { cls := .type "range_iterator", data := .fields #[rawInt a, rawInt (Builtin.Range.rangeSize a b 1), rawInt 1] } } := .push _ s.toks
  have R₁ := R.widen E0 (I := s.heap.objs.size) (Nat.le_refl _) (by show s.heap.objs.size < (s.heap.push _).objs.size; rw [Heap.size_push]; exact Nat.lt_succ_self _) ⟨_, Heap.get?_push_size _ rfl, fun _ _ q => nomatch q.2⟩
  have hI : s.heap.objs.size ∉ FA env := fun q => Nat.lt_irrefl _ (R.xlt _ (R.fa _ q))
  have hbs : C.base.objs.size ≤ s.heap.objs.size := Nat.le_trans (R.flow env.locals (.head _)) (Nat.le_of_lt (R.xlt _ (R.fa env.locals (.head _))))
  refine loop_ok (range_drawn W.hh hI (.inr rfl)) R.fa (fun q => Nat.lt_irrefl _ (R.xlt _ q)) hI hbs hx hbody okb h R₁ ⟨a, (b - a).toNat, rfl, by rw [← hz]; exact Heap.get?_push_size _ rfl⟩ (Nat.le_refl _) (E0.ext (σ := σ)).toS fun α' f s' R' E' F' => ?_
  exact hQ α' f s' R' E' F'

theorem dict_drawn (hh : A.handled = none) {I d : Addr} {ks : List Key} {vs : List Value} {ep : Nat} (hI : I ∉ FA env) (hX : X I) (hd : d ∉ FA env) (hl : ks.length = vs.length) :
    Drawn C A X env I (fun r α _ h => ∃ i, r = (ks.drop i).map (fun k => V.d k.toD) ∧ h.IsKeyIter I d i (ks.zip vs).length ep ∧ h.DictAt C.kk d (ks.zip vs) ep ∧ d ∉ α ∧ d ≠ I) where
  keep := fun r ρ α σ s α' σ' s' R ⟨i, e, ⟨o, ho, hi⟩, ⟨o', es, ho', hr⟩, hα, hdI⟩ E => by
    refine ⟨i, e, ⟨o, E.keep I _ ho hI fun k hk => absurd hX (R.st.out I (List.mem_of_getElem? hk)), hi⟩, ⟨o', es, E.keep d _ ho' hd fun k hk => absurd (List.mem_of_getElem? hk) hα, hr⟩, fun q => ?_, hdI⟩
    obtain ⟨t, rfl, ht⟩ := E.new
    rcases List.mem_append.mp q with q | q
    · exact hα q
    · exact absurd (Heap.lt_size ho') (Nat.not_lt.mpr (ht d q))
  cls := fun r α σ h ⟨i, e, ⟨o, ho, _, hi⟩, _⟩ => ⟨_, ho, fun _ _ q => nomatch hi.symm.trans q.2⟩
  item := fun v r ρ α σ s E Q R ⟨i, e, hi, hm, hα, hdI⟩ hQ => by
    cases hk : ks.drop i with
    | nil => rw [hk] at e; cases e
    | cons k rest =>
      have hlt : i < ks.length := by
        refine Nat.lt_of_not_le fun q => ?_
        rw [List.drop_eq_nil_of_le q] at hk; cases hk
      rw [List.drop_eq_getElem_cons hlt] at hk
      simp only [List.cons.injEq] at hk
      obtain ⟨rfl, rfl⟩ := hk
      rw [List.drop_eq_getElem_cons hlt, List.map_cons] at e
      simp only [List.cons.injEq] at e
      obtain ⟨rfl, rfl⟩ := e
      have hx : (ks.zip vs)[i]? = some (ks[i], vs[i]'(hl ▸ hlt)) := by
        rw [List.getElem?_eq_getElem (by rw [List.length_zip]; omega), List.getElem_zip]
      exact wpAny_pyNext_dict_item hi hm hx fun key h' hkey hi' hs => hQ key h' s.toks hs (by
        rcases keyIs_shape hkey with ⟨n, t, q, rfl⟩ | ⟨x, t, q, rfl⟩ <;> rw [q] <;> simp only [VRel, Key.toD, DRel] <;> exact ⟨_, rfl⟩) ⟨i + 1, rfl, hi', hm.extBut hs.extBut hdI, hα, hdI⟩
  fin := fun α σ s E Q ⟨i, e, hi, hm, hα, hdI⟩ hQ => by
    have hge : ks.length ≤ i := by
      refine Nat.le_of_not_lt fun q => ?_
      rw [List.drop_eq_getElem_cons q] at e; cases e
    exact wpAny_pyNext_dict_end hh hi hm (List.getElem?_eq_none (by rw [List.length_zip]; omega)) fun h' he => hQ h' s.toks he

/-- the rest of a loop over a dict -/
theorem dict_loop (W : Wk C G A) {x : Str} {px : Pos} {body : List Stmt} (hx : okN env.scope x = true) (hbody : SsOk C G A env body) (okb : okSs G.const env.scope body = true) {d : Addr} {ks : List Key} {vs : List Value} {fl : Fl}
    (h : loopL (fun v ρ σ => evSs G body (setV x v ρ) σ) (ks.map fun k => V.d k.toD) ρ σ = some (fl, ρ', σ')) (R : Rel C X env ρ α σ s) (hm : s.heap.DictOf C.kk d (ks.zip vs)) (hl : ks.length = vs.length) (hd : C.base.objs.size ≤ d) (nb : ¬ Bad X α d) {Q : Flow → Shared → Prop}
    (hQ : ∀ α' f s', Rel C X env ρ' α' σ' s' → SExt env α σ s α' σ' s' → FlRel C X α' s'.heap fl f → Q f s') :
    wpAny C.M A (pyIter (.ref d)) (fun it s₂ => codeAny C.M A (.forLoop (.Name x px) it body [] env) (fun r s' => match r with | .ok f => Q f s' | .error e => cameBackBy C.M A env E e s') s₂) E s := by
  obtain ⟨ep, hm⟩ := hm.dictAt
  have hdlt : d < s.heap.objs.size := hm.lt_size
  refine wpAny_pyIter_dict (low_addr hd W.h2) hm ?_
  have E0 : Ext0 env s { s with heap := s.heap.push { cls := .type "dict_keyiterator", data := .fields #[.ref d, .int 0 0, .int (ks.zip vs).length 0, .int ep 0] } } := .push _ s.toks
  have R₁ := R.widen E0 (I := s.heap.objs.size) (Nat.le_refl _) (by show s.heap.objs.size < (s.heap.push _).objs.size; rw [Heap.size_push]; exact Nat.lt_succ_self _) ⟨_, Heap.get?_push_size _ rfl, fun _ _ q => nomatch q.2⟩
  have hI : s.heap.objs.size ∉ FA env := fun q => Nat.lt_irrefl _ (R.xlt _ (R.fa _ q))
  have hbs : C.base.objs.size ≤ s.heap.objs.size := Nat.le_trans (R.flow env.locals (.head _)) (Nat.le_of_lt (R.xlt _ (R.fa env.locals (.head _))))
  refine loop_ok (dict_drawn (d := d) W.hh hI (.inr rfl) (fun q => nb (.inl (R.fa _ q))) hl) R.fa (fun q => Nat.lt_irrefl _ (R.xlt _ q)) hI hbs hx hbody okb h R₁ ⟨0, rfl, ⟨_, Heap.get?_push_size _ rfl, rfl, rfl⟩, hm.push _, fun q => nb (.inr q), Nat.ne_of_lt hdlt⟩ (Nat.le_refl _) (E0.ext (σ := σ)).toS fun α' f s' R' E' F' => ?_
  exact hQ α' f s' R' E' F'

theorem ok_For (W : Wk C G A) {t it : Expr} {body els : List Stmt} {pos : Pos} (hbody : SsOk C G A env body) : SOk C G A env (.For t it body els pos) := fun X ρ α σ fl ρ' σ' s E Q ok h R hQ => by
  obtain ⟨ok1, ok2, x, px, rfl, ok3⟩ := okS_For ok
  cases els with
  | cons _ _ => rw [evS_ForE] at h; cases h
  | nil =>
   rcases ok1 with ok1 | ⟨ok1, y, py, rfl⟩
   case inr =>
    rw [evS_ForN, if_neg (show ¬ isIt (.Name y py) = true from Bool.false_ne_true)] at h
    simp only [Option.bind_eq_some_iff, Option.map_eq_some_iff] at h
    obtain ⟨⟨vs, src, σ₁⟩, ⟨⟨v, σ₁'⟩, e1, ⟨vs', src'⟩, e2, e3⟩, ⟨fl₁, ρ₁, σ₂⟩, e4, e5⟩ := h
    cases e3
    unfold iterV at e2
    dsimp only at e2 e4 e5
    split at e2
    · obtain ⟨ds, hds, e2⟩ := Option.map_eq_some_iff.mp e2
      cases e2
      cases e5
      unfold itemsD at hds
      split at hds
      · rename_i ks ws
        cases hds
        refine wpAny_For ?_ (by intro _; rfl)
        refine (all_ok W (.Name y py)).1 X ρ α σ _ _ σ₁' s E _ ok1 e1 R fun α₁ u s₁ R₁ E₁ V₁ => ?_
        simp only [VRel, DRel] at V₁
        obtain ⟨d, us, rfl, hm, hl, hd, nb, _⟩ := V₁
        rw [List.map_map] at e4
        exact dict_loop W ok3 hbody ok2 e4 R₁ hm hl hd nb fun α₂ f s₂ R₂ E₂ F₂ => hQ α₂ f s₂ R₂ (E₁.toS.trans E₂) F₂
      · cases hds
    · cases e2
   case inl =>
    obtain ⟨pf, args, p, rfl, hg, oka⟩ := okIt_ex ok1
    have g := gi_kind hg
    have hit : isIt (.Call (.Name "range" pf) args [] p) = true := show isItF "range" = true by decide +kernel
    rw [evS_ForN, if_pos hit, evI_Call] at h
    simp only [Option.bind_eq_some_iff, Option.map_eq_some_iff, Prod.mk.injEq] at h
    obtain ⟨⟨vs, src, σ₁⟩, ⟨⟨ws, σ₁'⟩, e1, ⟨vs', src'⟩, e2, rfl, rfl, rfl⟩, ⟨fl₁, ρ₁, σ₂⟩, e3, rfl, rfl, rfl⟩ := h
    dsimp only at e2 e3
    refine wpAny_For ?_ (by intro _; rfl)
    show wpAny C.M A (do callWith p (← eval (.Name "range" pf) env) [] (backTo p (starEach args env)) []) _ E s
    refine wpAny_bind (Name_function_global R.fr.kind g.1 (loadGlobal_builtin (R.gns W) W.rng.1 (R.bns W) W.rng.2 ?_) g.2)
    refine call_with (P := fun _ => True) e1 (fun h _ => ⟨_, .inr (.inl rfl), keeper_type _ _ _⟩) ?_
    refine (alls_ok W args).1 X ρ α σ _ ws σ₁' s E p _ oka e1 R fun α₁ us s₁ R₁ E₁ V₁ => ⟨trivial, ?_⟩
    rw [List.nil_append]
    unfold iterF at e2
    rw [if_pos rfl] at e2
    split at e2
    · rename_i b
      split at e2
      · rename_i hb
        cases e2
        obtain ⟨u, rfl, hu⟩ := V₁.one
        simp only [VRel, DRel] at hu
        obtain ⟨t, rfl⟩ := hu
        refine call_range_1 ?_
        have E0 := Ext0.push (env := env) (s := s₁) { cls := .type "range", data := .fields #[.int 0 s₁.toks, .int b t, .int 1 (s₁.toks + 1)] } (s₁.toks + 1 + 1)
        exact range_loop W ok3 hbody ok2 (by omega) hb e3 (R₁.ext0 E0) (Heap.get?_push_size _ rfl) fun α₂ f s₂ R₂ E₂ F₂ => hQ α₂ f s₂ R₂ ((E₁.trans E0.ext).toS.trans E₂) F₂
      · cases e2
    · rename_i a b
      split at e2
      · rename_i hb
        cases e2
        obtain ⟨u, u', rfl, hu, hu'⟩ := V₁.two
        simp only [VRel, DRel] at hu hu'
        obtain ⟨t, rfl⟩ := hu
        obtain ⟨t', rfl⟩ := hu'
        refine call_range_2 ?_
        have E0 := Ext0.push (env := env) (s := s₁) { cls := .type "range", data := .fields #[.int a t, .int b t', .int 1 s₁.toks] } (s₁.toks + 1)
        exact range_loop W ok3 hbody ok2 hb.1 hb.2 e3 (R₁.ext0 E0) (Heap.get?_push_size _ rfl) fun α₂ f s₂ R₂ E₂ F₂ => hQ α₂ f s₂ R₂ ((E₁.trans E0.ext).toS.trans E₂) F₂
      · cases e2
    · cases e2

theorem rangeD_eq' (b : Int) : rangeD 0 b = rangeL 0 b.toNat := by
  show rangeL 0 (b - 0).toNat = _
  rw [Int.sub_zero]
theorem captured_get {csc : Scope} {n : Str} {v : V} : ∀ {ρ : Loc}, getV n (captured csc ρ) = some v → getV n ρ = some v ∧ csc.names.lookup n = some .free
  | [], h => nomatch h
  | (y, u) :: r, h => by
    by_cases hf : (csc.names.lookup y == some .free) = true
    · have e : captured csc ((y, u) :: r) = (y, u) :: captured csc r := List.filter_cons_of_pos hf
      rw [e] at h
      simp only [getV_c] at h ⊢
      by_cases hy : n = y
      · rw [if_pos hy] at h ⊢
        exact ⟨h, by rw [hy]; exact eq_of_beq hf⟩
      · rw [if_neg hy] at h ⊢
        exact captured_get h
    · have e : captured csc ((y, u) :: r) = captured csc r := List.filter_cons_of_neg hf
      rw [e] at h
      have ih := captured_get h
      simp only [getV_c]
      by_cases hy : n = y
      · subst hy; rw [ih.2] at hf; exact absurd (beq_self_eq_true _) hf
      · rw [if_neg hy]; exact ih
theorem relabel_free {env : Env} (hk : env.scope.kind = .function) {n : Str} (hc : env.kindOf n = some .cell) : ∀ {names : List (Str × NameKind)}, names.lookup n = some .free →
    (names.map fun (n, k) => if (k == NameKind.free && env.scope.kind == .function && env.kindOf n == some .cell) then (n, NameKind.cell) else (n, k)).lookup n = some .cell
  | [], h => nomatch h
  | (y, k) :: r, h => by
    rw [List.map_cons, List.lookup_cons]
    rw [List.lookup_cons] at h
    by_cases hy : (n == y) = true
    · rw [hy] at h
      have e := eq_of_beq hy
      subst e
      simp only [Option.some.injEq] at h
      subst h
      simp [hk, hc]
    · have hy' : (n == y) = false := by simpa using hy
      rw [hy'] at h
      simp only [] at h
      have : (n == (if (k == NameKind.free && env.scope.kind == .function && env.kindOf y == some .cell) = true then (y, NameKind.cell) else (y, k)).1) = false := by split <;> exact hy'
      rw [this]
      exact relabel_free hk hc h
theorem rangeL_get {k : Int} {n i : Nat} (h : i < n) : (rangeL k n)[i]? = some (.d (.int (k + i))) := by
  unfold rangeL
  rw [List.getElem?_map, List.getElem?_range h]
  rfl

theorem ok_CompAssign (W : Wk C G A) {x y : Str} {px py pf pr pos spos : Pos} {elt a : Expr} {csc : Scope} {X : Addr → Prop} {ρ : Loc} {α : List Addr} {σ : St} {fl : Fl} {ρ' : Loc} {σ' : St} {s : Shared} {E : Value → Shared → Prop} {Q : Flow → Shared → Prop}
    (ok : okCompX G.const env.scope y py elt x a csc pos = true) (h : evS G (.Assign [.Name y py] (.ListComp elt [⟨.Name x px, .Call (.Name "range" pf) [a] [] pr, [], 0⟩] csc pos) spos) ρ σ = some (fl, ρ', σ')) (R : Rel C X env ρ α σ s)
    (hQ : ∀ α' f s', Rel C X env ρ' α' σ' s' → SExt env α σ s α' σ' s' → FlRel C X α' s'.heap fl f → Q f s') : wpAny C.M A (exec (.Assign [.Name y py] (.ListComp elt [⟨.Name x px, .Call (.Name "range" pf) [a] [] pr, [], 0⟩] csc pos) spos) env) Q E s := by
  unfold okCompX at ok
  simp only [Bool.and_eq_true, beq_iff_eq, Bool.not_eq_true', List.all_eq_true, Bool.or_eq_true, beq_eq_false_iff_ne] at ok
  obtain ⟨⟨⟨⟨⟨⟨⟨⟨⟨⟨hg, oka⟩, hy⟩, hline⟩, hany⟩, hcell⟩, hkind⟩, hnames⟩, hx⟩, hfree⟩, okp⟩ := ok
  have g := gi_kind hg
  have hcellOf : ∀ n, csc.names.lookup n = some .free → env.kindOf n = some .cell := fun n hn => (hfree (n, .free) (mem_of_lookup hn)).elim (fun q => absurd rfl q) id
  rw [evS_AssignN, evE_Comp, evI_Call] at h
  simp only [Option.map_eq_some_iff, Option.bind_eq_some_iff, Prod.mk.injEq] at h
  obtain ⟨⟨v, σ₂⟩, ⟨⟨vs, src, σ₁⟩, ⟨⟨ws, σ₁'⟩, e1, ⟨vs', src'⟩, e2, rfl, rfl, rfl⟩, ds, e3, e4⟩, rfl, rfl, rfl⟩ := h
  dsimp only at e2 e3 e4
  have hsw : swapsWith (.ListComp elt [⟨.Name x px, .Call (.Name "range" pf) [a] [] pr, [], 0⟩] csc pos) (some (.Name y py)) spos.line env = pure true := by
    have hb : env.blockKind = .function := by unfold Env.blockKind; rw [R.fr.kind]; rfl
    show pure (env.blockKind == .function && env.kindOf y == some .local && py.line == pos.line && !(csc.names.any fun q => q.1 == y && (q.2 == .local || q.2 == .cell))) = _
    rw [hb, show env.kindOf y = some .local from hy, hline, hany]
    simp
  obtain ⟨cl, hclos, hcl⟩ := closure_ok (csc := csc) (env := env) fun n k hm hk => by
    obtain ⟨c, u, hc, _⟩ := R.fr.has n ((hfree (n, k) hm).elim (fun q => absurd hk q) id)
    exact ⟨c, hc⟩
  rw [exec_Assign_Name_used _ _ _ _ hsw]
  refine wpAny_bind (wpAny_standAt (wpAny_bind ?_))
  show wpAny C.M A (do let _ ← comprehension (.ListComp elt [⟨.Name x px, .Call (.Name "range" pf) [a] [] pr, [], 0⟩] csc pos) csc env _ (newList []) false (eval (.Call (.Name "range" pf) [a] [] pr) env) (some (assign (.Name y py) env))) _ _ s
  refine wpAny_bind (wpAny_mono (wpAny_comprehension_free (use := some (assign (.Name y py) env)) (Q := fun _ s' => Q .next s') rfl (by intro _; rfl) hclos hkind (fun q hq hl => (hnames q hq).elim (fun h => absurd hl h) id) ?_) (fun _ s' hq => wpAny_pure (wpAny_pure hq)) fun _ _ e => e)
  show wpAny C.M A (do callWith pr (← eval (.Name "range" pf) env) [] (backTo pr (starEach [a] env)) []) _ E s
  refine wpAny_bind (Name_function_global R.fr.kind g.1 (loadGlobal_builtin (R.gns W) W.rng.1 (R.bns W) W.rng.2 ?_) g.2)
  refine call_with (P := fun _ => True) e1 (fun h _ => ⟨_, .inr (.inl rfl), keeper_type _ _ _⟩) ?_
  refine (alls_ok W [a]).1 X ρ α σ _ ws σ₁' s E pr _ (by rw [okEs_cons, oka]; rfl) e1 R fun α₁ us s₁ R₁ E₁ V₁ => ⟨trivial, ?_⟩
  rw [List.nil_append]
  have hl1 := evEs_len e1
  match ws, hl1 with
  | [w], _ =>
  obtain ⟨u, rfl, hu⟩ := V₁.one
  obtain ⟨b, rfl, hb, rfl⟩ : ∃ b, w = .d (.int b) ∧ (-1000000 ≤ b ∧ b ≤ 1000000) ∧ vs' = rangeD 0 b := by
    unfold iterF at e2
    rw [if_pos rfl] at e2
    split at e2
    · rename_i b hw
      split at e2
      · rename_i hb
        cases e2
        simp only [List.cons.injEq, and_true] at hw
        exact ⟨b, hw, hb, rfl⟩
      · cases e2
    · rename_i hw; simp at hw
    · cases e2
  simp only [VRel, DRel] at hu
  obtain ⟨t, rfl⟩ := hu
  refine call_range_1 ?_
  have E0 := Ext0.push (env := env) (s := s₁) { cls := .type "range", data := .fields #[.int 0 s₁.toks, .int b t, .int 1 (s₁.toks + 1)] } (s₁.toks + 1 + 1)
  have R₂ := R₁.ext0 E0
  generalize hS2 : ({ s₁ with heap := s₁.heap.push { cls := .type "range", data := .fields #[.int 0 s₁.toks, .int b t, .int 1 (s₁.toks + 1)] }, toks := s₁.toks + 1 + 1 } : Shared) = s₂ at E0 R₂ ⊢
  have hr : IsRange s₂.heap s₁.heap.objs.size 0 b 1 s₁.toks t (s₁.toks + 1) := by rw [← hS2]; exact Heap.get?_push_size _ rfl
  obtain ⟨hs, hz⟩ := small_of (a := 0) (b := b) (by omega) hb
  rw [Int.sub_zero] at hz
  refine wpAny_pyIter_range hr hs ?_
  have hiter : ∀ o : Obj, (s₂.heap.push o).objs.size = s₂.heap.objs.size + 1 := fun o => Heap.size_push _ _
  have hmL := rangeD_eq' b
  rw [hmL] at e3
  refine comp_run (env := env) (W := (Walks.range W.hh s₂.heap.objs.size 0 1 b.toNat).bound) (by rw [sizeLine_eq]; omega) (fun v y => ∃ i t, v = .int i t ∧ ∃ d, itemP csc ρ (.Name x px) elt (.d (.int i)) = some d ∧ Scal d y) (fun q hq => hcell q hq) hkind hx
    (by show IsRangeIter _ _ _ _ _; rw [hz]; simpa using Heap.get?_push_size _ rfl) (by show s₂.heap.objs.size < (s₂.heap.push _).objs.size; rw [hiter]; exact Nat.lt_succ_self _) ?_ ?_
  · intro s₃ m₃ i v E' hP hn hm hk
    obtain ⟨hi, t', rfl⟩ := hP
    have hv : (0 : Int) + (i : Int) * 1 = i := by omega
    rw [hv] at hm ⊢
    obtain ⟨d, hd, _⟩ := mapO_get e3 (rangeL_get hi)
    rw [Int.zero_add] at hd
    have hd' := hd
    unfold itemP at hd'
    simp only [Option.bind_eq_some_iff] at hd'
    obtain ⟨l, hl, d', hd1, hd2⟩ := hd'
    cases hl
    have hsc : scalar d' = true ∧ d' = d := by
      split at hd2
      · rename_i q; cases hd2; exact ⟨q, rfl⟩
      · cases hd2
    obtain ⟨hsc, rfl⟩ := hsc
    have keep3 : ∀ bb o, s₂.heap.get? bb = some o → s₃.heap.get? bb = some o := fun bb o e => hk bb o (Nat.ne_of_lt (Heap.lt_size e)) (Heap.get?_push_of_some _ e)
    have pe : PEnv C (Bad X α₁) s₃.heap (compEnvC csc cl ((s₂.heap.push { cls := .type "range_iterator", data := .fields #[rawInt 0, rawInt (Builtin.Range.rangeSize 0 b 1), rawInt 1] }).objs.size + 1) env) ([(x, V.d (D.int (i : Int)))] ++ captured csc ρ) := by
      refine ⟨hkind, fun n dd hg => ?_⟩
      rw [List.singleton_append] at hg
      simp only [getV_c] at hg
      by_cases hnx : n = x
      · subst hnx
        rw [if_pos rfl] at hg
        simp only [Option.some.injEq, V.d.injEq] at hg
        subst hg
        exact .inl ⟨lookup_relabel_local hx, m₃, _, hn, hm, by simp only [DRel]; exact ⟨_, rfl⟩⟩
      · rw [if_neg hnx] at hg
        obtain ⟨hg1, hg2⟩ := captured_get hg
        have hc := hcellOf n hg2
        obtain ⟨c, u, hcu, hi', hr'⟩ := R₂.fr.cel n _ hg1 (.inl hc)
        refine .inr ⟨relabel_free R.fr.kind hc hg2, c, u, ?_, ?_, ?_⟩
        · show cl.lookup n = some c
          rw [hcl n hg2]; exact hcu
        · obtain ⟨o, ho, hd⟩ := hi'
          exact ⟨o, keep3 _ _ ho, hd⟩
        · simp only [VRel] at hr'
          exact hr'.grow fun bb o nb e => ⟨keep3 bb o e, nb⟩
    exact pe_all elt E' s₃ _ d' okp hd1 pe fun u t hu => ⟨⟨i, t', rfl, d', hd, Scal.of hsc hu⟩, s₃.heap, t, rfl, fun _ _ e => e⟩
  · intro h' tk m' ys vs hn hpl hlen hP hF hk
    obtain ⟨m, hm, _⟩ := R₂.fr.loc
    have hmX := hm
    obtain ⟨oL, _, _, hoL, _⟩ := hmX
    have keep : ∀ bb o, s₂.heap.get? bb = some o → h'.get? bb = some o := fun bb o e => hk bb o (Nat.ne_of_lt (Heap.lt_size e)) (Heap.get?_push_of_some _ e)
    have hL := Heap.lt_size hoL
    rw [hiter] at hn hpl
    have hLC : env.locals ≠ s₂.heap.objs.size + 1 + 1 := Nat.ne_of_lt (Nat.lt_succ_of_lt (Nat.lt_succ_of_lt hL))
    have hLD : env.locals ≠ s₂.heap.objs.size + 1 := Nat.ne_of_lt (Nat.lt_succ_of_lt hL)
    show wpAny C.M A (assign (.Name y py) env (.ref (s₂.heap.push _).objs.size)) _ E _
    rw [hiter]
    refine wpAny_assign_Name (wpAny_storeName_local hy (hm.at' fun o e => keep _ o e) (fun h₂ hn₂ hs₂ => ?_) (by rw [R.fr.kind]; rfl))
    refine ⟨m', hn.sameBut hs₂ (Ne.symm hLC), fun h₃ hs₃ => ?_⟩
    have hs₃' : Heap.SameBut (s₂.heap.objs.size + 1 + 1) h₂ h₃ := hs₃
    have hn₃ := hn₂.sameBut hs₃' hLC
    have keep3 : ∀ bb o, bb ≠ env.locals → s₂.heap.get? bb = some o → h₃.get? bb = some o := fun bb o hb e => hs₃'.extBut bb o (Nat.ne_of_lt (Nat.lt_succ_of_lt (Nat.lt_succ_of_lt (Heap.lt_size e)))) (hs₂.extBut bb o hb (keep bb o e))
    obtain ⟨o3, _, _, ho3, _⟩ := id hn₃
    have hLv : (h₃.update env.locals fun _ => oL).get? env.locals = some oL := Heap.get?_update_self (fun _ => oL) ho3 (Heap.get?_some_iff.mp hoL).2
    have hsv : Heap.SameBut env.locals h₃ (h₃.update env.locals fun _ => oL) := .update ..
    have keepv : ∀ bb o, s₂.heap.get? bb = some o → (h₃.update env.locals fun _ => oL).get? bb = some o := fun bb o e => by
      by_cases hb : bb = env.locals
      · subst hb; rw [hoL] at e; cases e; exact hLv
      · exact hsv.extBut bb o hb (keep3 bb o hb e)
    have hplv : (h₃.update env.locals fun _ => oL).PlainList (s₂.heap.objs.size + 1) ys := ((hpl.extBut hs₂.extBut (Ne.symm hLD)).extBut hs₃'.extBut (Nat.ne_of_lt (Nat.lt_succ_self _))).extBut hsv.extBut (Ne.symm hLD)
    obtain ⟨kk, hplv⟩ := hplv
    have hsz : s₂.heap.objs.size ≤ (h₃.update env.locals fun _ => oL).objs.size := Nat.le_of_lt (Nat.lt_of_succ_lt (Heap.lt_size hplv))
    have Ev : Ext0 env s₂ { s₂ with heap := h₃.update env.locals fun _ => oL, toks := tk } := .of keepv hsz
    have hds : DsRel C (Bad X α₁) s₂.heap ds ys.toList := comp_items (f := itemP csc ρ (.Name x px) elt) (k := 0) (fun v y q => q) (by rw [hlen]; exact e3) (fun j v q => by
      obtain ⟨_, t, e⟩ := hP j v q
      exact ⟨t, by rw [e]; congr 1; omega⟩) hF
    have Fr := fresh_list (k := kk) R₂ Ev (Nat.le_succ _) (by rw [Array.toArray_toList]; exact hplv) hds
    have e5 : own (G.owned y) (.d (.list ds)) σ₁' = (v, σ₂) := by
      split at e4
      · exact Option.some.inj e4
      · cases e4
    obtain ⟨α₃, R₃, V₃, E₃⟩ := own_ok R₂ Ev Fr e5
    obtain ⟨R₄, S₄⟩ := R₃.stLocal (t := tk + 1) hy (hm.at' fun o e => keepv _ o e) V₃ hn₃ ⟨hsv.1.symm, fun bb hb => (hsv.2 bb hb).symm⟩
    subst hS2
    exact hQ α₃ .next _ R₄ ((((E₁.trans E0.ext).trans E₃).toS).trans S₄) rfl
theorem ok_AssignAll (W : Wk C G A) {ts : List Expr} {e : Expr} {pos : Pos} : SOk C G A env (.Assign ts e pos) := fun X ρ α σ fl ρ' σ' s E Q ok h R hQ => by
  rcases okS_Assign ok with (⟨h1, h2⟩ | h1) | h1
  · exact ok_Assign W h1 h2 h R hQ
  · obtain ⟨y, py, elt, x, px, pf, a, pr, csc, pos, rfl, rfl, h2⟩ := okCompA_ex h1
    exact ok_CompAssign W h2 h R hQ
  · obtain ⟨r, pr, ps, pc, elt, x, y, px, py, k, tp, pf, args, pz, csc, pos, rfl, h2, rfl, h3⟩ := okZipA_ex h1
    exact ok_ZipAssign W h2 h3 h R hQ
theorem okS_none {st : Stmt} (h : okS G.const env.scope st = false) : SOk C G A env st := fun X ρ α σ fl ρ' σ' s E Q ok => by rw [h] at ok; cases ok

mutual
theorem st_ok (W : Wk C G A) : ∀ st : Stmt, SOk C G A env st
  | .Pass _ => ok_Pass
  | .Expr _ _ => ok_Expr W
  | .Return _ _ => ok_Return W
  | .Assign _ _ _ => ok_AssignAll W
  | .If _ b e _ => ok_If W (sts_ok W b) (sts_ok W e)
  | .For _ _ b _ _ => ok_For W (sts_ok W b)
  | .While .. => okS_none (by rfl)
  | .FunctionDef .. => okS_none (by rfl)
  | .AsyncFunctionDef .. => okS_none (by rfl)
  | .ClassDef .. => okS_none (by rfl)
  | .Delete .. => okS_none (by rfl)
  | .TypeAlias .. => okS_none (by rfl)
  | .AugAssign .. => okS_none (by rfl)
  | .AnnAssign .. => okS_none (by rfl)
  | .AsyncFor .. => okS_none (by rfl)
  | .With .. => okS_none (by rfl)
  | .AsyncWith .. => okS_none (by rfl)
  | .Match .. => okS_none (by rfl)
  | .Raise .. => okS_none (by rfl)
  | .Try .. => okS_none (by rfl)
  | .TryStar .. => okS_none (by rfl)
  | .Assert .. => okS_none (by rfl)
  | .Import .. => okS_none (by rfl)
  | .ImportFrom .. => okS_none (by rfl)
  | .Global .. => okS_none (by rfl)
  | .Nonlocal .. => okS_none (by rfl)
  | .Break .. => okS_none (by rfl)
  | .Continue .. => okS_none (by rfl)
theorem sts_ok (W : Wk C G A) : ∀ ss : List Stmt, SsOk C G A env ss
  | [] => .nil
  | st :: r => .cons (st_ok W st) (sts_ok W r)
end

end
end Mine
end

section
set_option autoImplicit false
namespace Mine
open PySem PyProof.Rows PySem.Calls

theorem lookup_zip {x : Str} : ∀ {ns : List Str} {vs : List Value}, ns.length = vs.length → x ∈ ns → ((ns.zip vs).lookup x).isSome = true
  | [], _, _, h => nomatch h
  | n :: ns, v :: vs, hl, h => by
    rw [List.zip_cons_cons, List.lookup_cons]
    cases hb : x == n with
    | true => rfl
    | false =>
      rcases List.mem_cons.mp h with e | e
      · subst e; simp at hb
      · exact lookup_zip (by simpa using hl) e

theorem fm_congr {β γ : Type} {f g : β → Option γ} : ∀ {l : List β}, (∀ x ∈ l, f x = g x) → l.filterMap f = l.filterMap g
  | [], _ => rfl
  | x :: r, h => by rw [List.filterMap_cons, List.filterMap_cons, h x (.head _), fm_congr fun y hy => h y (.tail _ hy)]

theorem filterMap_zip : ∀ {ns : List Str} {vs : List Value}, ns.length = vs.length → ns.Nodup → ns.filterMap (fun n => ((ns.zip vs).lookup n).map fun v => (n, v)) = ns.zip vs
  | [], _, _, _ => rfl
  | n :: ns, v :: vs, hl, hn => by
    obtain ⟨h1, h2⟩ := List.nodup_cons.mp hn
    rw [List.filterMap_cons]
    simp only [List.zip_cons_cons, List.lookup_cons, beq_self_eq_true, Option.map_some]
    congr 1
    refine (fm_congr fun x hx => ?_).trans (filterMap_zip (by simpa using hl) h2)
    have : (x == n) = false := beq_eq_false_iff_ne.mpr fun q => h1 (q ▸ hx)
    simp only [this]

theorem bindArgs_plain {n : Str} {body : List Stmt} {sc : Scope} {pm cd doc : Value} {as : List Arg} {vals : List Value} (hl : (as.map (·.arg)).length = vals.length) (hn : (as.map (·.arg)).Nodup) :
    bindArgs (docDef n ⟨[], as, none, [], [], none, []⟩ body sc pm cd doc) ⟨vals, []⟩ = pure ((as.map (·.arg)).zip vals) := by
  have e1 : (as.map (·.arg)).filter (fun n => ((as.map (·.arg)).zip vals).lookup n |>.isNone) = [] := by
    rw [List.filter_eq_nil_iff]
    intro x hx
    have := lookup_zip hl hx
    cases h : ((as.map (·.arg)).zip vals).lookup x <;> simp_all
  have e2 := filterMap_zip hl hn
  have e3 : ¬ (vals.length > (as.map (·.arg)).length) := by omega
  unfold bindArgs
  simp only [docDef, List.map_nil, List.nil_append, List.append_nil, List.forIn_nil, pure_bind, Option.isNone_none, Bool.and_true, decide_eq_true_eq]
  show (seqItems? Value.none >>= _) = _
  have e4 : seqItems? Value.none = pure none := rfl
  rw [e4, pure_bind]
  simp only [Option.getD_none, e3, if_false, List.length_nil, List.drop_nil, Nat.sub_zero, List.take_length, e1, List.isEmpty_nil, Bool.not_true, Bool.false_eq_true, List.zip_nil_right, List.forIn_nil, pure_bind, e2]

theorem bindL_out {k : Str → Option NameKind} {x : Str} : ∀ {bs : List (Str × Value)} {m : Str → Option Value}, x ∉ bs.map (·.1) → bindL k bs m x = m x
  | [], _, _ => rfl
  | (n, v) :: r, m, h => by
    simp only [List.map_cons, List.mem_cons, not_or] at h
    simp only [bindL]
    rw [bindL_out h.2]
    split
    · simp [h.1]
    · rfl
theorem bindC_out {k : Str → Option NameKind} {x : Str} : ∀ {bs : List (Str × Value)} {m : Str → Option Value}, x ∉ bs.map (·.1) → bindC k bs m x = m x
  | [], _, _ => rfl
  | (n, v) :: r, m, h => by
    simp only [List.map_cons, List.mem_cons, not_or] at h
    simp only [bindC]
    rw [bindC_out h.2]
    split
    · rfl
    · simp [h.1]
theorem bindL_in {k : Str → Option NameKind} {x : Str} {u : Value} (hk : k x = some .local) : ∀ {bs : List (Str × Value)} {m : Str → Option Value}, (bs.map (·.1)).Nodup → (x, u) ∈ bs → bindL k bs m x = some u
  | (n, v) :: r, m, hn, h => by
    simp only [List.map_cons, List.nodup_cons] at hn
    simp only [bindL]
    rcases List.mem_cons.mp h with e | e
    · cases e
      rw [bindL_out hn.1, if_pos hk]; simp
    · exact bindL_in hk hn.2 e
theorem bindC_in {k : Str → Option NameKind} {x : Str} {u : Value} (hk : k x ≠ some .local) : ∀ {bs : List (Str × Value)} {m : Str → Option Value}, (bs.map (·.1)).Nodup → (x, u) ∈ bs → bindC k bs m x = some u
  | (n, v) :: r, m, hn, h => by
    simp only [List.map_cons, List.nodup_cons] at hn
    simp only [bindC]
    rcases List.mem_cons.mp h with e | e
    · cases e
      rw [bindC_out hn.1, if_neg hk]; simp
    · exact bindC_in hk hn.2 e

theorem cells_more {x : Str} : ∀ {names : List (Str × NameKind)} {n : Nat} {acc : List (Str × Addr)}, (acc.lookup x).isSome = true → ((cellsFrom n names acc).lookup x).isSome = true
  | [], _, _, h => h
  | (y, k) :: r, n, acc, h => by
    unfold cellsFrom
    split
    · refine cells_more ?_
      rw [List.lookup_cons]
      split
      · rfl
      · exact h
    · exact cells_more h
theorem cells_has {x : Str} : ∀ {names : List (Str × NameKind)} {n : Nat} {acc : List (Str × Addr)}, names.lookup x = some .cell → ((cellsFrom n names acc).lookup x).isSome = true
  | (y, k) :: r, n, acc, h => by
    rw [List.lookup_cons] at h
    unfold cellsFrom
    cases hb : x == y with
    | true =>
      rw [hb] at h
      simp only [Option.some.injEq] at h
      subst h
      rw [if_pos (by rfl)]
      exact cells_more (by rw [List.lookup_cons, hb]; rfl)
    | false =>
      rw [hb] at h
      split <;> exact cells_has h
theorem cells_keys : ∀ {names : List (Str × NameKind)} {n m : Nat} {acc acc' : List (Str × Addr)}, acc.map (·.1) = acc'.map (·.1) → (cellsFrom n names acc).map (·.1) = (cellsFrom m names acc').map (·.1)
  | [], _, _, _, _, h => h
  | (y, k) :: r, n, m, acc, acc', h => by
    unfold cellsFrom
    split
    · exact cells_keys (by simp [h])
    · exact cells_keys h
theorem lookup_in {β : Type} {x : Str} {c : β} : ∀ {l : List (Str × β)}, (l.map (·.1)).Nodup → (x, c) ∈ l → l.lookup x = some c
  | (y, d) :: r, hn, h => by
    simp only [List.map_cons, List.nodup_cons] at hn
    rw [List.lookup_cons]
    rcases List.mem_cons.mp h with e | e
    · cases e; simp
    · have : (x == y) = false := beq_eq_false_iff_ne.mpr fun q => hn.1 (q ▸ List.mem_map.mpr ⟨_, e, rfl⟩)
      rw [this]; exact lookup_in hn.2 e

/-- a def that can be called -/
noncomputable def okFn (K : Str → Option D) (r : FnRec) : Bool :=
  r.args.posonlyargs.isEmpty && r.args.vararg.isNone && r.args.kwonlyargs.isEmpty && r.args.kw_defaults.isEmpty && r.args.kwarg.isNone && r.args.defaults.isEmpty &&
  decide ((r.args.args.map (·.arg)).Nodup) && (r.args.args.all fun a => okN r.scope a.arg) && decide (((cellsFrom 0 r.scope.names []).map (·.1)).Nodup) &&
  (r.scope.kind == .function) && !r.scope.isCoroutine && !r.scope.isGenerator && okSs K r.scope r.body

end Mine
end

section
set_option autoImplicit false
namespace Mine
open PySem PyProof.Rows PySem.Calls

/-- what stands when the law is called -/
structure Tops (C : Wo) (body : List Stmt) (H : Hints) : Prop where
  h2 : 2 ≤ C.base.objs.size
  gns : C.base.Ns mainGlobals C.mg
  bns : C.base.Ns builtinsNs C.mb
  nolimit : C.base.NoLimit
  bf : ∀ f b, bfOf f = some b → C.mg f = none ∧ C.mb f = some (bfVal b)
  isi : C.mg "isinstance" = none ∧ C.mb "isinstance" = some (.builtin "isinstance")
  tys : ∀ t ∈ typeStrs, C.mg (Str.ofString t) = none ∧ C.mb (Str.ofString t) = some (.type t)
  rng : C.mg "range" = none ∧ C.mb "range" = some (.type "range")
  zp : C.mg "zip" = none ∧ C.mb "zip" = some (.type "zip")
  cst : ∀ x d, H.consts.lookup x = some d → ∃ u, C.mg x = some u ∧ ∀ B h, DRel C B h d u
  fn : ∀ f r, findFn f body = some r → okFn (fun x => H.consts.lookup x) r = true ∧ ∃ a o pm code doc, C.mg f = some (.ref a) ∧ C.base.get? a = some o ∧ o.data = .func (docDef r.name r.args r.body r.scope pm code doc) ∧ C.base.CodeRec code r.name

structure AOk (d : Nat) (A : Around) : Prop where
  hh : A.handled = none
  dep : A.depth + d < recursionLimit
  uni : A.units + 3 * d + 30 < cLine

theorem AOk.deeper {d : Nat} {A : Around} (x : AOk (d + 1) A) (env : Env) : AOk d (A.deeper env) :=
  ⟨x.hh, by have := x.dep; show A.depth + 1 + d < _; omega, by have := x.uni; show A.units + 3 + 3 * d + 30 < _; omega⟩

section
variable {C : Wo} {G : Genv} {X X' : Addr → Prop} {env : Env} {ρ ρ' : Loc} {α α' α'' : List Addr} {σ σ' σ'' : St} {s s' s'' : Shared} {A : Around} {E : Value → Shared → Prop}

/-- the arguments of a pure call, as data -/
theorem snaps_ok (R : Rel C X env ρ α σ s) : ∀ {args : List V} {us : List Value} {ds : List D} {b : Bool}, VsRel C X α s.heap args us → snaps σ args = some (ds, b) →
    DsRel C B0 s.heap ds us ∧ (b = false → DsRel C (Bad X α) s.heap ds us)
  | [], us, ds, b, r, e => by
    simp only [snaps_n, Option.some.injEq, Prod.mk.injEq] at e
    obtain ⟨rfl, rfl⟩ := e
    simp only [VsRel] at r
    subst r
    simp only [DsRel]; exact ⟨trivial, fun _ => trivial⟩
  | v :: vs, us, ds, b, r, e => by
    simp only [snaps_c, Option.bind_eq_some_iff, Option.map_eq_some_iff, Prod.mk.injEq] at e
    obtain ⟨d, hd, ⟨ds', b'⟩, hr, rfl, e2⟩ := e
    simp only [VsRel] at r
    obtain ⟨u, us', rfl, p, q⟩ := r
    obtain ⟨h1, h2⟩ := snaps_ok R q hr
    refine ⟨?_, fun hb => ?_⟩
    · simp only [DsRel]; exact ⟨u, us', rfl, view_ok R.st _ p hd, h1⟩
    · cases v with
      | d x =>
        cases hd
        simp only [DsRel]
        exact ⟨u, us', rfl, VRel.d_iff.mp p, h2 (e2.trans hb)⟩
      | obj n => simp only at e2; rw [hb] at e2; cases e2
      | tup xs => simp only at e2; rw [hb] at e2; cases e2

theorem bindP_rel {B : Addr → Prop} {h : Heap} : ∀ {as : List Arg} {ds : List D} {us : List Value} {ρ : Loc}, bindP as (ds.map .d) = some ρ → DsRel C B h ds us →
    ((as.map (·.arg)).length = us.length ∧ ∀ x v, getV x ρ = some v → ∃ d u, v = .d d ∧ (x, u) ∈ (as.map (·.arg)).zip us ∧ DRel C B h d u)
  | [], [], us, ρ, e, r => by
    simp only [List.map_nil, bindP, Option.some.injEq] at e
    subst e
    simp only [DsRel] at r
    subst r
    exact ⟨rfl, fun x v q => by cases q⟩
  | [], _ :: _, _, _, e, _ => by simp [bindP] at e
  | _ :: _, [], _, _, e, _ => by simp [bindP] at e
  | a :: as, d :: ds, us, ρ, e, r => by
    simp only [List.map_cons, bindP, Option.map_eq_some_iff] at e
    obtain ⟨ρ', e', rfl⟩ := e
    simp only [DsRel] at r
    obtain ⟨u, us', rfl, p, q⟩ := r
    obtain ⟨h1, h2⟩ := bindP_rel e' q
    refine ⟨by simpa using h1, fun x v g => ?_⟩
    simp only [getV_c] at g
    split at g
    · rename_i hx
      cases g
      exact ⟨d, u, rfl, by rw [hx]; simp, p⟩
    · obtain ⟨d', u', e1, e2, e3⟩ := h2 x v g
      exact ⟨d', u', e1, by rw [List.map_cons, List.zip_cons_cons]; exact .tail _ e2, e3⟩

/-- what comes back -/
theorem hand_ok {B : Addr → Prop} {n : Nat} (hB : ∀ a, B a → X a) (hn : ∀ a ∈ α, n ≤ a) (S : SRel C X α σ s.heap) {fresh : Bool} {v : V} {u : Value} {x : D} (r : VRel C X α s.heap v u) (h : handD fresh σ v = some x) :
    DRel C B s.heap x u ∧ (fresh = true → FreshRel C B s.heap n x u) := by
  cases v with
  | d y =>
    simp only [handD] at h
    split at h
    · cases h
    · rename_i hp
      simp only [Option.some.injEq] at h
      subst h
      have dr : DRel C B s.heap y u := (VRel.d_iff.mp r).weaken fun a q => .inl (hB a q)
      refine ⟨dr, fun hf => ?_⟩
      subst hf
      simp only [Bool.true_and, Bool.not_eq_true', Bool.not_eq_false] at hp
      cases y with
      | list _ => cases hp
      | dict _ _ => cases hp
      | _ => exact dr
  | tup xs =>
    simp only [handD] at h
    have dr := view_okB (s := s) hB S 2 r h
    refine ⟨dr, fun _ => ?_⟩
    rw [view_2, Option.map_eq_some_iff] at h
    obtain ⟨ys, _, rfl⟩ := h
    exact dr
  | obj m =>
    simp only [VRel] at r
    obtain ⟨a, ha, rfl⟩ := r
    have ham := List.mem_of_getElem? ha
    have nB : ¬ B a := fun q => S.out a ham (hB a q)
    simp only [handD] at h
    split at h
    · rename_i xs ho
      simp only [Option.map_eq_some_iff] at h
      obtain ⟨ds, hd, rfl⟩ := h
      simp only [oget, Option.map_eq_some_iff] at ho
      obtain ⟨⟨b, q⟩, hq, rfl⟩ := ho
      obtain ⟨vs, k, t, rr⟩ := S.obj m a b _ ha hq
      rw [allD_map hd] at rr
      have r2 := VsRel.map.mp rr
      have fr : FreshRel C B s.heap n (.list ds) (.ref a) := ⟨a, vs, k, rfl, hn a ham, t, nB, r2.weaken fun b q => q.elim (fun q => .inl (hB b q)) fun q => .inr (q ▸ ham)⟩
      exact ⟨fr.rel, fun _ => fr⟩
    · rename_i ks xs ho
      simp only [Option.map_eq_some_iff] at h
      obtain ⟨ds, hd, rfl⟩ := h
      simp only [oget, Option.map_eq_some_iff] at ho
      obtain ⟨⟨b, q⟩, hq, rfl⟩ := ho
      obtain ⟨vs, t, l, rr⟩ := S.obj m a b _ ha hq
      rw [allD_map hd] at rr
      have r2 := VsRel.map.mp rr
      have fr : FreshRel C B s.heap n (.dict ks ds) (.ref a) := ⟨a, vs, rfl, hn a ham, t, l, S.low a ham, nB, r2.weaken fun b q => q.elim (fun q => .inl (hB b q)) fun q => .inr (q ▸ ham)⟩
      exact ⟨fr.rel, fun _ => fr⟩
    · cases h

theorem Rel.noTupBad (R : Rel C X env ρ α σ s) {a : Addr} (h : Bad X α a) : ∃ o, s.heap.get? a = some o ∧ NoTup o := by
  rcases h with h | h
  · exact R.xnt a h
  · obtain ⟨n, hn, e⟩ := List.getElem_of_mem h
    have h1 : α[n]? = some a := by rw [List.getElem?_eq_getElem hn, e]
    have h2 : n < σ.length := R.st.len ▸ hn
    have x := R.st.obj n a _ _ h1 (show σ[n]? = some ((σ[n]).1, (σ[n]).2) by rw [List.getElem?_eq_getElem h2])
    cases ho : (σ[n]).2 with
    | list xs => rw [ho] at x; obtain ⟨vs, k, t, _⟩ := x; exact ⟨_, t, fun _ _ q => by have := q.1; simp [lobj] at this⟩
    | dict ks xs => rw [ho] at x; obtain ⟨vs, t, _⟩ := x; obtain ⟨o, es, ep, hg, _, hd, _⟩ := t; exact ⟨o, hg, fun _ _ q => nomatch hd.symm.trans q.2⟩
    | inst _ _ _ => rw [ho] at x; exact x.elim

theorem plainDs_fresh {B : Addr → Prop} {h : Heap} {n : Nat} {x : D} {u : Value} (hp : plainD x = true) (r : DRel C B h x u) : FreshRel C B h n x u := by
  cases x with
  | list _ => cases hp
  | dict _ _ => cases hp
  | _ => exact r

theorem findFn_name {f : Str} {r : FnRec} : ∀ {body : List Stmt}, findFn f body = some r → r.name = f
  | [], h => by cases h
  | st :: rest, h => by
    rw [findFn_c] at h
    split at h
    · split at h
      · rename_i hn; cases h; exact hn
      · exact findFn_name h
    · exact findFn_name h

theorem okFn_args {K : Str → Option D} {r : FnRec} (h : okFn K r = true) : r.args = ⟨[], r.args.args, none, [], [], none, []⟩ ∧ (r.args.args.map (·.arg)).Nodup ∧ (∀ a ∈ r.args.args, okN r.scope a.arg = true) ∧ ((cellsFrom 0 r.scope.names []).map (·.1)).Nodup ∧
    r.scope.kind = .function ∧ r.scope.isCoroutine = false ∧ r.scope.isGenerator = false ∧ okSs K r.scope r.body = true := by
  simp only [okFn, Bool.and_eq_true, decide_eq_true_eq, beq_iff_eq, Bool.not_eq_true', List.all_eq_true, List.isEmpty_iff, Option.isNone_iff_eq_none] at h
  obtain ⟨⟨⟨⟨⟨⟨⟨⟨⟨⟨⟨⟨h1, h2⟩, h3⟩, h4⟩, h5⟩, h6⟩, h7⟩, h8⟩, h9⟩, h10⟩, h11⟩, h12⟩, h13⟩ := h
  refine ⟨?_, h7, h8, h9, h10, h11, h12, h13⟩
  cases hr : r.args
  rw [hr] at h1 h2 h3 h4 h5 h6
  simp only at h1 h2 h3 h4 h5 h6
  subst h1 h2 h3 h4 h5 h6
  rfl

/-- a new frame reads as told -/
theorem entry_rel {name : Str} {sc : Scope} {a : Addr} {cd : Value} {B : Addr → Prop} {as : List Arg} {ds : List D} {us : List Value} {h₁ : Heap} {tk : Nat} (bas : ∀ b o, C.base.get? b = some o → s.heap.get? b = some o) (hbs : C.base.objs.size ≤ s.heap.objs.size)
    (hk : sc.kind = .function) (hnd : (as.map (·.arg)).Nodup) (hok : ∀ a ∈ as, okN sc a.arg = true) (hcn : ((cellsFrom 0 sc.names []).map (·.1)).Nodup) (hb : bindP as (ds.map .d) = some ρ') (hd : DsRel C B s.heap ds us)
    (hB : ∀ a, B a → ∃ o, s.heap.get? a = some o ∧ NoTup o)
    (F : Fr s.heap s.heap.objs.size h₁ (bindL (envOfC name sc s.heap.objs.size a cd).kindOf ((as.map (·.arg)).zip us) fun _ => none))
    (X₁ : Cl s.heap.objs.size (cellsFrom (s.heap.objs.size + 1) sc.names []) h₁ (bindC (envOfC name sc s.heap.objs.size a cd).kindOf ((as.map (·.arg)).zip us) fun _ => none)) :
    Rel C (fun b => B b ∨ b ∈ FA (envOfC name sc s.heap.objs.size a cd)) (envOfC name sc s.heap.objs.size a cd) ρ' [] [] { s with heap := h₁, toks := tk } := by
  obtain ⟨hlen, hget⟩ := bindP_rel hb hd
  have hzk : ((as.map (·.arg)).zip us).map (·.1) = as.map (·.arg) := by rw [List.map_fst_zip]; omega
  have hznd : (((as.map (·.arg)).zip us).map (·.1)).Nodup := by rw [hzk]; exact hnd
  have hcn' : ((cellsFrom (s.heap.objs.size + 1) sc.names []).map (·.1)).Nodup := by rw [cells_keys (m := 0) (acc' := []) rfl]; exact hcn
  have hcell : ∀ x c, (x, c) ∈ (cellsFrom (s.heap.objs.size + 1) sc.names []) → ∃ u, h₁.IsCell c u := fun x c hm => ⟨_, X₁.cell x c (lookup_in hcn' hm)⟩
  have faGe : ∀ b ∈ FA (envOfC name sc s.heap.objs.size a cd), s.heap.objs.size ≤ b := fun b hm => by
    rcases List.mem_cons.mp hm with e | hm
    · subst e; exact Nat.le_refl _
    · obtain ⟨⟨x, c⟩, hm', rfl⟩ := List.mem_map.mp hm
      exact Nat.le_of_lt (X₁.above x c hm')
  have faNo : ∀ b ∈ FA (envOfC name sc s.heap.objs.size a cd), ∃ o, h₁.get? b = some o ∧ NoTup o := fun b hm => by
    rcases List.mem_cons.mp hm with e | hm
    · subst e; exact Heap.Ns.noTup F.ns
    · obtain ⟨⟨x, c⟩, hm', rfl⟩ := List.mem_map.mp hm
      obtain ⟨u, hu⟩ := hcell x c hm'
      exact Heap.IsCell.noTup hu
  have nt : ∀ b, (B b ∨ b ∈ FA (envOfC name sc s.heap.objs.size a cd)) → ∃ o, h₁.get? b = some o ∧ NoTup o := fun b hb => by
    rcases hb with hb | hb
    · obtain ⟨o, ho, hn⟩ := hB b hb; exact ⟨o, F.keep b o ho, hn⟩
    · exact faNo b hb
  have g : Grow B s.heap (Bad (fun b => B b ∨ b ∈ FA (envOfC name sc s.heap.objs.size a cd)) []) h₁ := fun b o n e => ⟨F.keep b o e, fun q => by
    rcases q with (q | q) | q
    · exact n q
    · exact absurd (Heap.lt_size e) (Nat.not_lt.mpr (faGe b q))
    · cases q⟩
  have kindEq : ∀ x, (envOfC name sc s.heap.objs.size a cd).kindOf x = sc.names.lookup x := fun x => rfl
  have memArg : ∀ {x : Str} {u : Value}, (x, u) ∈ (as.map (·.arg)).zip us → okN sc x = true := fun hm => by
    have := (List.of_mem_zip hm).1
    obtain ⟨ar, h1, rfl⟩ := List.mem_map.mp this
    exact hok ar h1
  refine ⟨fun b o e => F.keep b o (bas b o e), ⟨hk, rfl, rfl, fun x v e => ?_, ⟨_, F.ns, fun x v e k => ?_⟩, fun x v e k => ?_, fun x k => ?_, X₁.apart, fun x c hm => Nat.ne_of_gt (X₁.above x c hm)⟩,
    ⟨rfl, List.nodup_nil, (fun a ha => nomatch ha), (fun a ha => nomatch ha), fun n a b o h1 => by simp at h1⟩, fun b hm => .inr hm, fun b hm => Nat.le_trans hbs (faGe b hm), fun b hb => ?_, nt⟩
  · obtain ⟨d, u, _, hm, _⟩ := hget x v e
    have := memArg hm
    simp only [okN, Bool.or_eq_true, beq_iff_eq] at this
    rcases this with q | q
    · exact .inl q
    · exact .inr (.inl q)
  · obtain ⟨d, u, rfl, hm, hr⟩ := hget x v e
    exact ⟨u, bindL_in k hznd hm, by simp only [VRel]; exact hr.grow g⟩
  · obtain ⟨d, u, rfl, hm, hr⟩ := hget x v e
    have hc : sc.names.lookup x = some .cell := by
      have := memArg hm
      simp only [okN, Bool.or_eq_true, beq_iff_eq] at this
      rcases this with q | q
      · rw [kindEq, q] at k; rcases k with k | k <;> cases k
      · exact q
    obtain ⟨c, hcl⟩ := Option.isSome_iff_exists.mp (cells_has (n := s.heap.objs.size + 1) (acc := []) hc)
    refine ⟨c, u, hcl, ?_, by simp only [VRel]; exact hr.grow g⟩
    have := X₁.cell x c hcl
    rwa [bindC_in (by rw [kindEq, hc]; intro q; cases q) hznd hm] at this
  · obtain ⟨c, hcl⟩ := Option.isSome_iff_exists.mp (cells_has (n := s.heap.objs.size + 1) (acc := []) (show sc.names.lookup x = some .cell from k))
    exact ⟨c, _, hcl, X₁.cell x c hcl⟩
  · obtain ⟨o, ho, _⟩ := nt b hb; exact Heap.lt_size ho

/-- one call of a def, whoever calls -/
theorem call_core {body : List Stmt} {H : Hints} (T : Tops C body H) {d : Nat} (ih : ∀ (f₀ : Str) (A : Around), AOk d A → Wk C (gen body H d f₀) A) (hA : AOk (d + 1) A) {f : Str} {r : FnRec} (hok : okFn (fun x => H.consts.lookup x) r = true)
    {a : Addr} {o : Obj} {pm code doc : Value} (h2 : C.base.get? a = some o) (h3 : o.data = .func (docDef r.name r.args r.body r.scope pm code doc)) (h4 : C.base.CodeRec code r.name)
    {B : Addr → Prop} {ds : List D} {us : List Value} {fl : Fl} {ρ₁ : Loc} {σ₁ : St} {x : D} {fresh : Bool} (bas : ∀ b o, C.base.get? b = some o → s.heap.get? b = some o) (hbs : C.base.objs.size ≤ s.heap.objs.size)
    (hB : ∀ a, B a → ∃ o, s.heap.get? a = some o ∧ NoTup o) (hds : DsRel C B s.heap ds us) (e2 : bindP r.args.args (ds.map .d) = some ρ') (e3 : evSs (gen body H d f) r.body ρ' [] = some (fl, ρ₁, σ₁)) (e4 : handD fresh σ₁ (retV fl) = some x) {Q : Value → Shared → Prop}
    (hQ : ∀ u s', (∀ b o, s.heap.get? b = some o → s'.heap.get? b = some o) → s.heap.objs.size ≤ s'.heap.objs.size → s'.gens = s.gens → s'.os = s.os → DRel C B s'.heap x u → (fresh = true → FreshRel C B s'.heap s.heap.objs.size x u) → Q u s') :
    wpAny C.M A (call (.ref a) us) Q E s := by
  obtain ⟨ha, hnd, hpa, hcn, hk, hco, hge, hbo⟩ := okFn_args hok
  obtain ⟨hlen, _⟩ := bindP_rel e2 hds
  refine wpAny_call ?_
  refine call_cells_ret (name := r.name) (params := r.args) (body := r.body) (scope := r.scope) (pm := pm) (cd := code) (doc := doc) (binds := (r.args.args.map (·.arg)).zip us)
    (by have := hA.dep; omega) (bas _ _ h2) h3 (T.nolimit.keeps bas) (h4.keeps bas) (by rw [ha]; exact bindArgs_plain hlen hnd) (fun y hy => ?_) (fun hh tk F₁ X₁ => ?_) hco hge hk
  · obtain ⟨ar, ha1, ha2⟩ := List.mem_map.mp (List.of_mem_zip (show (y.1, y.2) ∈ _ from hy)).1
    have := hpa ar ha1
    simp only [okN, Bool.or_eq_true, beq_iff_eq] at this
    rw [ha2] at this
    rcases this with q | q
    · exact .inl q
    · exact .inr ⟨q, cells_has q⟩
  · have R₁ := entry_rel (a := a) (cd := code) (name := r.name) (tk := tk) bas hbs hk hnd hpa hcn e2 hds hB F₁ X₁
    refine sts_ok (ih f _ (hA.deeper _)) r.body _ ρ' [] [] fl ρ₁ σ₁ _ _ _ hbo e3 R₁ fun α₂ f₂ s₂ R₂ E₂ F₂ => ?_
    have keep : ∀ b o, s.heap.get? b = some o → s₂.heap.get? b = some o := fun b o e => E₂.keep b o (F₁.keep b o e) (fun q => by
        rcases List.mem_cons.mp q with q | q
        · subst q; exact absurd (Heap.lt_size e) (Nat.lt_irrefl _)
        · obtain ⟨⟨x, c⟩, hm, rfl⟩ := List.mem_map.mp q
          exact absurd (Heap.lt_size e) (Nat.not_lt.mpr (Nat.le_of_lt (X₁.above x c hm)))) (fun n hn => by simp at hn)
    have size1 : s.heap.objs.size ≤ hh.objs.size := Nat.le_of_lt (R₁.xlt _ (.inr (.head _)))
    have fin : ∀ u, VRel C (fun b => B b ∨ b ∈ FA (envOfC r.name r.scope s.heap.objs.size a code)) α₂ s₂.heap (retV fl) u → Q u s₂ := fun u hv => by
      have hnew : ∀ b ∈ α₂, s.heap.objs.size ≤ b := fun b hb => by
        obtain ⟨t, ht, hge'⟩ := E₂.new
        simp only [List.nil_append] at ht
        subst ht
        exact Nat.le_trans size1 (hge' b hb)
      obtain ⟨hD, hF⟩ := hand_ok (B := B) (n := s.heap.objs.size) (fun b q => .inl q) hnew R₂.st hv e4
      exact hQ u s₂ keep (Nat.le_trans size1 E₂.size) E₂.gens E₂.os hD hF
    cases fl with
    | next => simp only [FlRel] at F₂; subst F₂; exact fin _ (by simp only [retV, VRel, DRel])
    | ret w => obtain ⟨u, rfl, hw⟩ := F₂; exact fin u hw

theorem callN_ok {body : List Stmt} {H : Hints} (T : Tops C body H) : ∀ (d : Nat) (f₀ : Str) (A : Around), AOk d A → Wk C (gen body H d f₀) A := by
  intro d
  induction d with
  | zero =>
    intro f₀ A hA
    refine ⟨T.h2, by have := hA.uni; omega, hA.hh, T.gns, T.bns, T.bf, T.isi, T.tys, T.rng, T.zp, T.cst, fun f hf => ?_, fun _ => rfl⟩
    obtain ⟨r, hr⟩ := Option.isSome_iff_exists.mp (show (findFn f body).isSome = true from hf)
    obtain ⟨_, a, o, pm, code, doc, h1, h2, h3, _⟩ := T.fn f r hr
    exact ⟨a, o, _, h1, h2, h3, fun X env ρ α σ s E Q args us v σ' _ _ h _ => by cases (show callN body H 0 f args σ = some (v, σ') from h)⟩
  | succ d ih =>
    intro f₀ A hA
    refine ⟨T.h2, by have := hA.uni; omega, hA.hh, T.gns, T.bns, T.bf, T.isi, T.tys, T.rng, T.zp, T.cst, fun f hf => ?_, fun _ => rfl⟩
    obtain ⟨r, hr⟩ := Option.isSome_iff_exists.mp (show (findFn f body).isSome = true from hf)
    obtain ⟨hok, a, o, pm, code, doc, h1, h2, h3, h4⟩ := T.fn f r hr
    refine ⟨a, o, _, h1, h2, h3, fun X env ρ α σ s E Q args us v σ' R V h hQ => ?_⟩
    have hN : callN body H (d + 1) f args σ = some (v, σ') := h
    simp only [callN_s, hr, Option.bind_some] at hN
    split at hN
    · cases hN
    · simp only [Option.bind_eq_some_iff] at hN
      obtain ⟨⟨ds, snap⟩, e1, ρ', e2, ⟨fl, ρ₁, σ₁⟩, e3, x, e4, e5⟩ := hN
      dsimp only at e2 e3 e4 e5
      split at e5
      · cases e5
      · rename_i hsp
        simp only [Option.some.injEq, Prod.mk.injEq] at e5
        obtain ⟨rfl, rfl⟩ := e5
        obtain ⟨hs0, hs1⟩ := snaps_ok R V e1
        have hbs : C.base.objs.size ≤ s.heap.objs.size := Nat.le_trans (R.flow env.locals (.head _)) (Nat.le_of_lt (R.xlt _ (R.fa env.locals (.head _))))
        cases snap with
        | false =>
          refine call_core T ih hA hok h2 h3 h4 (B := Bad X α) R.bas hbs (fun b q => R.noTupBad q) (hs1 rfl) e2 e3 e4 fun u s₂ keep hz hg ho hD hF => ?_
          exact hQ x u s₂ rfl rfl ⟨fun b o e _ => keep b o e, fun m e => e.keeps keep, hz, hg, ho⟩ (fun q => hF q) hD
        | true =>
          refine call_core T ih hA hok h2 h3 h4 (B := B0) R.bas hbs (fun b q => q.elim) hs0 e2 e3 e4 fun u s₂ keep hz hg ho hD hF => ?_
          have hp : plainD x = true := by simpa using hsp
          have hD' : DRel C (Bad X α) s₂.heap x u := DRel.plain hp hD (fun _ _ e => e) fun b vs ht q => by
            obtain ⟨o, ho, hn⟩ := R.noTupBad q
            obtain ⟨o', ho', hc, k, hdt⟩ := ht
            rw [keep b o ho] at ho'
            cases ho'
            exact hn _ _ ⟨hc, hdt⟩
          exact hQ x u s₂ rfl rfl ⟨fun b o e _ => keep b o e, fun m e => e.keeps keep, hz, hg, ho⟩ (fun _ => plainDs_fresh hp hD') hD'

/-- the law's own call -/
theorem law_call {body : List Stmt} {H : Hints} (T : Tops C body H) {d : Nat} (hA : AOk (d + 1) A) {f : Str} {ds : List D} {us : List Value} {x : D} (h : callN body H (d + 1) f (ds.map .d) [] = some (.d x, []))
    (bas : ∀ b o, C.base.get? b = some o → s.heap.get? b = some o) (hbs : C.base.objs.size ≤ s.heap.objs.size) (hds : DsRel C B0 s.heap ds us) {a : Addr} (hmg : C.mg f = some (.ref a)) {Q : Value → Shared → Prop}
    (hQ : ∀ u s', (∀ b o, s.heap.get? b = some o → s'.heap.get? b = some o) → s'.gens = s.gens → s'.os = s.os → DRel C B0 s'.heap x u → Q u s') : wpAny C.M A (call (.ref a) us) Q E s := by
  have sn : ∀ ds : List D, snaps [] (ds.map .d) = some (ds, false) := fun ds => by
    induction ds with
    | nil => rfl
    | cons y r ih => simp only [List.map_cons, snaps_c, rd, view_6, Option.bind_some, ih, Option.map_some]
  simp only [callN_s, Option.bind_eq_some_iff] at h
  obtain ⟨r, hr, h⟩ := h
  split at h
  · cases h
  · rw [sn] at h
    simp only [Option.bind_eq_some_iff, Option.some.injEq] at h
    obtain ⟨⟨ds', snap⟩, e1, ρ', e2, ⟨fl, ρ₁, σ₁⟩, e3, y, e4, e5⟩ := h
    simp only [Prod.mk.injEq] at e1
    obtain ⟨rfl, rfl⟩ := e1
    dsimp only at e2 e3 e4 e5
    split at e5
    · cases e5
    · simp only [Option.some.injEq, Prod.mk.injEq, V.d.injEq, and_true] at e5
      subst e5
      obtain ⟨hok, a', o, pm, code, doc, h1, h2, h3, h4⟩ := T.fn f r hr
      rw [hmg] at h1
      cases h1
      exact call_core T (callN_ok T d) hA hok h2 h3 h4 (B := B0) bas hbs (fun b q => q.elim) hds e2 e3 e4 fun u s₂ keep hz hg ho hD hF => hQ u s₂ keep hg ho hD

end
end Mine
end

section
set_option autoImplicit false
namespace Mine
open PySem PySem.W PyProof.Rows PySem.Calls

noncomputable def toFn (d : DefRec) : FnRec := ⟨d.name, d.params, d.body, d.scope⟩
noncomputable def bnames : List Str := ["len", "min", "max", "int", "list", "dict", "set", "sorted", "all", "isinstance", "bool", "str", "tuple", "range", "zip"]
noncomputable def freeOk (q : Program) (loose : List Str) (x : Str) : Bool :=
  !startupNames.contains x && !(looseW q loose).contains x && !((recsOf q).map (·.name)).contains x && !((litsOf q).map (·.1)).contains x && !((clssOf q (looseW q loose)).map (·.name)).contains x
noncomputable def cstOk (q : Program) (p : Str × D) : Bool := match p.2, valOf q p.1 with
  | .int i, some (.int j) => i == j
  | _, _ => false

theorem boot_bf : ∀ p ∈ bfL, p.1 ∈ bnames ∧ p.1 ≠ "__name__" ∧ bootBuiltins p.1 = some (bfVal p.2) := by decide +kernel
theorem boot_ty : ∀ t ∈ "range" :: "zip" :: typeStrs, Str.ofString t ∈ bnames ∧ Str.ofString t ≠ "__name__" ∧ bootBuiltins (Str.ofString t) = some (.type t) := by decide +kernel
theorem boot_isi : ("isinstance" : Str) ∈ bnames ∧ ("isinstance" : Str) ≠ "__name__" ∧ bootBuiltins "isinstance" = some (.builtin "isinstance") := by decide +kernel

theorem findFn_mem {f : Str} {r : FnRec} : ∀ {body : List Stmt}, findFn f body = some r → r ∈ body.filterMap fnRec?
  | [], h => by cases h
  | st :: rest, h => by
    rw [findFn_c] at h
    rw [List.filterMap_cons]
    split at h
    · rename_i d hd
      rw [hd]
      split at h
      · cases h; exact .head _
      · exact .tail _ (findFn_mem h)
    · rename_i hd
      rw [hd]; exact findFn_mem h

theorem mem_lookup {x : Str} {d : D} : ∀ {l : List (Str × D)}, l.lookup x = some d → (x, d) ∈ l := fun h => mem_of_lookup h

theorem tops_of {q : Program} {loose : List Str} {mean : ExcName → Option Value} {C : Wo} {body : List Stmt} {H : Hints} (T : Top q (looseW q loose) mean C.mg C.mb C.base)
    (hrec : (recsOf q).map toFn = body.filterMap fnRec?) (hok : (body.filterMap fnRec?).all (okFn fun x => H.consts.lookup x) = true) (hcst : H.consts.all (cstOk q) = true) (hfree : bnames.all (freeOk q loose) = true) : Tops C body H := by
  have fr : ∀ x ∈ bnames, C.mg x = none := fun x hx => by
    have := List.all_eq_true.mp hfree x hx
    simp only [freeOk, Bool.and_eq_true, Bool.not_eq_true', List.contains_eq_mem, decide_eq_false_iff_not] at this
    obtain ⟨⟨⟨⟨a, b⟩, c⟩, d⟩, e⟩ := this
    exact T.free x a b c d e
  have bt : ∀ (x : Str) (v : Value), x ≠ "__name__" → bootBuiltins x = some v → C.mb x = some v := fun x v hx hv => (T.builtins x hx).trans hv
  have both : ∀ {x : Str} {v : Value}, (x ∈ bnames ∧ x ≠ "__name__" ∧ bootBuiltins x = some v) → C.mg x = none ∧ C.mb x = some v := fun h => ⟨fr _ h.1, bt _ _ h.2.1 h.2.2⟩
  obtain ⟨mc, hmc, _⟩ := T.nodigits
  refine ⟨?_, T.g, T.b, T.nolimit, fun f b hb => both (boot_bf (f, b) (mem_of_lookup hb)), both boot_isi, fun t ht => both (boot_ty t (.tail _ (.tail _ ht))), both (boot_ty _ (.head _)), both (boot_ty _ (.tail _ (.head _))), ?_, ?_⟩
  · exact Nat.le_of_lt (show 2 < C.base.objs.size from hmc.lt)
  · intro x d hd
    have hm := List.all_eq_true.mp hcst _ (mem_lookup hd)
    unfold cstOk at hm
    split at hm
    · rename_i i j e1 e2
      dsimp only at e1 e2
      subst e1
      have : i = j := by simpa using hm
      subst this
      obtain ⟨v, hv, hr⟩ := T.const x _ e2
      cases hr C.base with
      | int _ t => exact ⟨_, hv, fun B h => by simp only [DRel]; exact ⟨_, rfl⟩⟩
    · cases hm
  · intro f r hr
    have hm := findFn_mem hr
    refine ⟨List.all_eq_true.mp hok r hm, ?_⟩
    rw [← hrec] at hm
    obtain ⟨d, hd, rfl⟩ := List.mem_map.mp hm
    obtain ⟨a, o, pm, code, doc, h1, h2, h3, h4⟩ := T.fn d hd
    have hn : d.name = f := findFn_name hr
    exact ⟨a, o, pm, code, doc, hn ▸ h1, h2, h3, h4⟩

theorem ints_of {cl : Str → Option Addr} {C : Wo} {h : Heap} : ∀ {xs : List WData} {vs : List Value} {as : List Addr}, WShape.hasItems [] xs .int = true → ReadsAllW [] cl h vs xs as → ∃ ns : List Int, ns.length = xs.length ∧ DsRel C B0 h (ns.map .int) vs
  | [], _, _, _, r => by cases r; exact ⟨[], rfl, by simp only [List.map_nil, DsRel]⟩
  | x :: xs, _, _, hi, r => by
    simp only [WShape.hasItems, Bool.and_eq_true] at hi
    obtain ⟨i, rfl⟩ := hasW_int hi.1
    cases r with
    | cons r1 r2 =>
      obtain ⟨ns, hl, hd⟩ := ints_of (C := C) hi.2 r2
      cases r1 with
      | int _ t => exact ⟨i :: ns, by simp [hl], by simp only [List.map_cons, DsRel, DRel]; exact ⟨_, _, rfl, ⟨_, rfl⟩, hd⟩⟩

theorem law_walk {q : Program} {loose : List Str} {XP : (Str → Option Value) → Heap → Prop} {YP : World → Heap → Prop} {l : OpenLaw} {d : DefRec} {kwd : List (Str × Expr)} (H : Hints) (n : Nat)
    (hrec : (recsOf q).map toFn = l.prog.main.body.filterMap fnRec?) (hok : (l.prog.main.body.filterMap fnRec?).all (okFn fun x => H.consts.lookup x) = true) (hcst : H.consts.all (cstOk q) = true) (hfree : bnames.all (freeOk q loose) = true)
    (hmost : l.most = some 63) (hn : n ≤ 100) (hlaw : ∀ ns : List Int, ns.length ≤ 63 → callN l.prog.main.body H (n + 1) d.name [.d (.list (ns.map .int))] [] = some (.d (.bool true), [])) :
    WalkO q loose XP YP l.row.toRowW d kwd fun f vs => PySem.call f vs := by
  intro w s₀ s₁ mg mb G Y fa o pm cd doc dV kV ho hd hcd hD hmg hg args vals as hpre hlay hrd hwl hlo
  let C : Wo := ⟨l.prog, w, s₁.heap, mg, mb⟩
  have T : Tops C l.prog.main.body H := tops_of (C := C) G.T hrec hok hcst hfree
  obtain ⟨ha, hp⟩ := pre_splitW hpre
  obtain ⟨x, r, rfl, hx, hr⟩ := hasAllW_cons ha
  obtain rfl := hasAllW_nil hr
  obtain ⟨xs, rfl, hi⟩ := hasW_list hx
  cases hrd with
  | cons r1 r2 =>
    cases r2
    cases r1 with
    | list h1 h2 h3 h4 =>
      rename_i la lo lvs ln las
      obtain ⟨ns, hlen, hds⟩ := ints_of (C := C) hi h4
      have hsz : ns.length ≤ 63 := by
        have hp' : (l.pre).holds [] { args := [.list xs] } = true := hp
        rw [hlen]
        refine Nat.le_of_not_lt fun hc => ?_
        have hless : less? (WData.int 63) (WData.int (xs.length : Int)) = some true := by
          have : (63 : Int) < (xs.length : Int) := by omega
          show some (decide ((63 : Int) < (xs.length : Int))) = some true
          rw [decide_eq_true this]
        have e : WTm.value [] l.pre { args := [.list xs] } = some (.bool false) := by
          unfold OpenLaw.pre
          rw [hmost]
          simp [WTm.value, hless]
        have e' : (l.pre).holds [] { args := [.list xs] } = false := by unfold WTm.holds; rw [e]
        rw [e'] at hp'
        cases hp'
      have hl := hlaw ns hsz
      have hD1 : DsRel C B0 s₁.heap [.list (ns.map .int)] [.ref la] := by
        simp only [DsRel, DRel]
        exact ⟨_, _, rfl, ⟨la, lvs.toList, rfl, ⟨lo, h1, h2, ln, by simpa using h3⟩, fun q => q, hds⟩, rfl⟩
      refine law_call (C := C) (A := callerA) (ds := [.list (ns.map .int)]) T ⟨rfl, by show 1 + claimMargin + (n + 1) < recursionLimit; unfold claimMargin recursionLimit; omega, by show 4 + 3 * (n + 1) + 30 < cLine; unfold cLine; omega⟩ hl (fun _ _ e => e) (Nat.le_refl _) hD1 hmg ?_
      intro u s' keep hgens hos hu
      simp only [DRel] at hu
      subst hu
      refine ⟨.inl ⟨_, .bool true, [], rfl, fun cls => rfl, .bool true, ?_, fun _ => ⟨List.nodup_nil, fun _ h => nomatch h⟩⟩, .of_keep keep, hos, .of_eq ?_⟩
      · kernel_rfl
      · rw [hgens, hg]

end Mine
end

section
set_option autoImplicit false
namespace Mine
open PySem

def POk (G : Genv) (ρ : Loc) (e : Expr) : Prop := ∀ (o : Bool) (σ : St) (n : Nat) (q : Orc) (k : V → St → Nat → Orc → Prop), wE G ρ o e σ n q k → ∃ v σ' n' q', evE G ρ o e σ = some (v, σ') ∧ k v σ' n' q'
def PSub (G : Genv) (ρ : Loc) (e : Expr) : Prop := (∀ lo hi st p, e = .Slice lo hi st p → (∀ x, lo = some x → POk G ρ x) ∧ ∀ x, hi = some x → POk G ρ x) ∧ ∀ x m p, e = .Attribute x m p → POk G ρ x
structure PsOk (G : Genv) (ρ : Loc) (zs : List Expr) : Prop where
  es : ∀ (o : Bool) (σ : St) (n : Nat) (q : Orc) (k : List V → St → Nat → Orc → Prop), wEs G ρ o zs σ n q k → ∃ v σ' n' q', evEs G ρ o zs σ = some (v, σ') ∧ k v σ' n' q'
  b : ∀ (op : BoolOp) (σ : St) (n : Nat) (q : Orc) (k : V → St → Nat → Orc → Prop), wB G ρ op zs σ n q k → ∃ v σ' n' q', evB G ρ op zs σ = some (v, σ') ∧ k v σ' n' q'
  c : ∀ (a : V) (ops : List CmpOp) (σ : St) (n : Nat) (q : Orc) (k : Bool → St → Nat → Orc → Prop), wC G ρ a ops zs σ n q k → ∃ v σ' n' q', evC G ρ a ops zs σ = some (v, σ') ∧ k v σ' n' q'
  h : ∀ x r, zs = x :: r → POk G ρ x

variable {G : Genv} {ρ : Loc}
theorem PSub.no {e : Expr} (h1 : isSlice e = false) (h2 : isAttr e = false) : PSub G ρ e := ⟨fun lo hi st p h => by rw [h] at h1; exact Bool.noConfusion h1, fun x m p h => by rw [h] at h2; exact Bool.noConfusion h2⟩
theorem PSub.attr {e : Expr} {m : Str} {p : Pos} (h : POk G ρ e) : PSub G ρ (.Attribute e m p) := ⟨fun lo hi st p h => (by cases h), fun x m p hh => by cases hh; exact h⟩
theorem PSub.slice {lo hi st : Option Expr} {p : Pos} (h : ∀ x, lo = some x → POk G ρ x) (h' : ∀ x, hi = some x → POk G ρ x) : PSub G ρ (.Slice lo hi st p) := ⟨fun _ _ _ _ e => by cases e; exact ⟨h, h'⟩, fun x m p hh => by cases hh⟩
theorem p_someE {x : Expr} (h : POk G ρ x) : ∀ y, some x = some y → POk G ρ y := fun y e => by cases e; exact h
theorem p_noneE : ∀ y : Expr, none = some y → POk G ρ y := fun y e => by cases e
theorem p_Constant {c : Const} {z1 : Nat} {z2 : Pos}  : POk G ρ (.Constant c z1 z2) := fun o σ n q k h => by
    obtain ⟨d, e, h⟩ := opt_ok h
    exact ⟨_, _, _, _, by show Option.map _ (constD c) = _; rw [e]; rfl, h⟩
theorem p_Name {x : Str} {z1 : Pos}  : POk G ρ (.Name x z1) := fun o σ n q k h => by
    rcases two_ok h with ⟨v, e, h⟩ | ⟨e, h⟩
    · exact ⟨_, _, _, _, by show (match getV x ρ with | some v => some (v, σ) | none => _) = _; rw [e], h⟩
    · obtain ⟨d, e', h⟩ := opt_ok h
      exact ⟨_, _, _, _, by show (match getV x ρ with | some v => some (v, σ) | none => Option.map _ (G.const x)) = _; rw [e, e']; rfl, h⟩
theorem p_BoolOp {op : BoolOp} {es : List Expr} {z2 : Pos} (pes : PsOk G ρ es) : POk G ρ (.BoolOp op es z2) := fun o σ n q k h => by
    obtain ⟨v, σ1, n1, q1, e1, h⟩ := pes.b op σ n q k h
    exact ⟨_, _, _, _, e1, h⟩
theorem p_BinOp {l : Expr} {op : Operator} {r : Expr} {z3 : Pos} (pl : POk G ρ l) (pr : POk G ρ r) : POk G ρ (.BinOp l op r z3) := fun o σ n q k h => by
    obtain ⟨a, σ1, n1, q1, e1, h⟩ := pl false _ _ _ _ h
    obtain ⟨b, σ2, n2, q2, e2, h⟩ := pr false _ _ _ _ h
    obtain ⟨v, n3, q3, e3, h⟩ := ask_ok h
    exact ⟨_, _, _, _, by show Option.bind (evE G ρ false l σ) _ = _; rw [e1]; show Option.bind (evE G ρ false r σ1) _ = _; rw [e2]; show Option.map _ (binV σ2 op a b) = _; rw [e3]; rfl, h⟩
theorem p_UnaryOp {op : UnaryOp} {e : Expr} {z2 : Pos} (pe : POk G ρ e) : POk G ρ (.UnaryOp op e z2) := fun o σ n q k h => by
    obtain ⟨a, σ1, n1, q1, e1, h⟩ := pe false _ _ _ _ h
    cases op with
    | Not =>
      obtain ⟨b, n2, q2, e2, h⟩ := ask_ok h
      exact ⟨_, _, _, _, by show Option.bind (evE G ρ false e σ) _ = _; rw [e1]; show Option.map _ (truthV σ1 a) = _; rw [e2]; rfl, h⟩
    | USub =>
      cases a with
      | d x => cases x with
        | int i => exact ⟨_, _, _, _, by show Option.bind (evE G ρ false e σ) _ = _; rw [e1]; rfl, h⟩
        | _ => exact h.elim
      | _ => exact h.elim
    | _ => exact h.elim
theorem p_Compare {l : Expr} {ops : List CmpOp} {es : List Expr} {z3 : Pos} (pl : POk G ρ l) (pes : PsOk G ρ es) : POk G ρ (.Compare l ops es z3) := fun o σ n q k h => by
    obtain ⟨a, σ1, n1, q1, e1, h⟩ := pl false _ _ _ _ h
    obtain ⟨b, σ2, n2, q2, e2, h⟩ := pes.c a ops _ _ _ _ h
    exact ⟨_, _, _, _, by show Option.bind (evE G ρ false l σ) _ = _; rw [e1]; show Option.map _ (evC G ρ a ops es σ1) = _; rw [e2]; rfl, h⟩
theorem p_Tuple {es : List Expr} {z1 : Nat} {z2 : Pos} (pes : PsOk G ρ es) : POk G ρ (.Tuple es z1 z2) := fun o σ n q k h => by
    obtain ⟨a, σ1, n1, q1, e1, h⟩ := pes.es o _ _ _ _ h
    exact ⟨_, _, _, _, by show Option.map _ (evEs G ρ o es σ) = _; rw [e1]; rfl, h⟩
theorem p_List {es : List Expr} {z1 : Pos} (pes : PsOk G ρ es) : POk G ρ (.List es z1) := fun o σ n q k h => by
    obtain ⟨a, σ1, n1, q1, e1, h⟩ := pes.es o _ _ _ _ h
    obtain ⟨v, n3, q3, e3, h⟩ := ask_ok h
    exact ⟨_, _, _, _, by show Option.bind (evEs G ρ o es σ) _ = _; rw [e1]; exact e3, h⟩
theorem p_Dict {ks : List (Option Expr)} {vs : List Expr} {z2 : Pos} (pvs : PsOk G ρ vs) : POk G ρ (.Dict ks vs z2) := fun o σ n q k h => by
    cases ks with
    | nil =>
      replace h : ask (hitW n q) (evE G ρ o (.Dict [] vs z2) σ) n q (fun p n q => k p.1 p.2 n q) := h
      obtain ⟨v, n3, q3, e3, h⟩ := ask_ok h
      exact ⟨_, _, _, _, e3, h⟩
    | cons k' ks =>
      replace h : tst o False (opt (constKeys (k' :: ks)) fun js => wEs G ρ false vs σ n q fun vs σ n q => ask (hitW n q) (mkDict js vs σ) n q fun p n q => k p.1 p.2 n q) := h
      rcases tst_ok h with ⟨_, h⟩ | ⟨ho, h⟩
      · exact h.elim
      · subst ho
        obtain ⟨js, e, h⟩ := opt_ok h
        obtain ⟨a, σ1, n1, q1, e1, h⟩ := pvs.es false _ _ _ _ h
        obtain ⟨v, n3, q3, e3, h⟩ := ask_ok h
        exact ⟨_, _, _, _, by rw [evE_Dict]; show Option.bind (constKeys (k' :: ks)) _ = _; rw [e]; show Option.bind (evEs G ρ false vs σ) _ = _; rw [e1]; exact e3, h⟩
noncomputable def subW (G : Genv) (ρ : Loc) (o : Bool) (i : Expr) (k : V → St → Nat → Orc → Prop) (ov : V) (σ : St) (n : Nat) (q : Orc) : Prop := match i with
  | .Slice lo hi st _ => match lo, st with
    | some lo, none => wE G ρ false lo σ n q fun lv σ n q => opt (natV lv) fun ln => match hi with
      | none => ask (hitV n q) (sliceV σ ov ln none) n q fun v n q => k (own o v σ).1 (own o v σ).2 n q
      | some hi => wE G ρ false hi σ n q fun hv σ n q => opt (natV hv) fun hn => ask (hitV n q) (sliceV σ ov ln (some hn)) n q fun v n q => k (own o v σ).1 (own o v σ).2 n q
    | _, _ => False
  | i => wE G ρ false i σ n q fun iv σ n q => ask (hitV n q) (getItemV σ ov iv) n q fun v n q => k v σ n q
theorem wE_Sub {o : Bool} {e i : Expr} {p : Pos} {σ : St} {n : Nat} {q : Orc} {k : V → St → Nat → Orc → Prop} (h : wE G ρ o (.Subscript e i p) σ n q k) : wE G ρ false e σ n q (subW G ρ o i k) := by
  cases i with
  | Slice lo hi st p => cases lo <;> cases st <;> cases hi <;> exact h
  | _ => exact h
theorem subW_plain {o : Bool} {i : Expr} {k : V → St → Nat → Orc → Prop} {ov : V} {σ : St} {n : Nat} {q : Orc} (h : isSlice i = false) (hh : subW G ρ o i k ov σ n q) : wE G ρ false i σ n q fun iv σ n q => ask (hitV n q) (getItemV σ ov iv) n q fun v n q => k v σ n q := by
  cases i with
  | Slice lo hi st p => cases h
  | _ => exact hh
theorem p_Subscript {e : Expr} {i : Expr} {z2 : Pos} (pe : POk G ρ e) (pi : POk G ρ i) (si : PSub G ρ i) : POk G ρ (.Subscript e i z2) := fun o σ n q k h => by
    replace h := wE_Sub h
    obtain ⟨a, σ1, n1, q1, e1, h⟩ := pe false _ _ _ _ h
    cases hs : isSlice i with
    | false =>
      obtain ⟨b, σ2, n2, q2, e2, h⟩ := pi false _ _ _ _ (subW_plain hs h)
      obtain ⟨v, n3, q3, e4, h⟩ := ask_ok h
      exact ⟨_, _, _, _, by rw [evE_Item hs, e1]; show Option.bind (evE G ρ false _ σ1) _ = _; rw [e2]; show Option.map _ (getItemV σ2 a b) = _; rw [e4]; rfl, h⟩
    | true =>
    obtain ⟨lo, hi, st, pp, rfl⟩ := isSlice_ex hs
    cases st with
    | some _ => cases lo <;> exact h.elim
    | none => cases lo with
      | none => exact h.elim
      | some lo =>
        obtain ⟨b, σ2, n2, q2, e2, h⟩ := si.1 _ _ _ _ rfl |>.1 _ rfl false _ _ _ _ h
        obtain ⟨ln, e3, h⟩ := opt_ok h
        cases hi with
        | none =>
          obtain ⟨v, n3, q3, e4, h⟩ := ask_ok h
          exact ⟨_, _, _, _, by show Option.bind (evE G ρ false e σ) _ = _; rw [e1]; show Option.bind (evE G ρ false lo σ1) _ = _; rw [e2]; show Option.bind (natV b) _ = _; rw [e3]; show Option.map _ (sliceV σ2 a ln none) = _; rw [e4]; rfl, h⟩
        | some hi =>
          obtain ⟨c, σ3, n3, q3, e4, h⟩ := si.1 _ _ _ _ rfl |>.2 _ rfl false _ _ _ _ h
          obtain ⟨hn, e5, h⟩ := opt_ok h
          obtain ⟨v, n3, q3, e6, h⟩ := ask_ok h
          exact ⟨_, _, _, _, by show Option.bind (evE G ρ false e σ) _ = _; rw [e1]; show Option.bind (evE G ρ false lo σ1) _ = _; rw [e2]; show Option.bind (natV b) _ = _; rw [e3]; show Option.bind (evE G ρ false hi σ2) _ = _; rw [e4]; show Option.bind (natV c) _ = _; rw [e5]; show Option.map _ (sliceV σ3 a ln (some hn)) = _; rw [e6]; rfl, h⟩
noncomputable def isiW (G : Genv) (ρ : Loc) (args : List Expr) (k : V → St → Nat → Orc → Prop) (σ : St) (n : Nat) (q : Orc) : Prop := match args with
  | [x, t] => wE G ρ false x σ n q fun v σ n q => opt (nameE t) fun t => tst (typeNames.contains t) (ask (hitB n q) (isiV σ t v) n q fun b n q => k (.d (.bool b)) σ n q) False
  | _ => False
theorem wE_Call {o : Bool} {f : Str} {pp p : Pos} {args : List Expr} {σ : St} {n : Nat} {q : Orc} {k : V → St → Nat → Orc → Prop} (h : wE G ρ o (.Call (.Name f pp) args [] p) σ n q k) : tst (decide (f = "isinstance")) (isiW G ρ args k σ n q) (two (bfOf f) (fun b => wEs G ρ false args σ n q fun vs σ n q => ask (hitV n q) (bfV σ b vs) n q fun v n q => k (own o v σ).1 (own o v σ).2 n q)
          (tst (G.fn f) (wEs G ρ false args σ n q fun vs σ n q => told (hitW n q) (G.call f vs σ) n fun p n q => k (own (o && G.fresh f) p.1 p.2).1 (own (o && G.fresh f) p.1 p.2).2 n q) False)) := by
  match args, h with
  | [], h => exact h
  | [_], h => exact h
  | [_, _], h => exact h
  | _ :: _ :: _ :: _, h => exact h
theorem wE_Meth {o : Bool} {e : Expr} {m : Str} {pp p : Pos} {args : List Expr} {σ : St} {n : Nat} {q : Orc} {k : V → St → Nat → Orc → Prop} (h : wE G ρ o (.Call (.Attribute e m pp) args [] p) σ n q k) : wE G ρ false e σ n q fun ov σ n q => two (clsOf σ ov) (fun _ => False) (opt (mkOf σ m ov) fun j => wEs G ρ true args σ n q fun vs σ n q => ask (hitW n q) (methV σ j ov vs) n q fun p n q => k p.1 p.2 n q) := by
  match args, h with
  | [], h => exact h
  | [_], h => exact h
  | [_, _], h => exact h
  | _ :: _ :: _ :: _, h => exact h
theorem p_Call {f : Expr} {args : List Expr} {ks : List Keyword} {z3 : Pos} (sf : PSub G ρ f) (pargs : PsOk G ρ args) : POk G ρ (.Call f args ks z3) := fun o σ n q k h => by
    cases ks with
    | cons _ _ => exact h.elim
    | nil => cases f with
      | Name f pp =>
        rcases tst_ok (wE_Call h) with ⟨hf, h⟩ | ⟨hf, h⟩
        · have hf := of_decide_eq_true hf
          match args, h, pargs with
          | [x, t], h, pargs =>
            obtain ⟨a, σ1, n1, q1, e1, h⟩ := pargs.h _ _ rfl false _ _ _ _ h
            obtain ⟨t', e2, h⟩ := opt_ok h
            rcases tst_ok h with ⟨e3, h⟩ | ⟨_, h⟩
            · obtain ⟨v, n3, q3, e4, h⟩ := ask_ok h
              exact ⟨_, _, _, _, by show (if f = _ then _ else _) = _; rw [if_pos hf]; show Option.bind (evE G ρ false x σ) _ = _; rw [e1]; show Option.bind (nameE t) _ = _; rw [e2]; show (if typeNames.contains t' = true then _ else _) = _; rw [if_pos e3]; show Option.map _ (isiV σ1 t' a) = _; rw [e4]; rfl, h⟩
            · exact h.elim
          | [], h, _ => exact h.elim
          | [_], h, _ => exact h.elim
          | _ :: _ :: _ :: _, h, _ => exact h.elim
        · have hf := of_decide_eq_false hf
          rcases two_ok h with ⟨b, eb, h⟩ | ⟨eb, h⟩
          · obtain ⟨vs, σ1, n1, q1, e1, h⟩ := pargs.es false _ _ _ _ h
            obtain ⟨v, n3, q3, e4, h⟩ := ask_ok h
            exact ⟨_, _, _, _, by rw [evE_CallN hf, eb]; show Option.bind (evEs G ρ false args σ) _ = _; rw [e1]; show Option.map _ (bfV σ1 b vs) = _; rw [e4]; rfl, h⟩
          · rcases tst_ok h with ⟨e3, h⟩ | ⟨_, h⟩
            · obtain ⟨vs, σ1, n1, q1, e1, h⟩ := pargs.es false _ _ _ _ h
              obtain ⟨v, n3, q3, e4, h⟩ := told_ok h
              exact ⟨_, _, _, _, by rw [evE_CallN hf, eb]; show (if G.fn f = true then _ else _) = _; rw [if_pos e3]; show Option.bind (evEs G ρ false args σ) _ = _; rw [e1]; show Option.map _ (G.call f vs σ1) = _; rw [e4]; rfl, h⟩
            · exact h.elim
      | Attribute e m pp =>
        replace h := wE_Meth h
        obtain ⟨a, σ1, n1, q1, e1, h⟩ := sf.2 _ _ _ rfl false _ _ _ _ h
        rcases two_ok h with ⟨_, _, h⟩ | ⟨e2, h⟩
        · exact h.elim
        · obtain ⟨j, e3, h⟩ := opt_ok h
          obtain ⟨vs, σ2, n1, q1, e4, h⟩ := pargs.es true _ _ _ _ h
          obtain ⟨v, n3, q3, e5, h⟩ := ask_ok h
          exact ⟨_, _, _, _, by rw [evE_CallM]; rw [e1]; show (match clsOf σ1 a with | some c => _ | none => _) = _; rw [e2]; show Option.bind (mkOf σ1 m a) _ = _; rw [e3]; show Option.bind (evEs G ρ true args σ1) _ = _; rw [e4]; exact e5, h⟩
      | _ => exact h.elim
theorem p_ListComp {elt : Expr} {gens : List Comprehension} {sc : Scope} {pos : Pos}  : POk G ρ (.ListComp elt gens sc pos) := fun o σ n q k h => by
    obtain ⟨v, n3, q3, e5, h⟩ := told_ok h
    exact ⟨_, _, _, _, e5, h⟩
theorem p_no {e : Expr} (h : ∀ o σ n q k, wE G ρ o e σ n q k = False) : POk G ρ e := fun o σ n q k hh => by rw [h] at hh; exact hh.elim
theorem p_nil : PsOk G ρ [] where
  es := fun o σ n q k h => ⟨_, _, _, _, rfl, h⟩
  b := fun op σ n q k h => h.elim
  c := fun a ops σ n q k h => by cases ops <;> exact h.elim
  h := fun _ _ h => nomatch h
theorem p_cons {e : Expr} {r : List Expr} (pe : POk G ρ e) (pr : PsOk G ρ r) : PsOk G ρ (e :: r) where
  es := fun o σ n q k h => by
    obtain ⟨a, σ1, n1, q1, e1, h⟩ := pe o _ _ _ _ h
    obtain ⟨b, σ2, n2, q2, e2, h⟩ := pr.es o _ _ _ _ h
    exact ⟨_, _, _, _, by show Option.bind (evE G ρ o e σ) _ = _; rw [e1]; show Option.map _ (evEs G ρ o r σ1) = _; rw [e2]; rfl, h⟩
  b := fun op σ n q k h => by
    cases r with
    | nil =>
      obtain ⟨a, σ1, n1, q1, e1, h⟩ := pe false _ _ _ _ h
      exact ⟨_, _, _, _, by show Option.bind (evE G ρ false e σ) _ = _; rw [e1]; rfl, h⟩
    | cons e' r' =>
      cases op
      · obtain ⟨a, σ1, n1, q1, e1, h⟩ := pe false _ _ _ _ h
        obtain ⟨b, n2, q2, e2, h⟩ := ask_ok h
        cases b
        · exact ⟨_, _, _, _, by show Option.bind (evE G ρ false e σ) _ = _; rw [e1]; show Option.bind (truthV σ1 a) _ = _; rw [e2]; rfl, h⟩
        · obtain ⟨c, σ2, n2, q2, e3, h⟩ := pr.b _ _ _ _ _ h
          exact ⟨_, _, _, _, by show Option.bind (evE G ρ false e σ) _ = _; rw [e1]; show Option.bind (truthV σ1 a) _ = _; rw [e2]; exact e3, h⟩
      · obtain ⟨a, σ1, n1, q1, e1, h⟩ := pe false _ _ _ _ h
        obtain ⟨b, n2, q2, e2, h⟩ := ask_ok h
        cases b
        · obtain ⟨c, σ2, n2, q2, e3, h⟩ := pr.b _ _ _ _ _ h
          exact ⟨_, _, _, _, by show Option.bind (evE G ρ false e σ) _ = _; rw [e1]; show Option.bind (truthV σ1 a) _ = _; rw [e2]; exact e3, h⟩
        · exact ⟨_, _, _, _, by show Option.bind (evE G ρ false e σ) _ = _; rw [e1]; show Option.bind (truthV σ1 a) _ = _; rw [e2]; rfl, h⟩
  c := fun a ops σ n q k h => by
    cases ops with
    | nil => exact h.elim
    | cons op ops =>
    cases ops with
    | nil => cases r with
      | nil =>
        obtain ⟨b, σ1, n1, q1, e1, h⟩ := pe false _ _ _ _ h
        obtain ⟨c, n2, q2, e2, h⟩ := ask_ok h
        exact ⟨_, _, _, _, by show Option.bind (evE G ρ false e σ) _ = _; rw [e1]; show Option.bind (cmpV σ1 op a b) _ = _; rw [e2]; rfl, h⟩
      | cons _ _ =>
        obtain ⟨b, σ1, n1, q1, e1, h⟩ := pe false _ _ _ _ h
        obtain ⟨c, n2, q2, e2, h⟩ := ask_ok h
        exact h.elim
    | cons op' ops' => cases r with
      | nil =>
        obtain ⟨b, σ1, n1, q1, e1, h⟩ := pe false _ _ _ _ h
        obtain ⟨c, n2, q2, e2, h⟩ := ask_ok h
        exact h.elim
      | cons e' r' =>
        obtain ⟨b, σ1, n1, q1, e1, h⟩ := pe false _ _ _ _ h
        obtain ⟨c, n2, q2, e2, h⟩ := ask_ok h
        cases c with
        | false => exact ⟨_, _, _, _, by show Option.bind (evE G ρ false e σ) _ = _; rw [e1]; show Option.bind (cmpV σ1 op a b) _ = _; rw [e2]; rfl, h⟩
        | true =>
          obtain ⟨c, σ2, n2, q2, e3, h⟩ := pr.c b (op' :: ops') _ _ _ _ h
          exact ⟨_, _, _, _, by show Option.bind (evE G ρ false e σ) _ = _; rw [e1]; show Option.bind (cmpV σ1 op a b) _ = _; rw [e2]; exact e3, h⟩
  h := fun x r' h => by cases h; exact pe

mutual
theorem p_all : ∀ e : Expr, POk G ρ e ∧ PSub G ρ e
  | .Constant .. => ⟨p_Constant, .no rfl rfl⟩
  | .Name .. => ⟨p_Name, .no rfl rfl⟩
  | .BoolOp _ es _ => ⟨p_BoolOp (p_alls es), .no rfl rfl⟩
  | .BinOp l _ r _ => ⟨p_BinOp (p_all l).1 (p_all r).1, .no rfl rfl⟩
  | .UnaryOp _ e _ => ⟨p_UnaryOp (p_all e).1, .no rfl rfl⟩
  | .Compare l _ es _ => ⟨p_Compare (p_all l).1 (p_alls es), .no rfl rfl⟩
  | .Tuple es _ _ => ⟨p_Tuple (p_alls es), .no rfl rfl⟩
  | .List es _ => ⟨p_List (p_alls es), .no rfl rfl⟩
  | .Dict _ vs _ => ⟨p_Dict (p_alls vs), .no rfl rfl⟩
  | .Subscript e i _ => ⟨p_Subscript (p_all e).1 (p_all i).1 (p_all i).2, .no rfl rfl⟩
  | .Call f args _ _ => ⟨p_Call (p_all f).2 (p_alls args), .no rfl rfl⟩
  | .ListComp .. => ⟨p_ListComp, .no rfl rfl⟩
  | .Slice (some lo) (some hi) _ _ => ⟨p_no fun _ _ _ _ _ => rfl, .slice (p_someE (p_all lo).1) (p_someE (p_all hi).1)⟩
  | .Slice (some lo) none _ _ => ⟨p_no fun _ _ _ _ _ => rfl, .slice (p_someE (p_all lo).1) p_noneE⟩
  | .Slice none (some hi) _ _ => ⟨p_no fun _ _ _ _ _ => rfl, .slice p_noneE (p_someE (p_all hi).1)⟩
  | .Slice none none _ _ => ⟨p_no fun _ _ _ _ _ => rfl, .slice p_noneE p_noneE⟩
  | .Attribute e _ _ => ⟨p_no fun _ _ _ _ _ => rfl, .attr (p_all e).1⟩
  | .Lambda .. => ⟨p_no fun _ _ _ _ _ => rfl, .no rfl rfl⟩
  | .IfExp .. => ⟨p_no fun _ _ _ _ _ => rfl, .no rfl rfl⟩
  | .Set .. => ⟨p_no fun _ _ _ _ _ => rfl, .no rfl rfl⟩
  | .SetComp .. => ⟨p_no fun _ _ _ _ _ => rfl, .no rfl rfl⟩
  | .DictComp .. => ⟨p_no fun _ _ _ _ _ => rfl, .no rfl rfl⟩
  | .GeneratorExp .. => ⟨p_no fun _ _ _ _ _ => rfl, .no rfl rfl⟩
  | .Await .. => ⟨p_no fun _ _ _ _ _ => rfl, .no rfl rfl⟩
  | .Yield .. => ⟨p_no fun _ _ _ _ _ => rfl, .no rfl rfl⟩
  | .YieldFrom .. => ⟨p_no fun _ _ _ _ _ => rfl, .no rfl rfl⟩
  | .JoinedStr .. => ⟨p_no fun _ _ _ _ _ => rfl, .no rfl rfl⟩
  | .FormattedValue .. => ⟨p_no fun _ _ _ _ _ => rfl, .no rfl rfl⟩
  | .NamedExpr .. => ⟨p_no fun _ _ _ _ _ => rfl, .no rfl rfl⟩
  | .Starred .. => ⟨p_no fun _ _ _ _ _ => rfl, .no rfl rfl⟩
theorem p_alls : ∀ es : List Expr, PsOk G ρ es
  | [] => p_nil
  | e :: r => p_cons (p_all e).1 (p_alls r)
end
end Mine
end

section
set_option autoImplicit false
namespace Mine
open PySem

mutual
noncomputable def wS (G : Genv) : Stmt → Loc → St → Nat → Orc → (Fl → Loc → St → Nat → Orc → Prop) → Prop
  | .Pass _, ρ, σ, n, q, k => k .next ρ σ n q
  | .Expr e _, ρ, σ, n, q, k => wE G ρ false e σ n q fun _ σ n q => k .next ρ σ n q
  | .Return e _, ρ, σ, n, q, k => two e (fun e => wE G ρ G.ownRet e σ n q fun v σ n q => k (.ret v) ρ σ n q) (k (.ret (.d .none)) ρ σ n q)
  | .Assign ts e _, ρ, σ, n, q, k => match ts with
    | [t] => match t with
      | .Name x _ => wE G ρ (G.owned x) e σ n q fun v σ n q => k .next (setV x v ρ) σ n q
      | .Subscript b i _ => wE G ρ true e σ n q fun v σ n q => wE G ρ false b σ n q fun bv σ n q => wE G ρ false i σ n q fun iv σ n q => ask (hitS n q) (setItemV σ bv iv v) n q fun σ n q => k .next ρ σ n q
      | _ => False
    | _ => False
  | .If t b e _, ρ, σ, n, q, k => wE G ρ false t σ n q fun v σ n q => ask (hitB n q) (truthV σ v) n q fun c n q => tst c (wSs G b ρ σ n q k) (wSs G e ρ σ n q k)
  | .For t it body e p, ρ, σ, n, q, k => told (hitF n q) (evS G (.For t it body e p) ρ σ) n fun x n q => k x.1 x.2.1 x.2.2 n q
  | .While t body e p, ρ, σ, n, q, k => told (hitF n q) (evS G (.While t body e p) ρ σ) n fun x n q => k x.1 x.2.1 x.2.2 n q
  | _, _, _, _, _, _ => False
noncomputable def wSs (G : Genv) : List Stmt → Loc → St → Nat → Orc → (Fl → Loc → St → Nat → Orc → Prop) → Prop
  | [], ρ, σ, n, q, k => k .next ρ σ n q
  | s :: r, ρ, σ, n, q, k => wS G s ρ σ n q fun fl ρ σ n q => match fl with
    | .next => wSs G r ρ σ n q k
    | .ret v => k (.ret v) ρ σ n q
end

def WSOk (G : Genv) (s : Stmt) : Prop := ∀ (ρ : Loc) (σ : St) (n : Nat) (q : Orc) (k : Fl → Loc → St → Nat → Orc → Prop), wS G s ρ σ n q k → ∃ fl ρ' σ' n' q', evS G s ρ σ = some (fl, ρ', σ') ∧ k fl ρ' σ' n' q'
def WSsOk (G : Genv) (s : List Stmt) : Prop := ∀ (ρ : Loc) (σ : St) (n : Nat) (q : Orc) (k : Fl → Loc → St → Nat → Orc → Prop), wSs G s ρ σ n q k → ∃ fl ρ' σ' n' q', evSs G s ρ σ = some (fl, ρ', σ') ∧ k fl ρ' σ' n' q'

variable {G : Genv}
theorem s_no {s : Stmt} (h : ∀ ρ σ n q k, wS G s ρ σ n q k = False) : WSOk G s := fun ρ σ n q k hh => by rw [h] at hh; exact hh.elim
theorem s_Expr {e : Expr} {p : Pos} : WSOk G (.Expr e p) := fun ρ σ n q k h => by
  obtain ⟨v, σ1, n1, q1, e1, h⟩ := (p_all e).1 false _ _ _ _ h
  exact ⟨_, _, _, _, _, by show Option.map _ (evE G ρ false e σ) = _; rw [e1]; rfl, h⟩
theorem s_Return {e : Option Expr} {p : Pos} : WSOk G (.Return e p) := fun ρ σ n q k h => by
  rcases two_ok h with ⟨e, rfl, h⟩ | ⟨rfl, h⟩
  · obtain ⟨v, σ1, n1, q1, e1, h⟩ := (p_all e).1 _ _ _ _ _ h
    exact ⟨_, _, _, _, _, by show Option.map _ (evE G ρ G.ownRet e σ) = _; rw [e1]; rfl, h⟩
  · exact ⟨_, _, _, _, _, rfl, h⟩
theorem s_Assign {ts : List Expr} {e : Expr} {p : Pos} : WSOk G (.Assign ts e p) := fun ρ σ n q k h => by
  cases ts with
  | nil => exact h.elim
  | cons t r =>
    cases r with
    | cons _ _ => cases t <;> exact h.elim
    | nil => cases t with
      | Name x pp =>
        obtain ⟨v, σ1, n1, q1, e1, h⟩ := (p_all e).1 _ _ _ _ _ h
        exact ⟨_, _, _, _, _, by show Option.map _ (evE G ρ (G.owned x) e σ) = _; rw [e1]; rfl, h⟩
      | Subscript b i pp =>
        obtain ⟨v, σ1, n1, q1, e1, h⟩ := (p_all e).1 _ _ _ _ _ h
        obtain ⟨bv, σ2, n1, q1, e2, h⟩ := (p_all b).1 _ _ _ _ _ h
        obtain ⟨iv, σ3, n1, q1, e3, h⟩ := (p_all i).1 _ _ _ _ _ h
        obtain ⟨σ4, n3, q3, e4, h⟩ := ask_ok h
        exact ⟨_, _, _, _, _, by show Option.bind (evE G ρ true e σ) _ = _; rw [e1]; show Option.bind (evE G ρ false b σ1) _ = _; rw [e2]; show Option.bind (evE G ρ false i σ2) _ = _; rw [e3]; show Option.map _ (setItemV σ3 bv iv v) = _; rw [e4]; rfl, h⟩
      | _ => exact h.elim
theorem s_If {t : Expr} {b e : List Stmt} {p : Pos} (hb : WSsOk G b) (he : WSsOk G e) : WSOk G (.If t b e p) := fun ρ σ n q k h => by
  obtain ⟨v, σ1, n1, q1, e1, h⟩ := (p_all t).1 _ _ _ _ _ h
  obtain ⟨c, n3, q3, e2, h⟩ := ask_ok h
  rcases tst_ok h with ⟨rfl, h⟩ | ⟨rfl, h⟩
  · obtain ⟨fl, ρ2, σ2, n2, q2, e3, h⟩ := hb _ _ _ _ _ h
    exact ⟨_, _, _, _, _, by show Option.bind (evE G ρ false t σ) _ = _; rw [e1]; show Option.bind (truthV σ1 v) _ = _; rw [e2]; exact e3, h⟩
  · obtain ⟨fl, ρ2, σ2, n2, q2, e3, h⟩ := he _ _ _ _ _ h
    exact ⟨_, _, _, _, _, by show Option.bind (evE G ρ false t σ) _ = _; rw [e1]; show Option.bind (truthV σ1 v) _ = _; rw [e2]; exact e3, h⟩
theorem s_told {s : Stmt} (hs : ∀ ρ σ n q k, wS G s ρ σ n q k = told (hitF n q) (evS G s ρ σ) n fun x n q => k x.1 x.2.1 x.2.2 n q) : WSOk G s := fun ρ σ n q k h => by
  rw [hs] at h
  obtain ⟨v, n3, q3, e5, h⟩ := told_ok h
  exact ⟨_, _, _, _, _, e5, h⟩
theorem s_cons {s : Stmt} {r : List Stmt} (hs : WSOk G s) (hr : WSsOk G r) : WSsOk G (s :: r) := fun ρ σ n q k h => by
  obtain ⟨fl, ρ1, σ1, n1, q1, e1, h⟩ := hs _ _ _ _ _ h
  cases fl with
  | next =>
    obtain ⟨fl, ρ2, σ2, n2, q2, e2, h⟩ := hr _ _ _ _ _ h
    exact ⟨_, _, _, _, _, by show Option.bind (evS G s ρ σ) _ = _; rw [e1]; exact e2, h⟩
  | ret v => exact ⟨_, _, _, _, _, by show Option.bind (evS G s ρ σ) _ = _; rw [e1]; rfl, h⟩

mutual
theorem s_all : ∀ s : Stmt, WSOk G s
  | .Pass _ => fun _ _ _ _ _ h => ⟨_, _, _, _, _, rfl, h⟩
  | .Expr .. => s_Expr
  | .Return .. => s_Return
  | .Assign .. => s_Assign
  | .If _ b e _ => s_If (s_alls b) (s_alls e)
  | .For .. => s_told fun _ _ _ _ _ => rfl
  | .While .. => s_told fun _ _ _ _ _ => rfl
  | .FunctionDef .. => s_no fun _ _ _ _ _ => rfl
  | .AsyncFunctionDef .. => s_no fun _ _ _ _ _ => rfl
  | .ClassDef .. => s_no fun _ _ _ _ _ => rfl
  | .Delete .. => s_no fun _ _ _ _ _ => rfl
  | .TypeAlias .. => s_no fun _ _ _ _ _ => rfl
  | .AugAssign .. => s_no fun _ _ _ _ _ => rfl
  | .AnnAssign .. => s_no fun _ _ _ _ _ => rfl
  | .AsyncFor .. => s_no fun _ _ _ _ _ => rfl
  | .With .. => s_no fun _ _ _ _ _ => rfl
  | .AsyncWith .. => s_no fun _ _ _ _ _ => rfl
  | .Match .. => s_no fun _ _ _ _ _ => rfl
  | .Raise .. => s_no fun _ _ _ _ _ => rfl
  | .Try .. => s_no fun _ _ _ _ _ => rfl
  | .TryStar .. => s_no fun _ _ _ _ _ => rfl
  | .Assert .. => s_no fun _ _ _ _ _ => rfl
  | .Import .. => s_no fun _ _ _ _ _ => rfl
  | .ImportFrom .. => s_no fun _ _ _ _ _ => rfl
  | .Global .. => s_no fun _ _ _ _ _ => rfl
  | .Nonlocal .. => s_no fun _ _ _ _ _ => rfl
  | .Break .. => s_no fun _ _ _ _ _ => rfl
  | .Continue .. => s_no fun _ _ _ _ _ => rfl
theorem s_alls : ∀ s : List Stmt, WSsOk G s
  | [] => fun _ _ _ _ _ h => ⟨_, _, _, _, _, rfl, h⟩
  | s :: r => s_cons (s_all s) (s_alls r)
end

noncomputable def fnAt (body : List Stmt) (i : Nat) : FnRec := ((body.filterMap fnRec?)[i]?).getD ⟨⟨#[]⟩, ⟨[], [], none, [], [], none, []⟩, [], ⟨.function, [], false, false, []⟩⟩
noncomputable def run (body : List Stmt) (H : Hints) (d : Nat) (f : Str) (r : FnRec) (ds : List D) : Option D :=
  (bindP r.args.args (ds.map .d)).bind fun ρ => (evSs (gen body H d f) r.body ρ []).bind fun p => handD (H.fresh.contains f) p.2.2 (retV p.1)
noncomputable def wRun (body : List Stmt) (H : Hints) (d : Nat) (f : Str) (r : FnRec) (ds : List D) (q : Orc) (x : D) : Prop :=
  opt (bindP r.args.args (ds.map .d)) fun ρ => wSs (gen body H d f) r.body ρ [] 0 q fun fl _ σ _ _ => handD (H.fresh.contains f) σ (retV fl) = some x

theorem snaps_d (σ : St) : ∀ ds : List D, snaps σ (ds.map .d) = some (ds, false)
  | [] => rfl
  | y :: r => by simp only [List.map_cons, snaps_c, rd, view_6, Option.bind_some, snaps_d σ r, Option.map_some]

theorem callN_run {body : List Stmt} {H : Hints} {d : Nat} {f : Str} {r : FnRec} {ds : List D} {x : D} (h : findFn f body = some r) (hi : H.impure.contains f = false) (hr : run body H d f r ds = some x) (σ : St) :
    callN body H (d + 1) f (ds.map .d) σ = some (.d x, σ) := by
  unfold run at hr
  simp only [Option.bind_eq_some_iff] at hr
  obtain ⟨ρ, e1, ⟨fl, ρ', σ'⟩, e2, e3⟩ := hr
  simp only [callN_s, h, hi, Option.bind_some, snaps_d, Bool.false_eq_true, if_false, e1]
  unfold gen at e2
  simp only [e2, Option.bind_some, e3, Bool.false_and, Bool.false_eq_true, if_false]

theorem run_of {body : List Stmt} {H : Hints} {d : Nat} {f : Str} {r : FnRec} {ds : List D} {q : Orc} {x : D} (h : wRun body H d f r ds q x) : run body H d f r ds = some x := by
  obtain ⟨ρ, e1, h⟩ := opt_ok h
  obtain ⟨fl, ρ', σ', n', q', e2, h⟩ := s_alls _ _ _ _ _ _ h
  unfold run
  rw [e1]
  show Option.bind (evSs _ _ _ _) _ = _
  rw [e2]
  exact h
/-- one path through a function -/
theorem path {body : List Stmt} {H : Hints} {d : Nat} {f : Str} {ds : List D} {i : Nat} {x : D} {P : Prop} (q : Orc) (hf : findFn f body = some (fnAt body i)) (hi : H.impure.contains f = false)
    (e : P = wRun body H d f (fnAt body i) ds q x) (hp : P) (σ : St) : callN body H (d + 1) f (ds.map .d) σ = some (.d x, σ) :=
  callN_run hf hi (run_of (e.mp hp)) σ
noncomputable def stAt (B : List Stmt) (i j : Nat) : Stmt := ((fnAt B i).body[j]?).getD (.Pass ⟨0, 0, 0, 0⟩)
noncomputable def forBody : Stmt → List Stmt
  | .For _ _ b _ _ => b
  | _ => []
/-- one path through some statements -/
theorem pathS {G : Genv} {ss : List Stmt} {ρ ρ' : Loc} {σ σ' : St} {fl : Fl} {P : Prop} (q : Orc) (e : P = wSs G ss ρ σ 0 q fun fl' ρ'' σ'' _ _ => (fl', ρ'', σ'') = (fl, ρ', σ')) (hp : P) : evSs G ss ρ σ = some (fl, ρ', σ') := by
  obtain ⟨fl, ρ', σ', n', q', e2, h⟩ := s_alls _ _ _ _ _ _ (e.mp hp)
  rw [e2, h]
theorem dT {p : Prop} [Decidable p] (h : p) : some (decide p) = some true := by rw [decide_eq_true h]
theorem dF {p : Prop} [Decidable p] (h : ¬ p) : some (decide p) = some false := by rw [decide_eq_false h]
end Mine
end

section
set_option autoImplicit false
namespace Mine
open PySem

/-- a stretch or none, as data -/
noncomputable def sD : Option (Int × Int) → D
  | none => .none
  | some p => .tup [.int p.1, .int p.2]

theorem mul_ok {σ : St} {x y : Int} (h : small x = true) : binV σ .Mult (.d (.int x)) (.d (.int y)) = some (.d (.int (x * y))) := by
  show Option.map V.d (if small x = true then some (D.int (x * y)) else none) = _
  rw [if_pos h]; rfl
theorem div_ok {σ : St} {x y : Int} (h : 0 < y ∧ y < 1000000000) : binV σ .FloorDiv (.d (.int x)) (.d (.int y)) = some (.d (.int (x / y))) := by
  show Option.map V.d (if 0 < y ∧ y < 1000000000 then some (D.int (x / y)) else none) = _
  rw [if_pos h]; rfl
theorem mod_ok {σ : St} {x y : Int} (h : 0 < y) : binV σ .Mod (.d (.int x)) (.d (.int y)) = some (.d (.int (x % y))) := by
  show Option.map V.d (if 0 < y then some (D.int (x % y)) else none) = _
  rw [if_pos h]; rfl
theorem idx_list {σ : St} {xs : List D} {k : Int} {v : D} (h : idxL xs k = some v) : getItemV σ (.d (.list xs)) (.d (.int k)) = some (.d v) := congrArg (Option.map V.d) h
theorem idx_tup {σ : St} {xs : List D} {k : Int} {v : D} (h : idxL xs k = some v) : getItemV σ (.d (.tup xs)) (.d (.int k)) = some (.d v) := congrArg (Option.map V.d) h

theorem sizeOk_of {n : Nat} (h : n < 100000) : sizeOk n = true := decide_eq_true h
theorem small_of_lt {x : Int} (h : -18446744073709551616 < x) (h' : x < 18446744073709551616) : small x = true := by
  unfold small
  refine decide_eq_true ?_
  have : (2 : Nat) ^ 64 = 18446744073709551616 := by decide
  omega
theorem allD_of : ∀ ds : List D, allD (ds.map .d) = some ds
  | [] => rfl
  | x :: r => by show Option.map _ (allD (r.map .d)) = _; rw [allD_of r]; rfl
theorem idxL_get {β : Type} {xs : List β} {i : Int} (h : 0 ≤ i) (h' : i < 1000000000) : idxL xs i = xs[i.toNat]? := by
  unfold idxL; rw [if_pos h, if_pos h']
/-- an index into a row of numbers -/
theorem idx_ints {ns : List Int} {i : Int} (h : 0 ≤ i) (h' : i < ns.length) (hl : ns.length ≤ 1000) : ∃ w, w ∈ ns ∧ idxL (ns.map D.int) i = some (.int w) := by
  have hi : i.toNat < ns.length := by omega
  exact ⟨ns[i.toNat], List.getElem_mem hi, by rw [idxL_get h (by omega), List.getElem?_map, List.getElem?_eq_getElem hi]; rfl⟩
theorem len_ints {ns : List Int} {σ : St} (h : ns.length < 100000) : bfV σ .len [.d (.list (ns.map .int))] = some (.d (.int (ns.length : Nat))) := by
  show (if sizeOk (ns.map D.int).length = true then _ else _) = _
  rw [if_pos (sizeOk_of (by simpa using h)), List.length_map]
theorem app_ints {vs : List Int} {m : Int} (h : vs.length < 100000) : methV [(false, .list ((vs.map D.int).map V.d))] .append (.obj 0) [.d (.int m)] = some (.d .none, [(false, .list (((vs ++ [m]).map D.int).map V.d))]) := by
  show (if sizeOk ((vs.map D.int).map V.d).length = true then _ else _) = _
  rw [if_pos (sizeOk_of (by simpa using h)), List.map_append, List.map_append]
  rfl
theorem slice_ints {ws : List Int} {n : Nat} (h : ws.length < 100000) : sliceV [(false, .list ((ws.map D.int).map V.d))] (.obj 0) n none = some (.d (.list ((ws.drop n).map D.int))) := by
  show (if ((ws.map D.int).map V.d).length < 100000 then Option.map _ (allD (List.drop n _)) else _) = _
  rw [if_pos (by simpa using h), ← List.map_drop, allD_of, ← List.map_drop]
  rfl

theorem rangeD_eq (b : Int) : rangeD 0 b = rangeL 0 b.toNat := by
  show rangeL 0 (b - 0).toNat = _
  rw [Int.sub_zero]

/-- the loop of a stream, whatever the body, as long as one turn does so -/
theorem stream_loop {f : V → Loc → St → Option (Fl × Loc × St)} {L : Int → V → Loc} {P : Int → Prop}
    (step : ∀ (n k : Int) (old : V) (vs : List Int), 0 ≤ k → k ≤ 200 → vs.length ≤ 200 → P n → ∃ m, P m ∧ f (.d (.int k)) (L n old) [(false, .list ((vs.map D.int).map V.d))] = some (.next, L m (.d (.int k)), [(false, .list (((vs ++ [m]).map D.int).map V.d))])) :
    ∀ (c : Nat) (k n : Int) (old : V) (vs : List Int), 0 ≤ k → k + c ≤ 200 → P n → vs.length + c ≤ 200 →
      ∃ (ws : List Int) (m : Int) (old' : V), ws.length = vs.length + c ∧ (∀ x ∈ ws, x ∈ vs ∨ P x) ∧ loopL f (rangeL k c) (L n old) [(false, .list ((vs.map D.int).map V.d))] = some (.next, L m old', [(false, .list ((ws.map D.int).map V.d))])
  | 0, k, n, old, vs, _, _, _, _ => ⟨vs, n, old, rfl, fun x hx => .inl hx, by rw [rangeL_zero]; rfl⟩
  | c + 1, k, n, old, vs, hk, hk', hn, hl => by
    obtain ⟨m, hm, e⟩ := step n k old vs hk (by omega) (by omega) hn
    have hl' : (vs ++ [m]).length = vs.length + 1 := List.length_append
    obtain ⟨ws, m', old', h1, h2, h3⟩ := stream_loop step c (k + 1) m (.d (.int k)) (vs ++ [m]) (by omega) (by omega) hm (by omega)
    refine ⟨ws, m', old', by omega, fun x hx => ?_, ?_⟩
    · rcases h2 x hx with h | h
      · rcases List.mem_append.mp h with h | h
        · exact .inl h
        · rw [List.mem_singleton] at h; subst h; exact .inr hm
      · exact .inr h
    · rw [rangeL_succ]
      show Option.bind (f (.d (.int k)) (L n old) _) _ = _
      rw [e]
      exact h3
/-- the whole loop: the first turn comes without the loop's name -/
theorem stream_all {f : V → Loc → St → Option (Fl × Loc × St)} {L : Int → V → Loc} {P : Int → Prop} {ρ : Loc}
    (first : ∃ m, P m ∧ f (.d (.int 0)) ρ [(false, .list [])] = some (.next, L m (.d (.int 0)), [(false, .list ((([m] : List Int).map D.int).map V.d))]))
    (step : ∀ (n k : Int) (old : V) (vs : List Int), 0 ≤ k → k ≤ 200 → vs.length ≤ 200 → P n → ∃ m, P m ∧ f (.d (.int k)) (L n old) [(false, .list ((vs.map D.int).map V.d))] = some (.next, L m (.d (.int k)), [(false, .list (((vs ++ [m]).map D.int).map V.d))]))
    (c : Nat) (hc : c ≤ 150) : ∃ (ws : List Int) (m : Int) (old' : V), ws.length = c + 1 ∧ (∀ x ∈ ws, P x) ∧ loopL f (rangeL 0 (c + 1)) ρ [(false, .list [])] = some (.next, L m old', [(false, .list ((ws.map D.int).map V.d))]) := by
  obtain ⟨m, hm, e⟩ := first
  obtain ⟨ws, m', old', h1, h2, h3⟩ := stream_loop step c (0 + 1) m (.d (.int 0)) [m] (by omega) (by omega) hm (by show 1 + c ≤ 200; omega)
  refine ⟨ws, m', old', by rw [h1]; show 1 + c = _; omega, fun x hx => ?_, ?_⟩
  · rcases h2 x hx with h | h
    · rw [List.mem_singleton] at h; subst h; exact hm
    · exact h
  · rw [rangeL_succ]
    show Option.bind (f (.d (.int 0)) ρ _) _ = _
    rw [e]
    exact h3

theorem evS_For {G : Genv} {ρ : Loc} {σ : St} {x : Str} {px pos : Pos} {it : Expr} {body : List Stmt} (h : isIt it = true) : evS G (.For (.Name x px) it body [] pos) ρ σ =
    (evI G ρ it σ).bind fun p => (loopL (fun v ρ σ => evSs G body (setV x v ρ) σ) p.1 ρ (lockS p.2.1 p.2.2)).map fun y => (y.1, y.2.1, unlockS p.2.1 p.2.2 y.2.2) := by
  show Option.bind (if isIt it = true then _ else _) _ = _
  rw [if_pos h]
/-- a loop over range(b) -/
theorem for_range {G : Genv} {ρ ρ' : Loc} {σ σ' : St} {x f : Str} {px p1 p2 pos : Pos} {e : Expr} {body : List Stmt} {b : Int} {fl : Fl} (hf : f = "range") (he : evE G ρ false e σ = some (.d (.int b), σ)) (hb : -1000000 ≤ b ∧ b ≤ 1000000)
    (h : loopL (fun v ρ σ => evSs G body (setV x v ρ) σ) (rangeL 0 b.toNat) ρ σ = some (fl, ρ', σ')) : evS G (.For (.Name x px) (.Call (.Name f p1) [e] [] p2) body [] pos) ρ σ = some (fl, ρ', σ') := by
  subst hf
  have hi : isIt (.Call (.Name "range" p1) [e] [] p2) = true := show isItF "range" = true by decide +kernel
  rw [evS_For hi]
  have h1 : evI G ρ (.Call (.Name "range" p1) [e] [] p2) σ = some (rangeD 0 b, none, σ) := by
    show Option.bind (Option.bind (evE G ρ false e σ) _) _ = _
    rw [he]
    show Option.map _ (if -1000000 ≤ b ∧ b ≤ 1000000 then _ else _) = _
    rw [if_pos hb]
    rfl
  rw [h1]
  show Option.map _ (loopL _ (rangeD 0 b) ρ σ) = _
  rw [rangeD_eq, h]
  rfl

noncomputable def rangeArg (s : Stmt) : Expr := match s with
  | .For _ it _ _ _ => match it with
    | .Call _ es _ _ => match es with
      | e :: _ => e
      | _ => .Constant .none 0 ⟨0, 0, 0, 0⟩
    | _ => .Constant .none 0 ⟨0, 0, 0, 0⟩
  | _ => .Constant .none 0 ⟨0, 0, 0, 0⟩
theorem eq_self_pair {σ : St} (a b : Int) : cmpV σ .Eq (.d (.tup [.int a, .int b])) (.d (.tup [.int a, .int b])) = some true := by
  show (Option.map (fun c => c && decide ((2 : Nat) = 2)) (some (decide (a = a) && (decide (b = b) && true)))) = some true
  rw [decide_eq_true (rfl : a = a), decide_eq_true (rfl : b = b)]
  rfl
theorem len3 {xs : List Int} (h : xs.length = 3) : ∃ a b c, xs = [a, b, c] := by
  match xs, h with
  | [a, b, c], _ => exact ⟨a, b, c, rfl⟩
/-- remainders -/
theorem mod_nat (x : Int) {k : Int} (hk : 0 < k) : ∃ n : Nat, x % k = n ∧ (n : Int) < k := by
  obtain ⟨n, hn⟩ := Int.eq_ofNat_of_zero_le (Int.emod_nonneg x (Int.ne_of_gt hk))
  exact ⟨n, hn, hn ▸ Int.emod_lt_of_pos x hk⟩
theorem mod2 (x : Int) : x % 2 = 0 ∨ x % 2 = 1 := by
  obtain ⟨n, hn, hl⟩ := mod_nat x (k := 2) (by decide)
  rw [hn]
  match n, Int.ofNat_lt.mp hl with
  | 0, _ => exact .inl rfl
  | 1, _ => exact .inr rfl
theorem mod3 (x : Int) : x % 3 = 0 ∨ x % 3 = 1 ∨ x % 3 = 2 := by
  obtain ⟨n, hn, hl⟩ := mod_nat x (k := 3) (by decide)
  rw [hn]
  match n, Int.ofNat_lt.mp hl with
  | 0, _ => exact .inl rfl
  | 1, _ => exact .inr (.inl rfl)
  | 2, _ => exact .inr (.inr rfl)
theorem mod4 (x : Int) : x % 4 = 0 ∨ x % 4 = 1 ∨ x % 4 = 2 ∨ x % 4 = 3 := by
  obtain ⟨n, hn, hl⟩ := mod_nat x (k := 4) (by decide)
  rw [hn]
  match n, Int.ofNat_lt.mp hl with
  | 0, _ => exact .inl rfl
  | 1, _ => exact .inr (.inl rfl)
  | 2, _ => exact .inr (.inr (.inl rfl))
  | 3, _ => exact .inr (.inr (.inr rfl))
/-- rows of numbers by their places -/
theorem pick2 {P : Int → Prop} {a b i : Int} (h : i = 0 ∨ i = 1) (ha : P a) (hb : P b) : ∃ w, P w ∧ idxL [D.int a, D.int b] i = some (.int w) := by
  rcases h with rfl | rfl
  · exact ⟨a, ha, rfl⟩
  · exact ⟨b, hb, rfl⟩
theorem pick3 {P : Int → Prop} {a b c i : Int} (h : i = 0 ∨ i = 1 ∨ i = 2) (ha : P a) (hb : P b) (hc : P c) : ∃ w, P w ∧ idxL [D.int a, D.int b, D.int c] i = some (.int w) := by
  rcases h with rfl | rfl | rfl
  · exact ⟨a, ha, rfl⟩
  · exact ⟨b, hb, rfl⟩
  · exact ⟨c, hc, rfl⟩
theorem pick4 {P : Int → Prop} {a b c d i : Int} (h : i = 0 ∨ i = 1 ∨ i = 2 ∨ i = 3) (ha : P a) (hb : P b) (hc : P c) (hd : P d) : ∃ w, P w ∧ idxL [D.int a, D.int b, D.int c, D.int d] i = some (.int w) := by
  rcases h with rfl | rfl | rfl | rfl
  · exact ⟨a, ha, rfl⟩
  · exact ⟨b, hb, rfl⟩
  · exact ⟨c, hc, rfl⟩
  · exact ⟨d, hd, rfl⟩
end Mine
end

section
set_option autoImplicit false
namespace Mine
open PySem

/-- expressions of the words -/
inductive Op3 where
  | plus | minus | times
noncomputable def Op3.str : Op3 → Str
  | .plus => Str.ofString "+"
  | .minus => Str.ofString "-"
  | .times => Str.ofString "*"
noncomputable def Op3.ap : Op3 → Int → Int → Int
  | .plus, a, b => a + b
  | .minus, a, b => a - b
  | .times, a, b => a * b
inductive T5 where
  | num (n : Int)
  | name (x : Str)
  | rest (t : T5) (k : Int)
  | op (o : Op3) (l r : T5)
noncomputable def T5.D : T5 → D
  | .num n => .int n
  | .name x => .str x
  | .rest t k => .tup [.str (Str.ofString "rest"), t.D, .int k]
  | .op o l r => .tup [.str o.str, l.D, r.D]
noncomputable def T5.dep : T5 → Nat
  | .num _ => 0
  | .name _ => 0
  | .rest t _ => t.dep + 1
  | .op _ l r => max l.dep r.dep + 1
def T5.ok (ns : List Str) : T5 → Prop
  | .num n => -1000000 ≤ n ∧ n ≤ 1000000
  | .name x => x ∈ ns
  | .rest t k => t.ok ns ∧ 1 ≤ k ∧ k ≤ 1000000
  | .op _ l r => l.ok ns ∧ r.ok ns
noncomputable def lim (z : Int) : Option Int := if z < -1000000 ∨ z > 1000000 then none else some z
noncomputable def oD : Option Int → D
  | none => .none
  | some v => .int v
noncomputable def T5.ev (g : Str → Int) : T5 → Option Int
  | .num n => some n
  | .name x => some (g x)
  | .rest t k => (t.ev g).map fun a => a % k
  | .op o l r => (l.ev g).bind fun a => (r.ev g).bind fun b => lim (o.ap a b)
theorem T5.ev_in {ns : List Str} {g : Str → Int} (hg : ∀ x ∈ ns, -1000000 ≤ g x ∧ g x ≤ 1000000) : ∀ (t : T5), t.ok ns → ∀ v, t.ev g = some v → -1000000 ≤ v ∧ v ≤ 1000000
  | .num n, h, v, e => by cases e; exact h
  | .name x, h, v, e => by cases e; exact hg x h
  | .rest t k, h, v, e => by
    obtain ⟨a, _, rfl⟩ := Option.map_eq_some_iff.mp e
    have h1 := Int.emod_nonneg a (show k ≠ 0 by have := h.2; omega)
    have h2 := Int.emod_lt_of_pos a (show 0 < k by have := h.2; omega)
    have := h.2
    omega
  | .op o l r, h, v, e => by
    replace e : ((l.ev g).bind fun a => (r.ev g).bind fun b => lim (o.ap a b)) = some v := e
    simp only [Option.bind_eq_some_iff] at e
    obtain ⟨a, _, b, _, e⟩ := e
    unfold lim at e
    split at e
    · cases e
    · cases e; omega

theorem getK_map {β γ : Type} (f : β → γ) (k : Key) : ∀ (ks : List Key) (vs : List β), getK k ks (vs.map f) = (getK k ks vs).map f
  | [], _ => rfl
  | _ :: _, [] => rfl
  | k' :: ks, v :: vs => by
    show (if k = k' then some (f v) else getK k ks (vs.map f)) = Option.map f (if k = k' then some v else getK k ks vs)
    split
    · rfl
    · exact getK_map f k ks vs
theorem putK_map {β γ : Type} (f : β → γ) (k : Key) (v : β) : ∀ (ks : List Key) (vs : List β), putK k (f v) ks (vs.map f) = ((putK k v ks vs).1, (putK k v ks vs).2.map f)
  | [], _ => rfl
  | _ :: _, [] => rfl
  | k' :: ks, u :: vs => by
    show (if k = k' then _ else _) = ((if k = k' then _ else _ : List Key × List β).1, (if k = k' then _ else _ : List Key × List β).2.map f)
    by_cases h : k = k'
    · rw [if_pos h, if_pos h]; rfl
    · rw [if_neg h, if_neg h, putK_map f k v ks vs]; rfl
theorem putK_get {β : Type} (k k' : Key) (v : β) : ∀ (ks : List Key) (vs : List β), ks.length = vs.length → getK k' (putK k v ks vs).1 (putK k v ks vs).2 = if k' = k then some v else getK k' ks vs
  | [], [], _ => rfl
  | [], _ :: _, h => nomatch h
  | _ :: _, [], h => nomatch h
  | j :: ks, u :: vs, h => by
    have ih := putK_get k k' v ks vs (Nat.succ.inj h)
    by_cases hj : k = j
    · have e : putK k v (j :: ks) (u :: vs) = (j :: ks, v :: vs) := if_pos hj
      rw [e]
      show (if k' = j then some v else getK k' ks vs) = if k' = k then some v else if k' = j then some u else getK k' ks vs
      subst hj
      split <;> rfl
    · have e : putK k v (j :: ks) (u :: vs) = (j :: (putK k v ks vs).1, u :: (putK k v ks vs).2) := if_neg hj
      rw [e]
      show (if k' = j then some u else getK k' (putK k v ks vs).1 (putK k v ks vs).2) = if k' = k then some v else if k' = j then some u else getK k' ks vs
      rw [ih]
      by_cases h1 : k' = j
      · subst h1; rw [if_pos rfl, if_neg (Ne.symm hj), if_pos rfl]
      · rw [if_neg h1, if_neg h1]
theorem putK_facts {β : Type} (k : Key) (v : β) : ∀ (ks : List Key) (vs : List β), ks.length = vs.length → (putK k v ks vs).1.length = (putK k v ks vs).2.length ∧ (putK k v ks vs).1.length ≤ ks.length + 1 ∧ (∀ j ∈ (putK k v ks vs).1, j = k ∨ j ∈ ks) ∧ (∀ u ∈ (putK k v ks vs).2, u = v ∨ u ∈ vs) ∧ (ks.Nodup → (putK k v ks vs).1.Nodup)
  | [], [], _ => ⟨rfl, Nat.le_refl _, fun j h => .inl (List.mem_singleton.mp h), fun j h => .inl (List.mem_singleton.mp h), fun _ => List.nodup_cons.mpr ⟨(fun h => nomatch h), List.Pairwise.nil⟩⟩
  | [], _ :: _, h => nomatch h
  | _ :: _, [], h => nomatch h
  | j :: ks, u :: vs, h => by
    obtain ⟨h1, h2, h3, h4, h5⟩ := putK_facts k v ks vs (Nat.succ.inj h)
    by_cases hj : k = j
    · have e : putK k v (j :: ks) (u :: vs) = (j :: ks, v :: vs) := if_pos hj
      rw [e]
      exact ⟨h, Nat.le_succ _, fun i q => .inr q, fun i q => (List.mem_cons.mp q).elim .inl fun q => .inr (.tail _ q), id⟩
    · have e : putK k v (j :: ks) (u :: vs) = (j :: (putK k v ks vs).1, u :: (putK k v ks vs).2) := if_neg hj
      rw [e]
      refine ⟨congrArg Nat.succ h1, Nat.succ_le_succ h2, fun i q => (List.mem_cons.mp q).elim (fun q => .inr (q ▸ .head _)) fun q => (h3 i q).elim .inl fun q => .inr (.tail _ q), fun i q => (List.mem_cons.mp q).elim (fun q => .inr (q ▸ .head _)) fun q => (h4 i q).elim .inl fun q => .inr (.tail _ q), fun q => ?_⟩
      obtain ⟨q1, q2⟩ := List.nodup_cons.mp q
      exact List.nodup_cons.mpr ⟨fun q' => (h3 j q').elim (fun q' => hj q'.symm) q1, h5 q2⟩

/-- a dict that knows names -/
structure Held {β : Type} (P : β → Prop) (ns : List Str) (ks : List Key) (is : List β) : Prop where
  len : ks.length = is.length
  nd : ks.Nodup
  get : ∀ x ∈ ns, ∃ i, getK (.s x) ks is = some i
  inn : ∀ i ∈ is, P i
  str : ∀ k ∈ ks, ∃ x, k = .s x
theorem getK_mem {β : Type} {k : Key} : ∀ {ks : List Key} {vs : List β} {v : β}, getK k ks vs = some v → v ∈ vs
  | [], _, _, h => nomatch h
  | _ :: _, [], _, h => nomatch h
  | k' :: ks, u :: vs, v, h => by
    replace h : (if k = k' then some u else getK k ks vs) = some v := h
    split at h
    · cases h; exact .head _
    · exact .tail _ (getK_mem h)
theorem Held.put {β : Type} {P : β → Prop} {ns : List Str} {ks : List Key} {is : List β} (h : Held P ns ks is) {x : Str} {v : β} (hv : P v) : Held P (ns ++ [x]) (putK (.s x) v ks is).1 (putK (.s x) v ks is).2 := by
  obtain ⟨h1, h2, h3, h4, h5⟩ := putK_facts (.s x) v ks is h.len
  refine ⟨h1, h5 h.nd, fun y hy => ?_, fun i hi => (h4 i hi).elim (fun q => q ▸ hv) (h.inn i), fun k hk => (h3 k hk).elim (fun q => ⟨x, q⟩) (h.str k)⟩
  rw [putK_get _ _ _ _ _ h.len]
  by_cases hxy : (Key.s y) = .s x
  · exact ⟨v, if_pos hxy⟩
  · rw [if_neg hxy]
    rcases List.mem_append.mp hy with q | q
    · exact h.get y q
    · exact absurd (by rw [List.mem_singleton.mp q]) hxy
theorem Held.nil {β : Type} {P : β → Prop} : Held P [] [] [] := ⟨rfl, List.Pairwise.nil, (fun _ h => nomatch h), (fun _ h => nomatch h), (fun _ h => nomatch h)⟩
noncomputable def gOf {β : Type} [Inhabited β] (ks : List Key) (is : List β) (x : Str) : β := (getK (.s x) ks is).getD default
theorem Held.at {β : Type} [Inhabited β] {P : β → Prop} {ns : List Str} {ks : List Key} {is : List β} (h : Held P ns ks is) {x : Str} (hx : x ∈ ns) : getK (.s x) ks is = some (gOf ks is x) ∧ P (gOf ks is x) := by
  obtain ⟨i, e⟩ := h.get x hx
  have : gOf ks is x = i := by unfold gOf; rw [e]; rfl
  rw [this]
  exact ⟨e, h.inn i (getK_mem e)⟩
theorem item_held {β : Type} [Inhabited β] {e : β → D} {P : β → Prop} {ns : List Str} {ks : List Key} {is : List β} (h : Held P ns ks is) {x : Str} (hx : x ∈ ns) {σ : St} : getItemV σ (.d (.dict ks (is.map e))) (.d (.str x)) = some (.d (e (gOf ks is x))) := by
  show Option.map V.d (getK (.s x) ks (is.map e)) = _
  rw [getK_map, (h.at hx).1]
  rfl
theorem set_held {β : Type} {e : β → D} {ks : List Key} {is : List β} {x : Str} {v : β} (hz : ks.length < 100000) : setItemV [(false, .dict ks ((is.map e).map V.d))] (.obj 0) (.d (.str x)) (.d (e v)) = some [(false, .dict (putK (.s x) v ks is).1 (((putK (.s x) v ks is).2.map e).map V.d))] := by
  show (if sizeOk ks.length = true then some _ else _) = _
  rw [if_pos (sizeOk_of hz), List.map_map, show (V.d (e v)) = (V.d ∘ e) v from rfl, putK_map, List.map_map]
  rfl
theorem eqK_self {β : Type} {e : β → D} (he : ∀ i, eqP 20 (e i) (e i) = some true) : ∀ {js : List Key} {us : List β} {ks : List Key} {is : List β}, (∀ (i : Nat) k u, ks[i]? = some k → is[i]? = some u → getK k js us = some u) → eqK (eqP 20) ks (is.map e) js (us.map e) = some true
  | js, us, [], _, _ => by cases us <;> rfl
  | js, us, _ :: _, [], _ => rfl
  | js, us, k :: ks, i :: is, h => by
    show (match getK k js (us.map e) with | none => some false | some u => and2 (eqP 20 (e i) u) (eqK (eqP 20) ks (is.map e) js (us.map e))) = _
    rw [getK_map, h 0 k i rfl rfl, eqK_self he fun n k u h1 h2 => h (n + 1) k u h1 h2]
    show and2 (eqP 20 (e i) (e i)) (some true) = _
    rw [he]
    rfl
theorem getK_nodup {β : Type} : ∀ {ks : List Key} {is : List β} {n : Nat} {k : Key} {u : β}, ks.Nodup → ks[n]? = some k → is[n]? = some u → getK k ks is = some u
  | [], _, _, _, _, _, h, _ => by simp at h
  | _ :: _, [], _, _, _, _, _, h => by simp at h
  | j :: ks, i :: is, 0, k, u, _, h1, h2 => by
    simp at h1 h2
    subst h1 h2
    exact if_pos rfl
  | j :: ks, i :: is, n + 1, k, u, nd, h1, h2 => by
    simp at h1 h2
    obtain ⟨q1, q2⟩ := List.nodup_cons.mp nd
    have hk : k ≠ j := fun e => q1 (e ▸ List.mem_of_getElem? h1)
    show (if k = j then some i else getK k ks is) = some u
    rw [if_neg hk]
    exact getK_nodup q2 h1 h2
/-- a loop over a range, by an invariant; the first turn comes by itself -/
theorem range_two {f : V → Loc → St → Option (Fl × Loc × St)} {ρ0 : Loc} {σ0 : St} {Inv : Nat → Loc → St → Prop} (first : ∃ ρ σ, f (.d (.int 0)) ρ0 σ0 = some (.next, ρ, σ) ∧ Inv 1 ρ σ) :
    ∀ (n : Nat), (∀ k ρ σ, 1 ≤ k → k < n + 1 → Inv k ρ σ → ∃ ρ' σ', f (.d (.int (k : Nat))) ρ σ = some (.next, ρ', σ') ∧ Inv (k + 1) ρ' σ') → ∃ ρ σ, loopL f (rangeL 0 (n + 1)) ρ0 σ0 = some (.next, ρ, σ) ∧ Inv (n + 1) ρ σ := by
  intro n step
  obtain ⟨ρ, σ, e, hi⟩ := first
  have go : ∀ (c k : Nat) (ρ : Loc) (σ : St), 1 ≤ k → k + c = n + 1 → Inv k ρ σ → ∃ ρ' σ', loopL f (rangeL (k : Nat) c) ρ σ = some (.next, ρ', σ') ∧ Inv (n + 1) ρ' σ' := by
    intro c
    induction c with
    | zero => intro k ρ σ _ hk hi; exact ⟨ρ, σ, by rw [rangeL_zero]; rfl, by rw [← hk]; exact hi⟩
    | succ c ih =>
      intro k ρ σ h1 hk hi
      obtain ⟨ρ', σ', e, hi'⟩ := step k ρ σ h1 (by omega) hi
      obtain ⟨ρ'', σ'', e', hi''⟩ := ih (k + 1) ρ' σ' (by omega) (by omega) hi'
      refine ⟨ρ'', σ'', ?_, hi''⟩
      rw [rangeL_succ]
      show Option.bind (f (.d (.int (k : Nat))) ρ σ) _ = _
      rw [e]
      exact e'
  obtain ⟨ρ', σ', e', hi'⟩ := go n 1 ρ σ (Nat.le_refl _) (by omega) hi
  refine ⟨ρ', σ', ?_, hi'⟩
  rw [rangeL_succ]
  show Option.bind (f (.d (.int 0)) ρ0 σ0) _ = _
  rw [e]
  exact e'

theorem len_strs {ns : List Str} {σ : St} (h : ns.length < 100000) : bfV σ .len [.d (.list (ns.map .str))] = some (.d (.int (ns.length : Nat))) := by
  show (if sizeOk (ns.map D.str).length = true then _ else _) = _
  rw [if_pos (sizeOk_of (by simpa using h)), List.length_map]
theorem idx_strs {ns : List Str} {i : Int} (h : 0 ≤ i) (h' : i < ns.length) (hl : ns.length ≤ 1000) : ∃ w, w ∈ ns ∧ ns[i.toNat]? = some w ∧ idxL (ns.map D.str) i = some (.str w) := by
  have hi : i.toNat < ns.length := by omega
  exact ⟨ns[i.toNat], List.getElem_mem hi, List.getElem?_eq_getElem hi, by rw [idxL_get h (by omega), List.getElem?_map, List.getElem?_eq_getElem hi]; rfl⟩
theorem slice_list {ws : List Int} {n : Nat} {σ : St} (h : ws.length < 100000) : sliceV σ (.d (.list (ws.map D.int))) n none = some (.d (.list ((ws.drop n).map D.int))) := by
  show (if (ws.map D.int).length < 100000 then some (V.d (.list (List.drop n (ws.map D.int)))) else _) = _
  rw [if_pos (by simpa using h), List.map_drop]
theorem mapO_ex {β γ : Type} {f : β → Option γ} {P : γ → Prop} : ∀ {l : List β}, (∀ x ∈ l, ∃ y, f x = some y ∧ P y) → ∃ ys, mapO f l = some ys ∧ ys.length = l.length ∧ ∀ y ∈ ys, P y
  | [], _ => ⟨[], rfl, rfl, (fun _ h => nomatch h)⟩
  | x :: r, h => by
    obtain ⟨y, e, hy⟩ := h x (.head _)
    obtain ⟨ys, e', hl, hp⟩ := mapO_ex fun x q => h x (.tail _ q)
    refine ⟨y :: ys, ?_, congrArg Nat.succ hl, fun z q => (List.mem_cons.mp q).elim (fun q => q ▸ hy) (hp z)⟩
    show Option.bind (f x) _ = _
    rw [e]
    show Option.map _ (mapO f r) = _
    rw [e']
    rfl
end Mine
end

section
set_option autoImplicit false
namespace Mine
open PySem

noncomputable def asgE : Stmt → Expr
  | .Assign _ e _ => e
  | _ => .Constant .none 0 ⟨0, 0, 0, 0⟩
noncomputable def stIn (ss : List Stmt) (k : Nat) : Stmt := (ss[k]?).getD (.Pass ⟨0, 0, 0, 0⟩)
noncomputable def cElt : Expr → Expr
  | .ListComp e _ _ _ => e
  | _ => .Constant .none 0 ⟨0, 0, 0, 0⟩
noncomputable def cSc : Expr → Scope
  | .ListComp _ _ s _ => s
  | _ => ⟨.function, [], false, false, []⟩
noncomputable def cGen : Expr → Comprehension
  | .ListComp _ g _ _ => g.headD ⟨.Constant .none 0 ⟨0, 0, 0, 0⟩, .Constant .none 0 ⟨0, 0, 0, 0⟩, [], 0⟩
  | _ => ⟨.Constant .none 0 ⟨0, 0, 0, 0⟩, .Constant .none 0 ⟨0, 0, 0, 0⟩, [], 0⟩
noncomputable def cTgt (e : Expr) : Expr := (cGen e).target
noncomputable def argE : Expr → Expr
  | .Call _ as _ _ => as.headD (.Constant .none 0 ⟨0, 0, 0, 0⟩)
  | _ => .Constant .none 0 ⟨0, 0, 0, 0⟩
noncomputable def cArg (e : Expr) : Expr := argE (cGen e).iter

theorem comp_range {G : Genv} {ρ : Loc} {σ : St} {elt tgt e : Expr} {csc : Scope} {p pf pr : Pos} {f : Str} {b : Int} {ds : List D} (hf : f = "range") (he : evE G ρ false e σ = some (.d (.int b), σ)) (hb : -1000000 ≤ b ∧ b ≤ 1000000)
    (hm : mapO (itemP csc ρ tgt elt) (rangeL 0 b.toNat) = some ds) (hz : ds.length < 100000) : evE G ρ true (.ListComp elt [⟨tgt, .Call (.Name f pf) [e] [] pr, [], 0⟩] csc p) σ = some (.obj σ.length, σ ++ [(false, .list (ds.map V.d))]) := by
  subst hf
  rw [evE_Comp]
  have h1 : evI G ρ (.Call (.Name "range" pf) [e] [] pr) σ = some (rangeD 0 b, none, σ) := by
    show Option.bind (Option.bind (evE G ρ false e σ) _) _ = _
    rw [he]
    show Option.map _ (if -1000000 ≤ b ∧ b ≤ 1000000 then _ else _) = _
    rw [if_pos hb]
    rfl
  rw [h1]
  show Option.bind (mapO (itemP csc ρ tgt elt) (rangeD 0 b)) _ = _
  rw [rangeD_eq, hm]
  show (if sizeOk ds.length = true then _ else _) = _
  rw [if_pos (sizeOk_of hz)]
  rfl

noncomputable def itm (abc : Str) (k : Int) : Option D := (if 0 ≤ k ∧ k < 1000000000 then (abc.cps.toList[k.toNat]?).map (fun c => D.str (chr1 c)) else none).bind fun d => if scalar d = true then some d else none
theorem itm_ok {abc : Str} (hl : abc.cps.toList.length = 26) {k : Int} (h : 0 ≤ k) (h' : k < 26) : ∃ y, itm abc k = some y ∧ ∃ x : Str, y = .str x ∧ x.length = 1 := by
  have hk : k.toNat < abc.cps.toList.length := by omega
  refine ⟨.str (chr1 abc.cps.toList[k.toNat]), ?_, _, rfl, rfl⟩
  unfold itm
  rw [if_pos (by omega), List.getElem?_eq_getElem hk]
  rfl
theorem abc_len : (Str.ofString "abcdefghijklmnopqrstuvwxyz").cps.toList.length = 26 := by decide +kernel
theorem abc_item {abc : Str} (hl : abc.cps.toList.length = 26) {k : Int} (h : 0 ≤ k) (h' : k < 26) : ∃ ch : Str, getItemV [] (.d (.str abc)) (.d (.int k)) = some (.d (.str ch)) ∧ ch.length = 1 := by
  have hk : k.toNat < abc.cps.toList.length := by omega
  refine ⟨chr1 abc.cps.toList[k.toNat], ?_, rfl⟩
  show (if 0 ≤ k ∧ k < 1000000000 then Option.map _ (abc.cps.toList[k.toNat]?) else _) = _
  rw [if_pos (by omega), List.getElem?_eq_getElem hk]
  rfl
theorem rangeL_len {k : Int} {n : Nat} : (rangeL k n).length = n := by unfold rangeL; rw [List.length_map, List.length_range]
theorem rangeL_mem {n : Nat} {x : V} (h : x ∈ rangeL 0 n) : ∃ p : Int, 0 ≤ p ∧ p < n ∧ x = .d (.int p) := by
  unfold rangeL at h
  obtain ⟨k, hk, rfl⟩ := List.mem_map.mp h
  rw [List.mem_range] at hk
  exact ⟨0 + (k : Int), by omega, by omega, rfl⟩
theorem strs_ex {ds : List D} {P : Str → Prop} (h : ∀ y ∈ ds, ∃ x : Str, y = .str x ∧ P x) : ∃ ss : List Str, ds = ss.map D.str ∧ ∀ x ∈ ss, P x := by
  induction ds with
  | nil => exact ⟨[], rfl, (fun _ h => nomatch h)⟩
  | cons d r ih =>
    obtain ⟨x, rfl, hx⟩ := h d (.head _)
    obtain ⟨ss, rfl, hs⟩ := ih fun y hy => h y (.tail _ hy)
    exact ⟨x :: ss, rfl, fun z hz => (List.mem_cons.mp hz).elim (fun q => q ▸ hx) (hs z)⟩
theorem last_get {f r : Bool × MO} {js : St} : (f :: (js ++ [r]))[js.length + 1]? = some r := by
  rw [List.getElem?_cons_succ, List.getElem?_append_right (Nat.le_refl _), Nat.sub_self]
  rfl
theorem last_set {f r r' : Bool × MO} {js : St} : (f :: (js ++ [r])).set (js.length + 1) r' = f :: (js ++ [r']) := by
  rw [List.set_cons_succ, List.set_append_right _ _ (Nat.le_refl _), Nat.sub_self]
  rfl
theorem set_row {f : Bool × MO} {js : St} {xs : List V} {i : Int} {v : V} (h : 0 ≤ i) (h' : i < xs.length) (hl : xs.length < 100000) : setItemV (f :: (js ++ [(false, .list xs)])) (.obj (js.length + 1)) (.d (.int i)) v = some (f :: (js ++ [(false, .list (xs.set i.toNat v))])) := by
  have ho : oget (f :: (js ++ [(false, MO.list xs)])) (js.length + 1) = some (.list xs) := by unfold oget; rw [last_get]; rfl
  have hp : oput (f :: (js ++ [(false, MO.list xs)])) (js.length + 1) (.list (xs.set i.toNat v)) = some (f :: (js ++ [(false, .list (xs.set i.toNat v))])) := by unfold oput; rw [last_get]; show some _ = _; rw [last_set]
  unfold setItemV
  simp only [ho]
  rw [if_pos ⟨h, by omega, by omega⟩, hp]
theorem strsV_of : ∀ ss : List Str, strsV ((ss.map D.str).map V.d) = some ss
  | [] => rfl
  | x :: r => by show Option.map _ (strsV ((r.map D.str).map V.d)) = _; rw [strsV_of r]; rfl
theorem join_row {f : Bool × MO} {js : St} {xs : List V} {ss : List Str} (hl : ss.length ≤ 1000) (h1 : ∀ x ∈ ss, x.length ≤ 1000) (hx : xs = (ss.map D.str).map V.d) :
    methV (f :: (js ++ [(false, .list xs)])) .join (.d (.str (Str.ofString ""))) [.obj (js.length + 1)] = some (.d (.str (Str.join (Str.ofString "") ss)), f :: (js ++ [(false, .list xs)])) := by
  subst hx
  have ho : oget (f :: (js ++ [(false, MO.list ((ss.map D.str).map V.d))])) (js.length + 1) = some (.list ((ss.map D.str).map V.d)) := by unfold oget; rw [last_get]; rfl
  have hj : joinFit ss = true := by
    unfold joinFit
    rw [decide_eq_true hl, Bool.true_and, List.all_eq_true]
    exact fun x q => decide_eq_true (h1 x q)
  have h0 : (Str.ofString "").length = 0 := by decide +kernel
  unfold methV
  simp only [ho, strsV_of, Option.bind_some]
  rw [if_pos ⟨h0, hj⟩]
theorem app_strs {ws : List Str} {t : Str} {js : St} (h : ws.length < 100000) : methV ((false, .list ((ws.map D.str).map V.d)) :: js) .append (.obj 0) [.d (.str t)] = some (.d .none, (false, .list (((ws ++ [t]).map D.str).map V.d)) :: js) := by
  show (if sizeOk ((ws.map D.str).map V.d).length = true then _ else _) = _
  rw [if_pos (sizeOk_of (by simpa using h)), List.map_append, List.map_append]
  rfl
theorem hand_strs {ws : List Str} (js : St) : handD false ((false, .list ((ws.map D.str).map V.d)) :: js) (.obj 0) = some (.list (ws.map D.str)) := by
  show Option.map _ (allD ((ws.map D.str).map V.d)) = _
  rw [allD_of]
  rfl
end Mine
end

section
set_option autoImplicit false
namespace Mine
open PySem

noncomputable def cutS (x y : Int) : Option (Int × Int) := if (if 1000000 < y then 1000000 else y) < (if x < -1000000 then -1000000 else x) then none else some (if x < -1000000 then -1000000 else x, if 1000000 < y then 1000000 else y)
theorem cutS_none {x y : Int} (h : (if -1000000 > x then -1000000 else x) > (if 1000000 < y then 1000000 else y)) : cutS x y = none := if_pos h
theorem cutS_some {x y : Int} (h : ¬ ((if -1000000 > x then -1000000 else x) > (if 1000000 < y then 1000000 else y))) : cutS x y = some (if -1000000 > x then -1000000 else x, if 1000000 < y then 1000000 else y) := if_neg h
noncomputable def mn4 (x a b c : Int) : Int := [a, b, c].foldl (fun a b => if b < a then b else a) x
noncomputable def mx4 (x a b c : Int) : Int := [a, b, c].foldl (fun a b => if b > a then b else a) x
theorem mn2_le (a b : Int) : (if b < a then b else a) ≤ a ∧ (if b < a then b else a) ≤ b ∧ ((if b < a then b else a) = a ∨ (if b < a then b else a) = b) := by
  split
  · rename_i h; exact ⟨Int.le_of_lt h, Int.le_refl _, .inr rfl⟩
  · rename_i h; exact ⟨Int.le_refl _, Int.not_lt.mp h, .inl rfl⟩
theorem mx2_le (a b : Int) : a ≤ (if b > a then b else a) ∧ b ≤ (if b > a then b else a) ∧ ((if b > a then b else a) = a ∨ (if b > a then b else a) = b) := by
  split
  · rename_i h; exact ⟨Int.le_of_lt h, Int.le_refl _, .inr rfl⟩
  · rename_i h; exact ⟨Int.le_refl _, Int.not_lt.mp h, .inl rfl⟩
theorem mn_le (x a b c : Int) : (mn4 x a b c ≤ x ∧ mn4 x a b c ≤ a ∧ mn4 x a b c ≤ b ∧ mn4 x a b c ≤ c) ∧ (mn4 x a b c = x ∨ mn4 x a b c = a ∨ mn4 x a b c = b ∨ mn4 x a b c = c) := by
  obtain ⟨h1, h2, h3⟩ := mn2_le x a
  obtain ⟨k1, k2, k3⟩ := mn2_le (if a < x then a else x) b
  obtain ⟨l1, l2, l3⟩ := mn2_le (if b < (if a < x then a else x) then b else (if a < x then a else x)) c
  refine ⟨⟨Int.le_trans l1 (Int.le_trans k1 h1), Int.le_trans l1 (Int.le_trans k1 h2), Int.le_trans l1 k2, l2⟩, ?_⟩
  rcases l3 with q | q
  · rcases k3 with q' | q'
    · exact h3.elim (fun h => .inl (q.trans (q'.trans h))) fun h => .inr (.inl (q.trans (q'.trans h)))
    · exact .inr (.inr (.inl (q.trans q')))
  · exact .inr (.inr (.inr q))
theorem le_mx (x a b c : Int) : (x ≤ mx4 x a b c ∧ a ≤ mx4 x a b c ∧ b ≤ mx4 x a b c ∧ c ≤ mx4 x a b c) ∧ (mx4 x a b c = x ∨ mx4 x a b c = a ∨ mx4 x a b c = b ∨ mx4 x a b c = c) := by
  obtain ⟨h1, h2, h3⟩ := mx2_le x a
  obtain ⟨k1, k2, k3⟩ := mx2_le (if a > x then a else x) b
  obtain ⟨l1, l2, l3⟩ := mx2_le (if b > (if a > x then a else x) then b else (if a > x then a else x)) c
  refine ⟨⟨Int.le_trans h1 (Int.le_trans k1 l1), Int.le_trans h2 (Int.le_trans k1 l1), Int.le_trans k2 l1, l2⟩, ?_⟩
  rcases l3 with q | q
  · rcases k3 with q' | q'
    · exact h3.elim (fun h => .inl (q.trans (q'.trans h))) fun h => .inr (.inl (q.trans (q'.trans h)))
    · exact .inr (.inr (.inl (q.trans q')))
  · exact .inr (.inr (.inr q))
theorem mn_eq {w x a b c : Int} (h1 : w ≤ x ∧ w ≤ a ∧ w ≤ b ∧ w ≤ c) (h2 : w = x ∨ w = a ∨ w = b ∨ w = c) : w = mn4 x a b c := by
  obtain ⟨m1, m2⟩ := mn_le x a b c
  refine Int.le_antisymm ?_ ?_
  · rcases m2 with q | q | q | q <;> rw [q]
    · exact h1.1
    · exact h1.2.1
    · exact h1.2.2.1
    · exact h1.2.2.2
  · rcases h2 with q | q | q | q <;> rw [q]
    · exact m1.1
    · exact m1.2.1
    · exact m1.2.2.1
    · exact m1.2.2.2
theorem mx_eq {w x a b c : Int} (h1 : x ≤ w ∧ a ≤ w ∧ b ≤ w ∧ c ≤ w) (h2 : w = x ∨ w = a ∨ w = b ∨ w = c) : w = mx4 x a b c := by
  obtain ⟨m1, m2⟩ := le_mx x a b c
  refine Int.le_antisymm ?_ ?_
  · rcases h2 with q | q | q | q <;> rw [q]
    · exact m1.1
    · exact m1.2.1
    · exact m1.2.2.1
    · exact m1.2.2.2
  · rcases m2 with q | q | q | q <;> rw [q]
    · exact h1.1
    · exact h1.2.1
    · exact h1.2.2.1
    · exact h1.2.2.2
theorem lin_in {a b l r : Int} (h : a ≤ l ∧ l ≤ b) : (a * r ≤ l * r ∧ l * r ≤ b * r) ∨ (b * r ≤ l * r ∧ l * r ≤ a * r) := by
  rcases Int.le_total 0 r with hr | hr
  · exact .inl ⟨Int.mul_le_mul_of_nonneg_right h.1 hr, Int.mul_le_mul_of_nonneg_right h.2 hr⟩
  · exact .inr ⟨Int.mul_le_mul_of_nonpos_right h.2 hr, Int.mul_le_mul_of_nonpos_right h.1 hr⟩
theorem lin_in' {a b l r : Int} (h : a ≤ l ∧ l ≤ b) : (r * a ≤ r * l ∧ r * l ≤ r * b) ∨ (r * b ≤ r * l ∧ r * l ≤ r * a) := by
  rw [Int.mul_comm r a, Int.mul_comm r l, Int.mul_comm r b]; exact lin_in h
theorem prod_in {a1 a2 b1 b2 l r : Int} (hl : a1 ≤ l ∧ l ≤ a2) (hr : b1 ≤ r ∧ r ≤ b2) : mn4 (a1 * b1) (a1 * b2) (a2 * b1) (a2 * b2) ≤ l * r ∧ l * r ≤ mx4 (a1 * b1) (a1 * b2) (a2 * b1) (a2 * b2) := by
  have h0 := lin_in (r := r) hl
  have h1 := lin_in' (r := a1) hr
  have h2 := lin_in' (r := a2) hr
  have m1 := (mn_le (a1 * b1) (a1 * b2) (a2 * b1) (a2 * b2)).1
  have m2 := (le_mx (a1 * b1) (a1 * b2) (a2 * b1) (a2 * b2)).1
  constructor <;> omega
/-- four sorted numbers -/
theorem sort4 (p q r t : Int) : ∃ a b c d : Int, (∀ σ, bfV σ .sorted [.d (.list [.int p, .int q, .int r, .int t])] = some (.d (.list [.int a, .int b, .int c, .int d]))) ∧ (∀ z ∈ [p, q, r, t], a ≤ z ∧ z ≤ d) ∧ a ∈ [p, q, r, t] ∧ d ∈ [p, q, r, t] := by
  have hp : (sortI [p, q, r, t]).Perm [p, q, r, t] := List.mergeSort_perm _ _
  have hs : (sortI [p, q, r, t]).Pairwise fun a b => decide (a ≤ b) = true := List.pairwise_mergeSort (le := fun a b : Int => decide (a ≤ b)) (fun a b c h h' => decide_eq_true (Int.le_trans (of_decide_eq_true h) (of_decide_eq_true h'))) (fun a b => by
    rcases Int.le_total a b with h | h
    · rw [decide_eq_true h]; rfl
    · rw [decide_eq_true h, Bool.or_true]) _
  have hb : ∀ σ, bfV σ .sorted [.d (.list [.int p, .int q, .int r, .int t])] = some (.d (.list ((sortI [p, q, r, t]).map D.int))) := fun σ => rfl
  generalize sortI [p, q, r, t] = l at hp hs hb
  match l, hp.length_eq with
  | [a, b, c, d], _ =>
    obtain ⟨s1, s2⟩ := List.pairwise_cons.mp hs
    obtain ⟨s3, s4⟩ := List.pairwise_cons.mp s2
    obtain ⟨s5, _⟩ := List.pairwise_cons.mp s4
    have ad : a ≤ d := of_decide_eq_true (s1 d (.tail _ (.tail _ (.head _))))
    have bd : b ≤ d := of_decide_eq_true (s3 d (.tail _ (.head _)))
    have cd : c ≤ d := of_decide_eq_true (s5 d (.head _))
    refine ⟨a, b, c, d, hb, fun z hz => ?_, hp.mem_iff.mp (.head _), hp.mem_iff.mp (.tail _ (.tail _ (.tail _ (.head _))))⟩
    have hm := hp.mem_iff.mpr hz
    refine ⟨(List.mem_cons.mp hm).elim (fun e => e ▸ Int.le_refl _) fun h => of_decide_eq_true (s1 z h), ?_⟩
    rcases List.mem_cons.mp hm with rfl | hm
    · exact ad
    rcases List.mem_cons.mp hm with rfl | hm
    · exact bd
    rcases List.mem_cons.mp hm with rfl | hm
    · exact cd
    · exact (List.mem_singleton.mp hm) ▸ Int.le_refl _

/-- a stretch as data -/
noncomputable def pD (p : Int × Int) : D := .tup [.int p.1, .int p.2]
theorem eqP_pD (p : Int × Int) : eqP 20 (pD p) (pD p) = some true := by
  show (Option.map (fun c => c && decide ((2 : Nat) = 2)) (some (decide (p.1 = p.1) && (decide (p.2 = p.2) && true)))) = some true
  rw [decide_eq_true (rfl : p.1 = p.1), decide_eq_true (rfl : p.2 = p.2)]
  rfl
noncomputable def rstS (k : Int) (p : Int × Int) : Int × Int := if p.1 / k = p.2 / k then (p.1 % k, p.2 % k) else (0, k - 1)
noncomputable def opS : Op3 → Int × Int → Int × Int → Option (Int × Int)
  | .plus, a, b => cutS (a.1 + b.1) (a.2 + b.2)
  | .minus, a, b => cutS (a.1 - b.2) (a.2 - b.1)
  | .times, a, b => cutS (mn4 (a.1 * b.1) (a.1 * b.2) (a.2 * b.1) (a.2 * b.2)) (mx4 (a.1 * b.1) (a.1 * b.2) (a.2 * b.1) (a.2 * b.2))
noncomputable def T5.reach (g : Str → Int × Int) : T5 → Option (Int × Int)
  | .num n => some (n, n)
  | .name x => some (g x)
  | .rest t k => (t.reach g).map (rstS k)
  | .op o l r => (l.reach g).bind fun a => (r.reach g).bind fun b => opS o a b
def InS (p : Int × Int) : Prop := -1000000 ≤ p.1 ∧ p.1 ≤ p.2 ∧ p.2 ≤ 1000000
theorem cutS_in {x y : Int} {p : Int × Int} (h : cutS x y = some p) : InS p := by
  by_cases q : (if -1000000 > x then -1000000 else x) > (if 1000000 < y then 1000000 else y)
  · rw [cutS_none q] at h; cases h
  · rw [cutS_some q] at h
    cases h
    unfold InS
    dsimp only
    omega
theorem opS_in {o : Op3} {a b p : Int × Int} (h : opS o a b = some p) : InS p := by cases o <;> exact cutS_in h
theorem rstS_in {k : Int} {p : Int × Int} (hk : 1 ≤ k ∧ k ≤ 1000000) (hp : InS p) : InS (rstS k p) := by
  have a1 := Int.emod_nonneg p.1 (show k ≠ 0 by omega)
  have a2 := Int.emod_lt_of_pos p.1 (show 0 < k by omega)
  have b1 := Int.emod_nonneg p.2 (show k ≠ 0 by omega)
  have b2 := Int.emod_lt_of_pos p.2 (show 0 < k by omega)
  unfold rstS
  split
  · rename_i h
    have e1 : p.1 % k = p.1 - k * (p.1 / k) := Int.emod_def ..
    have e2 : p.2 % k = p.2 - k * (p.2 / k) := Int.emod_def ..
    rw [h] at e1
    have := hp.2.1
    unfold InS; dsimp only
    omega
  · unfold InS; dsimp only; omega
theorem T5.reach_in {ns : List Str} {g : Str → Int × Int} (hg : ∀ x ∈ ns, InS (g x)) : ∀ (t : T5), t.ok ns → ∀ p, t.reach g = some p → InS p
  | .num n, h, p, e => by cases e; exact ⟨h.1, Int.le_refl _, h.2⟩
  | .name x, h, p, e => by cases e; exact hg x h
  | .rest t k, h, p, e => by
    obtain ⟨a, ha, rfl⟩ := Option.map_eq_some_iff.mp e
    exact rstS_in h.2 (T5.reach_in hg t h.1 a ha)
  | .op o l r, h, p, e => by
    replace e : ((l.reach g).bind fun a => (r.reach g).bind fun b => opS o a b) = some p := e
    simp only [Option.bind_eq_some_iff] at e
    obtain ⟨a, _, b, _, e⟩ := e
    exact opS_in e
theorem cut_ev {x y z : Int} (h : x ≤ z ∧ z ≤ y) (hz : ¬ (z < -1000000 ∨ z > 1000000)) : ∃ p, cutS x y = some p ∧ p.1 ≤ z ∧ z ≤ p.2 := by
  refine ⟨_, cutS_some (by omega), ?_, ?_⟩ <;> dsimp only <;> omega
/-- what an expression is worth lies in what it may reach -/
theorem T5.reach_ev {ns : List Str} {gk : Str → Int × Int} {gh : Str → Int} (hh : ∀ x ∈ ns, (gk x).1 ≤ gh x ∧ gh x ≤ (gk x).2) : ∀ (t : T5), t.ok ns → ∀ v, t.ev gh = some v → ∃ p, t.reach gk = some p ∧ p.1 ≤ v ∧ v ≤ p.2
  | .num n, h, v, e => by cases e; exact ⟨_, rfl, Int.le_refl _, Int.le_refl _⟩
  | .name x, h, v, e => by cases e; exact ⟨_, rfl, hh x h⟩
  | .rest t k, h, v, e => by
    obtain ⟨a, ha, rfl⟩ := Option.map_eq_some_iff.mp e
    obtain ⟨p, hp, h1, h2⟩ := T5.reach_ev hh t h.1 a ha
    refine ⟨rstS k p, by show Option.map _ (t.reach gk) = _; rw [hp]; rfl, ?_⟩
    have hk := h.2
    have a1 := Int.emod_nonneg a (show k ≠ 0 by omega)
    have a2 := Int.emod_lt_of_pos a (show 0 < k by omega)
    unfold rstS
    split
    · rename_i q
      have q1 := Int.ediv_le_ediv (show 0 < k by omega) h1
      have q2 := Int.ediv_le_ediv (show 0 < k by omega) h2
      have q3 : a / k = p.1 / k := by omega
      have e0 : a % k = a - k * (a / k) := Int.emod_def ..
      have e1 : p.1 % k = p.1 - k * (p.1 / k) := Int.emod_def ..
      have e2 : p.2 % k = p.2 - k * (p.2 / k) := Int.emod_def ..
      rw [q3] at e0
      rw [← q] at e2
      dsimp only
      omega
    · dsimp only; omega
  | .op o l r, h, v, e => by
    replace e : ((l.ev gh).bind fun a => (r.ev gh).bind fun b => lim (o.ap a b)) = some v := e
    simp only [Option.bind_eq_some_iff] at e
    obtain ⟨a, ha, b, hb, e⟩ := e
    obtain ⟨p, hp, p1, p2⟩ := T5.reach_ev hh l h.1 a ha
    obtain ⟨q, hq, q1, q2⟩ := T5.reach_ev hh r h.2 b hb
    have hr : (T5.op o l r).reach gk = opS o p q := by
      show Option.bind (l.reach gk) _ = _
      rw [hp]
      show Option.bind (r.reach gk) _ = _
      rw [hq]
      rfl
    rw [hr]
    unfold lim at e
    split at e
    · cases e
    · rename_i hz
      cases e
      cases o with
      | plus => exact cut_ev (by show _ ≤ a + b ∧ a + b ≤ _; omega) hz
      | minus => exact cut_ev (by show _ ≤ a - b ∧ a - b ≤ _; omega) hz
      | times => exact cut_ev (prod_in ⟨p1, p2⟩ ⟨q1, q2⟩) hz

/-- numbers, each within its stretch -/
def Ins : List (Int × Int) → List Int → Prop
  | [], [] => True
  | p :: ps, i :: is => (p.1 ≤ i ∧ i ≤ p.2) ∧ Ins ps is
  | _, _ => False
theorem Ins.len : ∀ {ps : List (Int × Int)} {is : List Int}, Ins ps is → ps.length = is.length
  | [], [], _ => rfl
  | _ :: ps, _ :: is, h => congrArg Nat.succ (Ins.len (ps := ps) (is := is) h.2)
theorem Ins.snoc : ∀ {ps : List (Int × Int)} {is : List Int} {p : Int × Int} {i : Int}, Ins ps is → p.1 ≤ i ∧ i ≤ p.2 → Ins (ps ++ [p]) (is ++ [i])
  | [], [], _, _, _, h => ⟨h, trivial⟩
  | _ :: _, _ :: _, _, _, h, h' => ⟨h.1, Ins.snoc h.2 h'⟩
theorem Ins.get : ∀ {ps : List (Int × Int)} {is : List Int} {ks : List Key} {k : Key} {p : Int × Int}, Ins ps is → getK k ks ps = some p → ∃ i, getK k ks is = some i ∧ p.1 ≤ i ∧ i ≤ p.2
  | [], _, ks, _, _, _, h => by cases ks <;> cases h
  | _ :: _, [], _, _, _, h, _ => h.elim
  | _ :: _, _ :: _, [], _, _, _, h => nomatch h
  | q :: ps, j :: is, k' :: ks, k, p, h, e => by
    replace e : (if k = k' then some q else getK k ks ps) = some p := e
    show ∃ i, (if k = k' then some j else getK k ks is) = some i ∧ _
    split at e
    · rename_i hk
      cases e
      exact ⟨j, if_pos hk, h.1⟩
    · rename_i hk
      obtain ⟨i, h1, h2⟩ := Ins.get h.2 e
      exact ⟨i, (if_neg hk).trans h1, h2⟩
theorem Ins.inn : ∀ {ps : List (Int × Int)} {is : List Int}, Ins ps is → (∀ p ∈ ps, InS p) → ∀ i ∈ is, -1000000 ≤ i ∧ i ≤ 1000000
  | [], [], _, _, _, h => nomatch h
  | p :: ps, j :: is, h, hp, i, hi => by
    rcases List.mem_cons.mp hi with rfl | hi
    · have := hp p (.head _)
      unfold InS at this
      have := h.1
      omega
    · exact Ins.inn h.2 (fun q hq => hp q (.tail _ hq)) i hi
/-- the numbers held, from the stretches known -/
theorem held_of {ns : List Str} {ks : List Key} {ps : List (Int × Int)} {is : List Int} (h : Held InS ns ks ps) (hi : Ins ps is) : Held (fun i => -1000000 ≤ i ∧ i ≤ 1000000) ns ks is ∧ ∀ x ∈ ns, (gOf ks ps x).1 ≤ gOf ks is x ∧ gOf ks is x ≤ (gOf ks ps x).2 := by
  have hx : ∀ x ∈ ns, ∃ i, getK (.s x) ks is = some i ∧ (gOf ks ps x).1 ≤ i ∧ i ≤ (gOf ks ps x).2 := fun x hx => hi.get (h.at hx).1
  refine ⟨⟨h.len.trans hi.len, h.nd, fun x q => let ⟨i, e, _⟩ := hx x q; ⟨i, e⟩, hi.inn h.inn, h.str⟩, fun x q => ?_⟩
  obtain ⟨i, e, h1⟩ := hx x q
  have : gOf ks is x = i := by unfold gOf; rw [e]; rfl
  rw [this]; exact h1
theorem Held.sub {β : Type} {P : β → Prop} {ns ns' : List Str} {ks : List Key} {is : List β} (h : Held P ns ks is) (hs : ∀ x ∈ ns', x ∈ ns) : Held P ns' ks is := ⟨h.len, h.nd, fun x hx => h.get x (hs x hx), h.inn, h.str⟩
theorem putK_new {β : Type} {k : Key} {v : β} : ∀ {ks : List Key} {vs : List β}, ks.length = vs.length → k ∉ ks → putK k v ks vs = (ks ++ [k], vs ++ [v])
  | [], [], _, _ => rfl
  | [], _ :: _, h, _ => nomatch h
  | _ :: _, [], h, _ => nomatch h
  | j :: ks, u :: vs, h, hn => by
    have e : putK k v (j :: ks) (u :: vs) = (j :: (putK k v ks vs).1, u :: (putK k v ks vs).2) := if_neg (fun (q : k = j) => hn (q ▸ List.Mem.head _))
    rw [e, putK_new (Nat.succ.inj h) fun q => hn (.tail _ q)]
    rfl
theorem item_obj {β : Type} {e : β → D} {ks : List Key} {is : List β} {x : Str} {v : β} (h : getK (.s x) ks is = some v) : getItemV [(false, .dict ks ((is.map e).map V.d))] (.obj 0) (.d (.str x)) = some (.d (e v)) := by
  show getK (.s x) ks ((is.map e).map V.d) = _
  rw [List.map_map, getK_map, h]
  rfl
theorem item_data {β : Type} {e : β → D} {ks : List Key} {is : List β} {x : Str} {v : β} {σ : St} (h : getK (.s x) ks is = some v) : getItemV σ (.d (.dict ks (is.map e))) (.d (.str x)) = some (.d (e v)) := by
  show Option.map V.d (getK (.s x) ks (is.map e)) = _
  rw [getK_map, h]
  rfl
theorem hand_held {β : Type} {e : β → D} {ks : List Key} {is : List β} : handD false [(false, .dict ks ((is.map e).map V.d))] (.obj 0) = some (.dict ks (is.map e)) := by
  show Option.map _ (allD ((is.map e).map V.d)) = _
  rw [allD_of]
  rfl
theorem dict_data {ks : List Key} {vs : List D} {σ : St} (hz : ks.length < 100000) : bfV σ .dict [.d (.dict ks vs)] = some (.d (.dict ks vs)) := by
  show (if sizeOk ks.length = true then _ else _) = _
  rw [if_pos (sizeOk_of hz)]
theorem eqD_held {β : Type} {e : β → D} (he : ∀ i, eqP 20 (e i) (e i) = some true) {P : β → Prop} {ns : List Str} {ks : List Key} {is : List β} (h : Held P ns ks is) : eqD (.dict ks (is.map e)) (.dict ks (is.map e)) = some true := by
  show (if ks.length = ks.length then eqK (eqP 20) ks (is.map e) ks (is.map e) else _) = _
  rw [if_pos rfl, eqK_self he fun n k u h1 h2 => getK_nodup h.nd h1 h2]

/-- a loop over items, by an invariant; the first turn comes by itself -/
theorem list_two {f : V → Loc → St → Option (Fl × Loc × St)} {ρ0 : Loc} {σ0 : St} {Inv : Nat → Loc → St → Prop} {v : V} {r : List V} (first : ∃ ρ σ, f v ρ0 σ0 = some (.next, ρ, σ) ∧ Inv 1 ρ σ)
    (step : ∀ k u ρ σ, r[k]? = some u → Inv (k + 1) ρ σ → ∃ ρ' σ', f u ρ σ = some (.next, ρ', σ') ∧ Inv (k + 2) ρ' σ') : ∃ ρ σ, loopL f (v :: r) ρ0 σ0 = some (.next, ρ, σ) ∧ Inv (r.length + 1) ρ σ := by
  obtain ⟨ρ, σ, e, hi⟩ := first
  have go : ∀ (t : List V) (k : Nat) (ρ : Loc) (σ : St), r.drop k = t → k ≤ r.length → Inv (k + 1) ρ σ → ∃ ρ' σ', loopL f t ρ σ = some (.next, ρ', σ') ∧ Inv (r.length + 1) ρ' σ' := by
    intro t
    induction t with
    | nil =>
      intro k ρ σ hk hl hi
      have : k = r.length := Nat.le_antisymm hl (List.drop_eq_nil_iff.mp hk)
      subst this
      exact ⟨ρ, σ, rfl, hi⟩
    | cons u t ih =>
      intro k ρ σ hk hl hi
      have hlt : k < r.length := by
        refine Nat.lt_of_not_le fun q => ?_
        rw [List.drop_eq_nil_of_le q] at hk; cases hk
      rw [List.drop_eq_getElem_cons hlt] at hk
      simp only [List.cons.injEq] at hk
      obtain ⟨ρ', σ', e, hi'⟩ := step k u ρ σ (by rw [List.getElem?_eq_getElem hlt, hk.1]) hi
      obtain ⟨ρ'', σ'', e', hi''⟩ := ih (k + 1) ρ' σ' hk.2 hlt hi'
      refine ⟨ρ'', σ'', ?_, hi''⟩
      show Option.bind (f u ρ σ) _ = _
      rw [e]
      exact e'
  obtain ⟨ρ', σ', e', hi'⟩ := go r 0 ρ σ rfl (Nat.zero_le _) hi
  refine ⟨ρ', σ', ?_, hi'⟩
  show Option.bind (f v ρ0 σ0) _ = _
  rw [e]
  exact e'
/-- a loop over a dict -/
theorem for_dict {G : Genv} {ρ ρ' : Loc} {σ σ' : St} {x y : Str} {px py pos : Pos} {body : List Stmt} {ks : List Key} {vs : List D} {fl : Fl} (hy : getV y ρ = some (.d (.dict ks vs)))
    (h : loopL (fun v ρ σ => evSs G body (setV x v ρ) σ) (ks.map fun k => V.d k.toD) ρ σ = some (fl, ρ', σ')) : evS G (.For (.Name x px) (.Name y py) body [] pos) ρ σ = some (fl, ρ', σ') := by
  rw [evS_ForN, if_neg (show ¬ isIt (.Name y py) = true from Bool.false_ne_true)]
  have he : evE G ρ false (.Name y py) σ = some (.d (.dict ks vs), σ) := by
    show (match getV y ρ with | some v => some (v, σ) | none => _) = _
    rw [hy]
  rw [he]
  show Option.map _ (loopL _ ((ks.map Key.toD).map V.d) ρ σ) = _
  rw [List.map_map]
  show Option.map _ (loopL _ (ks.map fun k => V.d k.toD) ρ σ) = _
  rw [h]
  rfl
/-- a comprehension over a zip of two tuples -/
theorem comp_zip {G : Genv} {ρ : Loc} {σ : St} {elt tgt : Expr} {args : List Expr} {csc : Scope} {p pf pr : Pos} {f : Str} {xs ys ds : List D} (hf : f = "zip") (he : evEs G ρ false args σ = some ([.d (.tup xs), .d (.tup ys)], σ)) (hl : xs.length = ys.length) (hl' : xs.length ≤ 1000)
    (hm : mapO (itemP csc ρ tgt elt) (zipD xs ys) = some ds) (hz : ds.length < 100000) : evE G ρ false (.ListComp elt [⟨tgt, .Call (.Name f pf) args [] pr, [], 0⟩] csc p) σ = some (.d (.list ds), σ) := by
  subst hf
  rw [evE_Comp, evI_Call, he]
  have h1 : iterF σ "zip" [.d (.tup xs), .d (.tup ys)] = some (zipD xs ys, none) := by
    unfold iterF
    rw [if_neg (by decide +kernel), if_pos rfl]
    show (if xs.length = ys.length ∧ xs.length ≤ 1000 then _ else _) = _
    rw [if_pos ⟨hl, hl'⟩]
  show Option.bind (Option.map _ (iterF σ "zip" [.d (.tup xs), .d (.tup ys)])) _ = _
  rw [h1]
  show Option.bind (mapO (itemP csc ρ tgt elt) (zipD xs ys)) _ = _
  rw [hm]
  show (if sizeOk ds.length = true then _ else _) = _
  rw [if_pos (sizeOk_of hz)]
  rfl
noncomputable def cArgs (e : Expr) : List Expr := match (cGen e).iter with
  | .Call _ as _ _ => as
  | _ => []
noncomputable def prodP (a b : Int) : Option D := (if small a = true then some (D.int (a * b)) else none).bind fun d => if scalar d = true then some d else none
theorem prodP_ok {a b : Int} (h : small a = true) : prodP a b = some (.int (a * b)) := by
  unfold prodP
  rw [if_pos h]
  rfl
theorem mapO4 {β γ : Type} {f : β → Option γ} {a b c d : β} {u v w x : γ} (h1 : f a = some u) (h2 : f b = some v) (h3 : f c = some w) (h4 : f d = some x) : mapO f [a, b, c, d] = some [u, v, w, x] := by
  show Option.bind (f a) (fun y => Option.map _ (Option.bind (f b) fun y => Option.map _ (Option.bind (f c) fun y => Option.map _ (Option.bind (f d) fun y => Option.map _ (some []))))) = _
  rw [h1, h2, h3, h4]
  rfl
end Mine
end

section
set_option autoImplicit false
set_option linter.unusedVariables false
namespace Mine
open PySem

def InLim (i : Int) : Prop := -1000000 ≤ i ∧ i ≤ 1000000
theorem lim_none {z : Int} (h : z < -1000000 ∨ z > 1000000) : lim z = none := if_pos h
theorem lim_some {z : Int} (h : ¬ (z < -1000000)) (h' : ¬ (z > 1000000)) : lim z = some z := if_neg fun q => q.elim h h'
inductive Sg where
  | lt | le | eq | ne
noncomputable def Sg.str : Sg → Str
  | .lt => Str.ofString "<"
  | .le => Str.ofString "<="
  | .eq => Str.ofString "="
  | .ne => Str.ofString "!="
noncomputable def Sg.ap : Sg → Int → Int → Bool
  | .lt, a, b => decide (a < b)
  | .le, a, b => decide (a ≤ b)
  | .eq, a, b => decide (a = b)
  | .ne, a, b => !(decide (a = b))
noncomputable def cD (g : Sg) (a b : Option Int) : D := match a with
  | none => .none
  | some a => match b with
    | none => .none
    | some b => .bool (g.ap a b)
theorem pickSg {i : Int} (h : i = 0 ∨ i = 1 ∨ i = 2 ∨ i = 3) : ∃ g : Sg, idxL [D.str (Str.ofString "<"), D.str (Str.ofString "<="), D.str (Str.ofString "="), D.str (Str.ofString "!=")] i = some (D.str g.str) := by
  rcases h with rfl | rfl | rfl | rfl
  · exact ⟨.lt, rfl⟩
  · exact ⟨.le, rfl⟩
  · exact ⟨.eq, rfl⟩
  · exact ⟨.ne, rfl⟩
/-- what two stretches have in common, a stretch without a number, the sides of a condition -/
noncomputable def metS (p q : Int × Int) : Option (Int × Int) := if (if q.1 > p.1 then q.1 else p.1) > (if q.2 < p.2 then q.2 else p.2) then none else some (if q.1 > p.1 then q.1 else p.1, if q.2 < p.2 then q.2 else p.2)
theorem metS_none {p q : Int × Int} (h : (if q.1 > p.1 then q.1 else p.1) > (if q.2 < p.2 then q.2 else p.2)) : metS p q = none := if_pos h
theorem metS_some {p q : Int × Int} (h : ¬ ((if q.1 > p.1 then q.1 else p.1) > (if q.2 < p.2 then q.2 else p.2))) : metS p q = some (if q.1 > p.1 then q.1 else p.1, if q.2 < p.2 then q.2 else p.2) := if_neg h
theorem metS_mem {p q a : Int × Int} (h : metS p q = some a) : (p.1 ≤ a.1 ∧ q.1 ≤ a.1 ∧ a.1 ≤ a.2 ∧ a.2 ≤ p.2 ∧ a.2 ≤ q.2) ∧ (a.1 = p.1 ∨ a.1 = q.1) ∧ (a.2 = p.2 ∨ a.2 = q.2) := by
  by_cases c : (if q.1 > p.1 then q.1 else p.1) > (if q.2 < p.2 then q.2 else p.2)
  · rw [metS_none c] at h; cases h
  · rw [metS_some c] at h
    obtain ⟨h1, h2, h3⟩ := mx2_le p.1 q.1
    obtain ⟨h4, h5, h6⟩ := mn2_le p.2 q.2
    cases h
    exact ⟨⟨h1, h2, Int.not_lt.mp c, h4, h5⟩, h3, h6⟩
theorem metS_ev {p q : Int × Int} {v : Int} (h1 : p.1 ≤ v ∧ v ≤ p.2) (h2 : q.1 ≤ v ∧ v ≤ q.2) : ∃ a, metS p q = some a ∧ a.1 ≤ v ∧ v ≤ a.2 := by
  have e1 : (if q.1 > p.1 then q.1 else p.1) ≤ v := by split; exact h2.1; exact h1.1
  have e2 : v ≤ (if q.2 < p.2 then q.2 else p.2) := by split; exact h2.2; exact h1.2
  exact ⟨_, metS_some (Int.not_lt.mpr (Int.le_trans e1 e2)), e1, e2⟩
theorem mx_is {p q a : Int} (h1 : p ≤ a) (h2 : q ≤ a) (h3 : a = p ∨ a = q) : (if q > p then q else p) = a := by
  by_cases c : q > p
  · rw [if_pos c]; exact h3.elim (fun e => absurd (e ▸ h2) (Int.not_le.mpr c)) Eq.symm
  · rw [if_neg c]; exact h3.elim Eq.symm fun e => Int.le_antisymm h1 (e ▸ Int.not_lt.mp c)
theorem mn_is {p q a : Int} (h1 : a ≤ p) (h2 : a ≤ q) (h3 : a = p ∨ a = q) : (if q < p then q else p) = a := by
  by_cases c : q < p
  · rw [if_pos c]; exact h3.elim (fun e => absurd (e ▸ h2) (Int.not_le.mpr c)) Eq.symm
  · rw [if_neg c]; exact h3.elim Eq.symm fun e => Int.le_antisymm (e ▸ Int.not_lt.mp c) h1
theorem metS_sub {p a : Int × Int} (h : p.1 ≤ a.1 ∧ a.1 ≤ a.2 ∧ a.2 ≤ p.2) : metS p a = some a := by
  have e1 := mx_is h.1 (Int.le_refl a.1) (.inr rfl)
  have e2 := mn_is h.2.2 (Int.le_refl a.2) (.inr rfl)
  rw [metS_some (by rw [e1, e2]; exact Int.not_lt.mpr h.2.1), e1, e2]
theorem metS_met {p q a b : Int × Int} (h : metS p q = some b) (h1 : p.1 ≤ a.1) (h2 : a.2 ≤ p.2) : metS a q = metS a b := by
  obtain ⟨⟨b1, b2, b3, b4, b5⟩, o1, o2⟩ := metS_mem h
  have e1 : (if q.1 > a.1 then q.1 else a.1) = (if b.1 > a.1 then b.1 else a.1) := by
    rcases o1 with e | e
    · rw [if_neg (Int.not_lt.mpr (Int.le_trans b2 (e ▸ h1))), if_neg (Int.not_lt.mpr (e ▸ h1))]
    · rw [e]
  have e2 : (if q.2 < a.2 then q.2 else a.2) = (if b.2 < a.2 then b.2 else a.2) := by
    rcases o2 with e | e
    · rw [if_neg (Int.not_lt.mpr (Int.le_trans (e ▸ h2) b5)), if_neg (Int.not_lt.mpr (e ▸ h2))]
    · rw [e]
  unfold metS
  rw [e1, e2]
noncomputable def withoutS (p q : Int × Int) : Option (Int × Int) :=
  if q.1 = q.2 then
    if p.1 = q.1 then (if p.1 + 1 > p.2 then none else some (p.1 + 1, p.2))
    else if p.2 = q.1 then some (p.1, p.2 - 1)
    else some p
  else some p
theorem withoutS_mem {p q a : Int × Int} (hp : p.1 ≤ p.2) (h : withoutS p q = some a) : p.1 ≤ a.1 ∧ a.1 ≤ a.2 ∧ a.2 ≤ p.2 := by
  have l : ∀ {x : Int}, x ≤ x := Int.le_refl _
  unfold withoutS at h
  by_cases c1 : q.1 = q.2
  · rw [if_pos c1] at h
    by_cases c2 : p.1 = q.1
    · rw [if_pos c2] at h
      by_cases c : p.1 + 1 > p.2
      · rw [if_pos c] at h; cases h
      · rw [if_neg c] at h; cases h; exact ⟨Int.le_add_one l, Int.not_lt.mp c, l⟩
    · rw [if_neg c2] at h
      by_cases c3 : p.2 = q.1
      · rw [if_pos c3] at h; cases h
        exact ⟨l, Int.le_sub_one_iff.mpr ((Int.lt_or_eq_of_le hp).resolve_right fun e => c2 (e.trans c3)), Int.sub_le_self _ (by decide)⟩
      · rw [if_neg c3] at h; cases h; exact ⟨l, hp, l⟩
  · rw [if_neg c1] at h; cases h; exact ⟨l, hp, l⟩
theorem withoutS_ev {p q : Int × Int} {v : Int} (h1 : p.1 ≤ v ∧ v ≤ p.2) (h : ¬ (q.1 = q.2 ∧ v = q.1)) : ∃ a, withoutS p q = some a ∧ a.1 ≤ v ∧ v ≤ a.2 := by
  unfold withoutS
  by_cases c1 : q.1 = q.2
  · rw [if_pos c1]
    by_cases c2 : p.1 = q.1
    · have hv : p.1 + 1 ≤ v := (Int.lt_or_eq_of_le h1.1).resolve_right fun e => h ⟨c1, e.symm.trans c2⟩
      rw [if_pos c2, if_neg (Int.not_lt.mpr (Int.le_trans hv h1.2))]
      exact ⟨_, rfl, hv, h1.2⟩
    · rw [if_neg c2]
      by_cases c3 : p.2 = q.1
      · rw [if_pos c3]
        exact ⟨_, rfl, h1.1, Int.le_sub_one_iff.mpr ((Int.lt_or_eq_of_le h1.2).resolve_right fun e => h ⟨c1, e.trans c3⟩)⟩
      · rw [if_neg c3]
        exact ⟨_, rfl, h1⟩
  · rw [if_neg c1]
    exact ⟨_, rfl, h1⟩
theorem withoutS_none {p q : Int × Int} (h : q.1 = q.2 ∧ p.1 = q.1 ∧ p.2 = q.1) : withoutS p q = none := by
  unfold withoutS
  rw [if_pos h.1, if_pos h.2.1, if_pos (by rw [h.2.1, h.2.2]; exact Int.lt_succ _)]
noncomputable def sideL : Sg → Int × Int → Int × Int → Option (Int × Int)
  | .lt, p, q => metS p (-1000000, q.2 - 1)
  | .le, p, q => metS p (-1000000, q.2)
  | .eq, p, q => metS p q
  | .ne, p, q => withoutS p q
noncomputable def sideR : Sg → Int × Int → Int × Int → Option (Int × Int)
  | .lt, p, q => metS p (q.1 + 1, 1000000)
  | .le, p, q => metS p (q.1, 1000000)
  | .eq, p, q => metS p q
  | .ne, p, q => withoutS p q
noncomputable def neP (p q : Int × Int) : Bool := !(decide (p.1 = q.1) && decide (p.2 = q.2))
noncomputable def mayS : Sg → Int × Int → Int × Int → Bool
  | .lt, p, q => decide (p.1 < q.2)
  | .le, p, q => decide (p.1 ≤ q.2)
  | .eq, p, q => (metS p q).isSome
  | .ne, p, q => neP p q || !(decide (p.1 = p.2))
theorem may_ne {p q : Int × Int} : mayS .ne p q = true ↔ ¬ (p.1 = q.1 ∧ p.2 = q.2 ∧ p.1 = p.2) := by
  show ((!(decide (p.1 = q.1) && decide (p.2 = q.2))) || !(decide (p.1 = p.2))) = true ↔ _
  by_cases c1 : p.1 = q.1 <;> by_cases c2 : p.2 = q.2 <;> by_cases c3 : p.1 = p.2 <;> simp [c1, c2, c3]
theorem ap_ne {v w : Int} : Sg.ap .ne v w = true ↔ ¬ v = w := by
  show (!(decide (v = w))) = true ↔ _
  by_cases c : v = w <;> simp [c]
/-- where a condition holds its sides hold the numbers -/
theorem sideL_ev {g : Sg} {s q : Int × Int} {v w : Int} (hs : InS s) (h1 : s.1 ≤ v ∧ v ≤ s.2) (h2 : q.1 ≤ w ∧ w ≤ q.2) (hc : g.ap v w = true) : ∃ a, sideL g s q = some a ∧ a.1 ≤ v ∧ v ≤ a.2 := by
  have h0 := hs.1
  cases g with
  | lt => have hc : v < w := of_decide_eq_true hc; exact metS_ev h1 ⟨Int.le_trans h0 h1.1, Int.le_sub_one_iff.mpr (Int.lt_of_lt_of_le hc h2.2)⟩
  | le => have hc : v ≤ w := of_decide_eq_true hc; exact metS_ev h1 ⟨Int.le_trans h0 h1.1, Int.le_trans hc h2.2⟩
  | eq => have hc : v = w := of_decide_eq_true hc; exact metS_ev h1 (hc ▸ h2)
  | ne => have hc := ap_ne.mp hc; exact withoutS_ev h1 fun ⟨e, e'⟩ => hc (e'.trans (Int.le_antisymm h2.1 (e ▸ h2.2)))
theorem sideR_ev {g : Sg} {s p : Int × Int} {v w : Int} (hs : InS s) (h1 : p.1 ≤ v ∧ v ≤ p.2) (h2 : s.1 ≤ w ∧ w ≤ s.2) (hc : g.ap v w = true) : ∃ a, sideR g s p = some a ∧ a.1 ≤ w ∧ w ≤ a.2 := by
  have h0 := hs.2.2
  cases g with
  | lt => have hc : v < w := of_decide_eq_true hc; exact metS_ev h2 ⟨Int.lt_of_le_of_lt h1.1 hc, Int.le_trans h2.2 h0⟩
  | le => have hc : v ≤ w := of_decide_eq_true hc; exact metS_ev h2 ⟨Int.le_trans h1.1 hc, Int.le_trans h2.2 h0⟩
  | eq => have hc : v = w := of_decide_eq_true hc; exact metS_ev h2 (hc ▸ h1)
  | ne => have hc := ap_ne.mp hc; exact withoutS_ev h2 fun ⟨e, e'⟩ => hc ((Int.le_antisymm (e ▸ h1.2) h1.1).trans e'.symm)
theorem may_ev {g : Sg} {p q : Int × Int} {v w : Int} (h1 : p.1 ≤ v ∧ v ≤ p.2) (h2 : q.1 ≤ w ∧ w ≤ q.2) (hc : g.ap v w = true) : mayS g p q = true := by
  cases g with
  | lt => have hc : v < w := of_decide_eq_true hc; exact decide_eq_true (Int.lt_of_le_of_lt h1.1 (Int.lt_of_lt_of_le hc h2.2))
  | le => have hc : v ≤ w := of_decide_eq_true hc; exact decide_eq_true (Int.le_trans h1.1 (Int.le_trans hc h2.2))
  | eq =>
    have hc : v = w := of_decide_eq_true hc
    obtain ⟨a, e, -⟩ := metS_ev h1 (hc ▸ h2)
    show (metS p q).isSome = true
    rw [e]; rfl
  | ne => exact may_ne.mpr fun ⟨e1, e2, e3⟩ => ap_ne.mp hc ((Int.le_antisymm (e3 ▸ h1.2) h1.1).trans (e1.trans (Int.le_antisymm h2.1 (by rw [← e1, e3, e2]; exact h2.2))))
theorem may_wit {g : Sg} {p q : Int × Int} (hp : InS p) (hq : InS q) (h : mayS g p q = true) : ∃ v w, (p.1 ≤ v ∧ v ≤ p.2) ∧ (q.1 ≤ w ∧ w ≤ q.2) ∧ g.ap v w = true := by
  have hp := hp.2.1
  have hq := hq.2.1
  have l : ∀ {x : Int}, x ≤ x := Int.le_refl _
  cases g with
  | lt => exact ⟨p.1, q.2, ⟨l, hp⟩, ⟨hq, l⟩, h⟩
  | le => exact ⟨p.1, q.2, ⟨l, hp⟩, ⟨hq, l⟩, h⟩
  | eq =>
    cases e : metS p q with
    | none => rw [show mayS .eq p q = (metS p q).isSome from rfl, e] at h; cases h
    | some a =>
      obtain ⟨⟨h1, h2, h3, h4, h5⟩, -⟩ := metS_mem e
      exact ⟨a.1, a.1, ⟨h1, Int.le_trans h3 h4⟩, ⟨h2, Int.le_trans h3 h5⟩, decide_eq_true rfl⟩
  | ne =>
    have h := may_ne.mp h
    by_cases c : p.1 = q.1
    · by_cases c' : p.1 = p.2
      · exact ⟨p.1, q.2, ⟨l, hp⟩, ⟨hq, l⟩, ap_ne.mpr fun e => h ⟨c, c'.symm.trans e, c'⟩⟩
      · exact ⟨p.2, q.1, ⟨hp, l⟩, ⟨l, hq⟩, ap_ne.mpr fun e => c' (c.trans e.symm)⟩
    · exact ⟨p.1, q.1, ⟨l, hp⟩, ⟨l, hq⟩, ap_ne.mpr c⟩
theorem side_mem {g : Sg} {p q a : Int × Int} (hp : p.1 ≤ p.2) (h : sideL g p q = some a ∨ sideR g p q = some a) : p.1 ≤ a.1 ∧ a.1 ≤ a.2 ∧ a.2 ≤ p.2 := by
  have hm : ∀ {q}, metS p q = some a → p.1 ≤ a.1 ∧ a.1 ≤ a.2 ∧ a.2 ≤ p.2 := fun h => let h := (metS_mem h).1; ⟨h.1, h.2.2.1, h.2.2.2.1⟩
  cases g with
  | lt => exact h.elim hm hm
  | le => exact h.elim hm hm
  | eq => exact h.elim hm hm
  | ne => exact h.elim (withoutS_mem hp) (withoutS_mem hp)
theorem side_none {g : Sg} {p q : Int × Int} (h : ¬ mayS g p q = true) : sideL g p q = none := by
  cases e : sideL g p q with
  | none => rfl
  | some a =>
    refine absurd ?_ h
    cases g with
    | lt => obtain ⟨⟨h1, -, h3, -, h5⟩, -⟩ := metS_mem e; exact decide_eq_true (Int.lt_of_le_of_lt (Int.le_trans h1 h3) (Int.le_sub_one_iff.mp h5))
    | le => obtain ⟨⟨h1, -, h3, -, h5⟩, -⟩ := metS_mem e; exact decide_eq_true (Int.le_trans (Int.le_trans h1 h3) h5)
    | eq => show (metS p q).isSome = true; rw [show metS p q = some a from e]; rfl
    | ne => exact may_ne.mpr fun c => by rw [show sideL .ne p q = none from withoutS_none ⟨c.1.symm.trans (c.2.2.trans c.2.1), c.1, c.2.2.symm.trans c.1⟩] at e; cases e
theorem side_same {g : Sg} {p a b : Int × Int} (hp : InS p) (hm : mayS g p p = true) (ha : sideL g p p = some a) (hb : sideR g p p = some b) : sideR g a p = metS a b := by
  obtain ⟨h1, -, h2⟩ := side_mem hp.2.1 (.inl ha)
  cases g with
  | lt => exact metS_met hb h1 h2
  | le => exact metS_met hb h1 h2
  | eq => exact metS_met hb h1 h2
  | ne =>
    have c : ¬ p.1 = p.2 := fun c => may_ne.mp hm ⟨rfl, rfl, c⟩
    have w : ∀ s, withoutS s p = some s := fun s => if_neg c
    have ha : withoutS p p = some a := ha
    have hb : withoutS p p = some b := hb
    rw [w] at ha hb
    cases ha; cases hb
    exact (w p).trans (metS_sub ⟨Int.le_refl _, hp.2.1, Int.le_refl _⟩).symm
theorem in_of_sub {p a : Int × Int} (hp : InS p) (h : p.1 ≤ a.1 ∧ a.1 ≤ a.2 ∧ a.2 ≤ p.2) : InS a := ⟨Int.le_trans hp.1 h.1, h.2.1, Int.le_trans h.2.2 hp.2.2⟩
/-- the dict that is kept -/
noncomputable def T5.nm : T5 → Option Str
  | .name x => some x
  | _ => none
theorem T5.nm_eq {t : T5} {x : Str} (h : t.nm = some x) : t = .name x := by cases t <;> cases h; rfl
theorem T5.nostr {t : T5} (h : t.nm = none) {σ : St} : isiV σ (Str.ofString "str") (.d t.D) = some false := by
  cases t with
  | num n => exact congrArg some (by decide +kernel)
  | name x => cases h
  | rest t k => exact congrArg some (by decide +kernel)
  | op o l r => exact congrArg some (by decide +kernel)
noncomputable def putP (x : Str) (a : Int × Int) (ks : List Key) (ps : List (Int × Int)) : List (Int × Int) := (putK (.s x) a ks ps).2
theorem putK_same {β : Type} {k : Key} {a : β} : ∀ {ks : List Key} {ps : List β} {p : β}, getK k ks ps = some p → (putK k a ks ps).1 = ks
  | [], _, _, h => nomatch h
  | _ :: _, [], _, h => nomatch h
  | k' :: ks, q :: ps, p, h => by
    replace h : (if k = k' then some q else getK k ks ps) = some p := h
    show (if k = k' then (k' :: ks, a :: ps) else (k' :: (putK k a ks ps).1, q :: (putK k a ks ps).2)).1 = _
    by_cases c : k = k'
    · rw [if_pos c]
    · rw [if_neg c] at h ⊢
      rw [putK_same h]
theorem Held.putP {ns : List Str} {ks : List Key} {ps : List (Int × Int)} (h : Held InS ns ks ps) {x : Str} (hx : x ∈ ns) {a : Int × Int} (ha : InS a) : Held InS ns ks (putP x a ks ps) := by
  have q := h.put (x := x) ha
  rw [putK_same (h.at hx).1] at q
  exact q.sub fun y hy => List.mem_append_left _ hy
theorem gOf_putP {ns : List Str} {ks : List Key} {ps : List (Int × Int)} (h : Held InS ns ks ps) {x y : Str} (hx : x ∈ ns) {a : Int × Int} : gOf ks (putP x a ks ps) y = if y = x then a else gOf ks ps y := by
  have e := putK_get (.s x) (.s y) a ks ps h.len
  rw [putK_same (h.at hx).1] at e
  show (getK (.s y) ks (putK (.s x) a ks ps).2).getD default = _
  rw [e]
  by_cases c : y = x
  · rw [if_pos c, if_pos (by rw [c])]; rfl
  · rw [if_neg c, if_neg (fun q => c (Key.s.inj q))]; rfl
theorem Ins.put {k : Key} {a : Int × Int} {v : Int} : ∀ {ks : List Key} {ps : List (Int × Int)} {is : List Int}, Ins ps is → getK k ks is = some v → a.1 ≤ v ∧ v ≤ a.2 → Ins (putK k a ks ps).2 is
  | [], _, _, _, h, _ => nomatch h
  | _ :: _, [], [], _, h, _ => nomatch h
  | _ :: _, _ :: _, [], h, _, _ => h.elim
  | _ :: _, [], _ :: _, h, _, _ => h.elim
  | k' :: ks, q :: ps, i :: is, h, e, hv => by
    replace e : (if k = k' then some i else getK k ks is) = some v := e
    show Ins (if k = k' then (k' :: ks, a :: ps) else (k' :: (putK k a ks ps).1, q :: (putK k a ks ps).2)).2 _
    by_cases c : k = k'
    · rw [if_pos c] at e ⊢
      cases e
      exact ⟨hv, h.2⟩
    · rw [if_neg c] at e ⊢
      exact ⟨h.1, Ins.put h.2 e hv⟩
noncomputable def stepN (t : T5) (ks : List Key) (ps : List (Int × Int)) (f : Int × Int → Option (Int × Int)) : Option (List (Int × Int)) := match t.nm with
  | some x => (f (gOf ks ps x)).map fun a => putP x a ks ps
  | none => some ps
theorem stepN_none {t : T5} {ks : List Key} {ps : List (Int × Int)} {f : Int × Int → Option (Int × Int)} (h : t.nm = none) : stepN t ks ps f = some ps := by unfold stepN; rw [h]
theorem stepN_name {x : Str} {ks : List Key} {ps : List (Int × Int)} {f : Int × Int → Option (Int × Int)} {a : Option (Int × Int)} (h : f (gOf ks ps x) = a) : stepN (.name x) ks ps f = a.map fun a => putP x a ks ps := by subst h; rfl
noncomputable def keptS (g : Sg) (l r : T5) (ks : List Key) (ps : List (Int × Int)) : Option (List (Int × Int)) :=
  (l.reach (gOf ks ps)).bind fun p => (r.reach (gOf ks ps)).bind fun q => if mayS g p q = true then (stepN l ks ps fun s => sideL g s q).bind fun ps' => stepN r ks ps' fun s => sideR g s p else none
noncomputable def kD (ks : List Key) : Option (List (Int × Int)) → D
  | none => .none
  | some ps => .dict ks (ps.map pD)
theorem keptS_of {g : Sg} {l r : T5} {ks : List Key} {ps : List (Int × Int)} {p q : Int × Int} (hl : l.reach (gOf ks ps) = some p) (hr : r.reach (gOf ks ps) = some q) : keptS g l r ks ps = if mayS g p q = true then (stepN l ks ps fun s => sideL g s q).bind fun ps' => stepN r ks ps' fun s => sideR g s p else none := by
  unfold keptS
  rw [hl, hr]
  rfl
theorem side_in {g : Sg} {p q a : Int × Int} (hp : InS p) (h : sideL g p q = some a ∨ sideR g p q = some a) : InS a := in_of_sub hp (side_mem hp.2.1 h)
theorem step_held {t : T5} {ns : List Str} {ks : List Key} {ps qs : List (Int × Int)} {f : Int × Int → Option (Int × Int)} (h : Held InS ns ks ps) (ht : t.ok ns) (hf : ∀ p a, InS p → f p = some a → InS a) (e : stepN t ks ps f = some qs) : Held InS ns ks qs := by
  cases c : t.nm with
  | none => rw [stepN_none c] at e; cases e; exact h
  | some x =>
    have := T5.nm_eq c
    subst this
    rw [stepN_name rfl] at e
    obtain ⟨a, ha, rfl⟩ := Option.map_eq_some_iff.mp e
    exact h.putP ht (hf _ _ (h.at ht).2 ha)
theorem kept_held {g : Sg} {l r : T5} {ns : List Str} {ks : List Key} {ps qs : List (Int × Int)} (h : Held InS ns ks ps) (hl : l.ok ns) (hr : r.ok ns) (e : keptS g l r ks ps = some qs) : Held InS ns ks qs := by
  unfold keptS at e
  obtain ⟨p, _, e⟩ := Option.bind_eq_some_iff.mp e
  obtain ⟨q, _, e⟩ := Option.bind_eq_some_iff.mp e
  split at e
  · obtain ⟨p1, e1, e2⟩ := Option.bind_eq_some_iff.mp e
    exact step_held (step_held h hl (fun p a hp ha => side_in hp (.inl ha)) e1) hr (fun p a hp ha => side_in hp (.inr ha)) e2
  · cases e
theorem step_ev {t : T5} {ns : List Str} {ks : List Key} {ps : List (Int × Int)} {is : List Int} {f : Int × Int → Option (Int × Int)} {v : Int} (h : Held InS ns ks ps) (hi : Ins ps is) (ht : t.ok ns) (ev : t.ev (gOf ks is) = some v) (hf : ∀ s, InS s → s.1 ≤ v ∧ v ≤ s.2 → ∃ a, f s = some a ∧ a.1 ≤ v ∧ v ≤ a.2) (hf' : ∀ p a, InS p → f p = some a → InS a) : ∃ qs, stepN t ks ps f = some qs ∧ Ins qs is ∧ Held InS ns ks qs := by
  cases c : t.nm with
  | none => exact ⟨ps, stepN_none c, hi, h⟩
  | some x =>
    have := T5.nm_eq c
    subst this
    cases ev
    have hx := (held_of h hi).2 x ht
    obtain ⟨a, ha, h1, h2⟩ := hf _ (h.at ht).2 hx
    refine ⟨putP x a ks ps, by rw [stepN_name ha]; rfl, Ins.put hi ((held_of h hi).1.at ht).1 ⟨h1, h2⟩, h.putP ht (hf' _ _ (h.at ht).2 ha)⟩
theorem kept_ev {g : Sg} {l r : T5} {ns : List Str} {ks : List Key} {ps : List (Int × Int)} {is : List Int} {v w : Int} (h : Held InS ns ks ps) (hi : Ins ps is) (hl : l.ok ns) (hr : r.ok ns) (ev : l.ev (gOf ks is) = some v) (ew : r.ev (gOf ks is) = some w) (hc : g.ap v w = true) : ∃ qs, keptS g l r ks ps = some qs ∧ Ins qs is := by
  have hg := (held_of h hi).2
  obtain ⟨p, hp, p1⟩ := T5.reach_ev hg l hl v ev
  obtain ⟨q, hq, q1⟩ := T5.reach_ev hg r hr w ew
  obtain ⟨p', e1, hi1, h1⟩ := step_ev (f := fun s => sideL g s q) h hi hl ev (fun s hs hv => sideL_ev hs hv q1 hc) fun p a hp ha => side_in hp (.inl ha)
  obtain ⟨qs, e2, hi2, _⟩ := step_ev (f := fun s => sideR g s p) h1 hi1 hr ew (fun s hs hv => sideR_ev hs p1 hv hc) fun p a hp ha => side_in hp (.inr ha)
  refine ⟨qs, ?_, hi2⟩
  rw [keptS_of hp hq, if_pos (may_ev p1 q1 hc), e1]
  exact e2
/-- the same, as the law says it -/
theorem keptS_none {g : Sg} {l r : T5} {ks : List Key} {ps : List (Int × Int)} {p q : Int × Int} (hl : l.reach (gOf ks ps) = some p) (hr : r.reach (gOf ks ps) = some q) (h : ¬ mayS g p q = true) : keptS g l r ks ps = none := by rw [keptS_of hl hr, if_neg h]
theorem keptS_law {g : Sg} {l r : T5} {ns : List Str} {ks : List Key} {ps : List (Int × Int)} {p q a b : Int × Int} (h : Held InS ns ks ps) (ol : l.ok ns) (or : r.ok ns) (hl : l.reach (gOf ks ps) = some p) (hr : r.reach (gOf ks ps) = some q) (hm : mayS g p q = true) (ha : sideL g p q = some a) (hb : sideR g q p = some b) (hp : InS p) (hq : InS q) :
    keptS g l r ks ps = (stepN l ks ps fun s => metS s a).bind fun ps' => stepN r ks ps' fun s => metS s b := by
  have ka := metS_sub (side_mem hp.2.1 (.inl ha))
  have kb := metS_sub (side_mem hq.2.1 (.inr hb))
  have e1 : (stepN l ks ps fun s => sideL g s q) = stepN l ks ps fun s => metS s a := by
    cases c : l.nm with
    | none => rw [stepN_none c, stepN_none c]
    | some x =>
      have := T5.nm_eq c
      subst this
      have hl : some (gOf ks ps x) = some p := hl
      rw [Option.some.injEq] at hl
      rw [stepN_name (a := some a) (by rw [hl, ha]), stepN_name (a := some a) (by rw [hl, ka])]
  rw [keptS_of hl hr, if_pos hm, e1]
  cases e : stepN l ks ps fun s => metS s a with
  | none => rfl
  | some ps' =>
    show (stepN r ks ps' fun s => sideR g s p) = stepN r ks ps' fun s => metS s b
    cases c : r.nm with
    | none => rw [stepN_none c, stepN_none c]
    | some y =>
      have := T5.nm_eq c
      subst this
      have hr : some (gOf ks ps y) = some q := hr
      rw [Option.some.injEq] at hr
      have key : sideR g (gOf ks ps' y) p = metS (gOf ks ps' y) b := by
        cases c' : l.nm with
        | none => rw [stepN_none c'] at e; cases e; rw [hr, hb, kb]
        | some x =>
          have := T5.nm_eq c'
          subst this
          have hl : some (gOf ks ps x) = some p := hl
          rw [Option.some.injEq] at hl
          rw [stepN_name (a := some a) (by rw [hl, ka])] at e
          cases e
          rw [gOf_putP h ol]
          by_cases cc : y = x
          · subst cc
            rw [if_pos rfl]
            obtain rfl : p = q := hl.symm.trans hr
            exact side_same hp hm ha hb
          · rw [if_neg cc, hr, hb, kb]
      rw [stepN_name key, stepN_name rfl]

/-- equality of expressions, of dicts in the store; calls -/
theorem eqP_str {k : Nat} {s : Str} : eqP k (.str s) (.str s) = some true := by
  cases k <;> exact congrArg some (decide_eq_true rfl)
theorem eqP_num {k : Nat} {s : Int} : eqP k (.int s) (.int s) = some true := by
  cases k <;> exact congrArg some (decide_eq_true rfl)
theorem eqP_tup3 {k : Nat} {a b c : D} (h1 : eqP k a a = some true) (h2 : eqP k b b = some true) (h3 : eqP k c c = some true) : eqP (k + 1) (.tup [a, b, c]) (.tup [a, b, c]) = some true := by
  show Option.map (fun z => z && decide ((3 : Nat) = 3)) (and2 (eqP k a a) (and2 (eqP k b b) (and2 (eqP k c c) (some true)))) = _
  rw [h1, h2, h3]
  rfl
theorem T5.eqP : ∀ (t : T5) (k : Nat), t.dep ≤ k → Mine.eqP k t.D t.D = some true
  | .num _, _, _ => eqP_num
  | .name _, _, _ => eqP_str
  | .rest t n, 0, h => absurd h (Nat.not_succ_le_zero _)
  | .rest t n, k + 1, h => eqP_tup3 eqP_str (T5.eqP t k (Nat.le_of_succ_le_succ h)) eqP_num
  | .op o l r, 0, h => absurd h (Nat.not_succ_le_zero _)
  | .op o l r, k + 1, h => eqP_tup3 eqP_str (T5.eqP l k (Nat.le_trans (Nat.le_max_left ..) (Nat.le_of_succ_le_succ h))) (T5.eqP r k (Nat.le_trans (Nat.le_max_right ..) (Nat.le_of_succ_le_succ h)))
theorem view_data {σ : St} {k : Nat} : ∀ ds : List D, mapO (view (k + 1) σ) (ds.map V.d) = some ds
  | [] => rfl
  | d :: r => by
    show Option.bind (some d) (fun y => Option.map _ (mapO (view (k + 1) σ) (r.map V.d))) = _
    rw [view_data r]
    rfl
theorem rd_data {ks : List Key} {ds : List D} : rd [(false, .dict ks (ds.map V.d))] (.obj 0) = some (.dict ks ds) := by
  show Option.map _ (mapO (view 5 _) (ds.map V.d)) = _
  rw [view_data]
  rfl
/-- a pure call with an object of the store for its first argument -/
theorem callN_obj1 {body : List Stmt} {H : Hints} {d n : Nat} {f : Str} {a x y : D} {σ : St} (hr : rd σ (.obj n) = some y) (h : ∀ σ, callN body H (d + 1) f [.d y, .d a] σ = some (.d x, σ)) (hp : plainD x = true) :
    callN body H (d + 1) f [.obj n, .d a] σ = some (.d x, σ) := by
  have h := h σ
  simp only [callN_s, Option.bind_eq_some_iff] at h ⊢
  obtain ⟨r, hr', h⟩ := h
  refine ⟨r, hr', ?_⟩
  split at h
  · cases h
  · rename_i hi
    rw [if_neg hi]
    have e1 : snaps σ [.d y, .d a] = some ([y, a], false) := rfl
    have e2 : snaps σ [.obj n, .d a] = some ([y, a], true) := by
      show Option.bind (rd σ (.obj n)) _ = _
      rw [hr]
      rfl
    rw [e1] at h
    rw [e2]
    simp only [Option.bind_some, Option.bind_eq_some_iff] at h ⊢
    obtain ⟨ρ, h1, fl, h2, z, h3, h4⟩ := h
    simp only [Bool.false_and, Bool.false_eq_true, if_false, Option.some.injEq, Prod.mk.injEq, V.d.injEq, and_true] at h4
    subst h4
    exact ⟨ρ, h1, fl, h2, z, h3, by rw [hp]; rfl⟩
theorem set_any {ks : List Key} {vs : List V} {x : Str} {v : V} (hz : ks.length < 100000) : setItemV [(false, .dict ks vs)] (.obj 0) (.d (.str x)) v = some [(false, .dict (putK (.s x) v ks vs).1 (putK (.s x) v ks vs).2)] := by
  show (if sizeOk ks.length = true then some _ else _) = _
  rw [if_pos (sizeOk_of hz)]
  rfl
theorem item_any {ks : List Key} {vs : List V} {x : Str} {v : V} (hl : ks.length = vs.length) : getItemV [(false, .dict (putK (.s x) v ks vs).1 (putK (.s x) v ks vs).2)] (.obj 0) (.d (.str x)) = some v := by
  show getK (.s x) (putK (.s x) v ks vs).1 (putK (.s x) v ks vs).2 = _
  rw [putK_get _ _ _ _ _ hl, if_pos rfl]
theorem set_putP {ns : List Str} {ks : List Key} {ps : List (Int × Int)} (h : Held InS ns ks ps) {x : Str} (hx : x ∈ ns) {a : Int × Int} (hz : ks.length < 100000) : setItemV [(false, .dict ks ((ps.map pD).map V.d))] (.obj 0) (.d (.str x)) (.d (pD a)) = some [(false, .dict ks (((putP x a ks ps).map pD).map V.d))] := by
  rw [set_held (e := pD) hz, putK_same (h.at hx).1]
  rfl
theorem hand_any {b : Bool} {β : Type} {e : β → D} {ks : List Key} {is : List β} : handD b [(false, .dict ks ((is.map e).map V.d))] (.obj 0) = some (.dict ks (is.map e)) := hand_held
theorem clear_ok {ks : List Key} {vs : List V} (hz : ks.length < 100000) : methV [(false, .dict ks vs)] .dclear (.obj 0) [] = some (.d .none, [(false, .dict [] [])]) := by
  show (if sizeOk ks.length = true then _ else _) = _
  rw [if_pos (sizeOk_of hz)]
  rfl
theorem not_none {o : Option (Int × Int)} {σ : St} : cmpV σ .IsNot (.d (sD o)) (.d .none) = some o.isSome := by cases o <;> rfl
theorem ne_pair {σ : St} {p q : Int × Int} : cmpV σ .NotEq (.d (pD p)) (.d (pD q)) = some (neP p q) := by
  show Option.map not (Option.map (fun c => c && decide ((2 : Nat) = 2)) (some (decide (p.1 = q.1) && (decide (p.2 = q.2) && true)))) = _
  rw [Bool.and_true]
  show some (!(_ && true)) = _
  rw [Bool.and_true]
  rfl
theorem get_putP {ns : List Str} {ks : List Key} {ps : List (Int × Int)} (h : Held InS ns ks ps) {x : Str} (hx : x ∈ ns) {a : Int × Int} : getK (.s x) ks (putP x a ks ps) = some a := by
  have e := putK_get (.s x) (.s x) a ks ps h.len
  rw [putK_same (h.at hx).1, if_pos rfl] at e
  exact e
/-- how the law says it -/
theorem side_neT {p q : Int × Int} (hp : p.1 ≤ p.2) (c1 : q.1 = q.2) (c : p.1 = q.1) : metS p (p.1 + (if decide (p.1 = q.1) then 1 else 0), p.2 - (if decide (p.2 = p.1) then 1 else 0)) = withoutS p q := by
  have e : withoutS p q = if p.1 + 1 > p.2 then none else some (p.1 + 1, p.2) := (if_pos c1).trans (if_pos c)
  rw [e, if_pos (decide_eq_true c)]
  by_cases h : p.2 = p.1
  · rw [if_pos (decide_eq_true h), if_pos (by omega)]
    cases m : metS p (p.1 + 1, p.2 - 1) with
    | none => rfl
    | some a => have := (metS_mem m).1; dsimp only at this; omega
  · rw [if_neg (by rw [decide_eq_false h]; exact Bool.false_ne_true), if_neg (by omega), Int.sub_zero]
    exact metS_sub (a := (p.1 + 1, p.2)) ⟨by dsimp only; omega, by dsimp only; omega, Int.le_refl _⟩
theorem side_neF {p q : Int × Int} (hp : p.1 ≤ p.2) (c1 : q.1 = q.2) (c : ¬ p.1 = q.1) (c2 : p.2 = q.1) : metS p (p.1 + (if decide (p.1 = q.1) then 1 else 0), p.2 - (if !(decide (p.1 = q.1)) then 1 else 0)) = withoutS p q := by
  have e : withoutS p q = some (p.1, p.2 - 1) := (if_pos c1).trans ((if_neg c).trans (if_pos c2))
  rw [e, decide_eq_false c]
  exact metS_sub (a := (p.1 + 0, p.2 - 1)) ⟨by dsimp only; omega, by dsimp only; omega, by dsimp only; omega⟩ |>.trans (by rw [Int.add_zero])
/-- the contrary condition -/
noncomputable def Sg.con : Sg → Sg
  | .lt => .le
  | .le => .lt
  | .eq => .ne
  | .ne => .eq
noncomputable def Sg.fst {β : Type} (g : Sg) (a b : β) : β := match g with
  | .lt => b
  | .le => b
  | .eq => a
  | .ne => a
noncomputable def Sg.snd {β : Type} (g : Sg) (a b : β) : β := match g with
  | .lt => a
  | .le => a
  | .eq => b
  | .ne => b
theorem con_ap {g : Sg} {a b : Int} : g.con.ap (g.fst a b) (g.snd a b) = !(g.ap a b) := by
  cases g with
  | lt => show decide (b ≤ a) = !(decide (a < b)); by_cases c : a < b <;> simp [c] <;> omega
  | le => show decide (b < a) = !(decide (a ≤ b)); by_cases c : a ≤ b <;> simp [c] <;> omega
  | eq => rfl
  | ne => exact (Bool.not_not _).symm
theorem con_cD {g : Sg} {x y : Option Int} {b : Bool} (h : cD g x y = .bool b) : cD g.con (g.fst x y) (g.snd x y) = .bool !b := by
  cases x with
  | none => cases h
  | some x => cases y with
    | none => cases h
    | some y =>
      cases h
      rw [← con_ap]
      cases g <;> rfl
theorem cD_two (g : Sg) (x y : Option Int) : cD g x y = .none ∨ ∃ v w, x = some v ∧ y = some w ∧ cD g x y = .bool (g.ap v w) := by
  cases x with
  | none => exact .inl rfl
  | some x => cases y with
    | none => exact .inl rfl
    | some y => exact .inr ⟨x, y, rfl, rfl, rfl⟩
theorem loop_ret {G : Genv} {body : List Stmt} {x : Str} {v u : V} {r : List V} {ρ ρ1 ρ' : Loc} {σ σ' : St} (hs : setV x v ρ = ρ1) (e : evSs G body ρ1 σ = some (.ret u, ρ', σ')) : loopL (fun v ρ σ => evSs G body (setV x v ρ) σ) (v :: r) ρ σ = some (.ret u, ρ', σ') := by
  show Option.bind (evSs G body (setV x v ρ) σ) _ = _
  rw [hs, e]
  rfl
theorem loop_next {G : Genv} {body : List Stmt} {x : Str} {v : V} {r : List V} {ρ ρ1 ρ' : Loc} {σ σ' : St} {y : Option (Fl × Loc × St)} (hs : setV x v ρ = ρ1) (e : evSs G body ρ1 σ = some (.next, ρ', σ')) (h : loopL (fun v ρ σ => evSs G body (setV x v ρ) σ) r ρ' σ' = y) : loopL (fun v ρ σ => evSs G body (setV x v ρ) σ) (v :: r) ρ σ = y := by
  show Option.bind (evSs G body (setV x v ρ) σ) _ = _
  rw [hs, e]
  exact h
/-- a loop over a dict that changes nothing -/
theorem dict_pass {G : Genv} {body : List Stmt} {x : Str} {L : V → Loc} {σ : St} (hs : ∀ u v, setV x v (L u) = L v) : ∀ {ks : List Key} (u : V), (∀ k ∈ ks, evSs G body (L (.d k.toD)) σ = some (.next, L (.d k.toD), σ)) → ∃ v, loopL (fun v ρ σ => evSs G body (setV x v ρ) σ) (ks.map fun k => V.d k.toD) (L u) σ = some (.next, L v, σ)
  | [], u, _ => ⟨u, rfl⟩
  | k :: ks, u, h => let ⟨v, e⟩ := dict_pass hs (.d k.toD) fun j hj => h j (.tail _ hj); ⟨v, loop_next (hs _ _) (h k (.head _)) e⟩
theorem dict_pass1 {G : Genv} {body : List Stmt} {x : Str} {L : V → Loc} {ρ : Loc} {σ : St} (hs0 : ∀ v, setV x v ρ = L v) (hs : ∀ u v, setV x v (L u) = L v) {ks : List Key} (h0 : ks ≠ []) (h : ∀ k ∈ ks, evSs G body (L (.d k.toD)) σ = some (.next, L (.d k.toD), σ)) : ∃ v, loopL (fun v ρ σ => evSs G body (setV x v ρ) σ) (ks.map fun k => V.d k.toD) ρ σ = some (.next, L v, σ) := by
  cases ks with
  | nil => exact absurd rfl h0
  | cons k ks => exact let ⟨v, e⟩ := dict_pass hs (.d k.toD) fun j hj => h j (.tail _ hj); ⟨v, loop_next (hs0 _) (h k (.head _)) e⟩
theorem held_len {β : Type} {e : β → D} {P : β → Prop} {ns : List Str} {ks : List Key} {is : List β} (h : Held P ns ks is) : ks.length = ((is.map e).map V.d).length := by rw [List.length_map, List.length_map, h.len]
theorem held_get {β : Type} {P : β → Prop} {ns : List Str} {ks : List Key} {is : List β} (h : Held P ns ks is) {k : Key} (hk : k ∈ ks) : ∃ w, getK k ks is = some w := by
  obtain ⟨n, hn, e⟩ := List.getElem_of_mem hk
  exact ⟨_, getK_nodup h.nd (by rw [List.getElem?_eq_getElem hn, e]) (List.getElem?_eq_getElem (h.len ▸ hn))⟩
noncomputable def ninP (c : Int) (p : Int × Int) : Bool := !(decide (p.1 = c) || decide (p.2 = c))
theorem nin_pair {σ : St} {c : Int} {p : Int × Int} : cmpV σ .NotIn (.d (.int c)) (.d (pD p)) = some (ninP c p) := by
  show Option.map not (some (decide (p.1 = c) || (decide (p.2 = c) || false))) = _
  rw [Bool.or_false]
  rfl
end Mine
end

section
open PySem
set_option maxRecDepth 100000
set_option autoImplicit false
set_option linter.unusedVariables false
namespace Mine
noncomputable abbrev B09 : List Stmt := PySem.Challenge.rw_uf010002_09.prog.main.body
noncomputable def H09 : Hints := ⟨[((Str.ofString "_law_stream"), (Str.ofString "_law_found")), ((Str.ofString "_law_names"), (Str.ofString "_law_row")), ((Str.ofString "_law_names"), (Str.ofString "_law_found")), ((Str.ofString "_law_known"), (Str.ofString "_law_known_here")), ((Str.ofString "_law_held"), (Str.ofString "_law_held_here")), ((Str.ofString "kept"), (Str.ofString "found")), ((Str.ofString "_law_kept"), (Str.ofString "_law_made")), ((Str.ofString "_law_good"), (Str.ofString "_law_found"))], [Str.ofString "kept"], [], [((Str.ofString "LIMIT"), D.int (1000000))]⟩
theorem L09_f_cut : findFn (Str.ofString "cut") B09 = some (fnAt B09 0) := by kernel_rfl
theorem L09_f_plus : findFn (Str.ofString "plus") B09 = some (fnAt B09 1) := by kernel_rfl
theorem L09_f_minus : findFn (Str.ofString "minus") B09 = some (fnAt B09 2) := by kernel_rfl
theorem L09_f_times : findFn (Str.ofString "times") B09 = some (fnAt B09 3) := by kernel_rfl
theorem L09_f_rest : findFn (Str.ofString "rest") B09 = some (fnAt B09 4) := by kernel_rfl
theorem L09_f_met : findFn (Str.ofString "met") B09 = some (fnAt B09 5) := by kernel_rfl
theorem L09_f_reach : findFn (Str.ofString "reach") B09 = some (fnAt B09 6) := by kernel_rfl
theorem L09_f_may_hold : findFn (Str.ofString "may_hold") B09 = some (fnAt B09 7) := by kernel_rfl
theorem L09_f_without : findFn (Str.ofString "without") B09 = some (fnAt B09 8) := by kernel_rfl
theorem L09_f_left_side : findFn (Str.ofString "left_side") B09 = some (fnAt B09 9) := by kernel_rfl
theorem L09_f_right_side : findFn (Str.ofString "right_side") B09 = some (fnAt B09 10) := by kernel_rfl
theorem L09_f_kept : findFn (Str.ofString "kept") B09 = some (fnAt B09 11) := by kernel_rfl
theorem L09_f_contrary : findFn (Str.ofString "contrary") B09 = some (fnAt B09 12) := by kernel_rfl
theorem L09_f__law_cell_at : findFn (Str.ofString "_law_cell_at") B09 = some (fnAt B09 13) := by kernel_rfl
theorem L09_f__law_stream : findFn (Str.ofString "_law_stream") B09 = some (fnAt B09 14) := by kernel_rfl
theorem L09_f__law_number : findFn (Str.ofString "_law_number") B09 = some (fnAt B09 15) := by kernel_rfl
theorem L09_f__law_names : findFn (Str.ofString "_law_names") B09 = some (fnAt B09 16) := by kernel_rfl
theorem L09_f__law_leaf : findFn (Str.ofString "_law_leaf") B09 = some (fnAt B09 17) := by kernel_rfl
theorem L09_f__law_tree : findFn (Str.ofString "_law_tree") B09 = some (fnAt B09 18) := by kernel_rfl
theorem L09_f__law_expression : findFn (Str.ofString "_law_expression") B09 = some (fnAt B09 19) := by kernel_rfl
theorem L09_f__law_condition : findFn (Str.ofString "_law_condition") B09 = some (fnAt B09 20) := by kernel_rfl
theorem L09_f__law_worth : findFn (Str.ofString "_law_worth") B09 = some (fnAt B09 21) := by kernel_rfl
theorem L09_f__law_holds : findFn (Str.ofString "_law_holds") B09 = some (fnAt B09 22) := by kernel_rfl
theorem L09_f__law_whole : findFn (Str.ofString "_law_whole") B09 = some (fnAt B09 23) := by kernel_rfl
theorem L09_f__law_is_stretch : findFn (Str.ofString "_law_is_stretch") B09 = some (fnAt B09 24) := by kernel_rfl
theorem L09_f__law_alike : findFn (Str.ofString "_law_alike") B09 = some (fnAt B09 25) := by kernel_rfl
theorem L09_f__law_stretch : findFn (Str.ofString "_law_stretch") B09 = some (fnAt B09 26) := by kernel_rfl
theorem L09_f__law_known : findFn (Str.ofString "_law_known") B09 = some (fnAt B09 27) := by kernel_rfl
theorem L09_f__law_one_of : findFn (Str.ofString "_law_one_of") B09 = some (fnAt B09 28) := by kernel_rfl
theorem L09_f__law_held : findFn (Str.ofString "_law_held") B09 = some (fnAt B09 29) := by kernel_rfl
theorem L09_f__law_cut : findFn (Str.ofString "_law_cut") B09 = some (fnAt B09 30) := by kernel_rfl
theorem L09_f__law_reach : findFn (Str.ofString "_law_reach") B09 = some (fnAt B09 31) := by kernel_rfl
theorem L09_f__law_met : findFn (Str.ofString "_law_met") B09 = some (fnAt B09 32) := by kernel_rfl
theorem L09_f__law_side : findFn (Str.ofString "_law_side") B09 = some (fnAt B09 33) := by kernel_rfl
theorem L09_f__law_kept : findFn (Str.ofString "_law_kept") B09 = some (fnAt B09 34) := by kernel_rfl
theorem L09_f__law_contrary : findFn (Str.ofString "_law_contrary") B09 = some (fnAt B09 35) := by kernel_rfl
theorem L09_f__law_same_dict : findFn (Str.ofString "_law_same_dict") B09 = some (fnAt B09 36) := by kernel_rfl
theorem L09_f__law_told : findFn (Str.ofString "_law_told") B09 = some (fnAt B09 37) := by kernel_rfl
theorem L09_f__law_good : findFn (Str.ofString "_law_good") B09 = some (fnAt B09 38) := by kernel_rfl
theorem L09_f_law : findFn (Str.ofString "law") B09 = some (fnAt B09 39) := by kernel_rfl
theorem L09_imp (f : Str) : H09.impure.contains f = false := rfl
theorem L09_cell_at_T (d : Nat) (ns : List Int) (k : Int) (w1 : Int) (h1 : bfV [] .len [V.d (D.list (ns.map D.int))] = some (V.d (D.int (((List.length ns : Nat) : Int))))) (h2 : k < (((List.length ns : Nat) : Int))) (h3 : idxL (ns.map D.int) (k) = some (D.int (w1))) (σ : St) : callN B09 H09 (d + 1) (Str.ofString "_law_cell_at") [V.d (D.list (ns.map D.int)), V.d (D.int (k))] σ = some (V.d (D.int (w1)), σ) :=
  path (ds := [D.list (ns.map D.int), D.int (k)]) (i := 13) (x := D.int (w1)) (P := (bfV [] .len [V.d (D.list (ns.map D.int))] = some (V.d (D.int (((List.length ns : Nat) : Int))))) ∧ (some (decide (k < (((List.length ns : Nat) : Int)))) = some true) ∧ (getItemV [] (V.d (D.list (ns.map D.int))) (V.d (D.int (k))) = some (V.d (D.int (w1)))) ∧ some (D.int (w1)) = some (D.int (w1))) [(0, Tell.v (V.d (D.int (((List.length ns : Nat) : Int))))), (2, Tell.b true), (3, Tell.v (V.d (D.int (w1))))] L09_f__law_cell_at (L09_imp _) (by kernel_rfl) ⟨h1, dT h2, idx_list h3, rfl⟩ σ
theorem L09_cell_at_F (d : Nat) (ns : List Int) (k : Int)  (h1 : bfV [] .len [V.d (D.list (ns.map D.int))] = some (V.d (D.int (((List.length ns : Nat) : Int))))) (h2 : ¬ (k < (((List.length ns : Nat) : Int)))) (σ : St) : callN B09 H09 (d + 1) (Str.ofString "_law_cell_at") [V.d (D.list (ns.map D.int)), V.d (D.int (k))] σ = some (V.d (D.int (0)), σ) :=
  path (ds := [D.list (ns.map D.int), D.int (k)]) (i := 13) (x := D.int (0)) (P := (bfV [] .len [V.d (D.list (ns.map D.int))] = some (V.d (D.int (((List.length ns : Nat) : Int))))) ∧ (some (decide (k < (((List.length ns : Nat) : Int)))) = some false) ∧ some (D.int (0)) = some (D.int (0))) [(0, Tell.v (V.d (D.int (((List.length ns : Nat) : Int))))), (2, Tell.b false)] L09_f__law_cell_at (L09_imp _) (by kernel_rfl) ⟨h1, dF h2, rfl⟩ σ
theorem L09_cell_at (d : Nat) (ns : List Int) (k : Int) (hk : 0 ≤ k) (hk' : k < 100) (hn : ns.length ≤ 63) : ∃ c : Int, ∀ σ, callN B09 H09 (d + 1) (Str.ofString "_law_cell_at") [.d (.list (ns.map .int)), .d (.int k)] σ = some (.d (.int c), σ) := by
  by_cases h : k < (ns.length : Int)
  · obtain ⟨c, _, e⟩ := idx_ints hk h (by omega)
    exact ⟨c, L09_cell_at_T d ns k c (len_ints (by omega)) h e⟩
  · exact ⟨0, L09_cell_at_F d ns k (len_ints (by omega)) h⟩
noncomputable def L09_L (c m n : Int) (old : V) : Loc := [(Str.ofString "_law_cell", .d (.int c)), (Str.ofString "_law_many", .d (.int m)), (Str.ofString "_law_found", .obj 0), (Str.ofString "_law_number_here", .d (.int n)), (Str.ofString "_law_k", old)]
theorem L09_step0 (d : Nat) (c m n k : Int) (vs : List Int)  (h1 : small n = true) (h2 : methV [(false, MO.list (((vs).map D.int).map V.d))] .append (V.obj 0) [V.d (D.int ((((n * n) + (48271 * n)) + k) % 2147483647))] = some (V.d D.none, [(false, MO.list (((vs ++ [(((n * n) + (48271 * n)) + k) % 2147483647]).map D.int).map V.d))])) : evSs (gen B09 H09 (d) (Str.ofString "_law_stream")) (forBody (stAt B09 14 2)) [(Str.ofString "_law_cell", V.d (D.int (c))), (Str.ofString "_law_many", V.d (D.int (m))), (Str.ofString "_law_found", V.obj 0), (Str.ofString "_law_number_here", V.d (D.int (n))), (Str.ofString "_law_k", V.d (D.int (k)))] ([(false, MO.list (((vs).map D.int).map V.d))]) = some (Fl.next, [(Str.ofString "_law_cell", V.d (D.int (c))), (Str.ofString "_law_many", V.d (D.int (m))), (Str.ofString "_law_found", V.obj 0), (Str.ofString "_law_number_here", V.d (D.int ((((n * n) + (48271 * n)) + k) % 2147483647))), (Str.ofString "_law_k", V.d (D.int (k)))], [(false, MO.list (((vs ++ [(((n * n) + (48271 * n)) + k) % 2147483647]).map D.int).map V.d))]) :=
  pathS (P := (binV [(false, MO.list (((vs).map D.int).map V.d))] .Mult (V.d (D.int (n))) (V.d (D.int (n))) = some (V.d (D.int (n * n)))) ∧ (methV [(false, MO.list (((vs).map D.int).map V.d))] .append (V.obj 0) [V.d (D.int ((((n * n) + (48271 * n)) + k) % 2147483647))] = some (V.d D.none, [(false, MO.list (((vs ++ [(((n * n) + (48271 * n)) + k) % 2147483647]).map D.int).map V.d))])) ∧ ((Fl.next, [(Str.ofString "_law_cell", V.d (D.int (c))), (Str.ofString "_law_many", V.d (D.int (m))), (Str.ofString "_law_found", V.obj 0), (Str.ofString "_law_number_here", V.d (D.int ((((n * n) + (48271 * n)) + k) % 2147483647))), (Str.ofString "_law_k", V.d (D.int (k)))], [(false, MO.list (((vs ++ [(((n * n) + (48271 * n)) + k) % 2147483647]).map D.int).map V.d))]) : Fl × Loc × St) = (Fl.next, [(Str.ofString "_law_cell", V.d (D.int (c))), (Str.ofString "_law_many", V.d (D.int (m))), (Str.ofString "_law_found", V.obj 0), (Str.ofString "_law_number_here", V.d (D.int ((((n * n) + (48271 * n)) + k) % 2147483647))), (Str.ofString "_law_k", V.d (D.int (k)))], [(false, MO.list (((vs ++ [(((n * n) + (48271 * n)) + k) % 2147483647]).map D.int).map V.d))])) [(0, Tell.v (V.d (D.int (n * n)))), (5, Tell.w (V.d D.none) [(false, MO.list (((vs ++ [(((n * n) + (48271 * n)) + k) % 2147483647]).map D.int).map V.d))])] (by kernel_rfl) ⟨mul_ok h1, h2, rfl⟩
theorem L09_stream_0 (d : Nat) (c m n' : Int) (old : V) (ws : List Int)  (h1 : evS (gen B09 H09 (d) (Str.ofString "_law_stream")) (stAt B09 14 2) [(Str.ofString "_law_cell", V.d (D.int (c))), (Str.ofString "_law_many", V.d (D.int (m))), (Str.ofString "_law_found", V.obj 0), (Str.ofString "_law_number_here", V.d (D.int ((c % 2147483647) + 48271)))] [(false, MO.list [])] = some (Fl.next, [(Str.ofString "_law_cell", V.d (D.int (c))), (Str.ofString "_law_many", V.d (D.int (m))), (Str.ofString "_law_found", V.obj 0), (Str.ofString "_law_number_here", V.d (D.int (n'))), (Str.ofString "_law_k", old)], [(false, MO.list (((ws).map D.int).map V.d))])) (h2 : sliceV [(false, MO.list (((ws).map D.int).map V.d))] (V.obj 0) 1 none = some (V.d (D.list ((ws.drop 1).map D.int)))) (σ : St) : callN B09 H09 (d + 1) (Str.ofString "_law_stream") [V.d (D.int (c)), V.d (D.int (m))] σ = some (V.d (D.list ((ws.drop 1).map D.int)), σ) :=
  path (ds := [D.int (c), D.int (m)]) (i := 14) (x := D.list ((ws.drop 1).map D.int)) (P := (evS (gen B09 H09 (d) (Str.ofString "_law_stream")) (stAt B09 14 2) [(Str.ofString "_law_cell", V.d (D.int (c))), (Str.ofString "_law_many", V.d (D.int (m))), (Str.ofString "_law_found", V.obj 0), (Str.ofString "_law_number_here", V.d (D.int ((c % 2147483647) + 48271)))] [(false, MO.list [])] = some (Fl.next, [(Str.ofString "_law_cell", V.d (D.int (c))), (Str.ofString "_law_many", V.d (D.int (m))), (Str.ofString "_law_found", V.obj 0), (Str.ofString "_law_number_here", V.d (D.int (n'))), (Str.ofString "_law_k", old)], [(false, MO.list (((ws).map D.int).map V.d))])) ∧ (sliceV [(false, MO.list (((ws).map D.int).map V.d))] (V.obj 0) 1 none = some (V.d (D.list ((ws.drop 1).map D.int)))) ∧ some (D.list ((ws.drop 1).map D.int)) = some (D.list ((ws.drop 1).map D.int))) [(3, Tell.f Fl.next [(Str.ofString "_law_cell", V.d (D.int (c))), (Str.ofString "_law_many", V.d (D.int (m))), (Str.ofString "_law_found", V.obj 0), (Str.ofString "_law_number_here", V.d (D.int (n'))), (Str.ofString "_law_k", old)] [(false, MO.list (((ws).map D.int).map V.d))]), (4, Tell.v (V.d (D.list ((ws.drop 1).map D.int))))] L09_f__law_stream (L09_imp _) (by kernel_rfl) ⟨h1, h2, rfl⟩ σ
theorem L09_step (d : Nat) (c m n k : Int) (vs : List Int) (hk : 0 ≤ k) (hk' : k ≤ 200) (hv : vs.length ≤ 200) (hn : 0 ≤ n ∧ n < 4294967296) : ∃ j, (0 ≤ j ∧ j < 4294967296) ∧ evSs (gen B09 H09 d (Str.ofString "_law_stream")) (forBody (stAt B09 14 2)) (L09_L c m n (.d (.int k))) [(false, .list ((vs.map D.int).map V.d))] = some (.next, L09_L c m j (.d (.int k)), [(false, .list (((vs ++ [j]).map D.int).map V.d))]) := by
  refine ⟨(n * n + 48271 * n + k) % 2147483647, ⟨by omega, by omega⟩, ?_⟩
  exact L09_step0 d c m n k vs (small_of_lt (by omega) (by omega)) (app_ints (by omega))
theorem L09_stream (d : Nat) (c m : Int) (hm : 0 ≤ m) (hm' : m ≤ 100) : ∃ xs : List Int, xs.length = m.toNat ∧ (∀ x ∈ xs, 0 ≤ x ∧ x < 4294967296) ∧ ∀ σ, callN B09 H09 (d + 1) (Str.ofString "_law_stream") [.d (.int c), .d (.int m)] σ = some (.d (.list (xs.map .int)), σ) := by
  have hs0 : ∀ n v, setV (Str.ofString "_law_k") v [(Str.ofString "_law_cell", .d (.int c)), (Str.ofString "_law_many", .d (.int m)), (Str.ofString "_law_found", .obj 0), (Str.ofString "_law_number_here", .d (.int n))] = L09_L c m n v := fun n v => by kernel_rfl
  have hs1 : ∀ n u v, setV (Str.ofString "_law_k") v (L09_L c m n u) = L09_L c m n v := fun n u v => by kernel_rfl
  obtain ⟨ws, n', old, h1, h2, h3⟩ := stream_all (f := fun v ρ σ => evSs (gen B09 H09 d (Str.ofString "_law_stream")) (forBody (stAt B09 14 2)) (setV (Str.ofString "_law_k") v ρ) σ) (L := L09_L c m) (P := fun n => 0 ≤ n ∧ n < 4294967296) (ρ := [(Str.ofString "_law_cell", .d (.int c)), (Str.ofString "_law_many", .d (.int m)), (Str.ofString "_law_found", .obj 0), (Str.ofString "_law_number_here", .d (.int (c % 2147483647 + 48271)))])
    (by rw [hs0]; exact L09_step d c m _ 0 [] (by omega) (by omega) (Nat.zero_le _) ⟨by omega, by omega⟩)
    (fun n k old vs a1 a2 a3 a4 => by rw [hs1]; exact L09_step d c m n k vs a1 a2 a3 a4) m.toNat (by omega)
  refine ⟨ws.drop 1, by rw [List.length_drop]; omega, fun x hx => h2 x (List.mem_of_mem_drop hx), L09_stream_0 d c m n' old ws ?_ (slice_ints (by omega))⟩
  have he : evE (gen B09 H09 d (Str.ofString "_law_stream")) [(Str.ofString "_law_cell", .d (.int c)), (Str.ofString "_law_many", .d (.int m)), (Str.ofString "_law_found", .obj 0), (Str.ofString "_law_number_here", .d (.int (c % 2147483647 + 48271)))] false (rangeArg (stAt B09 14 2)) [(false, .list [])] = some (.d (.int (m + 1)), [(false, .list [])]) := by kernel_rfl
  refine for_range (x := Str.ofString "_law_k") (body := forBody (stAt B09 14 2)) rfl he (by omega) ?_
  rw [show (m + 1).toNat = m.toNat + 1 by omega]
  exact h3
theorem L09_number_T (d : Nat) (x : Int)  (h1 : (x % 8) < 4) (σ : St) : callN B09 H09 (d + 1) (Str.ofString "_law_number") [V.d (D.int (x))] σ = some (V.d (D.int (((x / 8) % 27) - 6)), σ) :=
  path (ds := [D.int (x)]) (i := 15) (x := D.int (((x / 8) % 27) - 6)) (P := (some (decide ((x % 8) < 4)) = some true) ∧ some (D.int (((x / 8) % 27) - 6)) = some (D.int (((x / 8) % 27) - 6))) [(2, Tell.b true)] L09_f__law_number (L09_imp _) (by kernel_rfl) ⟨dT h1, rfl⟩ σ
theorem L09_number_F (d : Nat) (x : Int) (w1 : Int) (w2 : Int) (h1 : ¬ ((x % 8) < 4)) (h2 : idxL [D.int (1000000), D.int (-1000000), D.int (999999), D.int (-999999)] ((x / 8) % 4) = some (D.int (w1))) (h3 : idxL [D.int (((x / 8) % 2000001) - 1000000), D.int (w1), D.int (((x / 8) % 2001) - 1000)] (if ((x % 8) - 4) < 2 then (x % 8) - 4 else 2) = some (D.int (w2))) (σ : St) : callN B09 H09 (d + 1) (Str.ofString "_law_number") [V.d (D.int (x))] σ = some (V.d (D.int (w2)), σ) :=
  path (ds := [D.int (x)]) (i := 15) (x := D.int (w2)) (P := (some (decide ((x % 8) < 4)) = some false) ∧ (getItemV [] (V.d (D.list [D.int (1000000), D.int (-1000000), D.int (999999), D.int (-999999)])) (V.d (D.int ((x / 8) % 4))) = some (V.d (D.int (w1)))) ∧ (getItemV [] (V.d (D.list [D.int (((x / 8) % 2000001) - 1000000), D.int (w1), D.int (((x / 8) % 2001) - 1000)])) (V.d (D.int (if ((x % 8) - 4) < 2 then (x % 8) - 4 else 2))) = some (V.d (D.int (w2)))) ∧ some (D.int (w2)) = some (D.int (w2))) [(2, Tell.b false), (9, Tell.v (V.d (D.int (w1)))), (17, Tell.v (V.d (D.int (w2))))] L09_f__law_number (L09_imp _) (by kernel_rfl) ⟨dF h1, idx_list h2, idx_list h3, rfl⟩ σ
theorem L09_number (d : Nat) (x : Int) (hx : 0 ≤ x) : ∃ r : Int, -1000000 ≤ r ∧ r ≤ 1000000 ∧ ∀ σ, callN B09 H09 (d + 1) (Str.ofString "_law_number") [.d (.int x)] σ = some (.d (.int r), σ) := by
  by_cases h : x % 8 < 4
  · exact ⟨_, by omega, by omega, L09_number_T d x h⟩
  · obtain ⟨w1, b1, e1⟩ := pick4 (P := fun w => -1000000 ≤ w ∧ w ≤ 1000000) (i := x / 8 % 4) (a := 1000000) (b := -1000000) (c := 999999) (d := -999999) (mod4 _) (by decide) (by decide) (by decide) (by decide)
    obtain ⟨w2, b2, e2⟩ := pick3 (P := fun w => -1000000 ≤ w ∧ w ≤ 1000000) (i := if x % 8 - 4 < 2 then x % 8 - 4 else 2) (a := x / 8 % 2000001 - 1000000) (b := w1) (c := x / 8 % 2001 - 1000) (by omega) (by omega) b1 (by omega)
    exact ⟨w2, b2.1, b2.2, L09_number_F d x w1 w2 h e1 e2⟩
theorem L09_whole_0 (d : Nat) (x : Int)   (σ : St) : callN B09 H09 (d + 1) (Str.ofString "_law_whole") [V.d (D.int (x))] σ = some (V.d (D.bool (true)), σ) :=
  path (ds := [D.int (x)]) (i := 23) (x := D.bool (true)) (P := some (D.bool (true)) = some (D.bool (true))) [] L09_f__law_whole (L09_imp _) (by kernel_rfl) rfl σ
theorem L09_is_stretch_n_0 (d : Nat)   (σ : St) : callN B09 H09 (d + 1 + 1) (Str.ofString "_law_is_stretch") [V.d (D.none)] σ = some (V.d (D.bool (false)), σ) :=
  path (ds := [D.none]) (i := 24) (x := D.bool (false)) (P := some (D.bool (false)) = some (D.bool (false))) [] L09_f__law_is_stretch (L09_imp _) (by kernel_rfl) rfl σ
theorem L09_is_stretch_s_0 (d : Nat) (a b : Int)  (hc1 : ∀ σ, callN B09 H09 (d + 1) (Str.ofString "_law_whole") [V.d (D.int (a))] σ = some (V.d (D.bool (true)), σ)) (hc2 : ∀ σ, callN B09 H09 (d + 1) (Str.ofString "_law_whole") [V.d (D.int (b))] σ = some (V.d (D.bool (true)), σ)) (σ : St) : callN B09 H09 (d + 1 + 1) (Str.ofString "_law_is_stretch") [V.d (D.tup [D.int (a), D.int (b)])] σ = some (V.d (D.bool (true)), σ) :=
  path (ds := [D.tup [D.int (a), D.int (b)]]) (i := 24) (x := D.bool (true)) (P := (callN B09 H09 (d + 1) (Str.ofString "_law_whole") [V.d (D.int (a))] [] = some (V.d (D.bool (true)), [])) ∧ (callN B09 H09 (d + 1) (Str.ofString "_law_whole") [V.d (D.int (b))] [] = some (V.d (D.bool (true)), [])) ∧ some (D.bool (true)) = some (D.bool (true))) [(7, Tell.w (V.d (D.bool (true))) []), (10, Tell.w (V.d (D.bool (true))) [])] L09_f__law_is_stretch (L09_imp _) (by kernel_rfl) ⟨hc1 _, hc2 _, rfl⟩ σ
theorem L09_stretch_0 (d : Nat) (x y lo : Int) (w1 : Int) (hc1 : ∀ σ, callN B09 H09 (d + 1) (Str.ofString "_law_number") [V.d (D.int (x))] σ = some (V.d (D.int (lo)), σ)) (h1 : idxL [D.int (0), D.int ((y / 4) % 9), D.int ((y / 4) % 3000), D.int ((y / 4) % 2000001)] (y % 4) = some (D.int (w1))) (σ : St) : callN B09 H09 (d + 1 + 1) (Str.ofString "_law_stretch") [V.d (D.int (x)), V.d (D.int (y))] σ = some (V.d (D.tup [D.int (lo), D.int (if (lo + w1) < 1000000 then lo + w1 else 1000000)]), σ) :=
  path (ds := [D.int (x), D.int (y)]) (i := 26) (x := D.tup [D.int (lo), D.int (if (lo + w1) < 1000000 then lo + w1 else 1000000)]) (P := (callN B09 H09 (d + 1) (Str.ofString "_law_number") [V.d (D.int (x))] [] = some (V.d (D.int (lo)), [])) ∧ (getItemV [] (V.d (D.list [D.int (0), D.int ((y / 4) % 9), D.int ((y / 4) % 3000), D.int ((y / 4) % 2000001)])) (V.d (D.int (y % 4))) = some (V.d (D.int (w1)))) ∧ some (D.tup [D.int (lo), D.int (if (lo + w1) < 1000000 then lo + w1 else 1000000)]) = some (D.tup [D.int (lo), D.int (if (lo + w1) < 1000000 then lo + w1 else 1000000)])) [(0, Tell.w (V.d (D.int (lo))) []), (9, Tell.v (V.d (D.int (w1))))] L09_f__law_stretch (L09_imp _) (by kernel_rfl) ⟨hc1 _, idx_list h1, rfl⟩ σ
theorem L09_stretch (d : Nat) (x y : Int) (hx : 0 ≤ x) (hy : 0 ≤ y) : ∃ a b : Int, -1000000 ≤ a ∧ a ≤ b ∧ b ≤ 1000000 ∧ ∀ σ, callN B09 H09 (d + 1 + 1) (Str.ofString "_law_stretch") [.d (.int x), .d (.int y)] σ = some (.d (.tup [.int a, .int b]), σ) := by
  obtain ⟨lo, h1, h2, e0⟩ := L09_number d x hx
  obtain ⟨w, hw, e1⟩ := pick4 (P := fun w => 0 ≤ w) (i := y % 4) (a := 0) (b := y / 4 % 9) (c := y / 4 % 3000) (d := y / 4 % 2000001) (mod4 _) (by decide) (by omega) (by omega) (by omega)
  exact ⟨_, _, h1, by omega, by omega, L09_stretch_0 d x y lo w e0 e1⟩
theorem L09_lworth_n_0 (d : Nat) (n : Int) (hd : D)   (σ : St) : callN B09 H09 (d + 1) (Str.ofString "_law_worth") [V.d (D.int (n)), V.d (hd)] σ = some (V.d (D.int (n)), σ) :=
  path (ds := [D.int (n), hd]) (i := 21) (x := D.int (n)) (P := some (D.int (n)) = some (D.int (n))) [] L09_f__law_worth (L09_imp _) (by kernel_rfl) rfl σ
theorem L09_lworth_s_0 (d : Nat) (x : Str) (hd it : D)  (h1 : getItemV [] (V.d (hd)) (V.d (D.str (x))) = some (V.d (it))) (σ : St) : callN B09 H09 (d + 1) (Str.ofString "_law_worth") [V.d (D.str (x)), V.d (hd)] σ = some (V.d (it), σ) :=
  path (ds := [D.str (x), hd]) (i := 21) (x := it) (P := (getItemV [] (V.d (hd)) (V.d (D.str (x))) = some (V.d (it))) ∧ some (it) = some (it)) [(2, Tell.v (V.d (it)))] L09_f__law_worth (L09_imp _) (by kernel_rfl) ⟨h1, rfl⟩ σ
theorem L09_lworth_r0_0 (d : Nat) (t1 hd : D) (k : Int)  (hc1 : ∀ σ, callN B09 H09 (d) (Str.ofString "_law_worth") [V.d (t1), V.d (hd)] σ = some (V.d (D.none), σ)) (hc2 : ∀ σ, callN B09 H09 (d) (Str.ofString "_law_worth") [V.d (D.int (k)), V.d (hd)] σ = some (V.d (D.int (k)), σ)) (σ : St) : callN B09 H09 (d + 1) (Str.ofString "_law_worth") [V.d (D.tup [D.str (Str.ofString "rest"), t1, D.int (k)]), V.d (hd)] σ = some (V.d (D.none), σ) :=
  path (ds := [D.tup [D.str (Str.ofString "rest"), t1, D.int (k)], hd]) (i := 21) (x := D.none) (P := (callN B09 H09 (d) (Str.ofString "_law_worth") [V.d (t1), V.d (hd)] [] = some (V.d (D.none), [])) ∧ (callN B09 H09 (d) (Str.ofString "_law_worth") [V.d (D.int (k)), V.d (hd)] [] = some (V.d (D.int (k)), [])) ∧ some (D.none) = some (D.none)) [(6, Tell.w (V.d (D.none)) []), (8, Tell.w (V.d (D.int (k))) [])] L09_f__law_worth (L09_imp _) (by kernel_rfl) ⟨hc1 _, hc2 _, rfl⟩ σ
theorem L09_lworth_r1_0 (d : Nat) (t1 hd : D) (k a : Int)  (hc1 : ∀ σ, callN B09 H09 (d) (Str.ofString "_law_worth") [V.d (t1), V.d (hd)] σ = some (V.d (D.int (a)), σ)) (hc2 : ∀ σ, callN B09 H09 (d) (Str.ofString "_law_worth") [V.d (D.int (k)), V.d (hd)] σ = some (V.d (D.int (k)), σ)) (h1 : 0 < k ∧ k < 1000000000) (h2 : small (a / k) = true) (σ : St) : callN B09 H09 (d + 1) (Str.ofString "_law_worth") [V.d (D.tup [D.str (Str.ofString "rest"), t1, D.int (k)]), V.d (hd)] σ = some (V.d (D.int (a - ((a / k) * k))), σ) :=
  path (ds := [D.tup [D.str (Str.ofString "rest"), t1, D.int (k)], hd]) (i := 21) (x := D.int (a - ((a / k) * k))) (P := (callN B09 H09 (d) (Str.ofString "_law_worth") [V.d (t1), V.d (hd)] [] = some (V.d (D.int (a)), [])) ∧ (callN B09 H09 (d) (Str.ofString "_law_worth") [V.d (D.int (k)), V.d (hd)] [] = some (V.d (D.int (k)), [])) ∧ (binV [] .FloorDiv (V.d (D.int (a))) (V.d (D.int (k))) = some (V.d (D.int (a / k)))) ∧ (binV [] .Mult (V.d (D.int (a / k))) (V.d (D.int (k))) = some (V.d (D.int ((a / k) * k)))) ∧ some (D.int (a - ((a / k) * k))) = some (D.int (a - ((a / k) * k)))) [(6, Tell.w (V.d (D.int (a))) []), (8, Tell.w (V.d (D.int (k))) []), (16, Tell.v (V.d (D.int (a / k)))), (17, Tell.v (V.d (D.int ((a / k) * k))))] L09_f__law_worth (L09_imp _) (by kernel_rfl) ⟨hc1 _, hc2 _, div_ok h1, mul_ok h2, rfl⟩ σ
theorem L09_lworth_p0_0 (d : Nat) (t1 t2 hd rr : D)  (hc1 : ∀ σ, callN B09 H09 (d) (Str.ofString "_law_worth") [V.d (t1), V.d (hd)] σ = some (V.d (D.none), σ)) (hc2 : ∀ σ, callN B09 H09 (d) (Str.ofString "_law_worth") [V.d (t2), V.d (hd)] σ = some (V.d (rr), σ)) (σ : St) : callN B09 H09 (d + 1) (Str.ofString "_law_worth") [V.d (D.tup [D.str (Str.ofString "+"), t1, t2]), V.d (hd)] σ = some (V.d (D.none), σ) :=
  path (ds := [D.tup [D.str (Str.ofString "+"), t1, t2], hd]) (i := 21) (x := D.none) (P := (callN B09 H09 (d) (Str.ofString "_law_worth") [V.d (t1), V.d (hd)] [] = some (V.d (D.none), [])) ∧ (callN B09 H09 (d) (Str.ofString "_law_worth") [V.d (t2), V.d (hd)] [] = some (V.d (rr), [])) ∧ some (D.none) = some (D.none)) [(6, Tell.w (V.d (D.none)) []), (8, Tell.w (V.d (rr)) [])] L09_f__law_worth (L09_imp _) (by kernel_rfl) ⟨hc1 _, hc2 _, rfl⟩ σ
theorem L09_lworth_p1_0 (d : Nat) (t1 t2 hd : D) (a : Int)  (hc1 : ∀ σ, callN B09 H09 (d) (Str.ofString "_law_worth") [V.d (t1), V.d (hd)] σ = some (V.d (D.int (a)), σ)) (hc2 : ∀ σ, callN B09 H09 (d) (Str.ofString "_law_worth") [V.d (t2), V.d (hd)] σ = some (V.d (D.none), σ)) (σ : St) : callN B09 H09 (d + 1) (Str.ofString "_law_worth") [V.d (D.tup [D.str (Str.ofString "+"), t1, t2]), V.d (hd)] σ = some (V.d (D.none), σ) :=
  path (ds := [D.tup [D.str (Str.ofString "+"), t1, t2], hd]) (i := 21) (x := D.none) (P := (callN B09 H09 (d) (Str.ofString "_law_worth") [V.d (t1), V.d (hd)] [] = some (V.d (D.int (a)), [])) ∧ (callN B09 H09 (d) (Str.ofString "_law_worth") [V.d (t2), V.d (hd)] [] = some (V.d (D.none), [])) ∧ some (D.none) = some (D.none)) [(6, Tell.w (V.d (D.int (a))) []), (8, Tell.w (V.d (D.none)) [])] L09_f__law_worth (L09_imp _) (by kernel_rfl) ⟨hc1 _, hc2 _, rfl⟩ σ
theorem L09_lworth_p2_T (d : Nat) (t1 t2 hd : D) (a b : Int)  (hc1 : ∀ σ, callN B09 H09 (d) (Str.ofString "_law_worth") [V.d (t1), V.d (hd)] σ = some (V.d (D.int (a)), σ)) (hc2 : ∀ σ, callN B09 H09 (d) (Str.ofString "_law_worth") [V.d (t2), V.d (hd)] σ = some (V.d (D.int (b)), σ)) (h1 : small a = true) (h2 : (a + b) < (-1000000)) (σ : St) : callN B09 H09 (d + 1) (Str.ofString "_law_worth") [V.d (D.tup [D.str (Str.ofString "+"), t1, t2]), V.d (hd)] σ = some (V.d (D.none), σ) :=
  path (ds := [D.tup [D.str (Str.ofString "+"), t1, t2], hd]) (i := 21) (x := D.none) (P := (callN B09 H09 (d) (Str.ofString "_law_worth") [V.d (t1), V.d (hd)] [] = some (V.d (D.int (a)), [])) ∧ (callN B09 H09 (d) (Str.ofString "_law_worth") [V.d (t2), V.d (hd)] [] = some (V.d (D.int (b)), [])) ∧ (binV [] .Mult (V.d (D.int (a))) (V.d (D.int (b))) = some (V.d (D.int (a * b)))) ∧ (some (decide ((a + b) < (-1000000))) = some true) ∧ (some (decide ((a + b) < (-1000000))) = some true) ∧ some (D.none) = some (D.none)) [(6, Tell.w (V.d (D.int (a))) []), (8, Tell.w (V.d (D.int (b))) []), (16, Tell.v (V.d (D.int (a * b)))), (25, Tell.b true), (26, Tell.b true)] L09_f__law_worth (L09_imp _) (by kernel_rfl) ⟨hc1 _, hc2 _, mul_ok h1, dT h2, dT h2, rfl⟩ σ
theorem L09_lworth_p2_FT (d : Nat) (t1 t2 hd : D) (a b : Int)  (hc1 : ∀ σ, callN B09 H09 (d) (Str.ofString "_law_worth") [V.d (t1), V.d (hd)] σ = some (V.d (D.int (a)), σ)) (hc2 : ∀ σ, callN B09 H09 (d) (Str.ofString "_law_worth") [V.d (t2), V.d (hd)] σ = some (V.d (D.int (b)), σ)) (h1 : small a = true) (h2 : ¬ ((a + b) < (-1000000))) (h3 : (a + b) > 1000000) (σ : St) : callN B09 H09 (d + 1) (Str.ofString "_law_worth") [V.d (D.tup [D.str (Str.ofString "+"), t1, t2]), V.d (hd)] σ = some (V.d (D.none), σ) :=
  path (ds := [D.tup [D.str (Str.ofString "+"), t1, t2], hd]) (i := 21) (x := D.none) (P := (callN B09 H09 (d) (Str.ofString "_law_worth") [V.d (t1), V.d (hd)] [] = some (V.d (D.int (a)), [])) ∧ (callN B09 H09 (d) (Str.ofString "_law_worth") [V.d (t2), V.d (hd)] [] = some (V.d (D.int (b)), [])) ∧ (binV [] .Mult (V.d (D.int (a))) (V.d (D.int (b))) = some (V.d (D.int (a * b)))) ∧ (some (decide ((a + b) < (-1000000))) = some false) ∧ (some (decide ((a + b) > 1000000)) = some true) ∧ some (D.none) = some (D.none)) [(6, Tell.w (V.d (D.int (a))) []), (8, Tell.w (V.d (D.int (b))) []), (16, Tell.v (V.d (D.int (a * b)))), (25, Tell.b false), (27, Tell.b true)] L09_f__law_worth (L09_imp _) (by kernel_rfl) ⟨hc1 _, hc2 _, mul_ok h1, dF h2, dT h3, rfl⟩ σ
theorem L09_lworth_p2_FF (d : Nat) (t1 t2 hd : D) (a b : Int)  (hc1 : ∀ σ, callN B09 H09 (d) (Str.ofString "_law_worth") [V.d (t1), V.d (hd)] σ = some (V.d (D.int (a)), σ)) (hc2 : ∀ σ, callN B09 H09 (d) (Str.ofString "_law_worth") [V.d (t2), V.d (hd)] σ = some (V.d (D.int (b)), σ)) (h1 : small a = true) (h2 : ¬ ((a + b) < (-1000000))) (h3 : ¬ ((a + b) > 1000000)) (σ : St) : callN B09 H09 (d + 1) (Str.ofString "_law_worth") [V.d (D.tup [D.str (Str.ofString "+"), t1, t2]), V.d (hd)] σ = some (V.d (D.int (a + b)), σ) :=
  path (ds := [D.tup [D.str (Str.ofString "+"), t1, t2], hd]) (i := 21) (x := D.int (a + b)) (P := (callN B09 H09 (d) (Str.ofString "_law_worth") [V.d (t1), V.d (hd)] [] = some (V.d (D.int (a)), [])) ∧ (callN B09 H09 (d) (Str.ofString "_law_worth") [V.d (t2), V.d (hd)] [] = some (V.d (D.int (b)), [])) ∧ (binV [] .Mult (V.d (D.int (a))) (V.d (D.int (b))) = some (V.d (D.int (a * b)))) ∧ (some (decide ((a + b) < (-1000000))) = some false) ∧ (some (decide ((a + b) > 1000000)) = some false) ∧ some (D.int (a + b)) = some (D.int (a + b))) [(6, Tell.w (V.d (D.int (a))) []), (8, Tell.w (V.d (D.int (b))) []), (16, Tell.v (V.d (D.int (a * b)))), (25, Tell.b false), (27, Tell.b false)] L09_f__law_worth (L09_imp _) (by kernel_rfl) ⟨hc1 _, hc2 _, mul_ok h1, dF h2, dF h3, rfl⟩ σ
theorem L09_lworth_m0_0 (d : Nat) (t1 t2 hd rr : D)  (hc1 : ∀ σ, callN B09 H09 (d) (Str.ofString "_law_worth") [V.d (t1), V.d (hd)] σ = some (V.d (D.none), σ)) (hc2 : ∀ σ, callN B09 H09 (d) (Str.ofString "_law_worth") [V.d (t2), V.d (hd)] σ = some (V.d (rr), σ)) (σ : St) : callN B09 H09 (d + 1) (Str.ofString "_law_worth") [V.d (D.tup [D.str (Str.ofString "-"), t1, t2]), V.d (hd)] σ = some (V.d (D.none), σ) :=
  path (ds := [D.tup [D.str (Str.ofString "-"), t1, t2], hd]) (i := 21) (x := D.none) (P := (callN B09 H09 (d) (Str.ofString "_law_worth") [V.d (t1), V.d (hd)] [] = some (V.d (D.none), [])) ∧ (callN B09 H09 (d) (Str.ofString "_law_worth") [V.d (t2), V.d (hd)] [] = some (V.d (rr), [])) ∧ some (D.none) = some (D.none)) [(6, Tell.w (V.d (D.none)) []), (8, Tell.w (V.d (rr)) [])] L09_f__law_worth (L09_imp _) (by kernel_rfl) ⟨hc1 _, hc2 _, rfl⟩ σ
theorem L09_lworth_m1_0 (d : Nat) (t1 t2 hd : D) (a : Int)  (hc1 : ∀ σ, callN B09 H09 (d) (Str.ofString "_law_worth") [V.d (t1), V.d (hd)] σ = some (V.d (D.int (a)), σ)) (hc2 : ∀ σ, callN B09 H09 (d) (Str.ofString "_law_worth") [V.d (t2), V.d (hd)] σ = some (V.d (D.none), σ)) (σ : St) : callN B09 H09 (d + 1) (Str.ofString "_law_worth") [V.d (D.tup [D.str (Str.ofString "-"), t1, t2]), V.d (hd)] σ = some (V.d (D.none), σ) :=
  path (ds := [D.tup [D.str (Str.ofString "-"), t1, t2], hd]) (i := 21) (x := D.none) (P := (callN B09 H09 (d) (Str.ofString "_law_worth") [V.d (t1), V.d (hd)] [] = some (V.d (D.int (a)), [])) ∧ (callN B09 H09 (d) (Str.ofString "_law_worth") [V.d (t2), V.d (hd)] [] = some (V.d (D.none), [])) ∧ some (D.none) = some (D.none)) [(6, Tell.w (V.d (D.int (a))) []), (8, Tell.w (V.d (D.none)) [])] L09_f__law_worth (L09_imp _) (by kernel_rfl) ⟨hc1 _, hc2 _, rfl⟩ σ
theorem L09_lworth_m2_T (d : Nat) (t1 t2 hd : D) (a b : Int)  (hc1 : ∀ σ, callN B09 H09 (d) (Str.ofString "_law_worth") [V.d (t1), V.d (hd)] σ = some (V.d (D.int (a)), σ)) (hc2 : ∀ σ, callN B09 H09 (d) (Str.ofString "_law_worth") [V.d (t2), V.d (hd)] σ = some (V.d (D.int (b)), σ)) (h1 : small a = true) (h2 : (a - b) < (-1000000)) (σ : St) : callN B09 H09 (d + 1) (Str.ofString "_law_worth") [V.d (D.tup [D.str (Str.ofString "-"), t1, t2]), V.d (hd)] σ = some (V.d (D.none), σ) :=
  path (ds := [D.tup [D.str (Str.ofString "-"), t1, t2], hd]) (i := 21) (x := D.none) (P := (callN B09 H09 (d) (Str.ofString "_law_worth") [V.d (t1), V.d (hd)] [] = some (V.d (D.int (a)), [])) ∧ (callN B09 H09 (d) (Str.ofString "_law_worth") [V.d (t2), V.d (hd)] [] = some (V.d (D.int (b)), [])) ∧ (binV [] .Mult (V.d (D.int (a))) (V.d (D.int (b))) = some (V.d (D.int (a * b)))) ∧ (some (decide ((a - b) < (-1000000))) = some true) ∧ (some (decide ((a - b) < (-1000000))) = some true) ∧ some (D.none) = some (D.none)) [(6, Tell.w (V.d (D.int (a))) []), (8, Tell.w (V.d (D.int (b))) []), (16, Tell.v (V.d (D.int (a * b)))), (25, Tell.b true), (26, Tell.b true)] L09_f__law_worth (L09_imp _) (by kernel_rfl) ⟨hc1 _, hc2 _, mul_ok h1, dT h2, dT h2, rfl⟩ σ
theorem L09_lworth_m2_FT (d : Nat) (t1 t2 hd : D) (a b : Int)  (hc1 : ∀ σ, callN B09 H09 (d) (Str.ofString "_law_worth") [V.d (t1), V.d (hd)] σ = some (V.d (D.int (a)), σ)) (hc2 : ∀ σ, callN B09 H09 (d) (Str.ofString "_law_worth") [V.d (t2), V.d (hd)] σ = some (V.d (D.int (b)), σ)) (h1 : small a = true) (h2 : ¬ ((a - b) < (-1000000))) (h3 : (a - b) > 1000000) (σ : St) : callN B09 H09 (d + 1) (Str.ofString "_law_worth") [V.d (D.tup [D.str (Str.ofString "-"), t1, t2]), V.d (hd)] σ = some (V.d (D.none), σ) :=
  path (ds := [D.tup [D.str (Str.ofString "-"), t1, t2], hd]) (i := 21) (x := D.none) (P := (callN B09 H09 (d) (Str.ofString "_law_worth") [V.d (t1), V.d (hd)] [] = some (V.d (D.int (a)), [])) ∧ (callN B09 H09 (d) (Str.ofString "_law_worth") [V.d (t2), V.d (hd)] [] = some (V.d (D.int (b)), [])) ∧ (binV [] .Mult (V.d (D.int (a))) (V.d (D.int (b))) = some (V.d (D.int (a * b)))) ∧ (some (decide ((a - b) < (-1000000))) = some false) ∧ (some (decide ((a - b) > 1000000)) = some true) ∧ some (D.none) = some (D.none)) [(6, Tell.w (V.d (D.int (a))) []), (8, Tell.w (V.d (D.int (b))) []), (16, Tell.v (V.d (D.int (a * b)))), (25, Tell.b false), (27, Tell.b true)] L09_f__law_worth (L09_imp _) (by kernel_rfl) ⟨hc1 _, hc2 _, mul_ok h1, dF h2, dT h3, rfl⟩ σ
theorem L09_lworth_m2_FF (d : Nat) (t1 t2 hd : D) (a b : Int)  (hc1 : ∀ σ, callN B09 H09 (d) (Str.ofString "_law_worth") [V.d (t1), V.d (hd)] σ = some (V.d (D.int (a)), σ)) (hc2 : ∀ σ, callN B09 H09 (d) (Str.ofString "_law_worth") [V.d (t2), V.d (hd)] σ = some (V.d (D.int (b)), σ)) (h1 : small a = true) (h2 : ¬ ((a - b) < (-1000000))) (h3 : ¬ ((a - b) > 1000000)) (σ : St) : callN B09 H09 (d + 1) (Str.ofString "_law_worth") [V.d (D.tup [D.str (Str.ofString "-"), t1, t2]), V.d (hd)] σ = some (V.d (D.int (a - b)), σ) :=
  path (ds := [D.tup [D.str (Str.ofString "-"), t1, t2], hd]) (i := 21) (x := D.int (a - b)) (P := (callN B09 H09 (d) (Str.ofString "_law_worth") [V.d (t1), V.d (hd)] [] = some (V.d (D.int (a)), [])) ∧ (callN B09 H09 (d) (Str.ofString "_law_worth") [V.d (t2), V.d (hd)] [] = some (V.d (D.int (b)), [])) ∧ (binV [] .Mult (V.d (D.int (a))) (V.d (D.int (b))) = some (V.d (D.int (a * b)))) ∧ (some (decide ((a - b) < (-1000000))) = some false) ∧ (some (decide ((a - b) > 1000000)) = some false) ∧ some (D.int (a - b)) = some (D.int (a - b))) [(6, Tell.w (V.d (D.int (a))) []), (8, Tell.w (V.d (D.int (b))) []), (16, Tell.v (V.d (D.int (a * b)))), (25, Tell.b false), (27, Tell.b false)] L09_f__law_worth (L09_imp _) (by kernel_rfl) ⟨hc1 _, hc2 _, mul_ok h1, dF h2, dF h3, rfl⟩ σ
theorem L09_lworth_t0_0 (d : Nat) (t1 t2 hd rr : D)  (hc1 : ∀ σ, callN B09 H09 (d) (Str.ofString "_law_worth") [V.d (t1), V.d (hd)] σ = some (V.d (D.none), σ)) (hc2 : ∀ σ, callN B09 H09 (d) (Str.ofString "_law_worth") [V.d (t2), V.d (hd)] σ = some (V.d (rr), σ)) (σ : St) : callN B09 H09 (d + 1) (Str.ofString "_law_worth") [V.d (D.tup [D.str (Str.ofString "*"), t1, t2]), V.d (hd)] σ = some (V.d (D.none), σ) :=
  path (ds := [D.tup [D.str (Str.ofString "*"), t1, t2], hd]) (i := 21) (x := D.none) (P := (callN B09 H09 (d) (Str.ofString "_law_worth") [V.d (t1), V.d (hd)] [] = some (V.d (D.none), [])) ∧ (callN B09 H09 (d) (Str.ofString "_law_worth") [V.d (t2), V.d (hd)] [] = some (V.d (rr), [])) ∧ some (D.none) = some (D.none)) [(6, Tell.w (V.d (D.none)) []), (8, Tell.w (V.d (rr)) [])] L09_f__law_worth (L09_imp _) (by kernel_rfl) ⟨hc1 _, hc2 _, rfl⟩ σ
theorem L09_lworth_t1_0 (d : Nat) (t1 t2 hd : D) (a : Int)  (hc1 : ∀ σ, callN B09 H09 (d) (Str.ofString "_law_worth") [V.d (t1), V.d (hd)] σ = some (V.d (D.int (a)), σ)) (hc2 : ∀ σ, callN B09 H09 (d) (Str.ofString "_law_worth") [V.d (t2), V.d (hd)] σ = some (V.d (D.none), σ)) (σ : St) : callN B09 H09 (d + 1) (Str.ofString "_law_worth") [V.d (D.tup [D.str (Str.ofString "*"), t1, t2]), V.d (hd)] σ = some (V.d (D.none), σ) :=
  path (ds := [D.tup [D.str (Str.ofString "*"), t1, t2], hd]) (i := 21) (x := D.none) (P := (callN B09 H09 (d) (Str.ofString "_law_worth") [V.d (t1), V.d (hd)] [] = some (V.d (D.int (a)), [])) ∧ (callN B09 H09 (d) (Str.ofString "_law_worth") [V.d (t2), V.d (hd)] [] = some (V.d (D.none), [])) ∧ some (D.none) = some (D.none)) [(6, Tell.w (V.d (D.int (a))) []), (8, Tell.w (V.d (D.none)) [])] L09_f__law_worth (L09_imp _) (by kernel_rfl) ⟨hc1 _, hc2 _, rfl⟩ σ
theorem L09_lworth_t2_T (d : Nat) (t1 t2 hd : D) (a b : Int)  (hc1 : ∀ σ, callN B09 H09 (d) (Str.ofString "_law_worth") [V.d (t1), V.d (hd)] σ = some (V.d (D.int (a)), σ)) (hc2 : ∀ σ, callN B09 H09 (d) (Str.ofString "_law_worth") [V.d (t2), V.d (hd)] σ = some (V.d (D.int (b)), σ)) (h1 : small a = true) (h2 : (a * b) < (-1000000)) (σ : St) : callN B09 H09 (d + 1) (Str.ofString "_law_worth") [V.d (D.tup [D.str (Str.ofString "*"), t1, t2]), V.d (hd)] σ = some (V.d (D.none), σ) :=
  path (ds := [D.tup [D.str (Str.ofString "*"), t1, t2], hd]) (i := 21) (x := D.none) (P := (callN B09 H09 (d) (Str.ofString "_law_worth") [V.d (t1), V.d (hd)] [] = some (V.d (D.int (a)), [])) ∧ (callN B09 H09 (d) (Str.ofString "_law_worth") [V.d (t2), V.d (hd)] [] = some (V.d (D.int (b)), [])) ∧ (binV [] .Mult (V.d (D.int (a))) (V.d (D.int (b))) = some (V.d (D.int (a * b)))) ∧ (some (decide ((a * b) < (-1000000))) = some true) ∧ (some (decide ((a * b) < (-1000000))) = some true) ∧ some (D.none) = some (D.none)) [(6, Tell.w (V.d (D.int (a))) []), (8, Tell.w (V.d (D.int (b))) []), (16, Tell.v (V.d (D.int (a * b)))), (24, Tell.b true), (25, Tell.b true)] L09_f__law_worth (L09_imp _) (by kernel_rfl) ⟨hc1 _, hc2 _, mul_ok h1, dT h2, dT h2, rfl⟩ σ
theorem L09_lworth_t2_FT (d : Nat) (t1 t2 hd : D) (a b : Int)  (hc1 : ∀ σ, callN B09 H09 (d) (Str.ofString "_law_worth") [V.d (t1), V.d (hd)] σ = some (V.d (D.int (a)), σ)) (hc2 : ∀ σ, callN B09 H09 (d) (Str.ofString "_law_worth") [V.d (t2), V.d (hd)] σ = some (V.d (D.int (b)), σ)) (h1 : small a = true) (h2 : ¬ ((a * b) < (-1000000))) (h3 : (a * b) > 1000000) (σ : St) : callN B09 H09 (d + 1) (Str.ofString "_law_worth") [V.d (D.tup [D.str (Str.ofString "*"), t1, t2]), V.d (hd)] σ = some (V.d (D.none), σ) :=
  path (ds := [D.tup [D.str (Str.ofString "*"), t1, t2], hd]) (i := 21) (x := D.none) (P := (callN B09 H09 (d) (Str.ofString "_law_worth") [V.d (t1), V.d (hd)] [] = some (V.d (D.int (a)), [])) ∧ (callN B09 H09 (d) (Str.ofString "_law_worth") [V.d (t2), V.d (hd)] [] = some (V.d (D.int (b)), [])) ∧ (binV [] .Mult (V.d (D.int (a))) (V.d (D.int (b))) = some (V.d (D.int (a * b)))) ∧ (some (decide ((a * b) < (-1000000))) = some false) ∧ (some (decide ((a * b) > 1000000)) = some true) ∧ some (D.none) = some (D.none)) [(6, Tell.w (V.d (D.int (a))) []), (8, Tell.w (V.d (D.int (b))) []), (16, Tell.v (V.d (D.int (a * b)))), (24, Tell.b false), (26, Tell.b true)] L09_f__law_worth (L09_imp _) (by kernel_rfl) ⟨hc1 _, hc2 _, mul_ok h1, dF h2, dT h3, rfl⟩ σ
theorem L09_lworth_t2_FF (d : Nat) (t1 t2 hd : D) (a b : Int)  (hc1 : ∀ σ, callN B09 H09 (d) (Str.ofString "_law_worth") [V.d (t1), V.d (hd)] σ = some (V.d (D.int (a)), σ)) (hc2 : ∀ σ, callN B09 H09 (d) (Str.ofString "_law_worth") [V.d (t2), V.d (hd)] σ = some (V.d (D.int (b)), σ)) (h1 : small a = true) (h2 : ¬ ((a * b) < (-1000000))) (h3 : ¬ ((a * b) > 1000000)) (σ : St) : callN B09 H09 (d + 1) (Str.ofString "_law_worth") [V.d (D.tup [D.str (Str.ofString "*"), t1, t2]), V.d (hd)] σ = some (V.d (D.int (a * b)), σ) :=
  path (ds := [D.tup [D.str (Str.ofString "*"), t1, t2], hd]) (i := 21) (x := D.int (a * b)) (P := (callN B09 H09 (d) (Str.ofString "_law_worth") [V.d (t1), V.d (hd)] [] = some (V.d (D.int (a)), [])) ∧ (callN B09 H09 (d) (Str.ofString "_law_worth") [V.d (t2), V.d (hd)] [] = some (V.d (D.int (b)), [])) ∧ (binV [] .Mult (V.d (D.int (a))) (V.d (D.int (b))) = some (V.d (D.int (a * b)))) ∧ (some (decide ((a * b) < (-1000000))) = some false) ∧ (some (decide ((a * b) > 1000000)) = some false) ∧ some (D.int (a * b)) = some (D.int (a * b))) [(6, Tell.w (V.d (D.int (a))) []), (8, Tell.w (V.d (D.int (b))) []), (16, Tell.v (V.d (D.int (a * b)))), (24, Tell.b false), (26, Tell.b false)] L09_f__law_worth (L09_imp _) (by kernel_rfl) ⟨hc1 _, hc2 _, mul_ok h1, dF h2, dF h3, rfl⟩ σ
theorem L09_lworth {ns : List Str} {ks : List Key} {is : List Int} (h : Held InLim ns ks is) : ∀ (t : T5), t.ok ns → ∀ d, t.dep ≤ d → ∀ σ, callN B09 H09 (d + 1) (Str.ofString "_law_worth") [.d t.D, .d (.dict ks (is.map .int))] σ = some (.d (oD (t.ev (gOf ks is))), σ) := by
  intro t
  induction t with
  | num n => intro _ d _ σ; exact L09_lworth_n_0 d n _ σ
  | name x => intro hx d _ σ; exact L09_lworth_s_0 d x _ _ (item_held h hx) σ
  | rest t k ih =>
    intro ho d hd σ
    obtain ⟨d, rfl⟩ : ∃ e, d = e + 1 := ⟨d - 1, by have : (T5.rest t k).dep = t.dep + 1 := rfl; omega⟩
    have hl := ih ho.1 d (by have : (T5.rest t k).dep = t.dep + 1 := rfl; omega)
    have hk := ho.2
    show _ = some (V.d (oD ((t.ev (gOf ks is)).map fun a => a % k)), σ)
    cases e : t.ev (gOf ks is) with
    | none => rw [e] at hl; exact L09_lworth_r0_0 (d + 1) _ _ k hl (L09_lworth_n_0 d k _) σ
    | some a =>
      rw [e] at hl
      have ha := T5.ev_in (fun x hx => (h.at hx).2) t ho.1 a e
      have hd' : a - a / k * k = a % k := by rw [Int.emod_def, Int.mul_comm]
      have sd : small (a / k) = true := small_of_lt (Int.lt_of_lt_of_le (show (-18446744073709551616 : Int) < -1000000 by omega) (Int.le_ediv_of_mul_le (by omega) (by omega))) (Int.lt_of_le_of_lt (Int.ediv_le_of_le_mul (by omega) (show a ≤ 1000000 * k by omega)) (by omega))
      have := L09_lworth_r1_0 (d + 1) _ _ k a hl (L09_lworth_n_0 d k _) (by omega) sd σ
      rw [hd'] at this
      exact this
  | op o l r ihl ihr =>
    intro ho d hd σ
    have hdep : (T5.op o l r).dep = max l.dep r.dep + 1 := rfl
    obtain ⟨d, rfl⟩ : ∃ e, d = e + 1 := ⟨d - 1, by omega⟩
    have hl := ihl ho.1 d (by omega)
    have hr := ihr ho.2 d (by omega)
    show _ = some (V.d (oD ((l.ev (gOf ks is)).bind fun a => (r.ev (gOf ks is)).bind fun b => lim (o.ap a b))), σ)
    cases el : l.ev (gOf ks is) with
    | none =>
      rw [el] at hl
      cases o
      · exact L09_lworth_p0_0 (d + 1) _ _ _ _ hl hr σ
      · exact L09_lworth_m0_0 (d + 1) _ _ _ _ hl hr σ
      · exact L09_lworth_t0_0 (d + 1) _ _ _ _ hl hr σ
    | some a =>
      rw [el] at hl
      have ha := T5.ev_in (fun x hx => (h.at hx).2) l ho.1 a el
      cases er : r.ev (gOf ks is) with
      | none =>
        rw [er] at hr
        cases o
        · exact L09_lworth_p1_0 (d + 1) _ _ _ a hl hr σ
        · exact L09_lworth_m1_0 (d + 1) _ _ _ a hl hr σ
        · exact L09_lworth_t1_0 (d + 1) _ _ _ a hl hr σ
      | some b =>
        rw [er] at hr
        have hs : small a = true := small_of_lt (by omega) (by omega)
        cases o
        · show _ = some (V.d (oD (lim (a + b))), σ)
          by_cases h1 : a + b < -1000000
          · rw [lim_none (.inl h1)]; exact L09_lworth_p2_T (d + 1) _ _ _ a b hl hr hs h1 σ
          · by_cases h2 : a + b > 1000000
            · rw [lim_none (.inr h2)]; exact L09_lworth_p2_FT (d + 1) _ _ _ a b hl hr hs h1 h2 σ
            · rw [lim_some h1 h2]; exact L09_lworth_p2_FF (d + 1) _ _ _ a b hl hr hs h1 h2 σ
        · show _ = some (V.d (oD (lim (a - b))), σ)
          by_cases h1 : a - b < -1000000
          · rw [lim_none (.inl h1)]; exact L09_lworth_m2_T (d + 1) _ _ _ a b hl hr hs h1 σ
          · by_cases h2 : a - b > 1000000
            · rw [lim_none (.inr h2)]; exact L09_lworth_m2_FT (d + 1) _ _ _ a b hl hr hs h1 h2 σ
            · rw [lim_some h1 h2]; exact L09_lworth_m2_FF (d + 1) _ _ _ a b hl hr hs h1 h2 σ
        · show _ = some (V.d (oD (lim (a * b))), σ)
          by_cases h1 : a * b < -1000000
          · rw [lim_none (.inl h1)]; exact L09_lworth_t2_T (d + 1) _ _ _ a b hl hr hs h1 σ
          · by_cases h2 : a * b > 1000000
            · rw [lim_none (.inr h2)]; exact L09_lworth_t2_FT (d + 1) _ _ _ a b hl hr hs h1 h2 σ
            · rw [lim_some h1 h2]; exact L09_lworth_t2_FF (d + 1) _ _ _ a b hl hr hs h1 h2 σ
theorem L09_leaf_T (d : Nat) (x nn : Int) (ns : List Str) (nm1 : Str) (hc1 : ∀ σ, callN B09 H09 (d + 1) (Str.ofString "_law_number") [V.d (D.int (x / 3))] σ = some (V.d (D.int (nn)), σ)) (h1 : bfV [] .len [V.d (D.list (ns.map D.str))] = some (V.d (D.int (((List.length ns : Nat) : Int))))) (h2 : 0 < (((List.length ns : Nat) : Int))) (h3 : idxL (ns.map D.str) ((x / 3) % (((List.length ns : Nat) : Int))) = some (D.str (nm1))) (h4 : (x % 3) > 0) (σ : St) : callN B09 H09 (d + 1 + 1) (Str.ofString "_law_leaf") [V.d (D.int (x)), V.d (D.list (ns.map D.str))] σ = some (V.d (D.str (nm1)), σ) :=
  path (ds := [D.int (x), D.list (ns.map D.str)]) (i := 17) (x := D.str (nm1)) (P := (callN B09 H09 (d + 1) (Str.ofString "_law_number") [V.d (D.int (x / 3))] [] = some (V.d (D.int (nn)), [])) ∧ (bfV [] .len [V.d (D.list (ns.map D.str))] = some (V.d (D.int (((List.length ns : Nat) : Int))))) ∧ (binV [] .Mod (V.d (D.int (x / 3))) (V.d (D.int (((List.length ns : Nat) : Int)))) = some (V.d (D.int ((x / 3) % (((List.length ns : Nat) : Int)))))) ∧ (getItemV [] (V.d (D.list (ns.map D.str))) (V.d (D.int ((x / 3) % (((List.length ns : Nat) : Int))))) = some (V.d (D.str (nm1)))) ∧ (some (decide ((x % 3) > 0)) = some true) ∧ some (D.str (nm1)) = some (D.str (nm1))) [(1, Tell.w (V.d (D.int (nn))) []), (3, Tell.v (V.d (D.int (((List.length ns : Nat) : Int))))), (4, Tell.v (V.d (D.int ((x / 3) % (((List.length ns : Nat) : Int)))))), (5, Tell.v (V.d (D.str (nm1)))), (8, Tell.b true)] L09_f__law_leaf (L09_imp _) (by kernel_rfl) ⟨hc1 _, h1, mod_ok h2, idx_list h3, dT h4, rfl⟩ σ
theorem L09_leaf_F (d : Nat) (x nn : Int) (ns : List Str) (nm1 : Str) (hc1 : ∀ σ, callN B09 H09 (d + 1) (Str.ofString "_law_number") [V.d (D.int (x / 3))] σ = some (V.d (D.int (nn)), σ)) (h1 : bfV [] .len [V.d (D.list (ns.map D.str))] = some (V.d (D.int (((List.length ns : Nat) : Int))))) (h2 : 0 < (((List.length ns : Nat) : Int))) (h3 : idxL (ns.map D.str) ((x / 3) % (((List.length ns : Nat) : Int))) = some (D.str (nm1))) (h4 : ¬ ((x % 3) > 0)) (σ : St) : callN B09 H09 (d + 1 + 1) (Str.ofString "_law_leaf") [V.d (D.int (x)), V.d (D.list (ns.map D.str))] σ = some (V.d (D.int (nn)), σ) :=
  path (ds := [D.int (x), D.list (ns.map D.str)]) (i := 17) (x := D.int (nn)) (P := (callN B09 H09 (d + 1) (Str.ofString "_law_number") [V.d (D.int (x / 3))] [] = some (V.d (D.int (nn)), [])) ∧ (bfV [] .len [V.d (D.list (ns.map D.str))] = some (V.d (D.int (((List.length ns : Nat) : Int))))) ∧ (binV [] .Mod (V.d (D.int (x / 3))) (V.d (D.int (((List.length ns : Nat) : Int)))) = some (V.d (D.int ((x / 3) % (((List.length ns : Nat) : Int)))))) ∧ (getItemV [] (V.d (D.list (ns.map D.str))) (V.d (D.int ((x / 3) % (((List.length ns : Nat) : Int))))) = some (V.d (D.str (nm1)))) ∧ (some (decide ((x % 3) > 0)) = some false) ∧ some (D.int (nn)) = some (D.int (nn))) [(1, Tell.w (V.d (D.int (nn))) []), (3, Tell.v (V.d (D.int (((List.length ns : Nat) : Int))))), (4, Tell.v (V.d (D.int ((x / 3) % (((List.length ns : Nat) : Int)))))), (5, Tell.v (V.d (D.str (nm1)))), (8, Tell.b false)] L09_f__law_leaf (L09_imp _) (by kernel_rfl) ⟨hc1 _, h1, mod_ok h2, idx_list h3, dF h4, rfl⟩ σ
theorem L09_tree_T (d : Nat) (x dp x0 x1 x2 : Int) (ns : List Str) (t0 t1 : D)  (h1 : dp = 1) (hc1 : ∀ σ, callN B09 H09 (d) (Str.ofString "_law_leaf") [V.d (D.int (x / 5)), V.d (D.list (ns.map D.str))] σ = some (V.d (t0), σ)) (σ : St) : callN B09 H09 (d + 1) (Str.ofString "_law_tree") [V.d (D.int (x)), V.d (D.list (ns.map D.str)), V.d (D.int (dp))] σ = some (V.d (t0), σ) :=
  path (ds := [D.int (x), D.list (ns.map D.str), D.int (dp)]) (i := 18) (x := t0) (P := (some (decide (dp = 1)) = some true) ∧ (callN B09 H09 (d) (Str.ofString "_law_leaf") [V.d (D.int (x / 5)), V.d (D.list (ns.map D.str))] [] = some (V.d (t0), [])) ∧ some (t0) = some (t0)) [(0, Tell.b true), (4, Tell.w (V.d (t0)) [])] L09_f__law_tree (L09_imp _) (by kernel_rfl) ⟨dT h1, hc1 _, rfl⟩ σ
theorem L09_tree_FT (d : Nat) (x dp x0 x1 x2 : Int) (ns : List Str) (t0 t1 : D)  (h1 : ¬ (dp = 1)) (h2 : (x % 5) = 0) (hc1 : ∀ σ, callN B09 H09 (d) (Str.ofString "_law_leaf") [V.d (D.int (x / 5)), V.d (D.list (ns.map D.str))] σ = some (V.d (t0), σ)) (σ : St) : callN B09 H09 (d + 1) (Str.ofString "_law_tree") [V.d (D.int (x)), V.d (D.list (ns.map D.str)), V.d (D.int (dp))] σ = some (V.d (t0), σ) :=
  path (ds := [D.int (x), D.list (ns.map D.str), D.int (dp)]) (i := 18) (x := t0) (P := (some (decide (dp = 1)) = some false) ∧ (some (decide ((x % 5) = 0)) = some true) ∧ (callN B09 H09 (d) (Str.ofString "_law_leaf") [V.d (D.int (x / 5)), V.d (D.list (ns.map D.str))] [] = some (V.d (t0), [])) ∧ some (t0) = some (t0)) [(0, Tell.b false), (3, Tell.b true), (6, Tell.w (V.d (t0)) [])] L09_f__law_tree (L09_imp _) (by kernel_rfl) ⟨dF h1, dT h2, hc1 _, rfl⟩ σ
theorem L09_tree_FFT (d : Nat) (x dp x0 x1 x2 : Int) (ns : List Str) (t0 t1 : D) (w1 : Int) (h1 : ¬ (dp = 1)) (h2 : ¬ ((x % 5) = 0)) (hc1 : ∀ σ, callN B09 H09 (d) (Str.ofString "_law_stream") [V.d (D.int (x)), V.d (D.int (3))] σ = some (V.d (D.list [D.int (x0), D.int (x1), D.int (x2)]), σ)) (hc2 : ∀ σ, callN B09 H09 (d) (Str.ofString "_law_tree") [V.d (D.int (x0)), V.d (D.list (ns.map D.str)), V.d (D.int (dp - 1))] σ = some (V.d (t0), σ)) (h3 : (x2 % 5) = 0) (h4 : idxL [D.int (9), D.int (1000000)] ((x2 / 5) % 2) = some (D.int (w1))) (h5 : 0 < w1) (σ : St) : callN B09 H09 (d + 1) (Str.ofString "_law_tree") [V.d (D.int (x)), V.d (D.list (ns.map D.str)), V.d (D.int (dp))] σ = some (V.d (D.tup [D.str (Str.ofString "rest"), t0, D.int (1 + (x1 % w1))]), σ) :=
  path (ds := [D.int (x), D.list (ns.map D.str), D.int (dp)]) (i := 18) (x := D.tup [D.str (Str.ofString "rest"), t0, D.int (1 + (x1 % w1))]) (P := (some (decide (dp = 1)) = some false) ∧ (some (decide ((x % 5) = 0)) = some false) ∧ (callN B09 H09 (d) (Str.ofString "_law_stream") [V.d (D.int (x)), V.d (D.int (3))] [] = some (V.d (D.list [D.int (x0), D.int (x1), D.int (x2)]), [])) ∧ (callN B09 H09 (d) (Str.ofString "_law_tree") [V.d (D.int (x0)), V.d (D.list (ns.map D.str)), V.d (D.int (dp - 1))] [] = some (V.d (t0), [])) ∧ (some (decide ((x2 % 5) = 0)) = some true) ∧ (getItemV [] (V.d (D.list [D.int (9), D.int (1000000)])) (V.d (D.int ((x2 / 5) % 2))) = some (V.d (D.int (w1)))) ∧ (binV [] .Mod (V.d (D.int (x1))) (V.d (D.int (w1))) = some (V.d (D.int (x1 % w1)))) ∧ some (D.tup [D.str (Str.ofString "rest"), t0, D.int (1 + (x1 % w1))]) = some (D.tup [D.str (Str.ofString "rest"), t0, D.int (1 + (x1 % w1))])) [(0, Tell.b false), (3, Tell.b false), (5, Tell.w (V.d (D.list [D.int (x0), D.int (x1), D.int (x2)])) []), (8, Tell.w (V.d (t0)) []), (11, Tell.b true), (18, Tell.v (V.d (D.int (w1)))), (19, Tell.v (V.d (D.int (x1 % w1))))] L09_f__law_tree (L09_imp _) (by kernel_rfl) ⟨dF h1, dF h2, hc1 _, hc2 _, dT h3, idx_list h4, mod_ok h5, rfl⟩ σ
theorem L09_tree_FFFT (d : Nat) (x dp x0 x1 x2 : Int) (ns : List Str) (t0 t1 : D)  (h1 : ¬ (dp = 1)) (h2 : ¬ ((x % 5) = 0)) (hc1 : ∀ σ, callN B09 H09 (d) (Str.ofString "_law_stream") [V.d (D.int (x)), V.d (D.int (3))] σ = some (V.d (D.list [D.int (x0), D.int (x1), D.int (x2)]), σ)) (hc2 : ∀ σ, callN B09 H09 (d) (Str.ofString "_law_tree") [V.d (D.int (x0)), V.d (D.list (ns.map D.str)), V.d (D.int (dp - 1))] σ = some (V.d (t0), σ)) (h3 : ¬ ((x2 % 5) = 0)) (h4 : getItemV [] (V.d (D.str (Str.ofString "+-*"))) (V.d (D.int ((x2 / 5) % 3))) = some (V.d (D.str (Str.ofString "+")))) (hc3 : ∀ σ, callN B09 H09 (d) (Str.ofString "_law_tree") [V.d (D.int (x1)), V.d (D.list (ns.map D.str)), V.d (D.int (dp - 1))] σ = some (V.d (t1), σ)) (σ : St) : callN B09 H09 (d + 1) (Str.ofString "_law_tree") [V.d (D.int (x)), V.d (D.list (ns.map D.str)), V.d (D.int (dp))] σ = some (V.d (D.tup [D.str (Str.ofString "+"), t0, t1]), σ) :=
  path (ds := [D.int (x), D.list (ns.map D.str), D.int (dp)]) (i := 18) (x := D.tup [D.str (Str.ofString "+"), t0, t1]) (P := (some (decide (dp = 1)) = some false) ∧ (some (decide ((x % 5) = 0)) = some false) ∧ (callN B09 H09 (d) (Str.ofString "_law_stream") [V.d (D.int (x)), V.d (D.int (3))] [] = some (V.d (D.list [D.int (x0), D.int (x1), D.int (x2)]), [])) ∧ (callN B09 H09 (d) (Str.ofString "_law_tree") [V.d (D.int (x0)), V.d (D.list (ns.map D.str)), V.d (D.int (dp - 1))] [] = some (V.d (t0), [])) ∧ (some (decide ((x2 % 5) = 0)) = some false) ∧ (getItemV [] (V.d (D.str (Str.ofString "+-*"))) (V.d (D.int ((x2 / 5) % 3))) = some (V.d (D.str (Str.ofString "+")))) ∧ (callN B09 H09 (d) (Str.ofString "_law_tree") [V.d (D.int (x1)), V.d (D.list (ns.map D.str)), V.d (D.int (dp - 1))] [] = some (V.d (t1), [])) ∧ some (D.tup [D.str (Str.ofString "+"), t0, t1]) = some (D.tup [D.str (Str.ofString "+"), t0, t1])) [(0, Tell.b false), (3, Tell.b false), (5, Tell.w (V.d (D.list [D.int (x0), D.int (x1), D.int (x2)])) []), (8, Tell.w (V.d (t0)) []), (11, Tell.b false), (16, Tell.v (V.d (D.str (Str.ofString "+")))), (19, Tell.w (V.d (t1)) [])] L09_f__law_tree (L09_imp _) (by kernel_rfl) ⟨dF h1, dF h2, hc1 _, hc2 _, dF h3, h4, hc3 _, rfl⟩ σ
theorem L09_tree_FFFF (d : Nat) (x dp x0 x1 x2 : Int) (ns : List Str) (t0 t1 : D)  (h1 : ¬ (dp = 1)) (h2 : ¬ ((x % 5) = 0)) (hc1 : ∀ σ, callN B09 H09 (d) (Str.ofString "_law_stream") [V.d (D.int (x)), V.d (D.int (3))] σ = some (V.d (D.list [D.int (x0), D.int (x1), D.int (x2)]), σ)) (hc2 : ∀ σ, callN B09 H09 (d) (Str.ofString "_law_tree") [V.d (D.int (x0)), V.d (D.list (ns.map D.str)), V.d (D.int (dp - 1))] σ = some (V.d (t0), σ)) (h3 : ¬ ((x2 % 5) = 0)) (h4 : getItemV [] (V.d (D.str (Str.ofString "+-*"))) (V.d (D.int ((x2 / 5) % 3))) = some (V.d (D.str (Str.ofString "-")))) (hc3 : ∀ σ, callN B09 H09 (d) (Str.ofString "_law_tree") [V.d (D.int (x1)), V.d (D.list (ns.map D.str)), V.d (D.int (dp - 1))] σ = some (V.d (t1), σ)) (σ : St) : callN B09 H09 (d + 1) (Str.ofString "_law_tree") [V.d (D.int (x)), V.d (D.list (ns.map D.str)), V.d (D.int (dp))] σ = some (V.d (D.tup [D.str (Str.ofString "-"), t0, t1]), σ) :=
  path (ds := [D.int (x), D.list (ns.map D.str), D.int (dp)]) (i := 18) (x := D.tup [D.str (Str.ofString "-"), t0, t1]) (P := (some (decide (dp = 1)) = some false) ∧ (some (decide ((x % 5) = 0)) = some false) ∧ (callN B09 H09 (d) (Str.ofString "_law_stream") [V.d (D.int (x)), V.d (D.int (3))] [] = some (V.d (D.list [D.int (x0), D.int (x1), D.int (x2)]), [])) ∧ (callN B09 H09 (d) (Str.ofString "_law_tree") [V.d (D.int (x0)), V.d (D.list (ns.map D.str)), V.d (D.int (dp - 1))] [] = some (V.d (t0), [])) ∧ (some (decide ((x2 % 5) = 0)) = some false) ∧ (getItemV [] (V.d (D.str (Str.ofString "+-*"))) (V.d (D.int ((x2 / 5) % 3))) = some (V.d (D.str (Str.ofString "-")))) ∧ (callN B09 H09 (d) (Str.ofString "_law_tree") [V.d (D.int (x1)), V.d (D.list (ns.map D.str)), V.d (D.int (dp - 1))] [] = some (V.d (t1), [])) ∧ some (D.tup [D.str (Str.ofString "-"), t0, t1]) = some (D.tup [D.str (Str.ofString "-"), t0, t1])) [(0, Tell.b false), (3, Tell.b false), (5, Tell.w (V.d (D.list [D.int (x0), D.int (x1), D.int (x2)])) []), (8, Tell.w (V.d (t0)) []), (11, Tell.b false), (16, Tell.v (V.d (D.str (Str.ofString "-")))), (19, Tell.w (V.d (t1)) [])] L09_f__law_tree (L09_imp _) (by kernel_rfl) ⟨dF h1, dF h2, hc1 _, hc2 _, dF h3, h4, hc3 _, rfl⟩ σ
theorem L09_tree_FFFG (d : Nat) (x dp x0 x1 x2 : Int) (ns : List Str) (t0 t1 : D)  (h1 : ¬ (dp = 1)) (h2 : ¬ ((x % 5) = 0)) (hc1 : ∀ σ, callN B09 H09 (d) (Str.ofString "_law_stream") [V.d (D.int (x)), V.d (D.int (3))] σ = some (V.d (D.list [D.int (x0), D.int (x1), D.int (x2)]), σ)) (hc2 : ∀ σ, callN B09 H09 (d) (Str.ofString "_law_tree") [V.d (D.int (x0)), V.d (D.list (ns.map D.str)), V.d (D.int (dp - 1))] σ = some (V.d (t0), σ)) (h3 : ¬ ((x2 % 5) = 0)) (h4 : getItemV [] (V.d (D.str (Str.ofString "+-*"))) (V.d (D.int ((x2 / 5) % 3))) = some (V.d (D.str (Str.ofString "*")))) (hc3 : ∀ σ, callN B09 H09 (d) (Str.ofString "_law_tree") [V.d (D.int (x1)), V.d (D.list (ns.map D.str)), V.d (D.int (dp - 1))] σ = some (V.d (t1), σ)) (σ : St) : callN B09 H09 (d + 1) (Str.ofString "_law_tree") [V.d (D.int (x)), V.d (D.list (ns.map D.str)), V.d (D.int (dp))] σ = some (V.d (D.tup [D.str (Str.ofString "*"), t0, t1]), σ) :=
  path (ds := [D.int (x), D.list (ns.map D.str), D.int (dp)]) (i := 18) (x := D.tup [D.str (Str.ofString "*"), t0, t1]) (P := (some (decide (dp = 1)) = some false) ∧ (some (decide ((x % 5) = 0)) = some false) ∧ (callN B09 H09 (d) (Str.ofString "_law_stream") [V.d (D.int (x)), V.d (D.int (3))] [] = some (V.d (D.list [D.int (x0), D.int (x1), D.int (x2)]), [])) ∧ (callN B09 H09 (d) (Str.ofString "_law_tree") [V.d (D.int (x0)), V.d (D.list (ns.map D.str)), V.d (D.int (dp - 1))] [] = some (V.d (t0), [])) ∧ (some (decide ((x2 % 5) = 0)) = some false) ∧ (getItemV [] (V.d (D.str (Str.ofString "+-*"))) (V.d (D.int ((x2 / 5) % 3))) = some (V.d (D.str (Str.ofString "*")))) ∧ (callN B09 H09 (d) (Str.ofString "_law_tree") [V.d (D.int (x1)), V.d (D.list (ns.map D.str)), V.d (D.int (dp - 1))] [] = some (V.d (t1), [])) ∧ some (D.tup [D.str (Str.ofString "*"), t0, t1]) = some (D.tup [D.str (Str.ofString "*"), t0, t1])) [(0, Tell.b false), (3, Tell.b false), (5, Tell.w (V.d (D.list [D.int (x0), D.int (x1), D.int (x2)])) []), (8, Tell.w (V.d (t0)) []), (11, Tell.b false), (16, Tell.v (V.d (D.str (Str.ofString "*")))), (19, Tell.w (V.d (t1)) [])] L09_f__law_tree (L09_imp _) (by kernel_rfl) ⟨dF h1, dF h2, hc1 _, hc2 _, dF h3, h4, hc3 _, rfl⟩ σ
theorem L09_expression_0 (d : Nat) (xs : List Int) (ns : List Str) (t0 : D) (w1 : Int) (w2 : Int) (w3 : Int) (h1 : idxL (xs.map D.int) (1) = some (D.int (w1))) (h2 : idxL (xs.map D.int) (0) = some (D.int (w2))) (h3 : idxL [D.int (1), D.int (2), D.int (2), D.int (2), D.int (3), D.int (3), D.int (4), D.int (6)] (w2 % 8) = some (D.int (w3))) (hc1 : ∀ σ, callN B09 H09 (d + 8) (Str.ofString "_law_tree") [V.d (D.int (w1)), V.d (D.list (ns.map D.str)), V.d (D.int (w3))] σ = some (V.d (t0), σ)) (σ : St) : callN B09 H09 (d + 8 + 1) (Str.ofString "_law_expression") [V.d (D.list (xs.map D.int)), V.d (D.list (ns.map D.str))] σ = some (V.d (t0), σ) :=
  path (ds := [D.list (xs.map D.int), D.list (ns.map D.str)]) (i := 19) (x := t0) (P := (getItemV [] (V.d (D.list (xs.map D.int))) (V.d (D.int (1))) = some (V.d (D.int (w1)))) ∧ (getItemV [] (V.d (D.list (xs.map D.int))) (V.d (D.int (0))) = some (V.d (D.int (w2)))) ∧ (getItemV [] (V.d (D.list [D.int (1), D.int (2), D.int (2), D.int (2), D.int (3), D.int (3), D.int (4), D.int (6)])) (V.d (D.int (w2 % 8))) = some (V.d (D.int (w3)))) ∧ (callN B09 H09 (d + 8) (Str.ofString "_law_tree") [V.d (D.int (w1)), V.d (D.list (ns.map D.str)), V.d (D.int (w3))] [] = some (V.d (t0), [])) ∧ some (t0) = some (t0)) [(0, Tell.v (V.d (D.int (w1)))), (2, Tell.v (V.d (D.int (w2)))), (4, Tell.v (V.d (D.int (w3)))), (5, Tell.w (V.d (t0)) [])] L09_f__law_expression (L09_imp _) (by kernel_rfl) ⟨idx_list h1, idx_list h2, idx_list h3, hc1 _, rfl⟩ σ
theorem L09_condition_TT (d : Nat) (xs : List Int) (ns : List Str) (t0 t1 u0 u1 : D) (w1 : Int) (w2 : Int) (w3 : Int) (w4 : Int) (w5 : Int) (sg1 : Str) (h1 : idxL (xs.map D.int) (1) = some (D.int (w1))) (hc1 : ∀ σ, callN B09 H09 (d + 8 + 1) (Str.ofString "_law_leaf") [V.d (D.int (w1)), V.d (D.list (ns.map D.str))] σ = some (V.d (t0), σ)) (h2 : sliceV [] (V.d (D.list (xs.map D.int))) 2 none = some (V.d (D.list ((xs.drop 2).map D.int)))) (hc2 : ∀ σ, callN B09 H09 (d + 8 + 1) (Str.ofString "_law_expression") [V.d (D.list ((xs.drop 2).map D.int)), V.d (D.list (ns.map D.str))] σ = some (V.d (u0), σ)) (h3 : idxL (xs.map D.int) (5) = some (D.int (w2))) (h4 : (w2 % 3) = 0) (h5 : idxL (xs.map D.int) (4) = some (D.int (w3))) (hc3 : ∀ σ, callN B09 H09 (d + 8 + 1) (Str.ofString "_law_leaf") [V.d (D.int (w3)), V.d (D.list (ns.map D.str))] σ = some (V.d (t1), σ)) (h6 : sliceV [] (V.d (D.list (xs.map D.int))) 6 none = some (V.d (D.list ((xs.drop 6).map D.int)))) (hc4 : ∀ σ, callN B09 H09 (d + 8 + 1) (Str.ofString "_law_expression") [V.d (D.list ((xs.drop 6).map D.int)), V.d (D.list (ns.map D.str))] σ = some (V.d (u1), σ)) (h7 : idxL (xs.map D.int) (5) = some (D.int (w4))) (h8 : ((w4 / 3) % 3) = 0) (h9 : idxL (xs.map D.int) (0) = some (D.int (w5))) (h10 : idxL [D.str (Str.ofString "<"), D.str (Str.ofString "<="), D.str (Str.ofString "="), D.str (Str.ofString "!=")] (w5 % 4) = some (D.str (sg1))) (σ : St) : callN B09 H09 (d + 8 + 1 + 1) (Str.ofString "_law_condition") [V.d (D.list (xs.map D.int)), V.d (D.list (ns.map D.str))] σ = some (V.d (D.tup [D.str (sg1), u0, u1]), σ) :=
  path (ds := [D.list (xs.map D.int), D.list (ns.map D.str)]) (i := 20) (x := D.tup [D.str (sg1), u0, u1]) (P := (getItemV [] (V.d (D.list (xs.map D.int))) (V.d (D.int (1))) = some (V.d (D.int (w1)))) ∧ (callN B09 H09 (d + 8 + 1) (Str.ofString "_law_leaf") [V.d (D.int (w1)), V.d (D.list (ns.map D.str))] [] = some (V.d (t0), [])) ∧ (sliceV [] (V.d (D.list (xs.map D.int))) 2 none = some (V.d (D.list ((xs.drop 2).map D.int)))) ∧ (callN B09 H09 (d + 8 + 1) (Str.ofString "_law_expression") [V.d (D.list ((xs.drop 2).map D.int)), V.d (D.list (ns.map D.str))] [] = some (V.d (u0), [])) ∧ (getItemV [] (V.d (D.list (xs.map D.int))) (V.d (D.int (5))) = some (V.d (D.int (w2)))) ∧ (some (decide ((w2 % 3) = 0)) = some true) ∧ (getItemV [] (V.d (D.list (xs.map D.int))) (V.d (D.int (4))) = some (V.d (D.int (w3)))) ∧ (callN B09 H09 (d + 8 + 1) (Str.ofString "_law_leaf") [V.d (D.int (w3)), V.d (D.list (ns.map D.str))] [] = some (V.d (t1), [])) ∧ (sliceV [] (V.d (D.list (xs.map D.int))) 6 none = some (V.d (D.list ((xs.drop 6).map D.int)))) ∧ (callN B09 H09 (d + 8 + 1) (Str.ofString "_law_expression") [V.d (D.list ((xs.drop 6).map D.int)), V.d (D.list (ns.map D.str))] [] = some (V.d (u1), [])) ∧ (getItemV [] (V.d (D.list (xs.map D.int))) (V.d (D.int (5))) = some (V.d (D.int (w4)))) ∧ (some (decide (((w4 / 3) % 3) = 0)) = some true) ∧ (getItemV [] (V.d (D.list (xs.map D.int))) (V.d (D.int (0))) = some (V.d (D.int (w5)))) ∧ (getItemV [] (V.d (D.list [D.str (Str.ofString "<"), D.str (Str.ofString "<="), D.str (Str.ofString "="), D.str (Str.ofString "!=")])) (V.d (D.int (w5 % 4))) = some (V.d (D.str (sg1)))) ∧ some (D.tup [D.str (sg1), u0, u1]) = some (D.tup [D.str (sg1), u0, u1])) [(0, Tell.v (V.d (D.int (w1)))), (1, Tell.w (V.d (t0)) []), (2, Tell.v (V.d (D.list ((xs.drop 2).map D.int)))), (3, Tell.w (V.d (u0)) []), (5, Tell.v (V.d (D.int (w2)))), (7, Tell.b true), (10, Tell.v (V.d (D.int (w3)))), (11, Tell.w (V.d (t1)) []), (12, Tell.v (V.d (D.list ((xs.drop 6).map D.int)))), (13, Tell.w (V.d (u1)) []), (15, Tell.v (V.d (D.int (w4)))), (18, Tell.b true), (22, Tell.v (V.d (D.int (w5)))), (24, Tell.v (V.d (D.str (sg1))))] L09_f__law_condition (L09_imp _) (by kernel_rfl) ⟨idx_list h1, hc1 _, h2, hc2 _, idx_list h3, dT h4, idx_list h5, hc3 _, h6, hc4 _, idx_list h7, dT h8, idx_list h9, idx_list h10, rfl⟩ σ
theorem L09_condition_FT (d : Nat) (xs : List Int) (ns : List Str) (t0 t1 u0 u1 : D) (w1 : Int) (w2 : Int) (w3 : Int) (w4 : Int) (w5 : Int) (sg1 : Str) (h1 : idxL (xs.map D.int) (1) = some (D.int (w1))) (hc1 : ∀ σ, callN B09 H09 (d + 8 + 1) (Str.ofString "_law_leaf") [V.d (D.int (w1)), V.d (D.list (ns.map D.str))] σ = some (V.d (t0), σ)) (h2 : sliceV [] (V.d (D.list (xs.map D.int))) 2 none = some (V.d (D.list ((xs.drop 2).map D.int)))) (hc2 : ∀ σ, callN B09 H09 (d + 8 + 1) (Str.ofString "_law_expression") [V.d (D.list ((xs.drop 2).map D.int)), V.d (D.list (ns.map D.str))] σ = some (V.d (u0), σ)) (h3 : idxL (xs.map D.int) (5) = some (D.int (w2))) (h4 : ¬ ((w2 % 3) = 0)) (h5 : idxL (xs.map D.int) (4) = some (D.int (w3))) (hc3 : ∀ σ, callN B09 H09 (d + 8 + 1) (Str.ofString "_law_leaf") [V.d (D.int (w3)), V.d (D.list (ns.map D.str))] σ = some (V.d (t1), σ)) (h6 : sliceV [] (V.d (D.list (xs.map D.int))) 6 none = some (V.d (D.list ((xs.drop 6).map D.int)))) (hc4 : ∀ σ, callN B09 H09 (d + 8 + 1) (Str.ofString "_law_expression") [V.d (D.list ((xs.drop 6).map D.int)), V.d (D.list (ns.map D.str))] σ = some (V.d (u1), σ)) (h7 : idxL (xs.map D.int) (5) = some (D.int (w4))) (h8 : ((w4 / 3) % 3) = 0) (h9 : idxL (xs.map D.int) (0) = some (D.int (w5))) (h10 : idxL [D.str (Str.ofString "<"), D.str (Str.ofString "<="), D.str (Str.ofString "="), D.str (Str.ofString "!=")] (w5 % 4) = some (D.str (sg1))) (σ : St) : callN B09 H09 (d + 8 + 1 + 1) (Str.ofString "_law_condition") [V.d (D.list (xs.map D.int)), V.d (D.list (ns.map D.str))] σ = some (V.d (D.tup [D.str (sg1), t0, u1]), σ) :=
  path (ds := [D.list (xs.map D.int), D.list (ns.map D.str)]) (i := 20) (x := D.tup [D.str (sg1), t0, u1]) (P := (getItemV [] (V.d (D.list (xs.map D.int))) (V.d (D.int (1))) = some (V.d (D.int (w1)))) ∧ (callN B09 H09 (d + 8 + 1) (Str.ofString "_law_leaf") [V.d (D.int (w1)), V.d (D.list (ns.map D.str))] [] = some (V.d (t0), [])) ∧ (sliceV [] (V.d (D.list (xs.map D.int))) 2 none = some (V.d (D.list ((xs.drop 2).map D.int)))) ∧ (callN B09 H09 (d + 8 + 1) (Str.ofString "_law_expression") [V.d (D.list ((xs.drop 2).map D.int)), V.d (D.list (ns.map D.str))] [] = some (V.d (u0), [])) ∧ (getItemV [] (V.d (D.list (xs.map D.int))) (V.d (D.int (5))) = some (V.d (D.int (w2)))) ∧ (some (decide ((w2 % 3) = 0)) = some false) ∧ (getItemV [] (V.d (D.list (xs.map D.int))) (V.d (D.int (4))) = some (V.d (D.int (w3)))) ∧ (callN B09 H09 (d + 8 + 1) (Str.ofString "_law_leaf") [V.d (D.int (w3)), V.d (D.list (ns.map D.str))] [] = some (V.d (t1), [])) ∧ (sliceV [] (V.d (D.list (xs.map D.int))) 6 none = some (V.d (D.list ((xs.drop 6).map D.int)))) ∧ (callN B09 H09 (d + 8 + 1) (Str.ofString "_law_expression") [V.d (D.list ((xs.drop 6).map D.int)), V.d (D.list (ns.map D.str))] [] = some (V.d (u1), [])) ∧ (getItemV [] (V.d (D.list (xs.map D.int))) (V.d (D.int (5))) = some (V.d (D.int (w4)))) ∧ (some (decide (((w4 / 3) % 3) = 0)) = some true) ∧ (getItemV [] (V.d (D.list (xs.map D.int))) (V.d (D.int (0))) = some (V.d (D.int (w5)))) ∧ (getItemV [] (V.d (D.list [D.str (Str.ofString "<"), D.str (Str.ofString "<="), D.str (Str.ofString "="), D.str (Str.ofString "!=")])) (V.d (D.int (w5 % 4))) = some (V.d (D.str (sg1)))) ∧ some (D.tup [D.str (sg1), t0, u1]) = some (D.tup [D.str (sg1), t0, u1])) [(0, Tell.v (V.d (D.int (w1)))), (1, Tell.w (V.d (t0)) []), (2, Tell.v (V.d (D.list ((xs.drop 2).map D.int)))), (3, Tell.w (V.d (u0)) []), (5, Tell.v (V.d (D.int (w2)))), (7, Tell.b false), (10, Tell.v (V.d (D.int (w3)))), (11, Tell.w (V.d (t1)) []), (12, Tell.v (V.d (D.list ((xs.drop 6).map D.int)))), (13, Tell.w (V.d (u1)) []), (15, Tell.v (V.d (D.int (w4)))), (18, Tell.b true), (22, Tell.v (V.d (D.int (w5)))), (24, Tell.v (V.d (D.str (sg1))))] L09_f__law_condition (L09_imp _) (by kernel_rfl) ⟨idx_list h1, hc1 _, h2, hc2 _, idx_list h3, dF h4, idx_list h5, hc3 _, h6, hc4 _, idx_list h7, dT h8, idx_list h9, idx_list h10, rfl⟩ σ
theorem L09_condition_FF (d : Nat) (xs : List Int) (ns : List Str) (t0 t1 u0 u1 : D) (w1 : Int) (w2 : Int) (w3 : Int) (w4 : Int) (w5 : Int) (sg1 : Str) (h1 : idxL (xs.map D.int) (1) = some (D.int (w1))) (hc1 : ∀ σ, callN B09 H09 (d + 8 + 1) (Str.ofString "_law_leaf") [V.d (D.int (w1)), V.d (D.list (ns.map D.str))] σ = some (V.d (t0), σ)) (h2 : sliceV [] (V.d (D.list (xs.map D.int))) 2 none = some (V.d (D.list ((xs.drop 2).map D.int)))) (hc2 : ∀ σ, callN B09 H09 (d + 8 + 1) (Str.ofString "_law_expression") [V.d (D.list ((xs.drop 2).map D.int)), V.d (D.list (ns.map D.str))] σ = some (V.d (u0), σ)) (h3 : idxL (xs.map D.int) (5) = some (D.int (w2))) (h4 : ¬ ((w2 % 3) = 0)) (h5 : idxL (xs.map D.int) (4) = some (D.int (w3))) (hc3 : ∀ σ, callN B09 H09 (d + 8 + 1) (Str.ofString "_law_leaf") [V.d (D.int (w3)), V.d (D.list (ns.map D.str))] σ = some (V.d (t1), σ)) (h6 : sliceV [] (V.d (D.list (xs.map D.int))) 6 none = some (V.d (D.list ((xs.drop 6).map D.int)))) (hc4 : ∀ σ, callN B09 H09 (d + 8 + 1) (Str.ofString "_law_expression") [V.d (D.list ((xs.drop 6).map D.int)), V.d (D.list (ns.map D.str))] σ = some (V.d (u1), σ)) (h7 : idxL (xs.map D.int) (5) = some (D.int (w4))) (h8 : ¬ (((w4 / 3) % 3) = 0)) (h9 : idxL (xs.map D.int) (0) = some (D.int (w5))) (h10 : idxL [D.str (Str.ofString "<"), D.str (Str.ofString "<="), D.str (Str.ofString "="), D.str (Str.ofString "!=")] (w5 % 4) = some (D.str (sg1))) (σ : St) : callN B09 H09 (d + 8 + 1 + 1) (Str.ofString "_law_condition") [V.d (D.list (xs.map D.int)), V.d (D.list (ns.map D.str))] σ = some (V.d (D.tup [D.str (sg1), t0, t1]), σ) :=
  path (ds := [D.list (xs.map D.int), D.list (ns.map D.str)]) (i := 20) (x := D.tup [D.str (sg1), t0, t1]) (P := (getItemV [] (V.d (D.list (xs.map D.int))) (V.d (D.int (1))) = some (V.d (D.int (w1)))) ∧ (callN B09 H09 (d + 8 + 1) (Str.ofString "_law_leaf") [V.d (D.int (w1)), V.d (D.list (ns.map D.str))] [] = some (V.d (t0), [])) ∧ (sliceV [] (V.d (D.list (xs.map D.int))) 2 none = some (V.d (D.list ((xs.drop 2).map D.int)))) ∧ (callN B09 H09 (d + 8 + 1) (Str.ofString "_law_expression") [V.d (D.list ((xs.drop 2).map D.int)), V.d (D.list (ns.map D.str))] [] = some (V.d (u0), [])) ∧ (getItemV [] (V.d (D.list (xs.map D.int))) (V.d (D.int (5))) = some (V.d (D.int (w2)))) ∧ (some (decide ((w2 % 3) = 0)) = some false) ∧ (getItemV [] (V.d (D.list (xs.map D.int))) (V.d (D.int (4))) = some (V.d (D.int (w3)))) ∧ (callN B09 H09 (d + 8 + 1) (Str.ofString "_law_leaf") [V.d (D.int (w3)), V.d (D.list (ns.map D.str))] [] = some (V.d (t1), [])) ∧ (sliceV [] (V.d (D.list (xs.map D.int))) 6 none = some (V.d (D.list ((xs.drop 6).map D.int)))) ∧ (callN B09 H09 (d + 8 + 1) (Str.ofString "_law_expression") [V.d (D.list ((xs.drop 6).map D.int)), V.d (D.list (ns.map D.str))] [] = some (V.d (u1), [])) ∧ (getItemV [] (V.d (D.list (xs.map D.int))) (V.d (D.int (5))) = some (V.d (D.int (w4)))) ∧ (some (decide (((w4 / 3) % 3) = 0)) = some false) ∧ (getItemV [] (V.d (D.list (xs.map D.int))) (V.d (D.int (0))) = some (V.d (D.int (w5)))) ∧ (getItemV [] (V.d (D.list [D.str (Str.ofString "<"), D.str (Str.ofString "<="), D.str (Str.ofString "="), D.str (Str.ofString "!=")])) (V.d (D.int (w5 % 4))) = some (V.d (D.str (sg1)))) ∧ some (D.tup [D.str (sg1), t0, t1]) = some (D.tup [D.str (sg1), t0, t1])) [(0, Tell.v (V.d (D.int (w1)))), (1, Tell.w (V.d (t0)) []), (2, Tell.v (V.d (D.list ((xs.drop 2).map D.int)))), (3, Tell.w (V.d (u0)) []), (5, Tell.v (V.d (D.int (w2)))), (7, Tell.b false), (10, Tell.v (V.d (D.int (w3)))), (11, Tell.w (V.d (t1)) []), (12, Tell.v (V.d (D.list ((xs.drop 6).map D.int)))), (13, Tell.w (V.d (u1)) []), (15, Tell.v (V.d (D.int (w4)))), (18, Tell.b false), (22, Tell.v (V.d (D.int (w5)))), (24, Tell.v (V.d (D.str (sg1))))] L09_f__law_condition (L09_imp _) (by kernel_rfl) ⟨idx_list h1, hc1 _, h2, hc2 _, idx_list h3, dF h4, idx_list h5, hc3 _, h6, hc4 _, idx_list h7, dF h8, idx_list h9, idx_list h10, rfl⟩ σ
theorem L09_condition_TF (d : Nat) (xs : List Int) (ns : List Str) (t0 t1 u0 u1 : D) (w1 : Int) (w2 : Int) (w3 : Int) (w4 : Int) (w5 : Int) (sg1 : Str) (h1 : idxL (xs.map D.int) (1) = some (D.int (w1))) (hc1 : ∀ σ, callN B09 H09 (d + 8 + 1) (Str.ofString "_law_leaf") [V.d (D.int (w1)), V.d (D.list (ns.map D.str))] σ = some (V.d (t0), σ)) (h2 : sliceV [] (V.d (D.list (xs.map D.int))) 2 none = some (V.d (D.list ((xs.drop 2).map D.int)))) (hc2 : ∀ σ, callN B09 H09 (d + 8 + 1) (Str.ofString "_law_expression") [V.d (D.list ((xs.drop 2).map D.int)), V.d (D.list (ns.map D.str))] σ = some (V.d (u0), σ)) (h3 : idxL (xs.map D.int) (5) = some (D.int (w2))) (h4 : (w2 % 3) = 0) (h5 : idxL (xs.map D.int) (4) = some (D.int (w3))) (hc3 : ∀ σ, callN B09 H09 (d + 8 + 1) (Str.ofString "_law_leaf") [V.d (D.int (w3)), V.d (D.list (ns.map D.str))] σ = some (V.d (t1), σ)) (h6 : sliceV [] (V.d (D.list (xs.map D.int))) 6 none = some (V.d (D.list ((xs.drop 6).map D.int)))) (hc4 : ∀ σ, callN B09 H09 (d + 8 + 1) (Str.ofString "_law_expression") [V.d (D.list ((xs.drop 6).map D.int)), V.d (D.list (ns.map D.str))] σ = some (V.d (u1), σ)) (h7 : idxL (xs.map D.int) (5) = some (D.int (w4))) (h8 : ¬ (((w4 / 3) % 3) = 0)) (h9 : idxL (xs.map D.int) (0) = some (D.int (w5))) (h10 : idxL [D.str (Str.ofString "<"), D.str (Str.ofString "<="), D.str (Str.ofString "="), D.str (Str.ofString "!=")] (w5 % 4) = some (D.str (sg1))) (σ : St) : callN B09 H09 (d + 8 + 1 + 1) (Str.ofString "_law_condition") [V.d (D.list (xs.map D.int)), V.d (D.list (ns.map D.str))] σ = some (V.d (D.tup [D.str (sg1), u0, t1]), σ) :=
  path (ds := [D.list (xs.map D.int), D.list (ns.map D.str)]) (i := 20) (x := D.tup [D.str (sg1), u0, t1]) (P := (getItemV [] (V.d (D.list (xs.map D.int))) (V.d (D.int (1))) = some (V.d (D.int (w1)))) ∧ (callN B09 H09 (d + 8 + 1) (Str.ofString "_law_leaf") [V.d (D.int (w1)), V.d (D.list (ns.map D.str))] [] = some (V.d (t0), [])) ∧ (sliceV [] (V.d (D.list (xs.map D.int))) 2 none = some (V.d (D.list ((xs.drop 2).map D.int)))) ∧ (callN B09 H09 (d + 8 + 1) (Str.ofString "_law_expression") [V.d (D.list ((xs.drop 2).map D.int)), V.d (D.list (ns.map D.str))] [] = some (V.d (u0), [])) ∧ (getItemV [] (V.d (D.list (xs.map D.int))) (V.d (D.int (5))) = some (V.d (D.int (w2)))) ∧ (some (decide ((w2 % 3) = 0)) = some true) ∧ (getItemV [] (V.d (D.list (xs.map D.int))) (V.d (D.int (4))) = some (V.d (D.int (w3)))) ∧ (callN B09 H09 (d + 8 + 1) (Str.ofString "_law_leaf") [V.d (D.int (w3)), V.d (D.list (ns.map D.str))] [] = some (V.d (t1), [])) ∧ (sliceV [] (V.d (D.list (xs.map D.int))) 6 none = some (V.d (D.list ((xs.drop 6).map D.int)))) ∧ (callN B09 H09 (d + 8 + 1) (Str.ofString "_law_expression") [V.d (D.list ((xs.drop 6).map D.int)), V.d (D.list (ns.map D.str))] [] = some (V.d (u1), [])) ∧ (getItemV [] (V.d (D.list (xs.map D.int))) (V.d (D.int (5))) = some (V.d (D.int (w4)))) ∧ (some (decide (((w4 / 3) % 3) = 0)) = some false) ∧ (getItemV [] (V.d (D.list (xs.map D.int))) (V.d (D.int (0))) = some (V.d (D.int (w5)))) ∧ (getItemV [] (V.d (D.list [D.str (Str.ofString "<"), D.str (Str.ofString "<="), D.str (Str.ofString "="), D.str (Str.ofString "!=")])) (V.d (D.int (w5 % 4))) = some (V.d (D.str (sg1)))) ∧ some (D.tup [D.str (sg1), u0, t1]) = some (D.tup [D.str (sg1), u0, t1])) [(0, Tell.v (V.d (D.int (w1)))), (1, Tell.w (V.d (t0)) []), (2, Tell.v (V.d (D.list ((xs.drop 2).map D.int)))), (3, Tell.w (V.d (u0)) []), (5, Tell.v (V.d (D.int (w2)))), (7, Tell.b true), (10, Tell.v (V.d (D.int (w3)))), (11, Tell.w (V.d (t1)) []), (12, Tell.v (V.d (D.list ((xs.drop 6).map D.int)))), (13, Tell.w (V.d (u1)) []), (15, Tell.v (V.d (D.int (w4)))), (18, Tell.b false), (22, Tell.v (V.d (D.int (w5)))), (24, Tell.v (V.d (D.str (sg1))))] L09_f__law_condition (L09_imp _) (by kernel_rfl) ⟨idx_list h1, hc1 _, h2, hc2 _, idx_list h3, dT h4, idx_list h5, hc3 _, h6, hc4 _, idx_list h7, dF h8, idx_list h9, idx_list h10, rfl⟩ σ
theorem L09_leaf (d : Nat) (x : Int) (ns : List Str) (hx : 0 ≤ x) (h0 : 0 < ns.length) (h1 : ns.length ≤ 100) : ∃ t : T5, t.ok ns ∧ t.dep = 0 ∧ ∀ σ, callN B09 H09 (d + 1 + 1) (Str.ofString "_law_leaf") [.d (.int x), .d (.list (ns.map .str))] σ = some (.d t.D, σ) := by
  obtain ⟨nn, b1, b2, e0⟩ := L09_number d (x / 3) (by omega)
  have m0 := Int.emod_nonneg (x / 3) (show (ns.length : Int) ≠ 0 by omega)
  have m1 := Int.emod_lt_of_pos (x / 3) (show 0 < (ns.length : Int) by omega)
  obtain ⟨w, hw, _, e1⟩ := idx_strs m0 m1 (by omega)
  by_cases h : x % 3 > 0
  · exact ⟨.name w, hw, rfl, L09_leaf_T d x nn ns w e0 (len_strs (by omega)) (by omega) e1 h⟩
  · exact ⟨.num nn, ⟨b1, b2⟩, rfl, L09_leaf_F d x nn ns w e0 (len_strs (by omega)) (by omega) e1 h⟩
theorem L09_tree (ns : List Str) (h0 : 0 < ns.length) (h1 : ns.length ≤ 100) : ∀ (n d : Nat) (x : Int), 0 ≤ x → ∃ t : T5, t.ok ns ∧ t.dep ≤ n ∧ ∀ σ, callN B09 H09 (d + n + 1 + 1 + 1) (Str.ofString "_law_tree") [.d (.int x), .d (.list (ns.map .str)), .d (.int ((n : Int) + 1))] σ = some (.d t.D, σ) := by
  have mem0 : ∀ {a : Int} {r : List Int}, a ∈ a :: r := List.mem_cons_self
  have mem1 : ∀ {a b : Int} {r : List Int}, b ∈ a :: b :: r := List.mem_cons_of_mem _ List.mem_cons_self
  have mem2 : ∀ {a b c : Int} {r : List Int}, c ∈ a :: b :: c :: r := List.mem_cons_of_mem _ (List.mem_cons_of_mem _ List.mem_cons_self)
  intro n
  induction n with
  | zero =>
    intro d x hx
    obtain ⟨t, o, dp, e⟩ := L09_leaf d (x / 5) ns (by omega) h0 h1
    exact ⟨t, o, by omega, L09_tree_T _ _ _ 0 0 0 _ _ default (rfl) (e)⟩
  | succ n ih =>
    intro d x hx
    have hdp : ¬ (((n + 1 : Nat) : Int) + 1 = 1) := by omega
    by_cases h5 : x % 5 = 0
    · obtain ⟨t, o, dp, e⟩ := L09_leaf (d + (n + 1)) (x / 5) ns (by omega) h0 h1
      exact ⟨t, o, by omega, L09_tree_FT _ _ _ 0 0 0 _ _ default (hdp) (h5) (e)⟩
    · obtain ⟨xs, hl, hb, es⟩ := L09_stream (d + (n + 1) + 1) x 3 (by omega) (by omega)
      obtain ⟨x0, x1, x2, rfl⟩ := len3 (show xs.length = 3 from hl)
      have b0 := hb x0 mem0
      have b1 := hb x1 mem1
      have b2 := hb x2 mem2
      have hm : ((n + 1 : Nat) : Int) + 1 - 1 = (n : Int) + 1 := by omega
      obtain ⟨t0, o0, d0, e0⟩ := ih d x0 b0.1
      rw [← hm] at e0
      by_cases h2 : x2 % 5 = 0
      · obtain ⟨w, hw, ew⟩ := pick2 (P := fun w => 0 < w ∧ w ≤ 1000000) (i := x2 / 5 % 2) (a := 9) (b := 1000000) (mod2 _) (by decide) (by decide)
        have m0 := Int.emod_nonneg x1 (show w ≠ 0 by omega)
        have m1 := Int.emod_lt_of_pos x1 hw.1
        exact ⟨.rest t0 (1 + x1 % w), ⟨o0, by omega, by omega⟩, Nat.succ_le_succ d0, L09_tree_FFT _ _ _ _ _ _ _ _ default _ (hdp) (h5) (es) (e0) (h2) (ew) (hw.1)⟩
      · obtain ⟨t1, o1, d1, e1⟩ := ih d x1 b1.1
        rw [← hm] at e1
        have hc := mod3 (x2 / 5)
        have hmx : max t0.dep t1.dep + 1 ≤ n + 1 := by omega
        rcases hc with hc | hc | hc
        · exact ⟨.op .plus t0 t1, ⟨o0, o1⟩, hmx, L09_tree_FFFT _ _ _ _ _ _ _ _ _ (hdp) (h5) (es) (e0) (h2) (by rw [hc]; kernel_rfl) (e1)⟩
        · exact ⟨.op .minus t0 t1, ⟨o0, o1⟩, hmx, L09_tree_FFFF _ _ _ _ _ _ _ _ _ (hdp) (h5) (es) (e0) (h2) (by rw [hc]; kernel_rfl) (e1)⟩
        · exact ⟨.op .times t0 t1, ⟨o0, o1⟩, hmx, L09_tree_FFFG _ _ _ _ _ _ _ _ _ (hdp) (h5) (es) (e0) (h2) (by rw [hc]; kernel_rfl) (e1)⟩
theorem L09_tree8 (ns : List Str) (h0 : 0 < ns.length) (h1 : ns.length ≤ 100) (d : Nat) (x w : Int) (hx : 0 ≤ x) (hw : 1 ≤ w ∧ w ≤ 6) : ∃ t : T5, t.ok ns ∧ t.dep ≤ 5 ∧ ∀ σ, callN B09 H09 (d + 8) (Str.ofString "_law_tree") [.d (.int x), .d (.list (ns.map .str)), .d (.int w)] σ = some (.d t.D, σ) := by
  obtain ⟨n, hn⟩ : ∃ n : Nat, (n : Int) + 1 = w := ⟨(w - 1).toNat, by omega⟩
  obtain ⟨t, o, dp, e⟩ := L09_tree ns h0 h1 n (d + (5 - n)) x hx
  rw [hn, show d + (5 - n) + n + 1 + 1 + 1 = d + 8 by omega] at e
  exact ⟨t, o, by omega, e⟩
theorem L09_expression (d : Nat) (xs : List Int) (ns : List Str) (h0 : 0 < ns.length) (h1 : ns.length ≤ 100) (hl : 2 ≤ xs.length) (hl' : xs.length ≤ 100) (hb : ∀ x ∈ xs, 0 ≤ x ∧ x < 4294967296) : ∃ t : T5, t.ok ns ∧ t.dep ≤ 5 ∧ ∀ σ, callN B09 H09 (d + 8 + 1) (Str.ofString "_law_expression") [.d (.list (xs.map .int)), .d (.list (ns.map .str))] σ = some (.d t.D, σ) := by
  obtain ⟨w1, m1, e1⟩ := idx_ints (ns := xs) (i := 1) (by omega) (by omega) (by omega)
  obtain ⟨w2, m2, e2⟩ := idx_ints (ns := xs) (i := 0) (by omega) (by omega) (by omega)
  have b1 := hb w1 m1
  have b2 := hb w2 m2
  obtain ⟨w, m3, e3⟩ := idx_ints (ns := [1, 2, 2, 2, 3, 3, 4, 6]) (i := w2 % 8) (by omega) (by show w2 % 8 < 8; omega) (by decide)
  have hw : 1 ≤ w ∧ w ≤ 6 := (by decide : ∀ w ∈ ([1, 2, 2, 2, 3, 3, 4, 6] : List Int), 1 ≤ w ∧ w ≤ 6) w m3
  obtain ⟨t, o, dp, e⟩ := L09_tree8 ns h0 h1 d w1 w b1.1 hw
  exact ⟨t, o, dp, L09_expression_0 _ _ _ _ _ _ _ (e1) (e2) (e3) (e)⟩
theorem L09_condition (d : Nat) (xs : List Int) (ns : List Str) (h0 : 0 < ns.length) (h1 : ns.length ≤ 100) (hl : 8 ≤ xs.length) (hl' : xs.length ≤ 100) (hb : ∀ x ∈ xs, 0 ≤ x ∧ x < 4294967296) : ∃ (g : Sg) (l r : T5), l.ok ns ∧ r.ok ns ∧ l.dep ≤ 5 ∧ r.dep ≤ 5 ∧ ∀ σ, callN B09 H09 (d + 8 + 1 + 1) (Str.ofString "_law_condition") [.d (.list (xs.map .int)), .d (.list (ns.map .str))] σ = some (.d (.tup [.str g.str, l.D, r.D]), σ) := by
  obtain ⟨w0, m0, e0⟩ := idx_ints (ns := xs) (i := 0) (by omega) (by omega) (by omega)
  obtain ⟨w1, m1, e1⟩ := idx_ints (ns := xs) (i := 1) (by omega) (by omega) (by omega)
  obtain ⟨w4, m4, e4⟩ := idx_ints (ns := xs) (i := 4) (by omega) (by omega) (by omega)
  obtain ⟨w5, m5, e5⟩ := idx_ints (ns := xs) (i := 5) (by omega) (by omega) (by omega)
  have b0 := hb w0 m0
  have l2 : (xs.drop 2).length = xs.length - 2 := List.length_drop
  have l6 : (xs.drop 6).length = xs.length - 6 := List.length_drop
  obtain ⟨tl1, o1, d1, el1⟩ := L09_leaf (d + 7) w1 ns (hb w1 m1).1 h0 h1
  obtain ⟨tl2, o2, d2, el2⟩ := L09_leaf (d + 7) w4 ns (hb w4 m4).1 h0 h1
  obtain ⟨tx1, o3, d3, ex1⟩ := L09_expression d (xs.drop 2) ns h0 h1 (by omega) (by omega) fun x hx => hb x (List.mem_of_mem_drop hx)
  obtain ⟨tx2, o4, d4, ex2⟩ := L09_expression d (xs.drop 6) ns h0 h1 (by omega) (by omega) fun x hx => hb x (List.mem_of_mem_drop hx)
  obtain ⟨g, eg⟩ := pickSg (mod4 w0)
  by_cases c1 : w5 % 3 = 0
  · by_cases c2 : w5 / 3 % 3 = 0
    · exact ⟨g, tx1, tx2, o3, o4, d3, d4, L09_condition_TT _ _ _ _ _ _ _ _ _ _ _ _ _ (e1) (el1) (slice_list (by omega)) (ex1) (e5) (c1) (e4) (el2) (slice_list (by omega)) (ex2) (e5) (c2) (e0) (eg)⟩
    · exact ⟨g, tx1, tl2, o3, o2, d3, by omega, L09_condition_TF _ _ _ _ _ _ _ _ _ _ _ _ _ (e1) (el1) (slice_list (by omega)) (ex1) (e5) (c1) (e4) (el2) (slice_list (by omega)) (ex2) (e5) (c2) (e0) (eg)⟩
  · by_cases c2 : w5 / 3 % 3 = 0
    · exact ⟨g, tl1, tx2, o1, o4, by omega, d4, L09_condition_FT _ _ _ _ _ _ _ _ _ _ _ _ _ (e1) (el1) (slice_list (by omega)) (ex1) (e5) (c1) (e4) (el2) (slice_list (by omega)) (ex2) (e5) (c2) (e0) (eg)⟩
    · exact ⟨g, tl1, tl2, o1, o2, by omega, by omega, L09_condition_FF _ _ _ _ _ _ _ _ _ _ _ _ _ (e1) (el1) (slice_list (by omega)) (ex1) (e5) (c1) (e4) (el2) (slice_list (by omega)) (ex2) (e5) (c2) (e0) (eg)⟩
theorem L09_lholds_lt0_0 (d : Nat) (t1 t2 hd rr : D)  (hc1 : ∀ σ, callN B09 H09 (d) (Str.ofString "_law_worth") [V.d (t1), V.d (hd)] σ = some (V.d (D.none), σ)) (hc2 : ∀ σ, callN B09 H09 (d) (Str.ofString "_law_worth") [V.d (t2), V.d (hd)] σ = some (V.d (rr), σ)) (σ : St) : callN B09 H09 (d + 1) (Str.ofString "_law_holds") [V.d (D.tup [D.str (Str.ofString "<"), t1, t2]), V.d (hd)] σ = some (V.d (D.none), σ) :=
  path (ds := [D.tup [D.str (Str.ofString "<"), t1, t2], hd]) (i := 22) (x := D.none) (P := (callN B09 H09 (d) (Str.ofString "_law_worth") [V.d (t1), V.d (hd)] [] = some (V.d (D.none), [])) ∧ (callN B09 H09 (d) (Str.ofString "_law_worth") [V.d (t2), V.d (hd)] [] = some (V.d (rr), [])) ∧ some (D.none) = some (D.none)) [(1, Tell.w (V.d (D.none)) []), (3, Tell.w (V.d (rr)) [])] L09_f__law_holds (L09_imp _) (by kernel_rfl) ⟨hc1 _, hc2 _, rfl⟩ σ
theorem L09_lholds_lt1_0 (d : Nat) (t1 t2 hd : D) (a : Int)  (hc1 : ∀ σ, callN B09 H09 (d) (Str.ofString "_law_worth") [V.d (t1), V.d (hd)] σ = some (V.d (D.int (a)), σ)) (hc2 : ∀ σ, callN B09 H09 (d) (Str.ofString "_law_worth") [V.d (t2), V.d (hd)] σ = some (V.d (D.none), σ)) (σ : St) : callN B09 H09 (d + 1) (Str.ofString "_law_holds") [V.d (D.tup [D.str (Str.ofString "<"), t1, t2]), V.d (hd)] σ = some (V.d (D.none), σ) :=
  path (ds := [D.tup [D.str (Str.ofString "<"), t1, t2], hd]) (i := 22) (x := D.none) (P := (callN B09 H09 (d) (Str.ofString "_law_worth") [V.d (t1), V.d (hd)] [] = some (V.d (D.int (a)), [])) ∧ (callN B09 H09 (d) (Str.ofString "_law_worth") [V.d (t2), V.d (hd)] [] = some (V.d (D.none), [])) ∧ some (D.none) = some (D.none)) [(1, Tell.w (V.d (D.int (a))) []), (3, Tell.w (V.d (D.none)) [])] L09_f__law_holds (L09_imp _) (by kernel_rfl) ⟨hc1 _, hc2 _, rfl⟩ σ
theorem L09_lholds_lt2_0 (d : Nat) (t1 t2 hd : D) (a b : Int)  (hc1 : ∀ σ, callN B09 H09 (d) (Str.ofString "_law_worth") [V.d (t1), V.d (hd)] σ = some (V.d (D.int (a)), σ)) (hc2 : ∀ σ, callN B09 H09 (d) (Str.ofString "_law_worth") [V.d (t2), V.d (hd)] σ = some (V.d (D.int (b)), σ)) (σ : St) : callN B09 H09 (d + 1) (Str.ofString "_law_holds") [V.d (D.tup [D.str (Str.ofString "<"), t1, t2]), V.d (hd)] σ = some (V.d (D.bool (decide (a < b))), σ) :=
  path (ds := [D.tup [D.str (Str.ofString "<"), t1, t2], hd]) (i := 22) (x := D.bool (decide (a < b))) (P := (callN B09 H09 (d) (Str.ofString "_law_worth") [V.d (t1), V.d (hd)] [] = some (V.d (D.int (a)), [])) ∧ (callN B09 H09 (d) (Str.ofString "_law_worth") [V.d (t2), V.d (hd)] [] = some (V.d (D.int (b)), [])) ∧ some (D.bool (decide (a < b))) = some (D.bool (decide (a < b)))) [(1, Tell.w (V.d (D.int (a))) []), (3, Tell.w (V.d (D.int (b))) [])] L09_f__law_holds (L09_imp _) (by kernel_rfl) ⟨hc1 _, hc2 _, rfl⟩ σ
theorem L09_lholds_le0_0 (d : Nat) (t1 t2 hd rr : D)  (hc1 : ∀ σ, callN B09 H09 (d) (Str.ofString "_law_worth") [V.d (t1), V.d (hd)] σ = some (V.d (D.none), σ)) (hc2 : ∀ σ, callN B09 H09 (d) (Str.ofString "_law_worth") [V.d (t2), V.d (hd)] σ = some (V.d (rr), σ)) (σ : St) : callN B09 H09 (d + 1) (Str.ofString "_law_holds") [V.d (D.tup [D.str (Str.ofString "<="), t1, t2]), V.d (hd)] σ = some (V.d (D.none), σ) :=
  path (ds := [D.tup [D.str (Str.ofString "<="), t1, t2], hd]) (i := 22) (x := D.none) (P := (callN B09 H09 (d) (Str.ofString "_law_worth") [V.d (t1), V.d (hd)] [] = some (V.d (D.none), [])) ∧ (callN B09 H09 (d) (Str.ofString "_law_worth") [V.d (t2), V.d (hd)] [] = some (V.d (rr), [])) ∧ some (D.none) = some (D.none)) [(1, Tell.w (V.d (D.none)) []), (3, Tell.w (V.d (rr)) [])] L09_f__law_holds (L09_imp _) (by kernel_rfl) ⟨hc1 _, hc2 _, rfl⟩ σ
theorem L09_lholds_le1_0 (d : Nat) (t1 t2 hd : D) (a : Int)  (hc1 : ∀ σ, callN B09 H09 (d) (Str.ofString "_law_worth") [V.d (t1), V.d (hd)] σ = some (V.d (D.int (a)), σ)) (hc2 : ∀ σ, callN B09 H09 (d) (Str.ofString "_law_worth") [V.d (t2), V.d (hd)] σ = some (V.d (D.none), σ)) (σ : St) : callN B09 H09 (d + 1) (Str.ofString "_law_holds") [V.d (D.tup [D.str (Str.ofString "<="), t1, t2]), V.d (hd)] σ = some (V.d (D.none), σ) :=
  path (ds := [D.tup [D.str (Str.ofString "<="), t1, t2], hd]) (i := 22) (x := D.none) (P := (callN B09 H09 (d) (Str.ofString "_law_worth") [V.d (t1), V.d (hd)] [] = some (V.d (D.int (a)), [])) ∧ (callN B09 H09 (d) (Str.ofString "_law_worth") [V.d (t2), V.d (hd)] [] = some (V.d (D.none), [])) ∧ some (D.none) = some (D.none)) [(1, Tell.w (V.d (D.int (a))) []), (3, Tell.w (V.d (D.none)) [])] L09_f__law_holds (L09_imp _) (by kernel_rfl) ⟨hc1 _, hc2 _, rfl⟩ σ
theorem L09_lholds_le2_0 (d : Nat) (t1 t2 hd : D) (a b : Int)  (hc1 : ∀ σ, callN B09 H09 (d) (Str.ofString "_law_worth") [V.d (t1), V.d (hd)] σ = some (V.d (D.int (a)), σ)) (hc2 : ∀ σ, callN B09 H09 (d) (Str.ofString "_law_worth") [V.d (t2), V.d (hd)] σ = some (V.d (D.int (b)), σ)) (σ : St) : callN B09 H09 (d + 1) (Str.ofString "_law_holds") [V.d (D.tup [D.str (Str.ofString "<="), t1, t2]), V.d (hd)] σ = some (V.d (D.bool (decide (a ≤ b))), σ) :=
  path (ds := [D.tup [D.str (Str.ofString "<="), t1, t2], hd]) (i := 22) (x := D.bool (decide (a ≤ b))) (P := (callN B09 H09 (d) (Str.ofString "_law_worth") [V.d (t1), V.d (hd)] [] = some (V.d (D.int (a)), [])) ∧ (callN B09 H09 (d) (Str.ofString "_law_worth") [V.d (t2), V.d (hd)] [] = some (V.d (D.int (b)), [])) ∧ some (D.bool (decide (a ≤ b))) = some (D.bool (decide (a ≤ b)))) [(1, Tell.w (V.d (D.int (a))) []), (3, Tell.w (V.d (D.int (b))) [])] L09_f__law_holds (L09_imp _) (by kernel_rfl) ⟨hc1 _, hc2 _, rfl⟩ σ
theorem L09_lholds_eq0_0 (d : Nat) (t1 t2 hd rr : D)  (hc1 : ∀ σ, callN B09 H09 (d) (Str.ofString "_law_worth") [V.d (t1), V.d (hd)] σ = some (V.d (D.none), σ)) (hc2 : ∀ σ, callN B09 H09 (d) (Str.ofString "_law_worth") [V.d (t2), V.d (hd)] σ = some (V.d (rr), σ)) (σ : St) : callN B09 H09 (d + 1) (Str.ofString "_law_holds") [V.d (D.tup [D.str (Str.ofString "="), t1, t2]), V.d (hd)] σ = some (V.d (D.none), σ) :=
  path (ds := [D.tup [D.str (Str.ofString "="), t1, t2], hd]) (i := 22) (x := D.none) (P := (callN B09 H09 (d) (Str.ofString "_law_worth") [V.d (t1), V.d (hd)] [] = some (V.d (D.none), [])) ∧ (callN B09 H09 (d) (Str.ofString "_law_worth") [V.d (t2), V.d (hd)] [] = some (V.d (rr), [])) ∧ some (D.none) = some (D.none)) [(1, Tell.w (V.d (D.none)) []), (3, Tell.w (V.d (rr)) [])] L09_f__law_holds (L09_imp _) (by kernel_rfl) ⟨hc1 _, hc2 _, rfl⟩ σ
theorem L09_lholds_eq1_0 (d : Nat) (t1 t2 hd : D) (a : Int)  (hc1 : ∀ σ, callN B09 H09 (d) (Str.ofString "_law_worth") [V.d (t1), V.d (hd)] σ = some (V.d (D.int (a)), σ)) (hc2 : ∀ σ, callN B09 H09 (d) (Str.ofString "_law_worth") [V.d (t2), V.d (hd)] σ = some (V.d (D.none), σ)) (σ : St) : callN B09 H09 (d + 1) (Str.ofString "_law_holds") [V.d (D.tup [D.str (Str.ofString "="), t1, t2]), V.d (hd)] σ = some (V.d (D.none), σ) :=
  path (ds := [D.tup [D.str (Str.ofString "="), t1, t2], hd]) (i := 22) (x := D.none) (P := (callN B09 H09 (d) (Str.ofString "_law_worth") [V.d (t1), V.d (hd)] [] = some (V.d (D.int (a)), [])) ∧ (callN B09 H09 (d) (Str.ofString "_law_worth") [V.d (t2), V.d (hd)] [] = some (V.d (D.none), [])) ∧ some (D.none) = some (D.none)) [(1, Tell.w (V.d (D.int (a))) []), (3, Tell.w (V.d (D.none)) [])] L09_f__law_holds (L09_imp _) (by kernel_rfl) ⟨hc1 _, hc2 _, rfl⟩ σ
theorem L09_lholds_eq2_0 (d : Nat) (t1 t2 hd : D) (a b : Int)  (hc1 : ∀ σ, callN B09 H09 (d) (Str.ofString "_law_worth") [V.d (t1), V.d (hd)] σ = some (V.d (D.int (a)), σ)) (hc2 : ∀ σ, callN B09 H09 (d) (Str.ofString "_law_worth") [V.d (t2), V.d (hd)] σ = some (V.d (D.int (b)), σ)) (σ : St) : callN B09 H09 (d + 1) (Str.ofString "_law_holds") [V.d (D.tup [D.str (Str.ofString "="), t1, t2]), V.d (hd)] σ = some (V.d (D.bool (decide (a = b))), σ) :=
  path (ds := [D.tup [D.str (Str.ofString "="), t1, t2], hd]) (i := 22) (x := D.bool (decide (a = b))) (P := (callN B09 H09 (d) (Str.ofString "_law_worth") [V.d (t1), V.d (hd)] [] = some (V.d (D.int (a)), [])) ∧ (callN B09 H09 (d) (Str.ofString "_law_worth") [V.d (t2), V.d (hd)] [] = some (V.d (D.int (b)), [])) ∧ some (D.bool (decide (a = b))) = some (D.bool (decide (a = b)))) [(1, Tell.w (V.d (D.int (a))) []), (3, Tell.w (V.d (D.int (b))) [])] L09_f__law_holds (L09_imp _) (by kernel_rfl) ⟨hc1 _, hc2 _, rfl⟩ σ
theorem L09_lholds_ne0_0 (d : Nat) (t1 t2 hd rr : D)  (hc1 : ∀ σ, callN B09 H09 (d) (Str.ofString "_law_worth") [V.d (t1), V.d (hd)] σ = some (V.d (D.none), σ)) (hc2 : ∀ σ, callN B09 H09 (d) (Str.ofString "_law_worth") [V.d (t2), V.d (hd)] σ = some (V.d (rr), σ)) (σ : St) : callN B09 H09 (d + 1) (Str.ofString "_law_holds") [V.d (D.tup [D.str (Str.ofString "!="), t1, t2]), V.d (hd)] σ = some (V.d (D.none), σ) :=
  path (ds := [D.tup [D.str (Str.ofString "!="), t1, t2], hd]) (i := 22) (x := D.none) (P := (callN B09 H09 (d) (Str.ofString "_law_worth") [V.d (t1), V.d (hd)] [] = some (V.d (D.none), [])) ∧ (callN B09 H09 (d) (Str.ofString "_law_worth") [V.d (t2), V.d (hd)] [] = some (V.d (rr), [])) ∧ some (D.none) = some (D.none)) [(1, Tell.w (V.d (D.none)) []), (3, Tell.w (V.d (rr)) [])] L09_f__law_holds (L09_imp _) (by kernel_rfl) ⟨hc1 _, hc2 _, rfl⟩ σ
theorem L09_lholds_ne1_0 (d : Nat) (t1 t2 hd : D) (a : Int)  (hc1 : ∀ σ, callN B09 H09 (d) (Str.ofString "_law_worth") [V.d (t1), V.d (hd)] σ = some (V.d (D.int (a)), σ)) (hc2 : ∀ σ, callN B09 H09 (d) (Str.ofString "_law_worth") [V.d (t2), V.d (hd)] σ = some (V.d (D.none), σ)) (σ : St) : callN B09 H09 (d + 1) (Str.ofString "_law_holds") [V.d (D.tup [D.str (Str.ofString "!="), t1, t2]), V.d (hd)] σ = some (V.d (D.none), σ) :=
  path (ds := [D.tup [D.str (Str.ofString "!="), t1, t2], hd]) (i := 22) (x := D.none) (P := (callN B09 H09 (d) (Str.ofString "_law_worth") [V.d (t1), V.d (hd)] [] = some (V.d (D.int (a)), [])) ∧ (callN B09 H09 (d) (Str.ofString "_law_worth") [V.d (t2), V.d (hd)] [] = some (V.d (D.none), [])) ∧ some (D.none) = some (D.none)) [(1, Tell.w (V.d (D.int (a))) []), (3, Tell.w (V.d (D.none)) [])] L09_f__law_holds (L09_imp _) (by kernel_rfl) ⟨hc1 _, hc2 _, rfl⟩ σ
theorem L09_lholds_ne2_0 (d : Nat) (t1 t2 hd : D) (a b : Int)  (hc1 : ∀ σ, callN B09 H09 (d) (Str.ofString "_law_worth") [V.d (t1), V.d (hd)] σ = some (V.d (D.int (a)), σ)) (hc2 : ∀ σ, callN B09 H09 (d) (Str.ofString "_law_worth") [V.d (t2), V.d (hd)] σ = some (V.d (D.int (b)), σ)) (σ : St) : callN B09 H09 (d + 1) (Str.ofString "_law_holds") [V.d (D.tup [D.str (Str.ofString "!="), t1, t2]), V.d (hd)] σ = some (V.d (D.bool (!(decide (a = b)))), σ) :=
  path (ds := [D.tup [D.str (Str.ofString "!="), t1, t2], hd]) (i := 22) (x := D.bool (!(decide (a = b)))) (P := (callN B09 H09 (d) (Str.ofString "_law_worth") [V.d (t1), V.d (hd)] [] = some (V.d (D.int (a)), [])) ∧ (callN B09 H09 (d) (Str.ofString "_law_worth") [V.d (t2), V.d (hd)] [] = some (V.d (D.int (b)), [])) ∧ some (D.bool (!(decide (a = b)))) = some (D.bool (!(decide (a = b))))) [(1, Tell.w (V.d (D.int (a))) []), (3, Tell.w (V.d (D.int (b))) [])] L09_f__law_holds (L09_imp _) (by kernel_rfl) ⟨hc1 _, hc2 _, rfl⟩ σ
theorem L09_lholds {ns : List Str} {ks : List Key} {is : List Int} (h : Held InLim ns ks is) (g : Sg) (l r : T5) (ol : l.ok ns) (or : r.ok ns) (d : Nat) (dl : l.dep ≤ d) (dr : r.dep ≤ d) (σ : St) : callN B09 H09 (d + 1 + 1) (Str.ofString "_law_holds") [.d (.tup [.str g.str, l.D, r.D]), .d (.dict ks (is.map .int))] σ = some (.d (cD g (l.ev (gOf ks is)) (r.ev (gOf ks is))), σ) := by
  have hl := L09_lworth h l ol d dl
  have hr := L09_lworth h r or d dr
  cases el : l.ev (gOf ks is) with
  | none =>
      rw [el] at hl
      cases g
      · exact L09_lholds_lt0_0 (d + 1) _ _ _ _ hl hr σ
      · exact L09_lholds_le0_0 (d + 1) _ _ _ _ hl hr σ
      · exact L09_lholds_eq0_0 (d + 1) _ _ _ _ hl hr σ
      · exact L09_lholds_ne0_0 (d + 1) _ _ _ _ hl hr σ
  | some a =>
      rw [el] at hl
      cases er : r.ev (gOf ks is) with
      | none =>
        rw [er] at hr
        cases g
        · exact L09_lholds_lt1_0 (d + 1) _ _ _ a hl hr σ
        · exact L09_lholds_le1_0 (d + 1) _ _ _ a hl hr σ
        · exact L09_lholds_eq1_0 (d + 1) _ _ _ a hl hr σ
        · exact L09_lholds_ne1_0 (d + 1) _ _ _ a hl hr σ
      | some b =>
        rw [er] at hr
        cases g
        · exact L09_lholds_lt2_0 (d + 1) _ _ _ a b hl hr σ
        · exact L09_lholds_le2_0 (d + 1) _ _ _ a b hl hr σ
        · exact L09_lholds_eq2_0 (d + 1) _ _ _ a b hl hr σ
        · exact L09_lholds_ne2_0 (d + 1) _ _ _ a b hl hr σ
noncomputable def L09_NB (c m stp : Int) : Loc := [(Str.ofString "_law_cell", V.d (D.int (c))), (Str.ofString "_law_many", V.d (D.int (m))), (Str.ofString "_law_abc", V.d (D.str (Str.ofString "abcdefghijklmnopqrstuvwxyz"))), (Str.ofString "_law_step", V.d (D.int (stp))), (Str.ofString "_law_found", V.obj 0)]
noncomputable def L09_NL (c m stp : Int) (vj vz vr : V) : Loc := [(Str.ofString "_law_cell", V.d (D.int (c))), (Str.ofString "_law_many", V.d (D.int (m))), (Str.ofString "_law_abc", V.d (D.str (Str.ofString "abcdefghijklmnopqrstuvwxyz"))), (Str.ofString "_law_step", V.d (D.int (stp))), (Str.ofString "_law_found", V.obj 0), (Str.ofString "_law_j", vj), (Str.ofString "_law_size", vz), (Str.ofString "_law_row", vr)]
theorem L09_nbody1 (d : Nat) (c m stp j : Int) (ws : List Str) (js js1 js2 : St) (nr : Nat) (tt : Str) (ch1 : Str) (h1 : small j = true) (h2 : evE (gen B09 H09 (d) (Str.ofString "_law_names")) [(Str.ofString "_law_cell", V.d (D.int (c))), (Str.ofString "_law_many", V.d (D.int (m))), (Str.ofString "_law_abc", V.d (D.str (Str.ofString "abcdefghijklmnopqrstuvwxyz"))), (Str.ofString "_law_step", V.d (D.int (stp))), (Str.ofString "_law_found", V.obj 0), (Str.ofString "_law_j", V.d (D.int (j))), (Str.ofString "_law_size", V.d (D.int (1 + (((c / 7) + (j * (c % 2))) % 8))))] true (asgE (stIn (forBody (stAt B09 16 3)) 1)) ((false, MO.list (((ws).map D.str).map V.d)) :: js) = some (V.obj nr, (false, MO.list (((ws).map D.str).map V.d)) :: js1)) (h3 : getItemV [] (V.d (D.str (Str.ofString "abcdefghijklmnopqrstuvwxyz"))) (V.d (D.int (((c / 56) + (5 * j)) % 26))) = some (V.d (D.str (ch1)))) (h4 : 0 < (1 + (((c / 7) + (j * (c % 2))) % 8))) (h5 : setItemV ((false, MO.list (((ws).map D.str).map V.d)) :: js1) (V.obj nr) (V.d (D.int ((c / 1456) % (1 + (((c / 7) + (j * (c % 2))) % 8))))) (V.d (D.str (ch1))) = some ((false, MO.list (((ws).map D.str).map V.d)) :: js2)) (h6 : methV ((false, MO.list (((ws).map D.str).map V.d)) :: js2) .join (V.d (D.str (Str.ofString ""))) [V.obj nr] = some (V.d (D.str (tt)), (false, MO.list (((ws).map D.str).map V.d)) :: js2)) (h7 : methV ((false, MO.list (((ws).map D.str).map V.d)) :: js2) .append (V.obj 0) [V.d (D.str (tt))] = some (V.d D.none, (false, MO.list (((ws ++ [tt]).map D.str).map V.d)) :: js2)) : evSs (gen B09 H09 (d) (Str.ofString "_law_names")) (forBody (stAt B09 16 3)) [(Str.ofString "_law_cell", V.d (D.int (c))), (Str.ofString "_law_many", V.d (D.int (m))), (Str.ofString "_law_abc", V.d (D.str (Str.ofString "abcdefghijklmnopqrstuvwxyz"))), (Str.ofString "_law_step", V.d (D.int (stp))), (Str.ofString "_law_found", V.obj 0), (Str.ofString "_law_j", V.d (D.int (j)))] (((false, MO.list (((ws).map D.str).map V.d)) :: js)) = some (Fl.next, [(Str.ofString "_law_cell", V.d (D.int (c))), (Str.ofString "_law_many", V.d (D.int (m))), (Str.ofString "_law_abc", V.d (D.str (Str.ofString "abcdefghijklmnopqrstuvwxyz"))), (Str.ofString "_law_step", V.d (D.int (stp))), (Str.ofString "_law_found", V.obj 0), (Str.ofString "_law_j", V.d (D.int (j))), (Str.ofString "_law_size", V.d (D.int (1 + (((c / 7) + (j * (c % 2))) % 8)))), (Str.ofString "_law_row", V.obj nr)], ((false, MO.list (((ws ++ [tt]).map D.str).map V.d)) :: js2)) :=
  pathS (P := (binV ((false, MO.list (((ws).map D.str).map V.d)) :: js) .Mult (V.d (D.int (j))) (V.d (D.int (c % 2))) = some (V.d (D.int (j * (c % 2))))) ∧ (evE (gen B09 H09 (d) (Str.ofString "_law_names")) [(Str.ofString "_law_cell", V.d (D.int (c))), (Str.ofString "_law_many", V.d (D.int (m))), (Str.ofString "_law_abc", V.d (D.str (Str.ofString "abcdefghijklmnopqrstuvwxyz"))), (Str.ofString "_law_step", V.d (D.int (stp))), (Str.ofString "_law_found", V.obj 0), (Str.ofString "_law_j", V.d (D.int (j))), (Str.ofString "_law_size", V.d (D.int (1 + (((c / 7) + (j * (c % 2))) % 8))))] true (asgE (stIn (forBody (stAt B09 16 3)) 1)) ((false, MO.list (((ws).map D.str).map V.d)) :: js) = some (V.obj nr, (false, MO.list (((ws).map D.str).map V.d)) :: js1)) ∧ (getItemV ((false, MO.list (((ws).map D.str).map V.d)) :: js1) (V.d (D.str (Str.ofString "abcdefghijklmnopqrstuvwxyz"))) (V.d (D.int (((c / 56) + (5 * j)) % 26))) = some (V.d (D.str (ch1)))) ∧ (binV ((false, MO.list (((ws).map D.str).map V.d)) :: js1) .Mod (V.d (D.int (c / 1456))) (V.d (D.int (1 + (((c / 7) + (j * (c % 2))) % 8)))) = some (V.d (D.int ((c / 1456) % (1 + (((c / 7) + (j * (c % 2))) % 8)))))) ∧ (setItemV ((false, MO.list (((ws).map D.str).map V.d)) :: js1) (V.obj nr) (V.d (D.int ((c / 1456) % (1 + (((c / 7) + (j * (c % 2))) % 8))))) (V.d (D.str (ch1))) = some ((false, MO.list (((ws).map D.str).map V.d)) :: js2)) ∧ (methV ((false, MO.list (((ws).map D.str).map V.d)) :: js2) .join (V.d (D.str (Str.ofString ""))) [V.obj nr] = some (V.d (D.str (tt)), (false, MO.list (((ws).map D.str).map V.d)) :: js2)) ∧ (methV ((false, MO.list (((ws).map D.str).map V.d)) :: js2) .append (V.obj 0) [V.d (D.str (tt))] = some (V.d D.none, (false, MO.list (((ws ++ [tt]).map D.str).map V.d)) :: js2)) ∧ ((Fl.next, [(Str.ofString "_law_cell", V.d (D.int (c))), (Str.ofString "_law_many", V.d (D.int (m))), (Str.ofString "_law_abc", V.d (D.str (Str.ofString "abcdefghijklmnopqrstuvwxyz"))), (Str.ofString "_law_step", V.d (D.int (stp))), (Str.ofString "_law_found", V.obj 0), (Str.ofString "_law_j", V.d (D.int (j))), (Str.ofString "_law_size", V.d (D.int (1 + (((c / 7) + (j * (c % 2))) % 8)))), (Str.ofString "_law_row", V.obj nr)], ((false, MO.list (((ws ++ [tt]).map D.str).map V.d)) :: js2)) : Fl × Loc × St) = (Fl.next, [(Str.ofString "_law_cell", V.d (D.int (c))), (Str.ofString "_law_many", V.d (D.int (m))), (Str.ofString "_law_abc", V.d (D.str (Str.ofString "abcdefghijklmnopqrstuvwxyz"))), (Str.ofString "_law_step", V.d (D.int (stp))), (Str.ofString "_law_found", V.obj 0), (Str.ofString "_law_j", V.d (D.int (j))), (Str.ofString "_law_size", V.d (D.int (1 + (((c / 7) + (j * (c % 2))) % 8)))), (Str.ofString "_law_row", V.obj nr)], ((false, MO.list (((ws ++ [tt]).map D.str).map V.d)) :: js2))) [(2, Tell.v (V.d (D.int (j * (c % 2))))), (6, Tell.w (V.obj nr) ((false, MO.list (((ws).map D.str).map V.d)) :: js1)), (11, Tell.v (V.d (D.str (ch1)))), (13, Tell.v (V.d (D.int ((c / 1456) % (1 + (((c / 7) + (j * (c % 2))) % 8)))))), (14, Tell.s ((false, MO.list (((ws).map D.str).map V.d)) :: js2)), (15, Tell.w (V.d (D.str (tt))) ((false, MO.list (((ws).map D.str).map V.d)) :: js2)), (16, Tell.w (V.d D.none) ((false, MO.list (((ws ++ [tt]).map D.str).map V.d)) :: js2))] (by kernel_rfl) ⟨mul_ok h1, h2, h3, mod_ok h4, h5, h6, h7, rfl⟩
theorem L09_nbody2 (d : Nat) (c m stp j : Int) (ws : List Str) (js js1 js2 : St) (nr : Nat) (tt : Str) (vz vr : V) (ch1 : Str) (h1 : small j = true) (h2 : evE (gen B09 H09 (d) (Str.ofString "_law_names")) [(Str.ofString "_law_cell", V.d (D.int (c))), (Str.ofString "_law_many", V.d (D.int (m))), (Str.ofString "_law_abc", V.d (D.str (Str.ofString "abcdefghijklmnopqrstuvwxyz"))), (Str.ofString "_law_step", V.d (D.int (stp))), (Str.ofString "_law_found", V.obj 0), (Str.ofString "_law_j", V.d (D.int (j))), (Str.ofString "_law_size", V.d (D.int (1 + (((c / 7) + (j * (c % 2))) % 8)))), (Str.ofString "_law_row", vr)] true (asgE (stIn (forBody (stAt B09 16 3)) 1)) ((false, MO.list (((ws).map D.str).map V.d)) :: js) = some (V.obj nr, (false, MO.list (((ws).map D.str).map V.d)) :: js1)) (h3 : getItemV [] (V.d (D.str (Str.ofString "abcdefghijklmnopqrstuvwxyz"))) (V.d (D.int (((c / 56) + (5 * j)) % 26))) = some (V.d (D.str (ch1)))) (h4 : 0 < (1 + (((c / 7) + (j * (c % 2))) % 8))) (h5 : setItemV ((false, MO.list (((ws).map D.str).map V.d)) :: js1) (V.obj nr) (V.d (D.int ((c / 1456) % (1 + (((c / 7) + (j * (c % 2))) % 8))))) (V.d (D.str (ch1))) = some ((false, MO.list (((ws).map D.str).map V.d)) :: js2)) (h6 : methV ((false, MO.list (((ws).map D.str).map V.d)) :: js2) .join (V.d (D.str (Str.ofString ""))) [V.obj nr] = some (V.d (D.str (tt)), (false, MO.list (((ws).map D.str).map V.d)) :: js2)) (h7 : methV ((false, MO.list (((ws).map D.str).map V.d)) :: js2) .append (V.obj 0) [V.d (D.str (tt))] = some (V.d D.none, (false, MO.list (((ws ++ [tt]).map D.str).map V.d)) :: js2)) : evSs (gen B09 H09 (d) (Str.ofString "_law_names")) (forBody (stAt B09 16 3)) [(Str.ofString "_law_cell", V.d (D.int (c))), (Str.ofString "_law_many", V.d (D.int (m))), (Str.ofString "_law_abc", V.d (D.str (Str.ofString "abcdefghijklmnopqrstuvwxyz"))), (Str.ofString "_law_step", V.d (D.int (stp))), (Str.ofString "_law_found", V.obj 0), (Str.ofString "_law_j", V.d (D.int (j))), (Str.ofString "_law_size", vz), (Str.ofString "_law_row", vr)] (((false, MO.list (((ws).map D.str).map V.d)) :: js)) = some (Fl.next, [(Str.ofString "_law_cell", V.d (D.int (c))), (Str.ofString "_law_many", V.d (D.int (m))), (Str.ofString "_law_abc", V.d (D.str (Str.ofString "abcdefghijklmnopqrstuvwxyz"))), (Str.ofString "_law_step", V.d (D.int (stp))), (Str.ofString "_law_found", V.obj 0), (Str.ofString "_law_j", V.d (D.int (j))), (Str.ofString "_law_size", V.d (D.int (1 + (((c / 7) + (j * (c % 2))) % 8)))), (Str.ofString "_law_row", V.obj nr)], ((false, MO.list (((ws ++ [tt]).map D.str).map V.d)) :: js2)) :=
  pathS (P := (binV ((false, MO.list (((ws).map D.str).map V.d)) :: js) .Mult (V.d (D.int (j))) (V.d (D.int (c % 2))) = some (V.d (D.int (j * (c % 2))))) ∧ (evE (gen B09 H09 (d) (Str.ofString "_law_names")) [(Str.ofString "_law_cell", V.d (D.int (c))), (Str.ofString "_law_many", V.d (D.int (m))), (Str.ofString "_law_abc", V.d (D.str (Str.ofString "abcdefghijklmnopqrstuvwxyz"))), (Str.ofString "_law_step", V.d (D.int (stp))), (Str.ofString "_law_found", V.obj 0), (Str.ofString "_law_j", V.d (D.int (j))), (Str.ofString "_law_size", V.d (D.int (1 + (((c / 7) + (j * (c % 2))) % 8)))), (Str.ofString "_law_row", vr)] true (asgE (stIn (forBody (stAt B09 16 3)) 1)) ((false, MO.list (((ws).map D.str).map V.d)) :: js) = some (V.obj nr, (false, MO.list (((ws).map D.str).map V.d)) :: js1)) ∧ (getItemV ((false, MO.list (((ws).map D.str).map V.d)) :: js1) (V.d (D.str (Str.ofString "abcdefghijklmnopqrstuvwxyz"))) (V.d (D.int (((c / 56) + (5 * j)) % 26))) = some (V.d (D.str (ch1)))) ∧ (binV ((false, MO.list (((ws).map D.str).map V.d)) :: js1) .Mod (V.d (D.int (c / 1456))) (V.d (D.int (1 + (((c / 7) + (j * (c % 2))) % 8)))) = some (V.d (D.int ((c / 1456) % (1 + (((c / 7) + (j * (c % 2))) % 8)))))) ∧ (setItemV ((false, MO.list (((ws).map D.str).map V.d)) :: js1) (V.obj nr) (V.d (D.int ((c / 1456) % (1 + (((c / 7) + (j * (c % 2))) % 8))))) (V.d (D.str (ch1))) = some ((false, MO.list (((ws).map D.str).map V.d)) :: js2)) ∧ (methV ((false, MO.list (((ws).map D.str).map V.d)) :: js2) .join (V.d (D.str (Str.ofString ""))) [V.obj nr] = some (V.d (D.str (tt)), (false, MO.list (((ws).map D.str).map V.d)) :: js2)) ∧ (methV ((false, MO.list (((ws).map D.str).map V.d)) :: js2) .append (V.obj 0) [V.d (D.str (tt))] = some (V.d D.none, (false, MO.list (((ws ++ [tt]).map D.str).map V.d)) :: js2)) ∧ ((Fl.next, [(Str.ofString "_law_cell", V.d (D.int (c))), (Str.ofString "_law_many", V.d (D.int (m))), (Str.ofString "_law_abc", V.d (D.str (Str.ofString "abcdefghijklmnopqrstuvwxyz"))), (Str.ofString "_law_step", V.d (D.int (stp))), (Str.ofString "_law_found", V.obj 0), (Str.ofString "_law_j", V.d (D.int (j))), (Str.ofString "_law_size", V.d (D.int (1 + (((c / 7) + (j * (c % 2))) % 8)))), (Str.ofString "_law_row", V.obj nr)], ((false, MO.list (((ws ++ [tt]).map D.str).map V.d)) :: js2)) : Fl × Loc × St) = (Fl.next, [(Str.ofString "_law_cell", V.d (D.int (c))), (Str.ofString "_law_many", V.d (D.int (m))), (Str.ofString "_law_abc", V.d (D.str (Str.ofString "abcdefghijklmnopqrstuvwxyz"))), (Str.ofString "_law_step", V.d (D.int (stp))), (Str.ofString "_law_found", V.obj 0), (Str.ofString "_law_j", V.d (D.int (j))), (Str.ofString "_law_size", V.d (D.int (1 + (((c / 7) + (j * (c % 2))) % 8)))), (Str.ofString "_law_row", V.obj nr)], ((false, MO.list (((ws ++ [tt]).map D.str).map V.d)) :: js2))) [(2, Tell.v (V.d (D.int (j * (c % 2))))), (6, Tell.w (V.obj nr) ((false, MO.list (((ws).map D.str).map V.d)) :: js1)), (11, Tell.v (V.d (D.str (ch1)))), (13, Tell.v (V.d (D.int ((c / 1456) % (1 + (((c / 7) + (j * (c % 2))) % 8)))))), (14, Tell.s ((false, MO.list (((ws).map D.str).map V.d)) :: js2)), (15, Tell.w (V.d (D.str (tt))) ((false, MO.list (((ws).map D.str).map V.d)) :: js2)), (16, Tell.w (V.d D.none) ((false, MO.list (((ws ++ [tt]).map D.str).map V.d)) :: js2))] (by kernel_rfl) ⟨mul_ok h1, h2, h3, mod_ok h4, h5, h6, h7, rfl⟩
theorem L09_names_0 (d : Nat) (c m : Int) (vj vz vr : V) (ws : List Str) (js : St)  (h1 : evS (gen B09 H09 (d) (Str.ofString "_law_names")) (stAt B09 16 3) [(Str.ofString "_law_cell", V.d (D.int (c))), (Str.ofString "_law_many", V.d (D.int (m))), (Str.ofString "_law_abc", V.d (D.str (Str.ofString "abcdefghijklmnopqrstuvwxyz"))), (Str.ofString "_law_step", V.d (D.int (1 + ((c / 3) % 25)))), (Str.ofString "_law_found", V.obj 0)] [(false, MO.list [])] = some (Fl.next, [(Str.ofString "_law_cell", V.d (D.int (c))), (Str.ofString "_law_many", V.d (D.int (m))), (Str.ofString "_law_abc", V.d (D.str (Str.ofString "abcdefghijklmnopqrstuvwxyz"))), (Str.ofString "_law_step", V.d (D.int (1 + ((c / 3) % 25)))), (Str.ofString "_law_found", V.obj 0), (Str.ofString "_law_j", vj), (Str.ofString "_law_size", vz), (Str.ofString "_law_row", vr)], (false, MO.list (((ws).map D.str).map V.d)) :: js)) (h2 : handD false ((false, MO.list (((ws).map D.str).map V.d)) :: js) (V.obj 0) = some (D.list (ws.map D.str))) (σ : St) : callN B09 H09 (d + 1) (Str.ofString "_law_names") [V.d (D.int (c)), V.d (D.int (m))] σ = some (V.d (D.list (ws.map D.str)), σ) :=
  path (ds := [D.int (c), D.int (m)]) (i := 16) (x := D.list (ws.map D.str)) (P := (evS (gen B09 H09 (d) (Str.ofString "_law_names")) (stAt B09 16 3) [(Str.ofString "_law_cell", V.d (D.int (c))), (Str.ofString "_law_many", V.d (D.int (m))), (Str.ofString "_law_abc", V.d (D.str (Str.ofString "abcdefghijklmnopqrstuvwxyz"))), (Str.ofString "_law_step", V.d (D.int (1 + ((c / 3) % 25)))), (Str.ofString "_law_found", V.obj 0)] [(false, MO.list [])] = some (Fl.next, [(Str.ofString "_law_cell", V.d (D.int (c))), (Str.ofString "_law_many", V.d (D.int (m))), (Str.ofString "_law_abc", V.d (D.str (Str.ofString "abcdefghijklmnopqrstuvwxyz"))), (Str.ofString "_law_step", V.d (D.int (1 + ((c / 3) % 25)))), (Str.ofString "_law_found", V.obj 0), (Str.ofString "_law_j", vj), (Str.ofString "_law_size", vz), (Str.ofString "_law_row", vr)], (false, MO.list (((ws).map D.str).map V.d)) :: js)) ∧ handD false (((false, MO.list (((ws).map D.str).map V.d)) :: js)) (V.obj 0) = some (D.list (ws.map D.str))) [(4, Tell.f Fl.next [(Str.ofString "_law_cell", V.d (D.int (c))), (Str.ofString "_law_many", V.d (D.int (m))), (Str.ofString "_law_abc", V.d (D.str (Str.ofString "abcdefghijklmnopqrstuvwxyz"))), (Str.ofString "_law_step", V.d (D.int (1 + ((c / 3) % 25)))), (Str.ofString "_law_found", V.obj 0), (Str.ofString "_law_j", vj), (Str.ofString "_law_size", vz), (Str.ofString "_law_row", vr)] ((false, MO.list (((ws).map D.str).map V.d)) :: js))] L09_f__law_names (L09_imp _) (by kernel_rfl) ⟨h1, h2⟩ σ
theorem L09_nitem1 (c m stp j sz : Int) (vr : V) : ∀ p : Int, 0 ≤ p → p < 8 → itemP (cSc (asgE (stIn (forBody (stAt B09 16 3)) 1))) [(Str.ofString "_law_cell", V.d (D.int (c))), (Str.ofString "_law_many", V.d (D.int (m))), (Str.ofString "_law_abc", V.d (D.str (Str.ofString "abcdefghijklmnopqrstuvwxyz"))), (Str.ofString "_law_step", V.d (D.int (stp))), (Str.ofString "_law_found", V.obj 0), (Str.ofString "_law_j", V.d (D.int j)), (Str.ofString "_law_size", V.d (D.int sz))] (cTgt (asgE (stIn (forBody (stAt B09 16 3)) 1))) (cElt (asgE (stIn (forBody (stAt B09 16 3)) 1))) (.d (.int p)) = itm (Str.ofString "abcdefghijklmnopqrstuvwxyz") ((c / 56 + p * stp) % 26) := by
  intro p h0 h1
  have hp : p = 0 ∨ p = 1 ∨ p = 2 ∨ p = 3 ∨ p = 4 ∨ p = 5 ∨ p = 6 ∨ p = 7 := by omega
  rcases hp with rfl | rfl | rfl | rfl | rfl | rfl | rfl | rfl
  · kernel_rfl
  · kernel_rfl
  · kernel_rfl
  · kernel_rfl
  · kernel_rfl
  · kernel_rfl
  · kernel_rfl
  · kernel_rfl
theorem L09_ncomp1 (d : Nat) (c m stp j sz : Int) (vr : V) (σ : St) (hs : 1 ≤ sz ∧ sz ≤ 8) : ∃ ss : List Str, (ss.length : Int) = sz ∧ (∀ x ∈ ss, x.length = 1) ∧ evE (gen B09 H09 d (Str.ofString "_law_names")) [(Str.ofString "_law_cell", V.d (D.int (c))), (Str.ofString "_law_many", V.d (D.int (m))), (Str.ofString "_law_abc", V.d (D.str (Str.ofString "abcdefghijklmnopqrstuvwxyz"))), (Str.ofString "_law_step", V.d (D.int (stp))), (Str.ofString "_law_found", V.obj 0), (Str.ofString "_law_j", V.d (D.int j)), (Str.ofString "_law_size", V.d (D.int sz))] true (asgE (stIn (forBody (stAt B09 16 3)) 1)) σ = some (.obj σ.length, σ ++ [(false, .list ((ss.map D.str).map V.d))]) := by
  obtain ⟨ds, e, hl, hp⟩ := mapO_ex (f := itemP (cSc (asgE (stIn (forBody (stAt B09 16 3)) 1))) [(Str.ofString "_law_cell", V.d (D.int (c))), (Str.ofString "_law_many", V.d (D.int (m))), (Str.ofString "_law_abc", V.d (D.str (Str.ofString "abcdefghijklmnopqrstuvwxyz"))), (Str.ofString "_law_step", V.d (D.int (stp))), (Str.ofString "_law_found", V.obj 0), (Str.ofString "_law_j", V.d (D.int j)), (Str.ofString "_law_size", V.d (D.int sz))] (cTgt (asgE (stIn (forBody (stAt B09 16 3)) 1))) (cElt (asgE (stIn (forBody (stAt B09 16 3)) 1)))) (P := fun y => ∃ x : Str, y = .str x ∧ x.length = 1) (l := rangeL 0 sz.toNat) (fun x hx => by
    obtain ⟨p, h0, h1, rfl⟩ := rangeL_mem hx
    rw [L09_nitem1 c m stp j sz vr p h0 (by omega)]
    exact itm_ok abc_len (by omega) (by omega))
  obtain ⟨ss, rfl, h1⟩ := strs_ex hp
  rw [rangeL_len, List.length_map] at hl
  refine ⟨ss, by omega, h1, ?_⟩
  have he : evE (gen B09 H09 d (Str.ofString "_law_names")) [(Str.ofString "_law_cell", V.d (D.int (c))), (Str.ofString "_law_many", V.d (D.int (m))), (Str.ofString "_law_abc", V.d (D.str (Str.ofString "abcdefghijklmnopqrstuvwxyz"))), (Str.ofString "_law_step", V.d (D.int (stp))), (Str.ofString "_law_found", V.obj 0), (Str.ofString "_law_j", V.d (D.int j)), (Str.ofString "_law_size", V.d (D.int sz))] false (cArg (asgE (stIn (forBody (stAt B09 16 3)) 1))) σ = some (.d (.int sz), σ) := by kernel_rfl
  exact comp_range (elt := cElt (asgE (stIn (forBody (stAt B09 16 3)) 1))) (tgt := cTgt (asgE (stIn (forBody (stAt B09 16 3)) 1))) (csc := cSc (asgE (stIn (forBody (stAt B09 16 3)) 1))) (e := cArg (asgE (stIn (forBody (stAt B09 16 3)) 1))) rfl he (by omega) e (by rw [List.length_map]; omega)
theorem L09_nstep1 (d : Nat) (c m stp j : Int) (ws : List Str) (js : St) (hj : 0 ≤ j ∧ j ≤ 100) (hw : ws.length ≤ 100) : ∃ (vz' vr' : V) (t : Str) (js' : St), evSs (gen B09 H09 d (Str.ofString "_law_names")) (forBody (stAt B09 16 3)) [(Str.ofString "_law_cell", V.d (D.int (c))), (Str.ofString "_law_many", V.d (D.int (m))), (Str.ofString "_law_abc", V.d (D.str (Str.ofString "abcdefghijklmnopqrstuvwxyz"))), (Str.ofString "_law_step", V.d (D.int (stp))), (Str.ofString "_law_found", V.obj 0), (Str.ofString "_law_j", V.d (D.int j))] ((false, .list ((ws.map D.str).map V.d)) :: js) = some (.next, L09_NL c m stp (.d (.int j)) vz' vr', (false, .list (((ws ++ [t]).map D.str).map V.d)) :: js') := by
  obtain ⟨ss, hl, h1, e⟩ := L09_ncomp1 d c m stp j (1 + (c / 7 + j * (c % 2)) % 8) (V.d D.none) ((false, .list ((ws.map D.str).map V.d)) :: js) (by omega)
  have hk : 0 ≤ c / 1456 % (1 + (c / 7 + j * (c % 2)) % 8) := Int.emod_nonneg _ (by omega)
  have hk' := Int.emod_lt_of_pos (c / 1456) (show 0 < 1 + (c / 7 + j * (c % 2)) % 8 by omega)
  obtain ⟨ch, ech, lch⟩ := abc_item abc_len (k := (c / 56 + 5 * j) % 26) (by omega) (by omega)
  refine ⟨_, _, _, _, L09_nbody1 d c m stp j ws js _ _ _ _ ch (small_of_lt (by omega) (by omega)) e ech (by omega) (set_row hk (by rw [List.length_map, List.length_map]; omega) (by rw [List.length_map, List.length_map]; omega)) (join_row (ss := ss.set (c / 1456 % (1 + (c / 7 + j * (c % 2)) % 8)).toNat ch) (by rw [List.length_set]; omega) (fun x hx => ?_) (by rw [List.map_set, List.map_set])) (app_strs (by omega))⟩
  rcases List.mem_or_eq_of_mem_set hx with q | q
  · rw [h1 x q]; omega
  · rw [q, lch]; omega
theorem L09_nitem2 (c m stp j sz : Int) (vr : V) : ∀ p : Int, 0 ≤ p → p < 8 → itemP (cSc (asgE (stIn (forBody (stAt B09 16 3)) 1))) [(Str.ofString "_law_cell", V.d (D.int (c))), (Str.ofString "_law_many", V.d (D.int (m))), (Str.ofString "_law_abc", V.d (D.str (Str.ofString "abcdefghijklmnopqrstuvwxyz"))), (Str.ofString "_law_step", V.d (D.int (stp))), (Str.ofString "_law_found", V.obj 0), (Str.ofString "_law_j", V.d (D.int j)), (Str.ofString "_law_size", V.d (D.int sz)), (Str.ofString "_law_row", vr)] (cTgt (asgE (stIn (forBody (stAt B09 16 3)) 1))) (cElt (asgE (stIn (forBody (stAt B09 16 3)) 1))) (.d (.int p)) = itm (Str.ofString "abcdefghijklmnopqrstuvwxyz") ((c / 56 + p * stp) % 26) := by
  intro p h0 h1
  have hp : p = 0 ∨ p = 1 ∨ p = 2 ∨ p = 3 ∨ p = 4 ∨ p = 5 ∨ p = 6 ∨ p = 7 := by omega
  rcases hp with rfl | rfl | rfl | rfl | rfl | rfl | rfl | rfl
  · kernel_rfl
  · kernel_rfl
  · kernel_rfl
  · kernel_rfl
  · kernel_rfl
  · kernel_rfl
  · kernel_rfl
  · kernel_rfl
theorem L09_ncomp2 (d : Nat) (c m stp j sz : Int) (vr : V) (σ : St) (hs : 1 ≤ sz ∧ sz ≤ 8) : ∃ ss : List Str, (ss.length : Int) = sz ∧ (∀ x ∈ ss, x.length = 1) ∧ evE (gen B09 H09 d (Str.ofString "_law_names")) [(Str.ofString "_law_cell", V.d (D.int (c))), (Str.ofString "_law_many", V.d (D.int (m))), (Str.ofString "_law_abc", V.d (D.str (Str.ofString "abcdefghijklmnopqrstuvwxyz"))), (Str.ofString "_law_step", V.d (D.int (stp))), (Str.ofString "_law_found", V.obj 0), (Str.ofString "_law_j", V.d (D.int j)), (Str.ofString "_law_size", V.d (D.int sz)), (Str.ofString "_law_row", vr)] true (asgE (stIn (forBody (stAt B09 16 3)) 1)) σ = some (.obj σ.length, σ ++ [(false, .list ((ss.map D.str).map V.d))]) := by
  obtain ⟨ds, e, hl, hp⟩ := mapO_ex (f := itemP (cSc (asgE (stIn (forBody (stAt B09 16 3)) 1))) [(Str.ofString "_law_cell", V.d (D.int (c))), (Str.ofString "_law_many", V.d (D.int (m))), (Str.ofString "_law_abc", V.d (D.str (Str.ofString "abcdefghijklmnopqrstuvwxyz"))), (Str.ofString "_law_step", V.d (D.int (stp))), (Str.ofString "_law_found", V.obj 0), (Str.ofString "_law_j", V.d (D.int j)), (Str.ofString "_law_size", V.d (D.int sz)), (Str.ofString "_law_row", vr)] (cTgt (asgE (stIn (forBody (stAt B09 16 3)) 1))) (cElt (asgE (stIn (forBody (stAt B09 16 3)) 1)))) (P := fun y => ∃ x : Str, y = .str x ∧ x.length = 1) (l := rangeL 0 sz.toNat) (fun x hx => by
    obtain ⟨p, h0, h1, rfl⟩ := rangeL_mem hx
    rw [L09_nitem2 c m stp j sz vr p h0 (by omega)]
    exact itm_ok abc_len (by omega) (by omega))
  obtain ⟨ss, rfl, h1⟩ := strs_ex hp
  rw [rangeL_len, List.length_map] at hl
  refine ⟨ss, by omega, h1, ?_⟩
  have he : evE (gen B09 H09 d (Str.ofString "_law_names")) [(Str.ofString "_law_cell", V.d (D.int (c))), (Str.ofString "_law_many", V.d (D.int (m))), (Str.ofString "_law_abc", V.d (D.str (Str.ofString "abcdefghijklmnopqrstuvwxyz"))), (Str.ofString "_law_step", V.d (D.int (stp))), (Str.ofString "_law_found", V.obj 0), (Str.ofString "_law_j", V.d (D.int j)), (Str.ofString "_law_size", V.d (D.int sz)), (Str.ofString "_law_row", vr)] false (cArg (asgE (stIn (forBody (stAt B09 16 3)) 1))) σ = some (.d (.int sz), σ) := by kernel_rfl
  exact comp_range (elt := cElt (asgE (stIn (forBody (stAt B09 16 3)) 1))) (tgt := cTgt (asgE (stIn (forBody (stAt B09 16 3)) 1))) (csc := cSc (asgE (stIn (forBody (stAt B09 16 3)) 1))) (e := cArg (asgE (stIn (forBody (stAt B09 16 3)) 1))) rfl he (by omega) e (by rw [List.length_map]; omega)
theorem L09_nstep2 (d : Nat) (c m stp j : Int) (vz vr : V) (ws : List Str) (js : St) (hj : 0 ≤ j ∧ j ≤ 100) (hw : ws.length ≤ 100) : ∃ (vz' vr' : V) (t : Str) (js' : St), evSs (gen B09 H09 d (Str.ofString "_law_names")) (forBody (stAt B09 16 3)) [(Str.ofString "_law_cell", V.d (D.int (c))), (Str.ofString "_law_many", V.d (D.int (m))), (Str.ofString "_law_abc", V.d (D.str (Str.ofString "abcdefghijklmnopqrstuvwxyz"))), (Str.ofString "_law_step", V.d (D.int (stp))), (Str.ofString "_law_found", V.obj 0), (Str.ofString "_law_j", V.d (D.int j)), (Str.ofString "_law_size", vz), (Str.ofString "_law_row", vr)] ((false, .list ((ws.map D.str).map V.d)) :: js) = some (.next, L09_NL c m stp (.d (.int j)) vz' vr', (false, .list (((ws ++ [t]).map D.str).map V.d)) :: js') := by
  obtain ⟨ss, hl, h1, e⟩ := L09_ncomp2 d c m stp j (1 + (c / 7 + j * (c % 2)) % 8) vr ((false, .list ((ws.map D.str).map V.d)) :: js) (by omega)
  have hk : 0 ≤ c / 1456 % (1 + (c / 7 + j * (c % 2)) % 8) := Int.emod_nonneg _ (by omega)
  have hk' := Int.emod_lt_of_pos (c / 1456) (show 0 < 1 + (c / 7 + j * (c % 2)) % 8 by omega)
  obtain ⟨ch, ech, lch⟩ := abc_item abc_len (k := (c / 56 + 5 * j) % 26) (by omega) (by omega)
  refine ⟨_, _, _, _, L09_nbody2 d c m stp j ws js _ _ _ _ vz vr ch (small_of_lt (by omega) (by omega)) e ech (by omega) (set_row hk (by rw [List.length_map, List.length_map]; omega) (by rw [List.length_map, List.length_map]; omega)) (join_row (ss := ss.set (c / 1456 % (1 + (c / 7 + j * (c % 2)) % 8)).toNat ch) (by rw [List.length_set]; omega) (fun x hx => ?_) (by rw [List.map_set, List.map_set])) (app_strs (by omega))⟩
  rcases List.mem_or_eq_of_mem_set hx with q | q
  · rw [h1 x q]; omega
  · rw [q, lch]; omega
theorem L09_names (d : Nat) (c m : Int) (hm : 1 ≤ m ∧ m ≤ 12) : ∃ ws : List Str, (ws.length : Int) = m ∧ ∀ σ, callN B09 H09 (d + 1) (Str.ofString "_law_names") [.d (.int c), .d (.int m)] σ = some (.d (.list (ws.map .str)), σ) := by
  obtain ⟨n, hn⟩ : ∃ n : Nat, m.toNat = n + 1 := ⟨m.toNat - 1, by omega⟩
  have hs0 : ∀ v, setV (Str.ofString "_law_j") v (L09_NB c m (1 + c / 3 % 25)) = [(Str.ofString "_law_cell", V.d (D.int (c))), (Str.ofString "_law_many", V.d (D.int (m))), (Str.ofString "_law_abc", V.d (D.str (Str.ofString "abcdefghijklmnopqrstuvwxyz"))), (Str.ofString "_law_step", V.d (D.int (1 + c / 3 % 25))), (Str.ofString "_law_found", V.obj 0), (Str.ofString "_law_j", v)] := fun v => by kernel_rfl
  have hs1 : ∀ u v vz vr, setV (Str.ofString "_law_j") v (L09_NL c m (1 + c / 3 % 25) u vz vr) = L09_NL c m (1 + c / 3 % 25) v vz vr := fun u v vz vr => by kernel_rfl
  obtain ⟨ρ', σ', e, ws, js, vj, vz, vr, rfl, rfl, hw⟩ := range_two (f := fun v ρ σ => evSs (gen B09 H09 d (Str.ofString "_law_names")) (forBody (stAt B09 16 3)) (setV (Str.ofString "_law_j") v ρ) σ) (ρ0 := L09_NB c m (1 + c / 3 % 25)) (σ0 := [(false, .list [])])
    (Inv := fun k ρ σ => ∃ (ws : List Str) (js : St) (vj vz vr : V), ρ = L09_NL c m (1 + c / 3 % 25) vj vz vr ∧ σ = (false, .list ((ws.map D.str).map V.d)) :: js ∧ ws.length = k)
    (by
      obtain ⟨vz, vr, t, js, e⟩ := L09_nstep1 d c m (1 + c / 3 % 25) 0 [] [] (by omega) (Nat.zero_le _)
      refine ⟨_, _, ?_, [t], js, .d (.int 0), vz, vr, rfl, rfl, rfl⟩
      rw [hs0]; exact e) n (fun k ρ σ h1 h2 hi => by
      obtain ⟨ws, js, vj, vz, vr, rfl, rfl, hl⟩ := hi
      obtain ⟨vz', vr', t, js', e⟩ := L09_nstep2 d c m (1 + c / 3 % 25) (k : Nat) vz vr ws js (by omega) (by omega)
      refine ⟨_, _, ?_, ws ++ [t], js', .d (.int (k : Nat)), vz', vr', rfl, rfl, by rw [List.length_append]; show ws.length + 1 = _; omega⟩
      rw [hs1]; exact e)
  refine ⟨ws, by omega, L09_names_0 d c m vj vz vr ws js ?_ (hand_strs _)⟩
  have he : evE (gen B09 H09 d (Str.ofString "_law_names")) (L09_NB c m (1 + c / 3 % 25)) false (rangeArg (stAt B09 16 3)) [(false, .list [])] = some (.d (.int m), [(false, .list [])]) := by kernel_rfl
  refine for_range (x := Str.ofString "_law_j") (body := forBody (stAt B09 16 3)) rfl he (by omega) ?_
  rw [hn]
  exact e
theorem L09_cut_T (d : Nat) (x y : Int)  (h1 : (if (-1000000) > x then -1000000 else x) > (if 1000000 < y then 1000000 else y)) (σ : St) : callN B09 H09 (d + 1) (Str.ofString "cut") [V.d (D.int (x)), V.d (D.int (y))] σ = some (V.d (D.none), σ) :=
  path (ds := [D.int (x), D.int (y)]) (i := 0) (x := D.none) (P := (some (decide ((if (-1000000) > x then -1000000 else x) > (if 1000000 < y then 1000000 else y))) = some true) ∧ some (D.none) = some (D.none)) [(3, Tell.b true)] L09_f_cut (L09_imp _) (by kernel_rfl) ⟨dT h1, rfl⟩ σ
theorem L09_cut_F (d : Nat) (x y : Int)  (h1 : ¬ ((if (-1000000) > x then -1000000 else x) > (if 1000000 < y then 1000000 else y))) (σ : St) : callN B09 H09 (d + 1) (Str.ofString "cut") [V.d (D.int (x)), V.d (D.int (y))] σ = some (V.d (D.tup [D.int (if (-1000000) > x then -1000000 else x), D.int (if 1000000 < y then 1000000 else y)]), σ) :=
  path (ds := [D.int (x), D.int (y)]) (i := 0) (x := D.tup [D.int (if (-1000000) > x then -1000000 else x), D.int (if 1000000 < y then 1000000 else y)]) (P := (some (decide ((if (-1000000) > x then -1000000 else x) > (if 1000000 < y then 1000000 else y))) = some false) ∧ some (D.tup [D.int (if (-1000000) > x then -1000000 else x), D.int (if 1000000 < y then 1000000 else y)]) = some (D.tup [D.int (if (-1000000) > x then -1000000 else x), D.int (if 1000000 < y then 1000000 else y)])) [(3, Tell.b false)] L09_f_cut (L09_imp _) (by kernel_rfl) ⟨dF h1, rfl⟩ σ
theorem L09_cut (d : Nat) (x y : Int) (σ : St) : callN B09 H09 (d + 1) (Str.ofString "cut") [.d (.int x), .d (.int y)] σ = some (.d (sD (cutS x y)), σ) := by
  by_cases h : (if -1000000 > x then -1000000 else x) > (if 1000000 < y then 1000000 else y)
  · rw [cutS_none h]; exact L09_cut_T d x y h σ
  · rw [cutS_some h]; exact L09_cut_F d x y h σ
theorem L09_plus_0 (d : Nat) (a b c e : Int)  (hc1 : ∀ σ, callN B09 H09 (d + 1) (Str.ofString "cut") [V.d (D.int (a + c)), V.d (D.int (b + e))] σ = some (V.d (sD (cutS (a + c) (b + e))), σ)) (σ : St) : callN B09 H09 (d + 1 + 1) (Str.ofString "plus") [V.d (D.tup [D.int (a), D.int (b)]), V.d (D.tup [D.int (c), D.int (e)])] σ = some (V.d (sD (cutS (a + c) (b + e))), σ) :=
  path (ds := [D.tup [D.int (a), D.int (b)], D.tup [D.int (c), D.int (e)]]) (i := 1) (x := sD (cutS (a + c) (b + e))) (P := (callN B09 H09 (d + 1) (Str.ofString "cut") [V.d (D.int (a + c)), V.d (D.int (b + e))] [] = some (V.d (sD (cutS (a + c) (b + e))), [])) ∧ some (sD (cutS (a + c) (b + e))) = some (sD (cutS (a + c) (b + e)))) [(6, Tell.w (V.d (sD (cutS (a + c) (b + e)))) [])] L09_f_plus (L09_imp _) (by kernel_rfl) ⟨hc1 _, rfl⟩ σ
theorem L09_minus_0 (d : Nat) (a b c e : Int)  (hc1 : ∀ σ, callN B09 H09 (d + 1) (Str.ofString "cut") [V.d (D.int (a - e)), V.d (D.int (b - c))] σ = some (V.d (sD (cutS (a - e) (b - c))), σ)) (σ : St) : callN B09 H09 (d + 1 + 1) (Str.ofString "minus") [V.d (D.tup [D.int (a), D.int (b)]), V.d (D.tup [D.int (c), D.int (e)])] σ = some (V.d (sD (cutS (a - e) (b - c))), σ) :=
  path (ds := [D.tup [D.int (a), D.int (b)], D.tup [D.int (c), D.int (e)]]) (i := 2) (x := sD (cutS (a - e) (b - c))) (P := (callN B09 H09 (d + 1) (Str.ofString "cut") [V.d (D.int (a - e)), V.d (D.int (b - c))] [] = some (V.d (sD (cutS (a - e) (b - c))), [])) ∧ some (sD (cutS (a - e) (b - c))) = some (sD (cutS (a - e) (b - c)))) [(6, Tell.w (V.d (sD (cutS (a - e) (b - c)))) [])] L09_f_minus (L09_imp _) (by kernel_rfl) ⟨hc1 _, rfl⟩ σ
theorem L09_times_0 (d : Nat) (a b c e : Int)  (h1 : small a = true) (h2 : small b = true) (hc1 : ∀ σ, callN B09 H09 (d + 1) (Str.ofString "cut") [V.d (D.int (mn4 (a * c) (a * e) (b * c) (b * e))), V.d (D.int (mx4 (a * c) (a * e) (b * c) (b * e)))] σ = some (V.d (sD (cutS (mn4 (a * c) (a * e) (b * c) (b * e)) (mx4 (a * c) (a * e) (b * c) (b * e)))), σ)) (σ : St) : callN B09 H09 (d + 1 + 1) (Str.ofString "times") [V.d (D.tup [D.int (a), D.int (b)]), V.d (D.tup [D.int (c), D.int (e)])] σ = some (V.d (sD (cutS (mn4 (a * c) (a * e) (b * c) (b * e)) (mx4 (a * c) (a * e) (b * c) (b * e)))), σ) :=
  path (ds := [D.tup [D.int (a), D.int (b)], D.tup [D.int (c), D.int (e)]]) (i := 3) (x := sD (cutS (mn4 (a * c) (a * e) (b * c) (b * e)) (mx4 (a * c) (a * e) (b * c) (b * e)))) (P := (binV [] .Mult (V.d (D.int (a))) (V.d (D.int (c))) = some (V.d (D.int (a * c)))) ∧ (binV [] .Mult (V.d (D.int (a))) (V.d (D.int (e))) = some (V.d (D.int (a * e)))) ∧ (binV [] .Mult (V.d (D.int (b))) (V.d (D.int (c))) = some (V.d (D.int (b * c)))) ∧ (binV [] .Mult (V.d (D.int (b))) (V.d (D.int (e))) = some (V.d (D.int (b * e)))) ∧ (callN B09 H09 (d + 1) (Str.ofString "cut") [V.d (D.int (mn4 (a * c) (a * e) (b * c) (b * e))), V.d (D.int (mx4 (a * c) (a * e) (b * c) (b * e)))] [] = some (V.d (sD (cutS (mn4 (a * c) (a * e) (b * c) (b * e)) (mx4 (a * c) (a * e) (b * c) (b * e)))), [])) ∧ some (sD (cutS (mn4 (a * c) (a * e) (b * c) (b * e)) (mx4 (a * c) (a * e) (b * c) (b * e)))) = some (sD (cutS (mn4 (a * c) (a * e) (b * c) (b * e)) (mx4 (a * c) (a * e) (b * c) (b * e))))) [(2, Tell.v (V.d (D.int (a * c)))), (5, Tell.v (V.d (D.int (a * e)))), (8, Tell.v (V.d (D.int (b * c)))), (11, Tell.v (V.d (D.int (b * e)))), (15, Tell.w (V.d (sD (cutS (mn4 (a * c) (a * e) (b * c) (b * e)) (mx4 (a * c) (a * e) (b * c) (b * e))))) [])] L09_f_times (L09_imp _) (by kernel_rfl) ⟨mul_ok h1, mul_ok h1, mul_ok h2, mul_ok h2, hc1 _, rfl⟩ σ
theorem L09_rest_T (d : Nat) (a b k : Int)  (h1 : 0 < k ∧ k < 1000000000) (h2 : (a / k) = (b / k)) (h3 : 0 < k) (σ : St) : callN B09 H09 (d + 1) (Str.ofString "rest") [V.d (D.tup [D.int (a), D.int (b)]), V.d (D.int (k))] σ = some (V.d (D.tup [D.int (a % k), D.int (b % k)]), σ) :=
  path (ds := [D.tup [D.int (a), D.int (b)], D.int (k)]) (i := 4) (x := D.tup [D.int (a % k), D.int (b % k)]) (P := (binV [] .FloorDiv (V.d (D.int (a))) (V.d (D.int (k))) = some (V.d (D.int (a / k)))) ∧ (binV [] .FloorDiv (V.d (D.int (b))) (V.d (D.int (k))) = some (V.d (D.int (b / k)))) ∧ (some (decide ((a / k) = (b / k))) = some true) ∧ (binV [] .Mod (V.d (D.int (a))) (V.d (D.int (k))) = some (V.d (D.int (a % k)))) ∧ (binV [] .Mod (V.d (D.int (b))) (V.d (D.int (k))) = some (V.d (D.int (b % k)))) ∧ some (D.tup [D.int (a % k), D.int (b % k)]) = some (D.tup [D.int (a % k), D.int (b % k)])) [(1, Tell.v (V.d (D.int (a / k)))), (3, Tell.v (V.d (D.int (b / k)))), (5, Tell.b true), (7, Tell.v (V.d (D.int (a % k)))), (9, Tell.v (V.d (D.int (b % k))))] L09_f_rest (L09_imp _) (by kernel_rfl) ⟨div_ok h1, div_ok h1, dT h2, mod_ok h3, mod_ok h3, rfl⟩ σ
theorem L09_rest_F (d : Nat) (a b k : Int)  (h1 : 0 < k ∧ k < 1000000000) (h2 : ¬ ((a / k) = (b / k))) (σ : St) : callN B09 H09 (d + 1) (Str.ofString "rest") [V.d (D.tup [D.int (a), D.int (b)]), V.d (D.int (k))] σ = some (V.d (D.tup [D.int (0), D.int (k - 1)]), σ) :=
  path (ds := [D.tup [D.int (a), D.int (b)], D.int (k)]) (i := 4) (x := D.tup [D.int (0), D.int (k - 1)]) (P := (binV [] .FloorDiv (V.d (D.int (a))) (V.d (D.int (k))) = some (V.d (D.int (a / k)))) ∧ (binV [] .FloorDiv (V.d (D.int (b))) (V.d (D.int (k))) = some (V.d (D.int (b / k)))) ∧ (some (decide ((a / k) = (b / k))) = some false) ∧ some (D.tup [D.int (0), D.int (k - 1)]) = some (D.tup [D.int (0), D.int (k - 1)])) [(1, Tell.v (V.d (D.int (a / k)))), (3, Tell.v (V.d (D.int (b / k)))), (5, Tell.b false)] L09_f_rest (L09_imp _) (by kernel_rfl) ⟨div_ok h1, div_ok h1, dF h2, rfl⟩ σ
theorem L09_lcut_T (d : Nat) (x y : Int)  (h1 : y < (-1000000)) (σ : St) : callN B09 H09 (d + 1) (Str.ofString "_law_cut") [V.d (D.int (x)), V.d (D.int (y))] σ = some (V.d (D.none), σ) :=
  path (ds := [D.int (x), D.int (y)]) (i := 30) (x := D.none) (P := (some (decide (y < (-1000000))) = some true) ∧ (some (decide (y < (-1000000))) = some true) ∧ some (D.none) = some (D.none)) [(1, Tell.b true), (2, Tell.b true)] L09_f__law_cut (L09_imp _) (by kernel_rfl) ⟨dT h1, dT h1, rfl⟩ σ
theorem L09_lcut_FT (d : Nat) (x y : Int)  (h1 : ¬ (y < (-1000000))) (h2 : x > 1000000) (σ : St) : callN B09 H09 (d + 1) (Str.ofString "_law_cut") [V.d (D.int (x)), V.d (D.int (y))] σ = some (V.d (D.none), σ) :=
  path (ds := [D.int (x), D.int (y)]) (i := 30) (x := D.none) (P := (some (decide (y < (-1000000))) = some false) ∧ (some (decide (x > 1000000)) = some true) ∧ some (D.none) = some (D.none)) [(1, Tell.b false), (3, Tell.b true)] L09_f__law_cut (L09_imp _) (by kernel_rfl) ⟨dF h1, dT h2, rfl⟩ σ
theorem L09_lcut_FF (d : Nat) (x y : Int)  (h1 : ¬ (y < (-1000000))) (h2 : ¬ (x > 1000000)) (σ : St) : callN B09 H09 (d + 1) (Str.ofString "_law_cut") [V.d (D.int (x)), V.d (D.int (y))] σ = some (V.d (D.tup [D.int (if (-1000000) > x then -1000000 else x), D.int (if 1000000 < y then 1000000 else y)]), σ) :=
  path (ds := [D.int (x), D.int (y)]) (i := 30) (x := D.tup [D.int (if (-1000000) > x then -1000000 else x), D.int (if 1000000 < y then 1000000 else y)]) (P := (some (decide (y < (-1000000))) = some false) ∧ (some (decide (x > 1000000)) = some false) ∧ some (D.tup [D.int (if (-1000000) > x then -1000000 else x), D.int (if 1000000 < y then 1000000 else y)]) = some (D.tup [D.int (if (-1000000) > x then -1000000 else x), D.int (if 1000000 < y then 1000000 else y)])) [(1, Tell.b false), (3, Tell.b false)] L09_f__law_cut (L09_imp _) (by kernel_rfl) ⟨dF h1, dF h2, rfl⟩ σ
theorem L09_rest (d : Nat) (p : Int × Int) (k : Int) (hk : 1 ≤ k ∧ k ≤ 1000000) (σ : St) : callN B09 H09 (d + 1) (Str.ofString "rest") [.d (pD p), .d (.int k)] σ = some (.d (pD (rstS k p)), σ) := by
  by_cases h : p.1 / k = p.2 / k
  · have e : rstS k p = (p.1 % k, p.2 % k) := if_pos h
    rw [e]; exact L09_rest_T d p.1 p.2 k (by omega) h (by omega) σ
  · have e : rstS k p = (0, k - 1) := if_neg h
    rw [e]; exact L09_rest_F d p.1 p.2 k (by omega) h σ
theorem L09_lcut (d : Nat) (x y : Int) (hxy : x ≤ y) (σ : St) : callN B09 H09 (d + 1) (Str.ofString "_law_cut") [.d (.int x), .d (.int y)] σ = some (.d (sD (cutS x y)), σ) := by
  by_cases h1 : y < -1000000
  · rw [cutS_none (by omega)]; exact L09_lcut_T d x y h1 σ
  · by_cases h2 : x > 1000000
    · rw [cutS_none (by omega)]; exact L09_lcut_FT d x y h1 h2 σ
    · rw [cutS_some (by omega)]; exact L09_lcut_FF d x y h1 h2 σ
theorem L09_opS (d : Nat) (o : Op3) (p q : Int × Int) (hp : InS p) (σ : St) : callN B09 H09 (d + 1 + 1) (Str.ofString "plus") [.d (pD p), .d (pD q)] σ = some (.d (sD (opS .plus p q)), σ) ∧ callN B09 H09 (d + 1 + 1) (Str.ofString "minus") [.d (pD p), .d (pD q)] σ = some (.d (sD (opS .minus p q)), σ) ∧ callN B09 H09 (d + 1 + 1) (Str.ofString "times") [.d (pD p), .d (pD q)] σ = some (.d (sD (opS .times p q)), σ) := by
  have h := hp
  unfold InS at h
  exact ⟨L09_plus_0 d p.1 p.2 q.1 q.2 (L09_cut d _ _) σ, L09_minus_0 d p.1 p.2 q.1 q.2 (L09_cut d _ _) σ, L09_times_0 d p.1 p.2 q.1 q.2 (small_of_lt (by omega) (by omega)) (small_of_lt (by omega) (by omega)) (L09_cut d _ _) σ⟩
theorem L09_reach_n_0 (d : Nat) (n : Int) (kd : D)   (σ : St) : callN B09 H09 (d + 1) (Str.ofString "reach") [V.d (D.int (n)), V.d (kd)] σ = some (V.d (D.tup [D.int (n), D.int (n)]), σ) :=
  path (ds := [D.int (n), kd]) (i := 6) (x := D.tup [D.int (n), D.int (n)]) (P := some (D.tup [D.int (n), D.int (n)]) = some (D.tup [D.int (n), D.int (n)])) [] L09_f_reach (L09_imp _) (by kernel_rfl) rfl σ
theorem L09_reach_s_0 (d : Nat) (x : Str) (kd it : D)  (h1 : getItemV [] (V.d (kd)) (V.d (D.str (x))) = some (V.d (it))) (σ : St) : callN B09 H09 (d + 1) (Str.ofString "reach") [V.d (D.str (x)), V.d (kd)] σ = some (V.d (it), σ) :=
  path (ds := [D.str (x), kd]) (i := 6) (x := it) (P := (getItemV [] (V.d (kd)) (V.d (D.str (x))) = some (V.d (it))) ∧ some (it) = some (it)) [(4, Tell.v (V.d (it)))] L09_f_reach (L09_imp _) (by kernel_rfl) ⟨h1, rfl⟩ σ
theorem L09_reach_r0_0 (d : Nat) (t1 kd : D) (k : Int)  (hc1 : ∀ σ, callN B09 H09 (d) (Str.ofString "reach") [V.d (t1), V.d (kd)] σ = some (V.d (D.none), σ)) (σ : St) : callN B09 H09 (d + 1) (Str.ofString "reach") [V.d (D.tup [D.str (Str.ofString "rest"), t1, D.int (k)]), V.d (kd)] σ = some (V.d (D.none), σ) :=
  path (ds := [D.tup [D.str (Str.ofString "rest"), t1, D.int (k)], kd]) (i := 6) (x := D.none) (P := (callN B09 H09 (d) (Str.ofString "reach") [V.d (t1), V.d (kd)] [] = some (V.d (D.none), [])) ∧ some (D.none) = some (D.none)) [(5, Tell.w (V.d (D.none)) [])] L09_f_reach (L09_imp _) (by kernel_rfl) ⟨hc1 _, rfl⟩ σ
theorem L09_reach_r1_0 (d : Nat) (t1 kd rs : D) (k a b : Int)  (hc1 : ∀ σ, callN B09 H09 (d) (Str.ofString "reach") [V.d (t1), V.d (kd)] σ = some (V.d (D.tup [D.int (a), D.int (b)]), σ)) (hc2 : ∀ σ, callN B09 H09 (d) (Str.ofString "rest") [V.d (D.tup [D.int (a), D.int (b)]), V.d (D.int (k))] σ = some (V.d (rs), σ)) (σ : St) : callN B09 H09 (d + 1) (Str.ofString "reach") [V.d (D.tup [D.str (Str.ofString "rest"), t1, D.int (k)]), V.d (kd)] σ = some (V.d (rs), σ) :=
  path (ds := [D.tup [D.str (Str.ofString "rest"), t1, D.int (k)], kd]) (i := 6) (x := rs) (P := (callN B09 H09 (d) (Str.ofString "reach") [V.d (t1), V.d (kd)] [] = some (V.d (D.tup [D.int (a), D.int (b)]), [])) ∧ (callN B09 H09 (d) (Str.ofString "rest") [V.d (D.tup [D.int (a), D.int (b)]), V.d (D.int (k))] [] = some (V.d (rs), [])) ∧ some (rs) = some (rs)) [(5, Tell.w (V.d (D.tup [D.int (a), D.int (b)])) []), (12, Tell.w (V.d (rs)) [])] L09_f_reach (L09_imp _) (by kernel_rfl) ⟨hc1 _, hc2 _, rfl⟩ σ
theorem L09_reach_p0_0 (d : Nat) (t1 t2 kd : D)  (hc1 : ∀ σ, callN B09 H09 (d) (Str.ofString "reach") [V.d (t1), V.d (kd)] σ = some (V.d (D.none), σ)) (σ : St) : callN B09 H09 (d + 1) (Str.ofString "reach") [V.d (D.tup [D.str (Str.ofString "+"), t1, t2]), V.d (kd)] σ = some (V.d (D.none), σ) :=
  path (ds := [D.tup [D.str (Str.ofString "+"), t1, t2], kd]) (i := 6) (x := D.none) (P := (callN B09 H09 (d) (Str.ofString "reach") [V.d (t1), V.d (kd)] [] = some (V.d (D.none), [])) ∧ some (D.none) = some (D.none)) [(5, Tell.w (V.d (D.none)) [])] L09_f_reach (L09_imp _) (by kernel_rfl) ⟨hc1 _, rfl⟩ σ
theorem L09_reach_p1_0 (d : Nat) (t1 t2 kd : D) (a b : Int)  (hc1 : ∀ σ, callN B09 H09 (d) (Str.ofString "reach") [V.d (t1), V.d (kd)] σ = some (V.d (D.tup [D.int (a), D.int (b)]), σ)) (hc2 : ∀ σ, callN B09 H09 (d) (Str.ofString "reach") [V.d (t2), V.d (kd)] σ = some (V.d (D.none), σ)) (σ : St) : callN B09 H09 (d + 1) (Str.ofString "reach") [V.d (D.tup [D.str (Str.ofString "+"), t1, t2]), V.d (kd)] σ = some (V.d (D.none), σ) :=
  path (ds := [D.tup [D.str (Str.ofString "+"), t1, t2], kd]) (i := 6) (x := D.none) (P := (callN B09 H09 (d) (Str.ofString "reach") [V.d (t1), V.d (kd)] [] = some (V.d (D.tup [D.int (a), D.int (b)]), [])) ∧ (callN B09 H09 (d) (Str.ofString "reach") [V.d (t2), V.d (kd)] [] = some (V.d (D.none), [])) ∧ some (D.none) = some (D.none)) [(5, Tell.w (V.d (D.tup [D.int (a), D.int (b)])) []), (12, Tell.w (V.d (D.none)) [])] L09_f_reach (L09_imp _) (by kernel_rfl) ⟨hc1 _, hc2 _, rfl⟩ σ
theorem L09_reach_p2_0 (d : Nat) (t1 t2 kd rs : D) (a b c e : Int)  (hc1 : ∀ σ, callN B09 H09 (d) (Str.ofString "reach") [V.d (t1), V.d (kd)] σ = some (V.d (D.tup [D.int (a), D.int (b)]), σ)) (hc2 : ∀ σ, callN B09 H09 (d) (Str.ofString "reach") [V.d (t2), V.d (kd)] σ = some (V.d (D.tup [D.int (c), D.int (e)]), σ)) (hc3 : ∀ σ, callN B09 H09 (d) (Str.ofString "plus") [V.d (D.tup [D.int (a), D.int (b)]), V.d (D.tup [D.int (c), D.int (e)])] σ = some (V.d (rs), σ)) (σ : St) : callN B09 H09 (d + 1) (Str.ofString "reach") [V.d (D.tup [D.str (Str.ofString "+"), t1, t2]), V.d (kd)] σ = some (V.d (rs), σ) :=
  path (ds := [D.tup [D.str (Str.ofString "+"), t1, t2], kd]) (i := 6) (x := rs) (P := (callN B09 H09 (d) (Str.ofString "reach") [V.d (t1), V.d (kd)] [] = some (V.d (D.tup [D.int (a), D.int (b)]), [])) ∧ (callN B09 H09 (d) (Str.ofString "reach") [V.d (t2), V.d (kd)] [] = some (V.d (D.tup [D.int (c), D.int (e)]), [])) ∧ (callN B09 H09 (d) (Str.ofString "plus") [V.d (D.tup [D.int (a), D.int (b)]), V.d (D.tup [D.int (c), D.int (e)])] [] = some (V.d (rs), [])) ∧ some (rs) = some (rs)) [(5, Tell.w (V.d (D.tup [D.int (a), D.int (b)])) []), (12, Tell.w (V.d (D.tup [D.int (c), D.int (e)])) []), (18, Tell.w (V.d (rs)) [])] L09_f_reach (L09_imp _) (by kernel_rfl) ⟨hc1 _, hc2 _, hc3 _, rfl⟩ σ
theorem L09_reach_m0_0 (d : Nat) (t1 t2 kd : D)  (hc1 : ∀ σ, callN B09 H09 (d) (Str.ofString "reach") [V.d (t1), V.d (kd)] σ = some (V.d (D.none), σ)) (σ : St) : callN B09 H09 (d + 1) (Str.ofString "reach") [V.d (D.tup [D.str (Str.ofString "-"), t1, t2]), V.d (kd)] σ = some (V.d (D.none), σ) :=
  path (ds := [D.tup [D.str (Str.ofString "-"), t1, t2], kd]) (i := 6) (x := D.none) (P := (callN B09 H09 (d) (Str.ofString "reach") [V.d (t1), V.d (kd)] [] = some (V.d (D.none), [])) ∧ some (D.none) = some (D.none)) [(5, Tell.w (V.d (D.none)) [])] L09_f_reach (L09_imp _) (by kernel_rfl) ⟨hc1 _, rfl⟩ σ
theorem L09_reach_m1_0 (d : Nat) (t1 t2 kd : D) (a b : Int)  (hc1 : ∀ σ, callN B09 H09 (d) (Str.ofString "reach") [V.d (t1), V.d (kd)] σ = some (V.d (D.tup [D.int (a), D.int (b)]), σ)) (hc2 : ∀ σ, callN B09 H09 (d) (Str.ofString "reach") [V.d (t2), V.d (kd)] σ = some (V.d (D.none), σ)) (σ : St) : callN B09 H09 (d + 1) (Str.ofString "reach") [V.d (D.tup [D.str (Str.ofString "-"), t1, t2]), V.d (kd)] σ = some (V.d (D.none), σ) :=
  path (ds := [D.tup [D.str (Str.ofString "-"), t1, t2], kd]) (i := 6) (x := D.none) (P := (callN B09 H09 (d) (Str.ofString "reach") [V.d (t1), V.d (kd)] [] = some (V.d (D.tup [D.int (a), D.int (b)]), [])) ∧ (callN B09 H09 (d) (Str.ofString "reach") [V.d (t2), V.d (kd)] [] = some (V.d (D.none), [])) ∧ some (D.none) = some (D.none)) [(5, Tell.w (V.d (D.tup [D.int (a), D.int (b)])) []), (12, Tell.w (V.d (D.none)) [])] L09_f_reach (L09_imp _) (by kernel_rfl) ⟨hc1 _, hc2 _, rfl⟩ σ
theorem L09_reach_m2_0 (d : Nat) (t1 t2 kd rs : D) (a b c e : Int)  (hc1 : ∀ σ, callN B09 H09 (d) (Str.ofString "reach") [V.d (t1), V.d (kd)] σ = some (V.d (D.tup [D.int (a), D.int (b)]), σ)) (hc2 : ∀ σ, callN B09 H09 (d) (Str.ofString "reach") [V.d (t2), V.d (kd)] σ = some (V.d (D.tup [D.int (c), D.int (e)]), σ)) (hc3 : ∀ σ, callN B09 H09 (d) (Str.ofString "minus") [V.d (D.tup [D.int (a), D.int (b)]), V.d (D.tup [D.int (c), D.int (e)])] σ = some (V.d (rs), σ)) (σ : St) : callN B09 H09 (d + 1) (Str.ofString "reach") [V.d (D.tup [D.str (Str.ofString "-"), t1, t2]), V.d (kd)] σ = some (V.d (rs), σ) :=
  path (ds := [D.tup [D.str (Str.ofString "-"), t1, t2], kd]) (i := 6) (x := rs) (P := (callN B09 H09 (d) (Str.ofString "reach") [V.d (t1), V.d (kd)] [] = some (V.d (D.tup [D.int (a), D.int (b)]), [])) ∧ (callN B09 H09 (d) (Str.ofString "reach") [V.d (t2), V.d (kd)] [] = some (V.d (D.tup [D.int (c), D.int (e)]), [])) ∧ (callN B09 H09 (d) (Str.ofString "minus") [V.d (D.tup [D.int (a), D.int (b)]), V.d (D.tup [D.int (c), D.int (e)])] [] = some (V.d (rs), [])) ∧ some (rs) = some (rs)) [(5, Tell.w (V.d (D.tup [D.int (a), D.int (b)])) []), (12, Tell.w (V.d (D.tup [D.int (c), D.int (e)])) []), (21, Tell.w (V.d (rs)) [])] L09_f_reach (L09_imp _) (by kernel_rfl) ⟨hc1 _, hc2 _, hc3 _, rfl⟩ σ
theorem L09_reach_t0_0 (d : Nat) (t1 t2 kd : D)  (hc1 : ∀ σ, callN B09 H09 (d) (Str.ofString "reach") [V.d (t1), V.d (kd)] σ = some (V.d (D.none), σ)) (σ : St) : callN B09 H09 (d + 1) (Str.ofString "reach") [V.d (D.tup [D.str (Str.ofString "*"), t1, t2]), V.d (kd)] σ = some (V.d (D.none), σ) :=
  path (ds := [D.tup [D.str (Str.ofString "*"), t1, t2], kd]) (i := 6) (x := D.none) (P := (callN B09 H09 (d) (Str.ofString "reach") [V.d (t1), V.d (kd)] [] = some (V.d (D.none), [])) ∧ some (D.none) = some (D.none)) [(5, Tell.w (V.d (D.none)) [])] L09_f_reach (L09_imp _) (by kernel_rfl) ⟨hc1 _, rfl⟩ σ
theorem L09_reach_t1_0 (d : Nat) (t1 t2 kd : D) (a b : Int)  (hc1 : ∀ σ, callN B09 H09 (d) (Str.ofString "reach") [V.d (t1), V.d (kd)] σ = some (V.d (D.tup [D.int (a), D.int (b)]), σ)) (hc2 : ∀ σ, callN B09 H09 (d) (Str.ofString "reach") [V.d (t2), V.d (kd)] σ = some (V.d (D.none), σ)) (σ : St) : callN B09 H09 (d + 1) (Str.ofString "reach") [V.d (D.tup [D.str (Str.ofString "*"), t1, t2]), V.d (kd)] σ = some (V.d (D.none), σ) :=
  path (ds := [D.tup [D.str (Str.ofString "*"), t1, t2], kd]) (i := 6) (x := D.none) (P := (callN B09 H09 (d) (Str.ofString "reach") [V.d (t1), V.d (kd)] [] = some (V.d (D.tup [D.int (a), D.int (b)]), [])) ∧ (callN B09 H09 (d) (Str.ofString "reach") [V.d (t2), V.d (kd)] [] = some (V.d (D.none), [])) ∧ some (D.none) = some (D.none)) [(5, Tell.w (V.d (D.tup [D.int (a), D.int (b)])) []), (12, Tell.w (V.d (D.none)) [])] L09_f_reach (L09_imp _) (by kernel_rfl) ⟨hc1 _, hc2 _, rfl⟩ σ
theorem L09_reach_t2_0 (d : Nat) (t1 t2 kd rs : D) (a b c e : Int)  (hc1 : ∀ σ, callN B09 H09 (d) (Str.ofString "reach") [V.d (t1), V.d (kd)] σ = some (V.d (D.tup [D.int (a), D.int (b)]), σ)) (hc2 : ∀ σ, callN B09 H09 (d) (Str.ofString "reach") [V.d (t2), V.d (kd)] σ = some (V.d (D.tup [D.int (c), D.int (e)]), σ)) (hc3 : ∀ σ, callN B09 H09 (d) (Str.ofString "times") [V.d (D.tup [D.int (a), D.int (b)]), V.d (D.tup [D.int (c), D.int (e)])] σ = some (V.d (rs), σ)) (σ : St) : callN B09 H09 (d + 1) (Str.ofString "reach") [V.d (D.tup [D.str (Str.ofString "*"), t1, t2]), V.d (kd)] σ = some (V.d (rs), σ) :=
  path (ds := [D.tup [D.str (Str.ofString "*"), t1, t2], kd]) (i := 6) (x := rs) (P := (callN B09 H09 (d) (Str.ofString "reach") [V.d (t1), V.d (kd)] [] = some (V.d (D.tup [D.int (a), D.int (b)]), [])) ∧ (callN B09 H09 (d) (Str.ofString "reach") [V.d (t2), V.d (kd)] [] = some (V.d (D.tup [D.int (c), D.int (e)]), [])) ∧ (callN B09 H09 (d) (Str.ofString "times") [V.d (D.tup [D.int (a), D.int (b)]), V.d (D.tup [D.int (c), D.int (e)])] [] = some (V.d (rs), [])) ∧ some (rs) = some (rs)) [(5, Tell.w (V.d (D.tup [D.int (a), D.int (b)])) []), (12, Tell.w (V.d (D.tup [D.int (c), D.int (e)])) []), (21, Tell.w (V.d (rs)) [])] L09_f_reach (L09_imp _) (by kernel_rfl) ⟨hc1 _, hc2 _, hc3 _, rfl⟩ σ
theorem L09_reach {ns : List Str} {ks : List Key} {ps : List (Int × Int)} (h : Held InS ns ks ps) : ∀ (t : T5), t.ok ns → ∀ d, t.dep + 2 ≤ d → ∀ σ, callN B09 H09 (d + 1) (Str.ofString "reach") [.d t.D, .d (.dict ks (ps.map pD))] σ = some (.d (sD (t.reach (gOf ks ps))), σ) := by
  have hg : ∀ x ∈ ns, InS (gOf ks ps x) := fun x hx => (h.at hx).2
  intro t
  induction t with
  | num n => intro _ d _ σ; exact L09_reach_n_0 d n _ σ
  | name x => intro hx d _ σ; exact L09_reach_s_0 d x _ _ (item_held (e := pD) h hx) σ
  | rest t k ih =>
    intro ho d hd σ
    have hdep : (T5.rest t k).dep = t.dep + 1 := rfl
    obtain ⟨d, rfl⟩ : ∃ e, d = e + 1 := ⟨d - 1, by omega⟩
    have hl := ih ho.1 d (by omega)
    show _ = some (V.d (sD ((t.reach (gOf ks ps)).map (rstS k))), σ)
    cases e : t.reach (gOf ks ps) with
    | none => rw [e] at hl; exact L09_reach_r0_0 (d + 1) _ _ k hl σ
    | some p => rw [e] at hl; exact L09_reach_r1_0 (d + 1) _ _ _ k p.1 p.2 hl (L09_rest d p k ho.2) σ
  | op o l r ihl ihr =>
    intro ho d hd σ
    have hdep : (T5.op o l r).dep = max l.dep r.dep + 1 := rfl
    obtain ⟨d, rfl⟩ : ∃ e, d = e + 1 + 1 := ⟨d - 2, by omega⟩
    have hl := ihl ho.1 (d + 1) (by omega)
    have hr := ihr ho.2 (d + 1) (by omega)
    show _ = some (V.d (sD ((l.reach (gOf ks ps)).bind fun a => (r.reach (gOf ks ps)).bind fun b => opS o a b)), σ)
    cases el : l.reach (gOf ks ps) with
    | none =>
      rw [el] at hl
      cases o
      · exact L09_reach_p0_0 (d + 1 + 1) _ _ _ hl σ
      · exact L09_reach_m0_0 (d + 1 + 1) _ _ _ hl σ
      · exact L09_reach_t0_0 (d + 1 + 1) _ _ _ hl σ
    | some a =>
      rw [el] at hl
      have ha := T5.reach_in hg l ho.1 a el
      cases er : r.reach (gOf ks ps) with
      | none =>
        rw [er] at hr
        cases o
        · exact L09_reach_p1_0 (d + 1 + 1) _ _ _ a.1 a.2 hl hr σ
        · exact L09_reach_m1_0 (d + 1 + 1) _ _ _ a.1 a.2 hl hr σ
        · exact L09_reach_t1_0 (d + 1 + 1) _ _ _ a.1 a.2 hl hr σ
      | some b =>
        rw [er] at hr
        cases o
        · exact L09_reach_p2_0 (d + 1 + 1) _ _ _ _ a.1 a.2 b.1 b.2 hl hr (fun σ => (L09_opS d .plus a b ha σ).1) σ
        · exact L09_reach_m2_0 (d + 1 + 1) _ _ _ _ a.1 a.2 b.1 b.2 hl hr (fun σ => (L09_opS d .plus a b ha σ).2.1) σ
        · exact L09_reach_t2_0 (d + 1 + 1) _ _ _ _ a.1 a.2 b.1 b.2 hl hr (fun σ => (L09_opS d .plus a b ha σ).2.2) σ
theorem L09_lreach_n_0 (d : Nat) (n : Int) (kd : D)   (σ : St) : callN B09 H09 (d + 1) (Str.ofString "_law_reach") [V.d (D.int (n)), V.d (kd)] σ = some (V.d (D.tup [D.int (n), D.int (n)]), σ) :=
  path (ds := [D.int (n), kd]) (i := 31) (x := D.tup [D.int (n), D.int (n)]) (P := some (D.tup [D.int (n), D.int (n)]) = some (D.tup [D.int (n), D.int (n)])) [] L09_f__law_reach (L09_imp _) (by kernel_rfl) rfl σ
theorem L09_lreach_s_0 (d : Nat) (x : Str) (kd it : D)  (h1 : getItemV [] (V.d (kd)) (V.d (D.str (x))) = some (V.d (it))) (σ : St) : callN B09 H09 (d + 1) (Str.ofString "_law_reach") [V.d (D.str (x)), V.d (kd)] σ = some (V.d (it), σ) :=
  path (ds := [D.str (x), kd]) (i := 31) (x := it) (P := (getItemV [] (V.d (kd)) (V.d (D.str (x))) = some (V.d (it))) ∧ some (it) = some (it)) [(2, Tell.v (V.d (it)))] L09_f__law_reach (L09_imp _) (by kernel_rfl) ⟨h1, rfl⟩ σ
theorem L09_lreach_r0_0 (d : Nat) (t1 kd : D) (k : Int)  (hc1 : ∀ σ, callN B09 H09 (d) (Str.ofString "_law_reach") [V.d (t1), V.d (kd)] σ = some (V.d (D.none), σ)) (hc2 : ∀ σ, callN B09 H09 (d) (Str.ofString "_law_reach") [V.d (D.int (k)), V.d (kd)] σ = some (V.d (D.tup [D.int (k), D.int (k)]), σ)) (σ : St) : callN B09 H09 (d + 1) (Str.ofString "_law_reach") [V.d (D.tup [D.str (Str.ofString "rest"), t1, D.int (k)]), V.d (kd)] σ = some (V.d (D.none), σ) :=
  path (ds := [D.tup [D.str (Str.ofString "rest"), t1, D.int (k)], kd]) (i := 31) (x := D.none) (P := (callN B09 H09 (d) (Str.ofString "_law_reach") [V.d (t1), V.d (kd)] [] = some (V.d (D.none), [])) ∧ (callN B09 H09 (d) (Str.ofString "_law_reach") [V.d (D.int (k)), V.d (kd)] [] = some (V.d (D.tup [D.int (k), D.int (k)]), [])) ∧ some (D.none) = some (D.none)) [(6, Tell.w (V.d (D.none)) []), (8, Tell.w (V.d (D.tup [D.int (k), D.int (k)])) [])] L09_f__law_reach (L09_imp _) (by kernel_rfl) ⟨hc1 _, hc2 _, rfl⟩ σ
theorem L09_lreach_r1_T (d : Nat) (t1 kd : D) (k a b : Int)  (hc1 : ∀ σ, callN B09 H09 (d) (Str.ofString "_law_reach") [V.d (t1), V.d (kd)] σ = some (V.d (D.tup [D.int (a), D.int (b)]), σ)) (hc2 : ∀ σ, callN B09 H09 (d) (Str.ofString "_law_reach") [V.d (D.int (k)), V.d (kd)] σ = some (V.d (D.tup [D.int (k), D.int (k)]), σ)) (h1 : 0 < k ∧ k < 1000000000) (h2 : (b / k) > (a / k)) (σ : St) : callN B09 H09 (d + 1) (Str.ofString "_law_reach") [V.d (D.tup [D.str (Str.ofString "rest"), t1, D.int (k)]), V.d (kd)] σ = some (V.d (D.tup [D.int (0), D.int (k - 1)]), σ) :=
  path (ds := [D.tup [D.str (Str.ofString "rest"), t1, D.int (k)], kd]) (i := 31) (x := D.tup [D.int (0), D.int (k - 1)]) (P := (callN B09 H09 (d) (Str.ofString "_law_reach") [V.d (t1), V.d (kd)] [] = some (V.d (D.tup [D.int (a), D.int (b)]), [])) ∧ (callN B09 H09 (d) (Str.ofString "_law_reach") [V.d (D.int (k)), V.d (kd)] [] = some (V.d (D.tup [D.int (k), D.int (k)]), [])) ∧ (binV [] .FloorDiv (V.d (D.int (b))) (V.d (D.int (k))) = some (V.d (D.int (b / k)))) ∧ (binV [] .FloorDiv (V.d (D.int (a))) (V.d (D.int (k))) = some (V.d (D.int (a / k)))) ∧ (some (decide ((b / k) > (a / k))) = some true) ∧ some (D.tup [D.int (0), D.int (k - 1)]) = some (D.tup [D.int (0), D.int (k - 1)])) [(6, Tell.w (V.d (D.tup [D.int (a), D.int (b)])) []), (8, Tell.w (V.d (D.tup [D.int (k), D.int (k)])) []), (18, Tell.v (V.d (D.int (b / k)))), (20, Tell.v (V.d (D.int (a / k)))), (22, Tell.b true)] L09_f__law_reach (L09_imp _) (by kernel_rfl) ⟨hc1 _, hc2 _, div_ok h1, div_ok h1, dT h2, rfl⟩ σ
theorem L09_lreach_r1_F (d : Nat) (t1 kd : D) (k a b : Int)  (hc1 : ∀ σ, callN B09 H09 (d) (Str.ofString "_law_reach") [V.d (t1), V.d (kd)] σ = some (V.d (D.tup [D.int (a), D.int (b)]), σ)) (hc2 : ∀ σ, callN B09 H09 (d) (Str.ofString "_law_reach") [V.d (D.int (k)), V.d (kd)] σ = some (V.d (D.tup [D.int (k), D.int (k)]), σ)) (h1 : 0 < k ∧ k < 1000000000) (h2 : ¬ ((b / k) > (a / k))) (h3 : small (a / k) = true) (σ : St) : callN B09 H09 (d + 1) (Str.ofString "_law_reach") [V.d (D.tup [D.str (Str.ofString "rest"), t1, D.int (k)]), V.d (kd)] σ = some (V.d (D.tup [D.int (a - ((a / k) * k)), D.int (b - ((a / k) * k))]), σ) :=
  path (ds := [D.tup [D.str (Str.ofString "rest"), t1, D.int (k)], kd]) (i := 31) (x := D.tup [D.int (a - ((a / k) * k)), D.int (b - ((a / k) * k))]) (P := (callN B09 H09 (d) (Str.ofString "_law_reach") [V.d (t1), V.d (kd)] [] = some (V.d (D.tup [D.int (a), D.int (b)]), [])) ∧ (callN B09 H09 (d) (Str.ofString "_law_reach") [V.d (D.int (k)), V.d (kd)] [] = some (V.d (D.tup [D.int (k), D.int (k)]), [])) ∧ (binV [] .FloorDiv (V.d (D.int (b))) (V.d (D.int (k))) = some (V.d (D.int (b / k)))) ∧ (binV [] .FloorDiv (V.d (D.int (a))) (V.d (D.int (k))) = some (V.d (D.int (a / k)))) ∧ (some (decide ((b / k) > (a / k))) = some false) ∧ (binV [] .FloorDiv (V.d (D.int (a))) (V.d (D.int (k))) = some (V.d (D.int (a / k)))) ∧ (binV [] .Mult (V.d (D.int (a / k))) (V.d (D.int (k))) = some (V.d (D.int ((a / k) * k)))) ∧ (binV [] .FloorDiv (V.d (D.int (a))) (V.d (D.int (k))) = some (V.d (D.int (a / k)))) ∧ (binV [] .Mult (V.d (D.int (a / k))) (V.d (D.int (k))) = some (V.d (D.int ((a / k) * k)))) ∧ some (D.tup [D.int (a - ((a / k) * k)), D.int (b - ((a / k) * k))]) = some (D.tup [D.int (a - ((a / k) * k)), D.int (b - ((a / k) * k))])) [(6, Tell.w (V.d (D.tup [D.int (a), D.int (b)])) []), (8, Tell.w (V.d (D.tup [D.int (k), D.int (k)])) []), (18, Tell.v (V.d (D.int (b / k)))), (20, Tell.v (V.d (D.int (a / k)))), (22, Tell.b false), (25, Tell.v (V.d (D.int (a / k)))), (26, Tell.v (V.d (D.int ((a / k) * k)))), (30, Tell.v (V.d (D.int (a / k)))), (31, Tell.v (V.d (D.int ((a / k) * k))))] L09_f__law_reach (L09_imp _) (by kernel_rfl) ⟨hc1 _, hc2 _, div_ok h1, div_ok h1, dF h2, div_ok h1, mul_ok h3, div_ok h1, mul_ok h3, rfl⟩ σ
theorem L09_lreach_p0_0 (d : Nat) (t1 t2 kd rr : D)  (hc1 : ∀ σ, callN B09 H09 (d) (Str.ofString "_law_reach") [V.d (t1), V.d (kd)] σ = some (V.d (D.none), σ)) (hc2 : ∀ σ, callN B09 H09 (d) (Str.ofString "_law_reach") [V.d (t2), V.d (kd)] σ = some (V.d (rr), σ)) (σ : St) : callN B09 H09 (d + 1) (Str.ofString "_law_reach") [V.d (D.tup [D.str (Str.ofString "+"), t1, t2]), V.d (kd)] σ = some (V.d (D.none), σ) :=
  path (ds := [D.tup [D.str (Str.ofString "+"), t1, t2], kd]) (i := 31) (x := D.none) (P := (callN B09 H09 (d) (Str.ofString "_law_reach") [V.d (t1), V.d (kd)] [] = some (V.d (D.none), [])) ∧ (callN B09 H09 (d) (Str.ofString "_law_reach") [V.d (t2), V.d (kd)] [] = some (V.d (rr), [])) ∧ some (D.none) = some (D.none)) [(6, Tell.w (V.d (D.none)) []), (8, Tell.w (V.d (rr)) [])] L09_f__law_reach (L09_imp _) (by kernel_rfl) ⟨hc1 _, hc2 _, rfl⟩ σ
theorem L09_lreach_p1_0 (d : Nat) (t1 t2 kd : D) (a b : Int)  (hc1 : ∀ σ, callN B09 H09 (d) (Str.ofString "_law_reach") [V.d (t1), V.d (kd)] σ = some (V.d (D.tup [D.int (a), D.int (b)]), σ)) (hc2 : ∀ σ, callN B09 H09 (d) (Str.ofString "_law_reach") [V.d (t2), V.d (kd)] σ = some (V.d (D.none), σ)) (σ : St) : callN B09 H09 (d + 1) (Str.ofString "_law_reach") [V.d (D.tup [D.str (Str.ofString "+"), t1, t2]), V.d (kd)] σ = some (V.d (D.none), σ) :=
  path (ds := [D.tup [D.str (Str.ofString "+"), t1, t2], kd]) (i := 31) (x := D.none) (P := (callN B09 H09 (d) (Str.ofString "_law_reach") [V.d (t1), V.d (kd)] [] = some (V.d (D.tup [D.int (a), D.int (b)]), [])) ∧ (callN B09 H09 (d) (Str.ofString "_law_reach") [V.d (t2), V.d (kd)] [] = some (V.d (D.none), [])) ∧ some (D.none) = some (D.none)) [(6, Tell.w (V.d (D.tup [D.int (a), D.int (b)])) []), (8, Tell.w (V.d (D.none)) [])] L09_f__law_reach (L09_imp _) (by kernel_rfl) ⟨hc1 _, hc2 _, rfl⟩ σ
theorem L09_lreach_p2_0 (d : Nat) (t1 t2 kd rs : D) (a b c e : Int)  (hc1 : ∀ σ, callN B09 H09 (d) (Str.ofString "_law_reach") [V.d (t1), V.d (kd)] σ = some (V.d (D.tup [D.int (a), D.int (b)]), σ)) (hc2 : ∀ σ, callN B09 H09 (d) (Str.ofString "_law_reach") [V.d (t2), V.d (kd)] σ = some (V.d (D.tup [D.int (c), D.int (e)]), σ)) (hc3 : ∀ σ, callN B09 H09 (d) (Str.ofString "_law_cut") [V.d (D.int (a + c)), V.d (D.int (b + e))] σ = some (V.d (rs), σ)) (σ : St) : callN B09 H09 (d + 1) (Str.ofString "_law_reach") [V.d (D.tup [D.str (Str.ofString "+"), t1, t2]), V.d (kd)] σ = some (V.d (rs), σ) :=
  path (ds := [D.tup [D.str (Str.ofString "+"), t1, t2], kd]) (i := 31) (x := rs) (P := (callN B09 H09 (d) (Str.ofString "_law_reach") [V.d (t1), V.d (kd)] [] = some (V.d (D.tup [D.int (a), D.int (b)]), [])) ∧ (callN B09 H09 (d) (Str.ofString "_law_reach") [V.d (t2), V.d (kd)] [] = some (V.d (D.tup [D.int (c), D.int (e)]), [])) ∧ (callN B09 H09 (d) (Str.ofString "_law_cut") [V.d (D.int (a + c)), V.d (D.int (b + e))] [] = some (V.d (rs), [])) ∧ some (rs) = some (rs)) [(6, Tell.w (V.d (D.tup [D.int (a), D.int (b)])) []), (8, Tell.w (V.d (D.tup [D.int (c), D.int (e)])) []), (25, Tell.w (V.d (rs)) [])] L09_f__law_reach (L09_imp _) (by kernel_rfl) ⟨hc1 _, hc2 _, hc3 _, rfl⟩ σ
theorem L09_lreach_m0_0 (d : Nat) (t1 t2 kd rr : D)  (hc1 : ∀ σ, callN B09 H09 (d) (Str.ofString "_law_reach") [V.d (t1), V.d (kd)] σ = some (V.d (D.none), σ)) (hc2 : ∀ σ, callN B09 H09 (d) (Str.ofString "_law_reach") [V.d (t2), V.d (kd)] σ = some (V.d (rr), σ)) (σ : St) : callN B09 H09 (d + 1) (Str.ofString "_law_reach") [V.d (D.tup [D.str (Str.ofString "-"), t1, t2]), V.d (kd)] σ = some (V.d (D.none), σ) :=
  path (ds := [D.tup [D.str (Str.ofString "-"), t1, t2], kd]) (i := 31) (x := D.none) (P := (callN B09 H09 (d) (Str.ofString "_law_reach") [V.d (t1), V.d (kd)] [] = some (V.d (D.none), [])) ∧ (callN B09 H09 (d) (Str.ofString "_law_reach") [V.d (t2), V.d (kd)] [] = some (V.d (rr), [])) ∧ some (D.none) = some (D.none)) [(6, Tell.w (V.d (D.none)) []), (8, Tell.w (V.d (rr)) [])] L09_f__law_reach (L09_imp _) (by kernel_rfl) ⟨hc1 _, hc2 _, rfl⟩ σ
theorem L09_lreach_m1_0 (d : Nat) (t1 t2 kd : D) (a b : Int)  (hc1 : ∀ σ, callN B09 H09 (d) (Str.ofString "_law_reach") [V.d (t1), V.d (kd)] σ = some (V.d (D.tup [D.int (a), D.int (b)]), σ)) (hc2 : ∀ σ, callN B09 H09 (d) (Str.ofString "_law_reach") [V.d (t2), V.d (kd)] σ = some (V.d (D.none), σ)) (σ : St) : callN B09 H09 (d + 1) (Str.ofString "_law_reach") [V.d (D.tup [D.str (Str.ofString "-"), t1, t2]), V.d (kd)] σ = some (V.d (D.none), σ) :=
  path (ds := [D.tup [D.str (Str.ofString "-"), t1, t2], kd]) (i := 31) (x := D.none) (P := (callN B09 H09 (d) (Str.ofString "_law_reach") [V.d (t1), V.d (kd)] [] = some (V.d (D.tup [D.int (a), D.int (b)]), [])) ∧ (callN B09 H09 (d) (Str.ofString "_law_reach") [V.d (t2), V.d (kd)] [] = some (V.d (D.none), [])) ∧ some (D.none) = some (D.none)) [(6, Tell.w (V.d (D.tup [D.int (a), D.int (b)])) []), (8, Tell.w (V.d (D.none)) [])] L09_f__law_reach (L09_imp _) (by kernel_rfl) ⟨hc1 _, hc2 _, rfl⟩ σ
theorem L09_lreach_m2_0 (d : Nat) (t1 t2 kd rs : D) (a b c e : Int)  (hc1 : ∀ σ, callN B09 H09 (d) (Str.ofString "_law_reach") [V.d (t1), V.d (kd)] σ = some (V.d (D.tup [D.int (a), D.int (b)]), σ)) (hc2 : ∀ σ, callN B09 H09 (d) (Str.ofString "_law_reach") [V.d (t2), V.d (kd)] σ = some (V.d (D.tup [D.int (c), D.int (e)]), σ)) (hc3 : ∀ σ, callN B09 H09 (d) (Str.ofString "_law_cut") [V.d (D.int (a - e)), V.d (D.int (b - c))] σ = some (V.d (rs), σ)) (σ : St) : callN B09 H09 (d + 1) (Str.ofString "_law_reach") [V.d (D.tup [D.str (Str.ofString "-"), t1, t2]), V.d (kd)] σ = some (V.d (rs), σ) :=
  path (ds := [D.tup [D.str (Str.ofString "-"), t1, t2], kd]) (i := 31) (x := rs) (P := (callN B09 H09 (d) (Str.ofString "_law_reach") [V.d (t1), V.d (kd)] [] = some (V.d (D.tup [D.int (a), D.int (b)]), [])) ∧ (callN B09 H09 (d) (Str.ofString "_law_reach") [V.d (t2), V.d (kd)] [] = some (V.d (D.tup [D.int (c), D.int (e)]), [])) ∧ (callN B09 H09 (d) (Str.ofString "_law_cut") [V.d (D.int (a - e)), V.d (D.int (b - c))] [] = some (V.d (rs), [])) ∧ some (rs) = some (rs)) [(6, Tell.w (V.d (D.tup [D.int (a), D.int (b)])) []), (8, Tell.w (V.d (D.tup [D.int (c), D.int (e)])) []), (28, Tell.w (V.d (rs)) [])] L09_f__law_reach (L09_imp _) (by kernel_rfl) ⟨hc1 _, hc2 _, hc3 _, rfl⟩ σ
theorem L09_lreach_t0_0 (d : Nat) (t1 t2 kd rr : D)  (hc1 : ∀ σ, callN B09 H09 (d) (Str.ofString "_law_reach") [V.d (t1), V.d (kd)] σ = some (V.d (D.none), σ)) (hc2 : ∀ σ, callN B09 H09 (d) (Str.ofString "_law_reach") [V.d (t2), V.d (kd)] σ = some (V.d (rr), σ)) (σ : St) : callN B09 H09 (d + 1) (Str.ofString "_law_reach") [V.d (D.tup [D.str (Str.ofString "*"), t1, t2]), V.d (kd)] σ = some (V.d (D.none), σ) :=
  path (ds := [D.tup [D.str (Str.ofString "*"), t1, t2], kd]) (i := 31) (x := D.none) (P := (callN B09 H09 (d) (Str.ofString "_law_reach") [V.d (t1), V.d (kd)] [] = some (V.d (D.none), [])) ∧ (callN B09 H09 (d) (Str.ofString "_law_reach") [V.d (t2), V.d (kd)] [] = some (V.d (rr), [])) ∧ some (D.none) = some (D.none)) [(6, Tell.w (V.d (D.none)) []), (8, Tell.w (V.d (rr)) [])] L09_f__law_reach (L09_imp _) (by kernel_rfl) ⟨hc1 _, hc2 _, rfl⟩ σ
theorem L09_lreach_t1_0 (d : Nat) (t1 t2 kd : D) (a b : Int)  (hc1 : ∀ σ, callN B09 H09 (d) (Str.ofString "_law_reach") [V.d (t1), V.d (kd)] σ = some (V.d (D.tup [D.int (a), D.int (b)]), σ)) (hc2 : ∀ σ, callN B09 H09 (d) (Str.ofString "_law_reach") [V.d (t2), V.d (kd)] σ = some (V.d (D.none), σ)) (σ : St) : callN B09 H09 (d + 1) (Str.ofString "_law_reach") [V.d (D.tup [D.str (Str.ofString "*"), t1, t2]), V.d (kd)] σ = some (V.d (D.none), σ) :=
  path (ds := [D.tup [D.str (Str.ofString "*"), t1, t2], kd]) (i := 31) (x := D.none) (P := (callN B09 H09 (d) (Str.ofString "_law_reach") [V.d (t1), V.d (kd)] [] = some (V.d (D.tup [D.int (a), D.int (b)]), [])) ∧ (callN B09 H09 (d) (Str.ofString "_law_reach") [V.d (t2), V.d (kd)] [] = some (V.d (D.none), [])) ∧ some (D.none) = some (D.none)) [(6, Tell.w (V.d (D.tup [D.int (a), D.int (b)])) []), (8, Tell.w (V.d (D.none)) [])] L09_f__law_reach (L09_imp _) (by kernel_rfl) ⟨hc1 _, hc2 _, rfl⟩ σ
theorem L09_lreach_t2_0 (d : Nat) (t1 t2 kd rs : D) (a b c e : Int) (w0 w1 w2 w3 : Int)  (hc1 : ∀ σ, callN B09 H09 (d) (Str.ofString "_law_reach") [V.d (t1), V.d (kd)] σ = some (V.d (D.tup [D.int (a), D.int (b)]), σ)) (hc2 : ∀ σ, callN B09 H09 (d) (Str.ofString "_law_reach") [V.d (t2), V.d (kd)] σ = some (V.d (D.tup [D.int (c), D.int (e)]), σ)) (h1 : evE (gen B09 H09 (d) (Str.ofString "_law_reach")) [(Str.ofString "_law_part", V.d (D.tup [D.str (Str.ofString "*"), t1, t2])), (Str.ofString "_law_known_here", V.d (kd)), (Str.ofString "_law_one", V.d (D.tup [D.int (a), D.int (b)])), (Str.ofString "_law_other", V.d (D.tup [D.int (c), D.int (e)]))] false (argE (asgE (stAt B09 31 8))) [] = some (V.d (D.list [D.int (a * c), D.int (b * e), D.int (a * e), D.int (b * c)]), [])) (h2 : bfV [] .sorted [V.d (D.list [D.int (a * c), D.int (b * e), D.int (a * e), D.int (b * c)])] = some (V.d (D.list [D.int (w0), D.int (w1), D.int (w2), D.int (w3)]))) (hc3 : ∀ σ, callN B09 H09 (d) (Str.ofString "_law_cut") [V.d (D.int (w0)), V.d (D.int (w3))] σ = some (V.d (rs), σ)) (σ : St) : callN B09 H09 (d + 1) (Str.ofString "_law_reach") [V.d (D.tup [D.str (Str.ofString "*"), t1, t2]), V.d (kd)] σ = some (V.d (rs), σ) :=
  path (ds := [D.tup [D.str (Str.ofString "*"), t1, t2], kd]) (i := 31) (x := rs) (P := (callN B09 H09 (d) (Str.ofString "_law_reach") [V.d (t1), V.d (kd)] [] = some (V.d (D.tup [D.int (a), D.int (b)]), [])) ∧ (callN B09 H09 (d) (Str.ofString "_law_reach") [V.d (t2), V.d (kd)] [] = some (V.d (D.tup [D.int (c), D.int (e)]), [])) ∧ (evE (gen B09 H09 (d) (Str.ofString "_law_reach")) [(Str.ofString "_law_part", V.d (D.tup [D.str (Str.ofString "*"), t1, t2])), (Str.ofString "_law_known_here", V.d (kd)), (Str.ofString "_law_one", V.d (D.tup [D.int (a), D.int (b)])), (Str.ofString "_law_other", V.d (D.tup [D.int (c), D.int (e)]))] false (argE (asgE (stAt B09 31 8))) [] = some (V.d (D.list [D.int (a * c), D.int (b * e), D.int (a * e), D.int (b * c)]), [])) ∧ (bfV [] .sorted [V.d (D.list [D.int (a * c), D.int (b * e), D.int (a * e), D.int (b * c)])] = some (V.d (D.list [D.int (w0), D.int (w1), D.int (w2), D.int (w3)]))) ∧ (callN B09 H09 (d) (Str.ofString "_law_cut") [V.d (D.int (w0)), V.d (D.int (w3))] [] = some (V.d (rs), [])) ∧ some (rs) = some (rs)) [(6, Tell.w (V.d (D.tup [D.int (a), D.int (b)])) []), (8, Tell.w (V.d (D.tup [D.int (c), D.int (e)])) []), (22, Tell.w (V.d (D.list [D.int (a * c), D.int (b * e), D.int (a * e), D.int (b * c)])) []), (23, Tell.v (V.d (D.list [D.int (w0), D.int (w1), D.int (w2), D.int (w3)]))), (26, Tell.w (V.d (rs)) [])] L09_f__law_reach (L09_imp _) (by kernel_rfl) ⟨hc1 _, hc2 _, h1, h2, hc3 _, rfl⟩ σ
theorem L09_zitem (t1 t2 kd : D) (a b c e : Int) (u v : Int) : itemP (cSc (argE (asgE (stAt B09 31 8)))) [(Str.ofString "_law_part", V.d (D.tup [D.str (Str.ofString "*"), t1, t2])), (Str.ofString "_law_known_here", V.d kd), (Str.ofString "_law_one", V.d (D.tup [D.int a, D.int b])), (Str.ofString "_law_other", V.d (D.tup [D.int c, D.int e]))] (cTgt (argE (asgE (stAt B09 31 8)))) (cElt (argE (asgE (stAt B09 31 8)))) (.d (.tup [.int u, .int v])) = prodP u v := by
  kernel_rfl
theorem L09_zcomp (d : Nat) (t1 t2 kd : D) (a b c e : Int) (ha : small a = true) (hb : small b = true) : evE (gen B09 H09 d (Str.ofString "_law_reach")) [(Str.ofString "_law_part", V.d (D.tup [D.str (Str.ofString "*"), t1, t2])), (Str.ofString "_law_known_here", V.d kd), (Str.ofString "_law_one", V.d (D.tup [D.int a, D.int b])), (Str.ofString "_law_other", V.d (D.tup [D.int c, D.int e]))] false (argE (asgE (stAt B09 31 8))) [] = some (.d (.list [.int (a * c), .int (b * e), .int (a * e), .int (b * c)]), []) := by
  have he : evEs (gen B09 H09 d (Str.ofString "_law_reach")) [(Str.ofString "_law_part", V.d (D.tup [D.str (Str.ofString "*"), t1, t2])), (Str.ofString "_law_known_here", V.d kd), (Str.ofString "_law_one", V.d (D.tup [D.int a, D.int b])), (Str.ofString "_law_other", V.d (D.tup [D.int c, D.int e]))] false (cArgs (argE (asgE (stAt B09 31 8)))) [] = some ([.d (.tup [.int a, .int b, .int a, .int b]), .d (.tup [.int c, .int e, .int e, .int c])], []) := by kernel_rfl
  refine comp_zip (elt := cElt (argE (asgE (stAt B09 31 8)))) (tgt := cTgt (argE (asgE (stAt B09 31 8)))) (csc := cSc (argE (asgE (stAt B09 31 8)))) (args := cArgs (argE (asgE (stAt B09 31 8)))) (xs := [.int a, .int b, .int a, .int b]) (ys := [.int c, .int e, .int e, .int c]) rfl he rfl (show 4 ≤ 1000 by decide) ?_ (show 4 < 100000 by decide)
  exact mapO4 ((L09_zitem t1 t2 kd a b c e a c).trans (prodP_ok ha)) ((L09_zitem t1 t2 kd a b c e b e).trans (prodP_ok hb)) ((L09_zitem t1 t2 kd a b c e a e).trans (prodP_ok ha)) ((L09_zitem t1 t2 kd a b c e b c).trans (prodP_ok hb))
theorem L09_lreach {ns : List Str} {ks : List Key} {ps : List (Int × Int)} (h : Held InS ns ks ps) : ∀ (t : T5), t.ok ns → ∀ d, t.dep + 2 ≤ d → ∀ σ, callN B09 H09 (d + 1) (Str.ofString "_law_reach") [.d t.D, .d (.dict ks (ps.map pD))] σ = some (.d (sD (t.reach (gOf ks ps))), σ) := by
  have hg : ∀ x ∈ ns, InS (gOf ks ps x) := fun x hx => (h.at hx).2
  intro t
  induction t with
  | num n => intro _ d _ σ; exact L09_lreach_n_0 d n _ σ
  | name x => intro hx d _ σ; exact L09_lreach_s_0 d x _ _ (item_held (e := pD) h hx) σ
  | rest t k ih =>
    intro ho d hd σ
    have hdep : (T5.rest t k).dep = t.dep + 1 := rfl
    obtain ⟨d, rfl⟩ : ∃ e, d = e + 1 := ⟨d - 1, by omega⟩
    have hl := ih ho.1 d (by omega)
    have hk := ho.2
    show _ = some (V.d (sD ((t.reach (gOf ks ps)).map (rstS k))), σ)
    cases e : t.reach (gOf ks ps) with
    | none => rw [e] at hl; exact L09_lreach_r0_0 (d + 1) _ _ k hl (L09_lreach_n_0 d k _) σ
    | some p =>
      rw [e] at hl
      have hp := T5.reach_in hg t ho.1 p e
      unfold InS at hp
      have q := Int.ediv_le_ediv (show 0 < k by omega) hp.2.1
      by_cases hc : p.2 / k > p.1 / k
      · have e' : rstS k p = (0, k - 1) := if_neg (by omega)
        rw [show (Option.map (rstS k) (some p)) = some (rstS k p) from rfl, e']
        exact L09_lreach_r1_T (d + 1) _ _ k p.1 p.2 hl (L09_lreach_n_0 d k _) (by omega) hc σ
      · have e' : rstS k p = (p.1 % k, p.2 % k) := if_pos (by omega)
        have sd : small (p.1 / k) = true := small_of_lt (Int.lt_of_lt_of_le (show (-18446744073709551616 : Int) < -1000000 by omega) (Int.le_ediv_of_mul_le (by omega) (by omega))) (Int.lt_of_le_of_lt (Int.ediv_le_of_le_mul (by omega) (show p.1 ≤ 1000000 * k by omega)) (by omega))
        have e1 : p.1 % k = p.1 - p.1 / k * k := by rw [Int.emod_def, Int.mul_comm]
        have e2 : p.2 % k = p.2 - p.1 / k * k := by rw [Int.emod_def, Int.mul_comm, show p.2 / k = p.1 / k by omega]
        rw [show (Option.map (rstS k) (some p)) = some (rstS k p) from rfl, e', e1, e2]
        exact L09_lreach_r1_F (d + 1) _ _ k p.1 p.2 hl (L09_lreach_n_0 d k _) (by omega) hc sd σ
  | op o l r ihl ihr =>
    intro ho d hd σ
    have hdep : (T5.op o l r).dep = max l.dep r.dep + 1 := rfl
    obtain ⟨d, rfl⟩ : ∃ e, d = e + 1 + 1 := ⟨d - 2, by omega⟩
    have hl := ihl ho.1 (d + 1) (by omega)
    have hr := ihr ho.2 (d + 1) (by omega)
    show _ = some (V.d (sD ((l.reach (gOf ks ps)).bind fun a => (r.reach (gOf ks ps)).bind fun b => opS o a b)), σ)
    cases el : l.reach (gOf ks ps) with
    | none =>
      rw [el] at hl
      cases o
      · exact L09_lreach_p0_0 (d + 1 + 1) _ _ _ _ hl hr σ
      · exact L09_lreach_m0_0 (d + 1 + 1) _ _ _ _ hl hr σ
      · exact L09_lreach_t0_0 (d + 1 + 1) _ _ _ _ hl hr σ
    | some a =>
      rw [el] at hl
      have ha := T5.reach_in hg l ho.1 a el
      cases er : r.reach (gOf ks ps) with
      | none =>
        rw [er] at hr
        cases o
        · exact L09_lreach_p1_0 (d + 1 + 1) _ _ _ a.1 a.2 hl hr σ
        · exact L09_lreach_m1_0 (d + 1 + 1) _ _ _ a.1 a.2 hl hr σ
        · exact L09_lreach_t1_0 (d + 1 + 1) _ _ _ a.1 a.2 hl hr σ
      | some b =>
        rw [er] at hr
        have hb := T5.reach_in hg r ho.2 b er
        unfold InS at ha hb
        cases o
        · exact L09_lreach_p2_0 (d + 1 + 1) _ _ _ _ a.1 a.2 b.1 b.2 hl hr (L09_lcut (d + 1) _ _ (by omega)) σ
        · exact L09_lreach_m2_0 (d + 1 + 1) _ _ _ _ a.1 a.2 b.1 b.2 hl hr (L09_lcut (d + 1) _ _ (by omega)) σ
        · obtain ⟨w0, w1, w2, w3, ew, h1, h2, h3⟩ := sort4 (a.1 * b.1) (a.2 * b.2) (a.1 * b.2) (a.2 * b.1)
          have z1 := h1 (a.1 * b.1) (.head _)
          have z2 := h1 (a.2 * b.2) (.tail _ (.head _))
          have z3 := h1 (a.1 * b.2) (.tail _ (.tail _ (.head _)))
          have z4 := h1 (a.2 * b.1) (.tail _ (.tail _ (.tail _ (.head _))))
          simp only [List.mem_cons, List.not_mem_nil, or_false] at h2 h3
          have q1 : w0 = mn4 (a.1 * b.1) (a.1 * b.2) (a.2 * b.1) (a.2 * b.2) := mn_eq ⟨z1.1, z3.1, z4.1, z2.1⟩ (h2.elim .inl fun h => .inr (h.elim (fun h => .inr (.inr h)) fun h => h.elim .inl fun h => .inr (.inl h)))
          have q2 : w3 = mx4 (a.1 * b.1) (a.1 * b.2) (a.2 * b.1) (a.2 * b.2) := mx_eq ⟨z1.2, z3.2, z4.2, z2.2⟩ (h3.elim .inl fun h => .inr (h.elim (fun h => .inr (.inr h)) fun h => h.elim .inl fun h => .inr (.inl h)))
          have hc := L09_lcut (d + 1) w0 w3 (Int.le_trans z1.1 z1.2)
          show _ = some (V.d (sD (opS .times a b)), σ)
          rw [show opS Op3.times a b = cutS w0 w3 by rw [q1, q2]; rfl]
          exact L09_lreach_t2_0 (d + 1 + 1) _ _ _ _ a.1 a.2 b.1 b.2 w0 w1 w2 w3 hl hr (L09_zcomp (d + 1 + 1) _ _ _ _ _ _ _ (small_of_lt (by omega) (by omega)) (small_of_lt (by omega) (by omega))) (ew _) hc σ
noncomputable def L09_KB (c0 : Int) (ns : List Str) : Loc := [(Str.ofString "_law_xs", V.d (D.list [D.int (c0)])), (Str.ofString "_law_names_here", V.d (D.list (ns.map D.str))), (Str.ofString "_law_known_here", V.obj 0)]
noncomputable def L09_KL (c0 : Int) (ns : List Str) (vk vy : V) : Loc := [(Str.ofString "_law_xs", V.d (D.list [D.int (c0)])), (Str.ofString "_law_names_here", V.d (D.list (ns.map D.str))), (Str.ofString "_law_known_here", V.obj 0), (Str.ofString "_law_k", vk), (Str.ofString "_law_ys", vy)]
theorem L09_kb1T (d : Nat) (c0 k y0 y1 : Int) (ns : List Str) (ks ks1 ks2 : List Key) (ps ps1 ps2 : List (Int × Int)) (q0 q1 : Int × Int) (nm1 : Str) (nm2 : Str) (nm3 : Str) (hc1 : ∀ σ, callN B09 H09 (d + 1 + 1) (Str.ofString "_law_stream") [V.d (D.int (c0 + (7 * k))), V.d (D.int (2))] σ = some (V.d (D.list [D.int (y0), D.int (y1)]), σ)) (hc2 : ∀ σ, callN B09 H09 (d + 1 + 1) (Str.ofString "_law_stretch") [V.d (D.int (y0)), V.d (D.int (y1))] σ = some (V.d (pD q1), σ)) (h1 : idxL (ns.map D.str) (k) = some (D.str (nm1))) (h2 : setItemV [(false, MO.dict ks ((ps.map pD).map V.d))] (V.obj 0) (V.d (D.str (nm1))) (V.d (pD q1)) = some [(false, MO.dict ks1 ((ps1.map pD).map V.d))]) (h3 : ((y0 / 8) % 5) = 0) (h4 : idxL (ns.map D.str) (0) = some (D.str (nm2))) (h5 : getItemV [(false, MO.dict ks1 ((ps1.map pD).map V.d))] (V.obj 0) (V.d (D.str (nm2))) = some (V.d (pD q0))) (h6 : idxL (ns.map D.str) (k) = some (D.str (nm3))) (h7 : setItemV [(false, MO.dict ks1 ((ps1.map pD).map V.d))] (V.obj 0) (V.d (D.str (nm3))) (V.d (pD q0)) = some [(false, MO.dict ks2 ((ps2.map pD).map V.d))]) : evSs (gen B09 H09 (d + 1 + 1) (Str.ofString "_law_known")) (forBody (stAt B09 27 1)) [(Str.ofString "_law_xs", V.d (D.list [D.int (c0)])), (Str.ofString "_law_names_here", V.d (D.list (ns.map D.str))), (Str.ofString "_law_known_here", V.obj 0), (Str.ofString "_law_k", V.d (D.int (k)))] ([(false, MO.dict ks ((ps.map pD).map V.d))]) = some (Fl.next, [(Str.ofString "_law_xs", V.d (D.list [D.int (c0)])), (Str.ofString "_law_names_here", V.d (D.list (ns.map D.str))), (Str.ofString "_law_known_here", V.obj 0), (Str.ofString "_law_k", V.d (D.int (k))), (Str.ofString "_law_ys", V.d (D.list [D.int (y0), D.int (y1)]))], [(false, MO.dict ks2 ((ps2.map pD).map V.d))]) :=
  pathS (P := (callN B09 H09 (d + 1 + 1) (Str.ofString "_law_stream") [V.d (D.int (c0 + (7 * k))), V.d (D.int (2))] [(false, MO.dict ks ((ps.map pD).map V.d))] = some (V.d (D.list [D.int (y0), D.int (y1)]), [(false, MO.dict ks ((ps.map pD).map V.d))])) ∧ (callN B09 H09 (d + 1 + 1) (Str.ofString "_law_stretch") [V.d (D.int (y0)), V.d (D.int (y1))] [(false, MO.dict ks ((ps.map pD).map V.d))] = some (V.d (pD q1), [(false, MO.dict ks ((ps.map pD).map V.d))])) ∧ (getItemV [(false, MO.dict ks ((ps.map pD).map V.d))] (V.d (D.list (ns.map D.str))) (V.d (D.int (k))) = some (V.d (D.str (nm1)))) ∧ (setItemV [(false, MO.dict ks ((ps.map pD).map V.d))] (V.obj 0) (V.d (D.str (nm1))) (V.d (pD q1)) = some [(false, MO.dict ks1 ((ps1.map pD).map V.d))]) ∧ (some (decide (((y0 / 8) % 5) = 0)) = some true) ∧ (getItemV [(false, MO.dict ks1 ((ps1.map pD).map V.d))] (V.d (D.list (ns.map D.str))) (V.d (D.int (0))) = some (V.d (D.str (nm2)))) ∧ (getItemV [(false, MO.dict ks1 ((ps1.map pD).map V.d))] (V.obj 0) (V.d (D.str (nm2))) = some (V.d (pD q0))) ∧ (getItemV [(false, MO.dict ks1 ((ps1.map pD).map V.d))] (V.d (D.list (ns.map D.str))) (V.d (D.int (k))) = some (V.d (D.str (nm3)))) ∧ (setItemV [(false, MO.dict ks1 ((ps1.map pD).map V.d))] (V.obj 0) (V.d (D.str (nm3))) (V.d (pD q0)) = some [(false, MO.dict ks2 ((ps2.map pD).map V.d))]) ∧ ((Fl.next, [(Str.ofString "_law_xs", V.d (D.list [D.int (c0)])), (Str.ofString "_law_names_here", V.d (D.list (ns.map D.str))), (Str.ofString "_law_known_here", V.obj 0), (Str.ofString "_law_k", V.d (D.int (k))), (Str.ofString "_law_ys", V.d (D.list [D.int (y0), D.int (y1)]))], [(false, MO.dict ks2 ((ps2.map pD).map V.d))]) : Fl × Loc × St) = (Fl.next, [(Str.ofString "_law_xs", V.d (D.list [D.int (c0)])), (Str.ofString "_law_names_here", V.d (D.list (ns.map D.str))), (Str.ofString "_law_known_here", V.obj 0), (Str.ofString "_law_k", V.d (D.int (k))), (Str.ofString "_law_ys", V.d (D.list [D.int (y0), D.int (y1)]))], [(false, MO.dict ks2 ((ps2.map pD).map V.d))])) [(3, Tell.w (V.d (D.list [D.int (y0), D.int (y1)])) [(false, MO.dict ks ((ps.map pD).map V.d))]), (6, Tell.w (V.d (pD q1)) [(false, MO.dict ks ((ps.map pD).map V.d))]), (7, Tell.v (V.d (D.str (nm1)))), (8, Tell.s [(false, MO.dict ks1 ((ps1.map pD).map V.d))]), (13, Tell.b true), (14, Tell.v (V.d (D.str (nm2)))), (15, Tell.v (V.d (pD q0))), (16, Tell.v (V.d (D.str (nm3)))), (17, Tell.s [(false, MO.dict ks2 ((ps2.map pD).map V.d))])] (by kernel_rfl) ⟨hc1 _, hc2 _, idx_list h1, h2, dT h3, idx_list h4, h5, idx_list h6, h7, rfl⟩
theorem L09_kb1F (d : Nat) (c0 k y0 y1 : Int) (ns : List Str) (ks ks1 ks2 : List Key) (ps ps1 ps2 : List (Int × Int)) (q0 q1 : Int × Int) (nm1 : Str) (hc1 : ∀ σ, callN B09 H09 (d + 1 + 1) (Str.ofString "_law_stream") [V.d (D.int (c0 + (7 * k))), V.d (D.int (2))] σ = some (V.d (D.list [D.int (y0), D.int (y1)]), σ)) (hc2 : ∀ σ, callN B09 H09 (d + 1 + 1) (Str.ofString "_law_stretch") [V.d (D.int (y0)), V.d (D.int (y1))] σ = some (V.d (pD q1), σ)) (h1 : idxL (ns.map D.str) (k) = some (D.str (nm1))) (h2 : setItemV [(false, MO.dict ks ((ps.map pD).map V.d))] (V.obj 0) (V.d (D.str (nm1))) (V.d (pD q1)) = some [(false, MO.dict ks1 ((ps1.map pD).map V.d))]) (h3 : ¬ (((y0 / 8) % 5) = 0)) : evSs (gen B09 H09 (d + 1 + 1) (Str.ofString "_law_known")) (forBody (stAt B09 27 1)) [(Str.ofString "_law_xs", V.d (D.list [D.int (c0)])), (Str.ofString "_law_names_here", V.d (D.list (ns.map D.str))), (Str.ofString "_law_known_here", V.obj 0), (Str.ofString "_law_k", V.d (D.int (k)))] ([(false, MO.dict ks ((ps.map pD).map V.d))]) = some (Fl.next, [(Str.ofString "_law_xs", V.d (D.list [D.int (c0)])), (Str.ofString "_law_names_here", V.d (D.list (ns.map D.str))), (Str.ofString "_law_known_here", V.obj 0), (Str.ofString "_law_k", V.d (D.int (k))), (Str.ofString "_law_ys", V.d (D.list [D.int (y0), D.int (y1)]))], [(false, MO.dict ks1 ((ps1.map pD).map V.d))]) :=
  pathS (P := (callN B09 H09 (d + 1 + 1) (Str.ofString "_law_stream") [V.d (D.int (c0 + (7 * k))), V.d (D.int (2))] [(false, MO.dict ks ((ps.map pD).map V.d))] = some (V.d (D.list [D.int (y0), D.int (y1)]), [(false, MO.dict ks ((ps.map pD).map V.d))])) ∧ (callN B09 H09 (d + 1 + 1) (Str.ofString "_law_stretch") [V.d (D.int (y0)), V.d (D.int (y1))] [(false, MO.dict ks ((ps.map pD).map V.d))] = some (V.d (pD q1), [(false, MO.dict ks ((ps.map pD).map V.d))])) ∧ (getItemV [(false, MO.dict ks ((ps.map pD).map V.d))] (V.d (D.list (ns.map D.str))) (V.d (D.int (k))) = some (V.d (D.str (nm1)))) ∧ (setItemV [(false, MO.dict ks ((ps.map pD).map V.d))] (V.obj 0) (V.d (D.str (nm1))) (V.d (pD q1)) = some [(false, MO.dict ks1 ((ps1.map pD).map V.d))]) ∧ (some (decide (((y0 / 8) % 5) = 0)) = some false) ∧ ((Fl.next, [(Str.ofString "_law_xs", V.d (D.list [D.int (c0)])), (Str.ofString "_law_names_here", V.d (D.list (ns.map D.str))), (Str.ofString "_law_known_here", V.obj 0), (Str.ofString "_law_k", V.d (D.int (k))), (Str.ofString "_law_ys", V.d (D.list [D.int (y0), D.int (y1)]))], [(false, MO.dict ks1 ((ps1.map pD).map V.d))]) : Fl × Loc × St) = (Fl.next, [(Str.ofString "_law_xs", V.d (D.list [D.int (c0)])), (Str.ofString "_law_names_here", V.d (D.list (ns.map D.str))), (Str.ofString "_law_known_here", V.obj 0), (Str.ofString "_law_k", V.d (D.int (k))), (Str.ofString "_law_ys", V.d (D.list [D.int (y0), D.int (y1)]))], [(false, MO.dict ks1 ((ps1.map pD).map V.d))])) [(3, Tell.w (V.d (D.list [D.int (y0), D.int (y1)])) [(false, MO.dict ks ((ps.map pD).map V.d))]), (6, Tell.w (V.d (pD q1)) [(false, MO.dict ks ((ps.map pD).map V.d))]), (7, Tell.v (V.d (D.str (nm1)))), (8, Tell.s [(false, MO.dict ks1 ((ps1.map pD).map V.d))]), (13, Tell.b false)] (by kernel_rfl) ⟨hc1 _, hc2 _, idx_list h1, h2, dF h3, rfl⟩
theorem L09_kb2T (d : Nat) (c0 k y0 y1 : Int) (ns : List Str) (ks ks1 ks2 : List Key) (ps ps1 ps2 : List (Int × Int)) (q0 q1 : Int × Int) (vy : V) (nm1 : Str) (nm2 : Str) (nm3 : Str) (hc1 : ∀ σ, callN B09 H09 (d + 1 + 1) (Str.ofString "_law_stream") [V.d (D.int (c0 + (7 * k))), V.d (D.int (2))] σ = some (V.d (D.list [D.int (y0), D.int (y1)]), σ)) (hc2 : ∀ σ, callN B09 H09 (d + 1 + 1) (Str.ofString "_law_stretch") [V.d (D.int (y0)), V.d (D.int (y1))] σ = some (V.d (pD q1), σ)) (h1 : idxL (ns.map D.str) (k) = some (D.str (nm1))) (h2 : setItemV [(false, MO.dict ks ((ps.map pD).map V.d))] (V.obj 0) (V.d (D.str (nm1))) (V.d (pD q1)) = some [(false, MO.dict ks1 ((ps1.map pD).map V.d))]) (h3 : ((y0 / 8) % 5) = 0) (h4 : idxL (ns.map D.str) (0) = some (D.str (nm2))) (h5 : getItemV [(false, MO.dict ks1 ((ps1.map pD).map V.d))] (V.obj 0) (V.d (D.str (nm2))) = some (V.d (pD q0))) (h6 : idxL (ns.map D.str) (k) = some (D.str (nm3))) (h7 : setItemV [(false, MO.dict ks1 ((ps1.map pD).map V.d))] (V.obj 0) (V.d (D.str (nm3))) (V.d (pD q0)) = some [(false, MO.dict ks2 ((ps2.map pD).map V.d))]) : evSs (gen B09 H09 (d + 1 + 1) (Str.ofString "_law_known")) (forBody (stAt B09 27 1)) [(Str.ofString "_law_xs", V.d (D.list [D.int (c0)])), (Str.ofString "_law_names_here", V.d (D.list (ns.map D.str))), (Str.ofString "_law_known_here", V.obj 0), (Str.ofString "_law_k", V.d (D.int (k))), (Str.ofString "_law_ys", vy)] ([(false, MO.dict ks ((ps.map pD).map V.d))]) = some (Fl.next, [(Str.ofString "_law_xs", V.d (D.list [D.int (c0)])), (Str.ofString "_law_names_here", V.d (D.list (ns.map D.str))), (Str.ofString "_law_known_here", V.obj 0), (Str.ofString "_law_k", V.d (D.int (k))), (Str.ofString "_law_ys", V.d (D.list [D.int (y0), D.int (y1)]))], [(false, MO.dict ks2 ((ps2.map pD).map V.d))]) :=
  pathS (P := (callN B09 H09 (d + 1 + 1) (Str.ofString "_law_stream") [V.d (D.int (c0 + (7 * k))), V.d (D.int (2))] [(false, MO.dict ks ((ps.map pD).map V.d))] = some (V.d (D.list [D.int (y0), D.int (y1)]), [(false, MO.dict ks ((ps.map pD).map V.d))])) ∧ (callN B09 H09 (d + 1 + 1) (Str.ofString "_law_stretch") [V.d (D.int (y0)), V.d (D.int (y1))] [(false, MO.dict ks ((ps.map pD).map V.d))] = some (V.d (pD q1), [(false, MO.dict ks ((ps.map pD).map V.d))])) ∧ (getItemV [(false, MO.dict ks ((ps.map pD).map V.d))] (V.d (D.list (ns.map D.str))) (V.d (D.int (k))) = some (V.d (D.str (nm1)))) ∧ (setItemV [(false, MO.dict ks ((ps.map pD).map V.d))] (V.obj 0) (V.d (D.str (nm1))) (V.d (pD q1)) = some [(false, MO.dict ks1 ((ps1.map pD).map V.d))]) ∧ (some (decide (((y0 / 8) % 5) = 0)) = some true) ∧ (getItemV [(false, MO.dict ks1 ((ps1.map pD).map V.d))] (V.d (D.list (ns.map D.str))) (V.d (D.int (0))) = some (V.d (D.str (nm2)))) ∧ (getItemV [(false, MO.dict ks1 ((ps1.map pD).map V.d))] (V.obj 0) (V.d (D.str (nm2))) = some (V.d (pD q0))) ∧ (getItemV [(false, MO.dict ks1 ((ps1.map pD).map V.d))] (V.d (D.list (ns.map D.str))) (V.d (D.int (k))) = some (V.d (D.str (nm3)))) ∧ (setItemV [(false, MO.dict ks1 ((ps1.map pD).map V.d))] (V.obj 0) (V.d (D.str (nm3))) (V.d (pD q0)) = some [(false, MO.dict ks2 ((ps2.map pD).map V.d))]) ∧ ((Fl.next, [(Str.ofString "_law_xs", V.d (D.list [D.int (c0)])), (Str.ofString "_law_names_here", V.d (D.list (ns.map D.str))), (Str.ofString "_law_known_here", V.obj 0), (Str.ofString "_law_k", V.d (D.int (k))), (Str.ofString "_law_ys", V.d (D.list [D.int (y0), D.int (y1)]))], [(false, MO.dict ks2 ((ps2.map pD).map V.d))]) : Fl × Loc × St) = (Fl.next, [(Str.ofString "_law_xs", V.d (D.list [D.int (c0)])), (Str.ofString "_law_names_here", V.d (D.list (ns.map D.str))), (Str.ofString "_law_known_here", V.obj 0), (Str.ofString "_law_k", V.d (D.int (k))), (Str.ofString "_law_ys", V.d (D.list [D.int (y0), D.int (y1)]))], [(false, MO.dict ks2 ((ps2.map pD).map V.d))])) [(3, Tell.w (V.d (D.list [D.int (y0), D.int (y1)])) [(false, MO.dict ks ((ps.map pD).map V.d))]), (6, Tell.w (V.d (pD q1)) [(false, MO.dict ks ((ps.map pD).map V.d))]), (7, Tell.v (V.d (D.str (nm1)))), (8, Tell.s [(false, MO.dict ks1 ((ps1.map pD).map V.d))]), (13, Tell.b true), (14, Tell.v (V.d (D.str (nm2)))), (15, Tell.v (V.d (pD q0))), (16, Tell.v (V.d (D.str (nm3)))), (17, Tell.s [(false, MO.dict ks2 ((ps2.map pD).map V.d))])] (by kernel_rfl) ⟨hc1 _, hc2 _, idx_list h1, h2, dT h3, idx_list h4, h5, idx_list h6, h7, rfl⟩
theorem L09_kb2F (d : Nat) (c0 k y0 y1 : Int) (ns : List Str) (ks ks1 ks2 : List Key) (ps ps1 ps2 : List (Int × Int)) (q0 q1 : Int × Int) (vy : V) (nm1 : Str) (hc1 : ∀ σ, callN B09 H09 (d + 1 + 1) (Str.ofString "_law_stream") [V.d (D.int (c0 + (7 * k))), V.d (D.int (2))] σ = some (V.d (D.list [D.int (y0), D.int (y1)]), σ)) (hc2 : ∀ σ, callN B09 H09 (d + 1 + 1) (Str.ofString "_law_stretch") [V.d (D.int (y0)), V.d (D.int (y1))] σ = some (V.d (pD q1), σ)) (h1 : idxL (ns.map D.str) (k) = some (D.str (nm1))) (h2 : setItemV [(false, MO.dict ks ((ps.map pD).map V.d))] (V.obj 0) (V.d (D.str (nm1))) (V.d (pD q1)) = some [(false, MO.dict ks1 ((ps1.map pD).map V.d))]) (h3 : ¬ (((y0 / 8) % 5) = 0)) : evSs (gen B09 H09 (d + 1 + 1) (Str.ofString "_law_known")) (forBody (stAt B09 27 1)) [(Str.ofString "_law_xs", V.d (D.list [D.int (c0)])), (Str.ofString "_law_names_here", V.d (D.list (ns.map D.str))), (Str.ofString "_law_known_here", V.obj 0), (Str.ofString "_law_k", V.d (D.int (k))), (Str.ofString "_law_ys", vy)] ([(false, MO.dict ks ((ps.map pD).map V.d))]) = some (Fl.next, [(Str.ofString "_law_xs", V.d (D.list [D.int (c0)])), (Str.ofString "_law_names_here", V.d (D.list (ns.map D.str))), (Str.ofString "_law_known_here", V.obj 0), (Str.ofString "_law_k", V.d (D.int (k))), (Str.ofString "_law_ys", V.d (D.list [D.int (y0), D.int (y1)]))], [(false, MO.dict ks1 ((ps1.map pD).map V.d))]) :=
  pathS (P := (callN B09 H09 (d + 1 + 1) (Str.ofString "_law_stream") [V.d (D.int (c0 + (7 * k))), V.d (D.int (2))] [(false, MO.dict ks ((ps.map pD).map V.d))] = some (V.d (D.list [D.int (y0), D.int (y1)]), [(false, MO.dict ks ((ps.map pD).map V.d))])) ∧ (callN B09 H09 (d + 1 + 1) (Str.ofString "_law_stretch") [V.d (D.int (y0)), V.d (D.int (y1))] [(false, MO.dict ks ((ps.map pD).map V.d))] = some (V.d (pD q1), [(false, MO.dict ks ((ps.map pD).map V.d))])) ∧ (getItemV [(false, MO.dict ks ((ps.map pD).map V.d))] (V.d (D.list (ns.map D.str))) (V.d (D.int (k))) = some (V.d (D.str (nm1)))) ∧ (setItemV [(false, MO.dict ks ((ps.map pD).map V.d))] (V.obj 0) (V.d (D.str (nm1))) (V.d (pD q1)) = some [(false, MO.dict ks1 ((ps1.map pD).map V.d))]) ∧ (some (decide (((y0 / 8) % 5) = 0)) = some false) ∧ ((Fl.next, [(Str.ofString "_law_xs", V.d (D.list [D.int (c0)])), (Str.ofString "_law_names_here", V.d (D.list (ns.map D.str))), (Str.ofString "_law_known_here", V.obj 0), (Str.ofString "_law_k", V.d (D.int (k))), (Str.ofString "_law_ys", V.d (D.list [D.int (y0), D.int (y1)]))], [(false, MO.dict ks1 ((ps1.map pD).map V.d))]) : Fl × Loc × St) = (Fl.next, [(Str.ofString "_law_xs", V.d (D.list [D.int (c0)])), (Str.ofString "_law_names_here", V.d (D.list (ns.map D.str))), (Str.ofString "_law_known_here", V.obj 0), (Str.ofString "_law_k", V.d (D.int (k))), (Str.ofString "_law_ys", V.d (D.list [D.int (y0), D.int (y1)]))], [(false, MO.dict ks1 ((ps1.map pD).map V.d))])) [(3, Tell.w (V.d (D.list [D.int (y0), D.int (y1)])) [(false, MO.dict ks ((ps.map pD).map V.d))]), (6, Tell.w (V.d (pD q1)) [(false, MO.dict ks ((ps.map pD).map V.d))]), (7, Tell.v (V.d (D.str (nm1)))), (8, Tell.s [(false, MO.dict ks1 ((ps1.map pD).map V.d))]), (13, Tell.b false)] (by kernel_rfl) ⟨hc1 _, hc2 _, idx_list h1, h2, dF h3, rfl⟩
theorem L09_known_0 (d : Nat) (c0 : Int) (ns : List Str) (vk vy : V) (ks : List Key) (ps : List (Int × Int))  (h1 : evS (gen B09 H09 (d + 1 + 1) (Str.ofString "_law_known")) (stAt B09 27 1) [(Str.ofString "_law_xs", V.d (D.list [D.int (c0)])), (Str.ofString "_law_names_here", V.d (D.list (ns.map D.str))), (Str.ofString "_law_known_here", V.obj 0)] [(false, MO.dict [] [])] = some (Fl.next, [(Str.ofString "_law_xs", V.d (D.list [D.int (c0)])), (Str.ofString "_law_names_here", V.d (D.list (ns.map D.str))), (Str.ofString "_law_known_here", V.obj 0), (Str.ofString "_law_k", vk), (Str.ofString "_law_ys", vy)], [(false, MO.dict ks ((ps.map pD).map V.d))])) (h2 : handD false [(false, MO.dict ks ((ps.map pD).map V.d))] (V.obj 0) = some (D.dict ks (ps.map pD))) (σ : St) : callN B09 H09 (d + 1 + 1 + 1) (Str.ofString "_law_known") [V.d (D.list [D.int (c0)]), V.d (D.list (ns.map D.str))] σ = some (V.d (D.dict ks (ps.map pD)), σ) :=
  path (ds := [D.list [D.int (c0)], D.list (ns.map D.str)]) (i := 27) (x := D.dict ks (ps.map pD)) (P := (evS (gen B09 H09 (d + 1 + 1) (Str.ofString "_law_known")) (stAt B09 27 1) [(Str.ofString "_law_xs", V.d (D.list [D.int (c0)])), (Str.ofString "_law_names_here", V.d (D.list (ns.map D.str))), (Str.ofString "_law_known_here", V.obj 0)] [(false, MO.dict [] [])] = some (Fl.next, [(Str.ofString "_law_xs", V.d (D.list [D.int (c0)])), (Str.ofString "_law_names_here", V.d (D.list (ns.map D.str))), (Str.ofString "_law_known_here", V.obj 0), (Str.ofString "_law_k", vk), (Str.ofString "_law_ys", vy)], [(false, MO.dict ks ((ps.map pD).map V.d))])) ∧ handD false [(false, MO.dict ks ((ps.map pD).map V.d))] (V.obj 0) = some (D.dict ks (ps.map pD))) [(1, Tell.f Fl.next [(Str.ofString "_law_xs", V.d (D.list [D.int (c0)])), (Str.ofString "_law_names_here", V.d (D.list (ns.map D.str))), (Str.ofString "_law_known_here", V.obj 0), (Str.ofString "_law_k", vk), (Str.ofString "_law_ys", vy)] [(false, MO.dict ks ((ps.map pD).map V.d))])] L09_f__law_known (L09_imp _) (by kernel_rfl) ⟨h1, h2⟩ σ
theorem L09_kturn1 (d : Nat) (c0 : Int) (ns : List Str) (h1 : ns.length ≤ 12) (k : Nat) (ks : List Key) (ps : List (Int × Int)) (hk : k < ns.length) (hh : Held InS (ns.take k) ks ps) (hl : ks.length ≤ 2 * k) : ∃ (ks' : List Key) (ps' : List (Int × Int)) (vy' : V), evSs (gen B09 H09 (d + 1 + 1) (Str.ofString "_law_known")) (forBody (stAt B09 27 1)) [(Str.ofString "_law_xs", V.d (D.list [D.int (c0)])), (Str.ofString "_law_names_here", V.d (D.list (ns.map D.str))), (Str.ofString "_law_known_here", V.obj 0), (Str.ofString "_law_k", V.d (D.int (k : Nat)))] [(false, .dict ks ((ps.map pD).map V.d))] = some (.next, L09_KL c0 ns (.d (.int (k : Nat))) vy', [(false, .dict ks' ((ps'.map pD).map V.d))]) ∧ Held InS (ns.take (k + 1)) ks' ps' ∧ ks'.length ≤ 2 * (k + 1) := by
  obtain ⟨w, hw, hget, ew⟩ := idx_strs (ns := ns) (i := (k : Nat)) (by omega) (by omega) (by omega)
  obtain ⟨ys, hy, by', ey⟩ := L09_stream (d + 1) (c0 + 7 * (k : Nat)) 2 (by omega) (by omega)
  obtain ⟨y0, y1, rfl⟩ : ∃ a b, ys = [a, b] := by
    match ys, hy with
    | [a, b], _ => exact ⟨a, b, rfl⟩
  have b0 := by' y0 List.mem_cons_self
  have b1 := by' y1 (List.mem_cons_of_mem _ List.mem_cons_self)
  obtain ⟨a, b, g1, g2, g3, es⟩ := L09_stretch d y0 y1 b0.1 b1.1
  have hh' := hh.put (x := w) (v := (a, b)) ⟨g1, g2, g3⟩
  have ht : ns.take k ++ [w] = ns.take (k + 1) := by rw [List.take_add_one, show ns[k]? = some w by simpa using hget]; rfl
  rw [ht] at hh'
  have hf := putK_facts (.s w) (a, b) ks ps hh.len
  by_cases hc : y0 / 8 % 5 = 0
  · obtain ⟨w0, _, hget0, ew0⟩ := idx_strs (ns := ns) (i := 0) (by omega) (by omega) (by omega)
    have hm : w0 ∈ ns.take (k + 1) := by
      have : (ns.take (k + 1))[0]? = some w0 := by rw [List.getElem?_take_of_lt (by omega)]; simpa using hget0
      exact List.mem_of_getElem? this
    obtain ⟨q0, e0⟩ := hh'.get w0 hm
    have hh2 := (hh'.put (x := w) (v := q0) (hh'.inn q0 (getK_mem e0))).sub (ns' := ns.take (k + 1)) fun x hx => List.mem_append_left _ hx
    have hf2 := putK_facts (.s w) q0 _ _ hh'.len
    exact ⟨_, _, _, L09_kb1T d c0 (k : Nat) y0 y1 ns ks _ _ ps _ _ q0 (a, b) w w0 w ey es ew (set_held (e := pD) (by omega)) hc ew0 (item_obj e0) ew (set_held (e := pD) (by omega)), hh2, by omega⟩
  · exact ⟨_, _, _, L09_kb1F d c0 (k : Nat) y0 y1 ns ks _ ks ps _ ps (0, 0) (a, b) w ey es ew (set_held (e := pD) (by omega)) hc, hh', by omega⟩
theorem L09_kturn2 (d : Nat) (c0 : Int) (ns : List Str) (h1 : ns.length ≤ 12) (k : Nat) (ks : List Key) (ps : List (Int × Int)) (vy : V) (hk : k < ns.length) (hh : Held InS (ns.take k) ks ps) (hl : ks.length ≤ 2 * k) : ∃ (ks' : List Key) (ps' : List (Int × Int)) (vy' : V), evSs (gen B09 H09 (d + 1 + 1) (Str.ofString "_law_known")) (forBody (stAt B09 27 1)) [(Str.ofString "_law_xs", V.d (D.list [D.int (c0)])), (Str.ofString "_law_names_here", V.d (D.list (ns.map D.str))), (Str.ofString "_law_known_here", V.obj 0), (Str.ofString "_law_k", V.d (D.int (k : Nat))), (Str.ofString "_law_ys", vy)] [(false, .dict ks ((ps.map pD).map V.d))] = some (.next, L09_KL c0 ns (.d (.int (k : Nat))) vy', [(false, .dict ks' ((ps'.map pD).map V.d))]) ∧ Held InS (ns.take (k + 1)) ks' ps' ∧ ks'.length ≤ 2 * (k + 1) := by
  obtain ⟨w, hw, hget, ew⟩ := idx_strs (ns := ns) (i := (k : Nat)) (by omega) (by omega) (by omega)
  obtain ⟨ys, hy, by', ey⟩ := L09_stream (d + 1) (c0 + 7 * (k : Nat)) 2 (by omega) (by omega)
  obtain ⟨y0, y1, rfl⟩ : ∃ a b, ys = [a, b] := by
    match ys, hy with
    | [a, b], _ => exact ⟨a, b, rfl⟩
  have b0 := by' y0 List.mem_cons_self
  have b1 := by' y1 (List.mem_cons_of_mem _ List.mem_cons_self)
  obtain ⟨a, b, g1, g2, g3, es⟩ := L09_stretch d y0 y1 b0.1 b1.1
  have hh' := hh.put (x := w) (v := (a, b)) ⟨g1, g2, g3⟩
  have ht : ns.take k ++ [w] = ns.take (k + 1) := by rw [List.take_add_one, show ns[k]? = some w by simpa using hget]; rfl
  rw [ht] at hh'
  have hf := putK_facts (.s w) (a, b) ks ps hh.len
  by_cases hc : y0 / 8 % 5 = 0
  · obtain ⟨w0, _, hget0, ew0⟩ := idx_strs (ns := ns) (i := 0) (by omega) (by omega) (by omega)
    have hm : w0 ∈ ns.take (k + 1) := by
      have : (ns.take (k + 1))[0]? = some w0 := by rw [List.getElem?_take_of_lt (by omega)]; simpa using hget0
      exact List.mem_of_getElem? this
    obtain ⟨q0, e0⟩ := hh'.get w0 hm
    have hh2 := (hh'.put (x := w) (v := q0) (hh'.inn q0 (getK_mem e0))).sub (ns' := ns.take (k + 1)) fun x hx => List.mem_append_left _ hx
    have hf2 := putK_facts (.s w) q0 _ _ hh'.len
    exact ⟨_, _, _, L09_kb2T d c0 (k : Nat) y0 y1 ns ks _ _ ps _ _ q0 (a, b) vy w w0 w ey es ew (set_held (e := pD) (by omega)) hc ew0 (item_obj e0) ew (set_held (e := pD) (by omega)), hh2, by omega⟩
  · exact ⟨_, _, _, L09_kb2F d c0 (k : Nat) y0 y1 ns ks _ ks ps _ ps (0, 0) (a, b) vy w ey es ew (set_held (e := pD) (by omega)) hc, hh', by omega⟩
theorem L09_known (d : Nat) (c0 : Int) (ns : List Str) (h0 : 0 < ns.length) (h1 : ns.length ≤ 12) : ∃ (ks : List Key) (ps : List (Int × Int)), Held InS ns ks ps ∧ ks.length ≤ 24 ∧ ∀ σ, callN B09 H09 (d + 1 + 1 + 1) (Str.ofString "_law_known") [.d (.list [.int c0]), .d (.list (ns.map .str))] σ = some (.d (.dict ks (ps.map pD)), σ) := by
  obtain ⟨n, hn⟩ : ∃ n : Nat, ns.length = n + 1 := ⟨ns.length - 1, by omega⟩
  have hs0 : ∀ v, setV (Str.ofString "_law_k") v (L09_KB c0 ns) = [(Str.ofString "_law_xs", V.d (D.list [D.int (c0)])), (Str.ofString "_law_names_here", V.d (D.list (ns.map D.str))), (Str.ofString "_law_known_here", V.obj 0), (Str.ofString "_law_k", v)] := fun v => by kernel_rfl
  have hs1 : ∀ u v vy, setV (Str.ofString "_law_k") v (L09_KL c0 ns u vy) = L09_KL c0 ns v vy := fun u v vy => by kernel_rfl
  obtain ⟨ρ', σ', e, ks, ps, vk, vy, rfl, rfl, hh, hl⟩ := range_two (f := fun v ρ σ => evSs (gen B09 H09 (d + 1 + 1) (Str.ofString "_law_known")) (forBody (stAt B09 27 1)) (setV (Str.ofString "_law_k") v ρ) σ) (ρ0 := L09_KB c0 ns) (σ0 := [(false, .dict [] [])])
    (Inv := fun k ρ σ => ∃ (ks : List Key) (ps : List (Int × Int)) (vk vy : V), ρ = L09_KL c0 ns vk vy ∧ σ = [(false, .dict ks ((ps.map pD).map V.d))] ∧ Held InS (ns.take k) ks ps ∧ ks.length ≤ 2 * k)
    (by
      obtain ⟨ks', ps', vy', e, hh, hl⟩ := L09_kturn1 d c0 ns h1 0 [] [] h0 Held.nil (Nat.le_refl _)
      refine ⟨_, _, ?_, ks', ps', .d (.int 0), vy', rfl, rfl, hh, hl⟩
      rw [hs0]; exact e) n (fun k ρ σ _ h2 hi => by
      obtain ⟨ks, ps, vk, vy, rfl, rfl, hh, hl⟩ := hi
      obtain ⟨ks', ps', vy', e, hh', hl'⟩ := L09_kturn2 d c0 ns h1 k ks ps vy (by omega) hh hl
      refine ⟨_, _, ?_, ks', ps', .d (.int (k : Nat)), vy', rfl, rfl, hh', hl'⟩
      rw [hs1]; exact e)
  rw [← hn, List.take_length] at hh
  refine ⟨ks, ps, hh, by omega, L09_known_0 d c0 ns vk vy ks ps ?_ hand_held⟩
  have he : evE (gen B09 H09 (d + 1 + 1) (Str.ofString "_law_known")) (L09_KB c0 ns) false (rangeArg (stAt B09 27 1)) [(false, .dict [] [])] = some (.d (.int ((ns.length : Nat) : Int)), [(false, .dict [] [])]) := by
    have hz : sizeOk (ns.map D.str).length = true := sizeOk_of (by rw [List.length_map]; omega)
    have hl : evE (gen B09 H09 (d + 1 + 1) (Str.ofString "_law_known")) (L09_KB c0 ns) false (rangeArg (stAt B09 27 1)) [(false, .dict [] [])] = (if sizeOk (ns.map D.str).length = true then some (V.d (D.int (((ns.map D.str).length : Nat) : Int))) else none).map fun v => (v, [(false, MO.dict [] [])]) := by kernel_rfl
    rw [hl, if_pos hz, List.length_map]
    rfl
  refine for_range (x := Str.ofString "_law_k") (body := forBody (stAt B09 27 1)) rfl he (by omega) ?_
  rw [show ((ns.length : Nat) : Int).toNat = n + 1 by omega]
  exact e
theorem L09_one_of_T (d : Nat) (a b x : Int) (w1 : Int) (h1 : (x % 4) < 2) (h2 : idxL [D.int (a), D.int (b)] (x % 4) = some (D.int (w1))) (σ : St) : callN B09 H09 (d + 1) (Str.ofString "_law_one_of") [V.d (D.tup [D.int (a), D.int (b)]), V.d (D.int (x))] σ = some (V.d (D.int (w1)), σ) :=
  path (ds := [D.tup [D.int (a), D.int (b)], D.int (x)]) (i := 28) (x := D.int (w1)) (P := (some (decide ((x % 4) < 2)) = some true) ∧ (getItemV [] (V.d (D.tup [D.int (a), D.int (b)])) (V.d (D.int (x % 4))) = some (V.d (D.int (w1)))) ∧ some (D.int (w1)) = some (D.int (w1))) [(2, Tell.b true), (4, Tell.v (V.d (D.int (w1))))] L09_f__law_one_of (L09_imp _) (by kernel_rfl) ⟨dT h1, idx_tup h2, rfl⟩ σ
theorem L09_one_of_F (d : Nat) (a b x : Int)  (h1 : ¬ ((x % 4) < 2)) (h2 : 0 < ((b - a) + 1)) (σ : St) : callN B09 H09 (d + 1) (Str.ofString "_law_one_of") [V.d (D.tup [D.int (a), D.int (b)]), V.d (D.int (x))] σ = some (V.d (D.int (a + ((x / 4) % ((b - a) + 1)))), σ) :=
  path (ds := [D.tup [D.int (a), D.int (b)], D.int (x)]) (i := 28) (x := D.int (a + ((x / 4) % ((b - a) + 1)))) (P := (some (decide ((x % 4) < 2)) = some false) ∧ (binV [] .Mod (V.d (D.int (x / 4))) (V.d (D.int ((b - a) + 1))) = some (V.d (D.int ((x / 4) % ((b - a) + 1))))) ∧ some (D.int (a + ((x / 4) % ((b - a) + 1)))) = some (D.int (a + ((x / 4) % ((b - a) + 1))))) [(2, Tell.b false), (9, Tell.v (V.d (D.int ((x / 4) % ((b - a) + 1)))))] L09_f__law_one_of (L09_imp _) (by kernel_rfl) ⟨dF h1, mod_ok h2, rfl⟩ σ
theorem L09_one_of (d : Nat) (a b x : Int) (hab : a ≤ b) (hx : 0 ≤ x) : ∃ r : Int, a ≤ r ∧ r ≤ b ∧ ∀ σ, callN B09 H09 (d + 1) (Str.ofString "_law_one_of") [.d (.tup [.int a, .int b]), .d (.int x)] σ = some (.d (.int r), σ) := by
  have l1 := Int.emod_nonneg (x / 4) (show b - a + 1 ≠ 0 by omega)
  have l2 := Int.emod_lt_of_pos (x / 4) (show 0 < b - a + 1 by omega)
  by_cases h : x % 4 < 2
  · obtain ⟨w, hw, e⟩ := pick2 (P := fun w => a ≤ w ∧ w ≤ b) (i := x % 4) (a := a) (b := b) (by omega) (by omega) (by omega)
    exact ⟨w, hw.1, hw.2, L09_one_of_T d a b x w h e⟩
  · exact ⟨_, by omega, by omega, L09_one_of_F d a b x h (by omega)⟩
noncomputable def L09_HL (kk : List Key) (pp : List (Int × Int)) (x : Int) (vn : V) : Loc := [(Str.ofString "_law_known_here", V.d (D.dict kk (pp.map pD))), (Str.ofString "_law_x", V.d (D.int (x))), (Str.ofString "_law_held_here", V.obj 0), (Str.ofString "_law_name", vn)]
theorem L09_hbody (d : Nat) (kk : List Key) (pp : List (Int × Int)) (x a b r : Int) (nm : Str) (ks ks1 : List Key) (is is1 : List Int)  (h1 : small x = true) (h2 : getItemV [(false, MO.dict ks ((is.map D.int).map V.d))] (V.d (D.dict kk (pp.map pD))) (V.d (D.str (nm))) = some (V.d (D.tup [D.int (a), D.int (b)]))) (hc1 : ∀ σ, callN B09 H09 (d + 1) (Str.ofString "_law_one_of") [V.d (D.tup [D.int (a), D.int (b)]), V.d (D.int ((((x * x) + (48271 * x)) + 11) % 2147483647))] σ = some (V.d (D.int (r)), σ)) (h3 : setItemV [(false, MO.dict ks ((is.map D.int).map V.d))] (V.obj 0) (V.d (D.str (nm))) (V.d (D.int (r))) = some [(false, MO.dict ks1 ((is1.map D.int).map V.d))]) : evSs (gen B09 H09 (d + 1) (Str.ofString "_law_held")) (forBody (stAt B09 29 1)) [(Str.ofString "_law_known_here", V.d (D.dict kk (pp.map pD))), (Str.ofString "_law_x", V.d (D.int (x))), (Str.ofString "_law_held_here", V.obj 0), (Str.ofString "_law_name", V.d (D.str (nm)))] ([(false, MO.dict ks ((is.map D.int).map V.d))]) = some (Fl.next, [(Str.ofString "_law_known_here", V.d (D.dict kk (pp.map pD))), (Str.ofString "_law_x", V.d (D.int ((((x * x) + (48271 * x)) + 11) % 2147483647))), (Str.ofString "_law_held_here", V.obj 0), (Str.ofString "_law_name", V.d (D.str (nm)))], [(false, MO.dict ks1 ((is1.map D.int).map V.d))]) :=
  pathS (P := (binV [(false, MO.dict ks ((is.map D.int).map V.d))] .Mult (V.d (D.int (x))) (V.d (D.int (x))) = some (V.d (D.int (x * x)))) ∧ (getItemV [(false, MO.dict ks ((is.map D.int).map V.d))] (V.d (D.dict kk (pp.map pD))) (V.d (D.str (nm))) = some (V.d (D.tup [D.int (a), D.int (b)]))) ∧ (callN B09 H09 (d + 1) (Str.ofString "_law_one_of") [V.d (D.tup [D.int (a), D.int (b)]), V.d (D.int ((((x * x) + (48271 * x)) + 11) % 2147483647))] [(false, MO.dict ks ((is.map D.int).map V.d))] = some (V.d (D.int (r)), [(false, MO.dict ks ((is.map D.int).map V.d))])) ∧ (setItemV [(false, MO.dict ks ((is.map D.int).map V.d))] (V.obj 0) (V.d (D.str (nm))) (V.d (D.int (r))) = some [(false, MO.dict ks1 ((is1.map D.int).map V.d))]) ∧ ((Fl.next, [(Str.ofString "_law_known_here", V.d (D.dict kk (pp.map pD))), (Str.ofString "_law_x", V.d (D.int ((((x * x) + (48271 * x)) + 11) % 2147483647))), (Str.ofString "_law_held_here", V.obj 0), (Str.ofString "_law_name", V.d (D.str (nm)))], [(false, MO.dict ks1 ((is1.map D.int).map V.d))]) : Fl × Loc × St) = (Fl.next, [(Str.ofString "_law_known_here", V.d (D.dict kk (pp.map pD))), (Str.ofString "_law_x", V.d (D.int ((((x * x) + (48271 * x)) + 11) % 2147483647))), (Str.ofString "_law_held_here", V.obj 0), (Str.ofString "_law_name", V.d (D.str (nm)))], [(false, MO.dict ks1 ((is1.map D.int).map V.d))])) [(0, Tell.v (V.d (D.int (x * x)))), (5, Tell.v (V.d (D.tup [D.int (a), D.int (b)]))), (6, Tell.w (V.d (D.int (r))) [(false, MO.dict ks ((is.map D.int).map V.d))]), (7, Tell.s [(false, MO.dict ks1 ((is1.map D.int).map V.d))])] (by kernel_rfl) ⟨mul_ok h1, h2, hc1 _, h3, rfl⟩
theorem L09_held_0 (d : Nat) (kk : List Key) (pp : List (Int × Int)) (x : Int) (vx vn : V) (ks : List Key) (is : List Int)  (h1 : evS (gen B09 H09 (d + 1) (Str.ofString "_law_held")) (stAt B09 29 1) [(Str.ofString "_law_known_here", V.d (D.dict kk (pp.map pD))), (Str.ofString "_law_x", V.d (D.int (x))), (Str.ofString "_law_held_here", V.obj 0)] [(false, MO.dict [] [])] = some (Fl.next, [(Str.ofString "_law_known_here", V.d (D.dict kk (pp.map pD))), (Str.ofString "_law_x", vx), (Str.ofString "_law_held_here", V.obj 0), (Str.ofString "_law_name", vn)], [(false, MO.dict ks ((is.map D.int).map V.d))])) (h2 : handD false [(false, MO.dict ks ((is.map D.int).map V.d))] (V.obj 0) = some (D.dict ks (is.map D.int))) (σ : St) : callN B09 H09 (d + 1 + 1) (Str.ofString "_law_held") [V.d (D.dict kk (pp.map pD)), V.d (D.int (x))] σ = some (V.d (D.dict ks (is.map D.int)), σ) :=
  path (ds := [D.dict kk (pp.map pD), D.int (x)]) (i := 29) (x := D.dict ks (is.map D.int)) (P := (evS (gen B09 H09 (d + 1) (Str.ofString "_law_held")) (stAt B09 29 1) [(Str.ofString "_law_known_here", V.d (D.dict kk (pp.map pD))), (Str.ofString "_law_x", V.d (D.int (x))), (Str.ofString "_law_held_here", V.obj 0)] [(false, MO.dict [] [])] = some (Fl.next, [(Str.ofString "_law_known_here", V.d (D.dict kk (pp.map pD))), (Str.ofString "_law_x", vx), (Str.ofString "_law_held_here", V.obj 0), (Str.ofString "_law_name", vn)], [(false, MO.dict ks ((is.map D.int).map V.d))])) ∧ handD false [(false, MO.dict ks ((is.map D.int).map V.d))] (V.obj 0) = some (D.dict ks (is.map D.int))) [(1, Tell.f Fl.next [(Str.ofString "_law_known_here", V.d (D.dict kk (pp.map pD))), (Str.ofString "_law_x", vx), (Str.ofString "_law_held_here", V.obj 0), (Str.ofString "_law_name", vn)] [(false, MO.dict ks ((is.map D.int).map V.d))])] L09_f__law_held (L09_imp _) (by kernel_rfl) ⟨h1, h2⟩ σ
theorem L09_hturn {ns : List Str} {kk : List Key} {pp : List (Int × Int)} (h : Held InS ns kk pp) (d : Nat) (x : Int) (hx : 0 ≤ x ∧ x < 2147483647) (j : Nat) (k : Key) (is : List Int) (hj : kk[j]? = some k) (hk : kk.length ≤ 100) (hi : Ins (pp.take j) is) : ∃ (x' : Int) (is' : List Int), (0 ≤ x' ∧ x' < 2147483647) ∧ Ins (pp.take (j + 1)) is' ∧ evSs (gen B09 H09 (d + 1) (Str.ofString "_law_held")) (forBody (stAt B09 29 1)) (L09_HL kk pp x (.d k.toD)) [(false, .dict (kk.take j) ((is.map D.int).map V.d))] = some (.next, L09_HL kk pp x' (.d k.toD), [(false, .dict (kk.take (j + 1)) ((is'.map D.int).map V.d))]) := by
  obtain ⟨nm, rfl⟩ := h.str k (List.mem_of_getElem? hj)
  have hjl := (List.getElem?_eq_some_iff.mp hj).1
  have hpl : j < pp.length := h.len ▸ hjl
  have hp : pp[j]? = some pp[j] := List.getElem?_eq_getElem hpl
  have eg := getK_nodup h.nd hj hp
  have hin := h.inn _ (List.getElem_mem hpl)
  unfold InS at hin
  obtain ⟨r, r1, r2, er⟩ := L09_one_of d pp[j].1 pp[j].2 ((x * x + 48271 * x + 11) % 2147483647) (by omega) (by omega)
  have hl : (kk.take j).length = is.length := by rw [← hi.len, List.length_take, List.length_take, h.len]
  have hnew : Key.s nm ∉ kk.take j := fun q => by
    have hd := h.nd
    rw [← List.take_append_drop j kk, List.nodup_append] at hd
    exact hd.2.2 _ q _ (by rw [List.drop_eq_getElem_cons hjl, ← (List.getElem?_eq_some_iff.mp hj).2]; exact .head _) rfl
  have hset := set_held (e := D.int) (ks := kk.take j) (is := is) (x := nm) (v := r) (by rw [List.length_take]; omega)
  rw [putK_new hl hnew] at hset
  have ht : kk.take j ++ [Key.s nm] = kk.take (j + 1) := by rw [List.take_add_one, hj]; rfl
  have hq : pp.take j ++ [pp[j]] = pp.take (j + 1) := by rw [List.take_add_one, hp]; rfl
  dsimp only at hset
  rw [ht] at hset
  refine ⟨_, is ++ [r], ⟨by omega, by omega⟩, by rw [← hq]; exact hi.snoc ⟨r1, r2⟩, L09_hbody d kk pp x pp[j].1 pp[j].2 r nm _ _ is _ (small_of_lt (by omega) (by omega)) (item_data (e := pD) eg) er hset⟩
theorem L09_held {ns : List Str} {kk : List Key} {pp : List (Int × Int)} (h : Held InS ns kk pp) (d : Nat) (x : Int) (hx : 0 ≤ x ∧ x < 2147483647) (h0 : 0 < ns.length) (hk : kk.length ≤ 100) : ∃ is : List Int, Ins pp is ∧ ∀ σ, callN B09 H09 (d + 1 + 1) (Str.ofString "_law_held") [.d (.dict kk (pp.map pD)), .d (.int x)] σ = some (.d (.dict kk (is.map .int)), σ) := by
  have hs0 : ∀ v, setV (Str.ofString "_law_name") v [(Str.ofString "_law_known_here", V.d (D.dict kk (pp.map pD))), (Str.ofString "_law_x", V.d (D.int (x))), (Str.ofString "_law_held_here", V.obj 0)] = L09_HL kk pp x v := fun v => by kernel_rfl
  have hs1 : ∀ x u v, setV (Str.ofString "_law_name") v (L09_HL kk pp x u) = L09_HL kk pp x v := fun x u v => by kernel_rfl
  cases hkk : kk with
  | nil =>
    obtain ⟨i, e⟩ := h.get (ns[0]) (List.getElem_mem h0)
    rw [hkk] at e; cases e
  | cons k0 rest =>
  rw [← hkk]
  have hit : (kk.map fun k => V.d k.toD) = V.d k0.toD :: rest.map fun k => V.d k.toD := by rw [hkk]; rfl
  obtain ⟨ρ', σ', e, x', vn, is, rfl, rfl, hx', hi⟩ := list_two (f := fun v ρ σ => evSs (gen B09 H09 (d + 1) (Str.ofString "_law_held")) (forBody (stAt B09 29 1)) (setV (Str.ofString "_law_name") v ρ) σ) (v := V.d k0.toD) (r := rest.map fun k => V.d k.toD) (ρ0 := [(Str.ofString "_law_known_here", V.d (D.dict kk (pp.map pD))), (Str.ofString "_law_x", V.d (D.int (x))), (Str.ofString "_law_held_here", V.obj 0)]) (σ0 := [(false, .dict [] [])])
    (Inv := fun j ρ σ => ∃ (x' : Int) (vn : V) (is : List Int), ρ = L09_HL kk pp x' vn ∧ σ = [(false, .dict (kk.take j) ((is.map D.int).map V.d))] ∧ (0 ≤ x' ∧ x' < 2147483647) ∧ Ins (pp.take j) is)
    (by
      obtain ⟨x', is', hx', hi', e⟩ := L09_hturn h d x hx 0 k0 [] (by rw [hkk]; rfl) hk trivial
      refine ⟨_, _, ?_, x', .d k0.toD, is', rfl, rfl, hx', hi'⟩
      rw [hs0]; exact e) (fun j u ρ σ hu hinv => by
      obtain ⟨x1, vn, is, rfl, rfl, hx1, hi⟩ := hinv
      rw [List.getElem?_map] at hu
      obtain ⟨k, hk', rfl⟩ := Option.map_eq_some_iff.mp hu
      obtain ⟨x', is', hx', hi', e⟩ := L09_hturn h d x1 hx1 (j + 1) k is (by rw [hkk]; exact hk') hk hi
      refine ⟨_, _, ?_, x', .d k.toD, is', rfl, rfl, hx', hi'⟩
      rw [hs1]; exact e)
  have hlen : (rest.map fun k => V.d k.toD).length + 1 = kk.length := by rw [List.length_map, hkk]; rfl
  rw [hlen] at hi e
  rw [List.take_length] at e
  rw [h.len, List.take_length] at hi
  refine ⟨is, hi, L09_held_0 d kk pp x (.d (.int x')) vn kk is ?_ hand_held⟩
  refine for_dict (x := Str.ofString "_law_name") (body := forBody (stAt B09 29 1)) (ks := kk) (vs := pp.map pD) rfl ?_
  rw [hit]
  exact e
theorem L09_met_T (d : Nat) (a b c e : Int)  (h1 : (if c > a then c else a) > (if e < b then e else b)) (σ : St) : callN B09 H09 (d + 1) (Str.ofString "met") [V.d (D.tup [D.int (a), D.int (b)]), V.d (D.tup [D.int (c), D.int (e)])] σ = some (V.d (D.none), σ) :=
  path (ds := [D.tup [D.int (a), D.int (b)], D.tup [D.int (c), D.int (e)]]) (i := 5) (x := D.none) (P := (some (decide ((if c > a then c else a) > (if e < b then e else b))) = some true) ∧ some (D.none) = some (D.none)) [(11, Tell.b true)] L09_f_met (L09_imp _) (by kernel_rfl) ⟨dT h1, rfl⟩ σ
theorem L09_met_F (d : Nat) (a b c e : Int)  (h1 : ¬ ((if c > a then c else a) > (if e < b then e else b))) (σ : St) : callN B09 H09 (d + 1) (Str.ofString "met") [V.d (D.tup [D.int (a), D.int (b)]), V.d (D.tup [D.int (c), D.int (e)])] σ = some (V.d (D.tup [D.int (if c > a then c else a), D.int (if e < b then e else b)]), σ) :=
  path (ds := [D.tup [D.int (a), D.int (b)], D.tup [D.int (c), D.int (e)]]) (i := 5) (x := D.tup [D.int (if c > a then c else a), D.int (if e < b then e else b)]) (P := (some (decide ((if c > a then c else a) > (if e < b then e else b))) = some false) ∧ some (D.tup [D.int (if c > a then c else a), D.int (if e < b then e else b)]) = some (D.tup [D.int (if c > a then c else a), D.int (if e < b then e else b)])) [(11, Tell.b false)] L09_f_met (L09_imp _) (by kernel_rfl) ⟨dF h1, rfl⟩ σ
theorem L09_met (d : Nat) (p q : Int × Int) (σ : St) : callN B09 H09 (d + 1) (Str.ofString "met") [.d (pD p), .d (pD q)] σ = some (.d (sD (metS p q)), σ) := by
  by_cases h : (if q.1 > p.1 then q.1 else p.1) > (if q.2 < p.2 then q.2 else p.2)
  · rw [metS_none h]; exact L09_met_T d p.1 p.2 q.1 q.2 h σ
  · rw [metS_some h]; exact L09_met_F d p.1 p.2 q.1 q.2 h σ
theorem L09_lmet_T (d : Nat) (a b x y : Int)  (h1 : (if x > a then x else a) > (if y < b then y else b)) (σ : St) : callN B09 H09 (d + 1) (Str.ofString "_law_met") [V.d (D.tup [D.int (a), D.int (b)]), V.d (D.int (x)), V.d (D.int (y))] σ = some (V.d (D.none), σ) :=
  path (ds := [D.tup [D.int (a), D.int (b)], D.int (x), D.int (y)]) (i := 32) (x := D.none) (P := (some (decide ((if x > a then x else a) > (if y < b then y else b))) = some true) ∧ some (D.none) = some (D.none)) [(7, Tell.b true)] L09_f__law_met (L09_imp _) (by kernel_rfl) ⟨dT h1, rfl⟩ σ
theorem L09_lmet_F (d : Nat) (a b x y : Int)  (h1 : ¬ ((if x > a then x else a) > (if y < b then y else b))) (σ : St) : callN B09 H09 (d + 1) (Str.ofString "_law_met") [V.d (D.tup [D.int (a), D.int (b)]), V.d (D.int (x)), V.d (D.int (y))] σ = some (V.d (D.tup [D.int (if x > a then x else a), D.int (if y < b then y else b)]), σ) :=
  path (ds := [D.tup [D.int (a), D.int (b)], D.int (x), D.int (y)]) (i := 32) (x := D.tup [D.int (if x > a then x else a), D.int (if y < b then y else b)]) (P := (some (decide ((if x > a then x else a) > (if y < b then y else b))) = some false) ∧ some (D.tup [D.int (if x > a then x else a), D.int (if y < b then y else b)]) = some (D.tup [D.int (if x > a then x else a), D.int (if y < b then y else b)])) [(7, Tell.b false)] L09_f__law_met (L09_imp _) (by kernel_rfl) ⟨dF h1, rfl⟩ σ
theorem L09_lmet (d : Nat) (p : Int × Int) (x y : Int) (σ : St) : callN B09 H09 (d + 1) (Str.ofString "_law_met") [.d (pD p), .d (.int x), .d (.int y)] σ = some (.d (sD (metS p (x, y))), σ) := by
  by_cases h : (if x > p.1 then x else p.1) > (if y < p.2 then y else p.2)
  · rw [metS_none (q := (x, y)) h]; exact L09_lmet_T d p.1 p.2 x y h σ
  · rw [metS_some (q := (x, y)) h]; exact L09_lmet_F d p.1 p.2 x y h σ
theorem L09_without_T (d : Nat) (a b c e : Int)  (h1 : (!(decide (c = e))) = true) (σ : St) : callN B09 H09 (d + 1) (Str.ofString "without") [V.d (D.tup [D.int (a), D.int (b)]), V.d (D.tup [D.int (c), D.int (e)])] σ = some (V.d (D.tup [D.int (a), D.int (b)]), σ) :=
  path (ds := [D.tup [D.int (a), D.int (b)], D.tup [D.int (c), D.int (e)]]) (i := 8) (x := D.tup [D.int (a), D.int (b)]) (P := (some (!(decide (c = e))) = some true) ∧ some (D.tup [D.int (a), D.int (b)]) = some (D.tup [D.int (a), D.int (b)])) [(5, Tell.b true)] L09_f_without (L09_imp _) (by kernel_rfl) ⟨congrArg some h1, rfl⟩ σ
theorem L09_without_FTT (d : Nat) (a b c e : Int)  (h1 : (!(decide (c = e))) = false) (h2 : a = c) (h3 : (a + 1) > b) (σ : St) : callN B09 H09 (d + 1) (Str.ofString "without") [V.d (D.tup [D.int (a), D.int (b)]), V.d (D.tup [D.int (c), D.int (e)])] σ = some (V.d (D.none), σ) :=
  path (ds := [D.tup [D.int (a), D.int (b)], D.tup [D.int (c), D.int (e)]]) (i := 8) (x := D.none) (P := (some (!(decide (c = e))) = some false) ∧ (some (decide (a = c)) = some true) ∧ (some (decide ((a + 1) > b)) = some true) ∧ some (D.none) = some (D.none)) [(5, Tell.b false), (8, Tell.b true), (11, Tell.b true)] L09_f_without (L09_imp _) (by kernel_rfl) ⟨congrArg some h1, dT h2, dT h3, rfl⟩ σ
theorem L09_without_FFFF (d : Nat) (a b c e : Int)  (h1 : (!(decide (c = e))) = false) (h2 : ¬ (a = c)) (h3 : ¬ (b = c)) (h4 : ¬ (a > b)) (σ : St) : callN B09 H09 (d + 1) (Str.ofString "without") [V.d (D.tup [D.int (a), D.int (b)]), V.d (D.tup [D.int (c), D.int (e)])] σ = some (V.d (D.tup [D.int (a), D.int (b)]), σ) :=
  path (ds := [D.tup [D.int (a), D.int (b)], D.tup [D.int (c), D.int (e)]]) (i := 8) (x := D.tup [D.int (a), D.int (b)]) (P := (some (!(decide (c = e))) = some false) ∧ (some (decide (a = c)) = some false) ∧ (some (decide (b = c)) = some false) ∧ (some (decide (a > b)) = some false) ∧ some (D.tup [D.int (a), D.int (b)]) = some (D.tup [D.int (a), D.int (b)])) [(5, Tell.b false), (8, Tell.b false), (11, Tell.b false), (13, Tell.b false)] L09_f_without (L09_imp _) (by kernel_rfl) ⟨congrArg some h1, dF h2, dF h3, dF h4, rfl⟩ σ
theorem L09_without_FFTF (d : Nat) (a b c e : Int)  (h1 : (!(decide (c = e))) = false) (h2 : ¬ (a = c)) (h3 : b = c) (h4 : ¬ (a > (b - 1))) (σ : St) : callN B09 H09 (d + 1) (Str.ofString "without") [V.d (D.tup [D.int (a), D.int (b)]), V.d (D.tup [D.int (c), D.int (e)])] σ = some (V.d (D.tup [D.int (a), D.int (b - 1)]), σ) :=
  path (ds := [D.tup [D.int (a), D.int (b)], D.tup [D.int (c), D.int (e)]]) (i := 8) (x := D.tup [D.int (a), D.int (b - 1)]) (P := (some (!(decide (c = e))) = some false) ∧ (some (decide (a = c)) = some false) ∧ (some (decide (b = c)) = some true) ∧ (some (decide (a > (b - 1))) = some false) ∧ some (D.tup [D.int (a), D.int (b - 1)]) = some (D.tup [D.int (a), D.int (b - 1)])) [(5, Tell.b false), (8, Tell.b false), (11, Tell.b true), (14, Tell.b false)] L09_f_without (L09_imp _) (by kernel_rfl) ⟨congrArg some h1, dF h2, dT h3, dF h4, rfl⟩ σ
theorem L09_without_FTF (d : Nat) (a b c e : Int)  (h1 : (!(decide (c = e))) = false) (h2 : a = c) (h3 : ¬ ((a + 1) > b)) (σ : St) : callN B09 H09 (d + 1) (Str.ofString "without") [V.d (D.tup [D.int (a), D.int (b)]), V.d (D.tup [D.int (c), D.int (e)])] σ = some (V.d (D.tup [D.int (a + 1), D.int (b)]), σ) :=
  path (ds := [D.tup [D.int (a), D.int (b)], D.tup [D.int (c), D.int (e)]]) (i := 8) (x := D.tup [D.int (a + 1), D.int (b)]) (P := (some (!(decide (c = e))) = some false) ∧ (some (decide (a = c)) = some true) ∧ (some (decide ((a + 1) > b)) = some false) ∧ some (D.tup [D.int (a + 1), D.int (b)]) = some (D.tup [D.int (a + 1), D.int (b)])) [(5, Tell.b false), (8, Tell.b true), (11, Tell.b false)] L09_f_without (L09_imp _) (by kernel_rfl) ⟨congrArg some h1, dT h2, dF h3, rfl⟩ σ
theorem L09_may_lt_0 (d : Nat) (a b c e : Int)   (σ : St) : callN B09 H09 (d + 1 + 1) (Str.ofString "may_hold") [V.d (D.str (Str.ofString "<")), V.d (D.tup [D.int (a), D.int (b)]), V.d (D.tup [D.int (c), D.int (e)])] σ = some (V.d (D.bool (decide (a < e))), σ) :=
  path (ds := [D.str (Str.ofString "<"), D.tup [D.int (a), D.int (b)], D.tup [D.int (c), D.int (e)]]) (i := 7) (x := D.bool (decide (a < e))) (P := some (D.bool (decide (a < e))) = some (D.bool (decide (a < e)))) [] L09_f_may_hold (L09_imp _) (by kernel_rfl) rfl σ
theorem L09_left_lt_0 (d : Nat) (a b c e : Int)  (hc1 : ∀ σ, callN B09 H09 (d + 1) (Str.ofString "met") [V.d (D.tup [D.int (a), D.int (b)]), V.d (D.tup [D.int (-1000000), D.int (e - 1)])] σ = some (V.d (sD (metS (a, b) (-1000000, e - 1))), σ)) (σ : St) : callN B09 H09 (d + 1 + 1) (Str.ofString "left_side") [V.d (D.str (Str.ofString "<")), V.d (D.tup [D.int (a), D.int (b)]), V.d (D.tup [D.int (c), D.int (e)])] σ = some (V.d (sD (metS (a, b) (-1000000, e - 1))), σ) :=
  path (ds := [D.str (Str.ofString "<"), D.tup [D.int (a), D.int (b)], D.tup [D.int (c), D.int (e)]]) (i := 9) (x := sD (metS (a, b) (-1000000, e - 1))) (P := (callN B09 H09 (d + 1) (Str.ofString "met") [V.d (D.tup [D.int (a), D.int (b)]), V.d (D.tup [D.int (-1000000), D.int (e - 1)])] [] = some (V.d (sD (metS (a, b) (-1000000, e - 1))), [])) ∧ some (sD (metS (a, b) (-1000000, e - 1))) = some (sD (metS (a, b) (-1000000, e - 1)))) [(4, Tell.w (V.d (sD (metS (a, b) (-1000000, e - 1)))) [])] L09_f_left_side (L09_imp _) (by kernel_rfl) ⟨hc1 _, rfl⟩ σ
theorem L09_right_lt_0 (d : Nat) (a b c e : Int)  (hc1 : ∀ σ, callN B09 H09 (d + 1) (Str.ofString "met") [V.d (D.tup [D.int (a), D.int (b)]), V.d (D.tup [D.int (c + 1), D.int (1000000)])] σ = some (V.d (sD (metS (a, b) (c + 1, 1000000))), σ)) (σ : St) : callN B09 H09 (d + 1 + 1) (Str.ofString "right_side") [V.d (D.str (Str.ofString "<")), V.d (D.tup [D.int (a), D.int (b)]), V.d (D.tup [D.int (c), D.int (e)])] σ = some (V.d (sD (metS (a, b) (c + 1, 1000000))), σ) :=
  path (ds := [D.str (Str.ofString "<"), D.tup [D.int (a), D.int (b)], D.tup [D.int (c), D.int (e)]]) (i := 10) (x := sD (metS (a, b) (c + 1, 1000000))) (P := (callN B09 H09 (d + 1) (Str.ofString "met") [V.d (D.tup [D.int (a), D.int (b)]), V.d (D.tup [D.int (c + 1), D.int (1000000)])] [] = some (V.d (sD (metS (a, b) (c + 1, 1000000))), [])) ∧ some (sD (metS (a, b) (c + 1, 1000000))) = some (sD (metS (a, b) (c + 1, 1000000)))) [(4, Tell.w (V.d (sD (metS (a, b) (c + 1, 1000000)))) [])] L09_f_right_side (L09_imp _) (by kernel_rfl) ⟨hc1 _, rfl⟩ σ
theorem L09_side_ltt_0 (d : Nat) (a b c e : Int)  (hc1 : ∀ σ, callN B09 H09 (d + 1) (Str.ofString "_law_met") [V.d (D.tup [D.int (a), D.int (b)]), V.d (D.int (-1000000)), V.d (D.int (e - 1))] σ = some (V.d (sD (metS (a, b) (-1000000, e - 1))), σ)) (σ : St) : callN B09 H09 (d + 1 + 1) (Str.ofString "_law_side") [V.d (D.str (Str.ofString "<")), V.d (D.tup [D.int (a), D.int (b)]), V.d (D.tup [D.int (c), D.int (e)]), V.d (D.bool (true))] σ = some (V.d (sD (metS (a, b) (-1000000, e - 1))), σ) :=
  path (ds := [D.str (Str.ofString "<"), D.tup [D.int (a), D.int (b)], D.tup [D.int (c), D.int (e)], D.bool (true)]) (i := 33) (x := sD (metS (a, b) (-1000000, e - 1))) (P := (callN B09 H09 (d + 1) (Str.ofString "_law_met") [V.d (D.tup [D.int (a), D.int (b)]), V.d (D.int (-1000000)), V.d (D.int (e - 1))] [] = some (V.d (sD (metS (a, b) (-1000000, e - 1))), [])) ∧ some (sD (metS (a, b) (-1000000, e - 1))) = some (sD (metS (a, b) (-1000000, e - 1)))) [(9, Tell.w (V.d (sD (metS (a, b) (-1000000, e - 1)))) [])] L09_f__law_side (L09_imp _) (by kernel_rfl) ⟨hc1 _, rfl⟩ σ
theorem L09_side_ltf_0 (d : Nat) (a b c e : Int)  (hc1 : ∀ σ, callN B09 H09 (d + 1) (Str.ofString "_law_met") [V.d (D.tup [D.int (a), D.int (b)]), V.d (D.int (c + 1)), V.d (D.int (1000000))] σ = some (V.d (sD (metS (a, b) (c + 1, 1000000))), σ)) (σ : St) : callN B09 H09 (d + 1 + 1) (Str.ofString "_law_side") [V.d (D.str (Str.ofString "<")), V.d (D.tup [D.int (a), D.int (b)]), V.d (D.tup [D.int (c), D.int (e)]), V.d (D.bool (false))] σ = some (V.d (sD (metS (a, b) (c + 1, 1000000))), σ) :=
  path (ds := [D.str (Str.ofString "<"), D.tup [D.int (a), D.int (b)], D.tup [D.int (c), D.int (e)], D.bool (false)]) (i := 33) (x := sD (metS (a, b) (c + 1, 1000000))) (P := (callN B09 H09 (d + 1) (Str.ofString "_law_met") [V.d (D.tup [D.int (a), D.int (b)]), V.d (D.int (c + 1)), V.d (D.int (1000000))] [] = some (V.d (sD (metS (a, b) (c + 1, 1000000))), [])) ∧ some (sD (metS (a, b) (c + 1, 1000000))) = some (sD (metS (a, b) (c + 1, 1000000)))) [(9, Tell.w (V.d (sD (metS (a, b) (c + 1, 1000000)))) [])] L09_f__law_side (L09_imp _) (by kernel_rfl) ⟨hc1 _, rfl⟩ σ
theorem L09_may_le_0 (d : Nat) (a b c e : Int)   (σ : St) : callN B09 H09 (d + 1 + 1) (Str.ofString "may_hold") [V.d (D.str (Str.ofString "<=")), V.d (D.tup [D.int (a), D.int (b)]), V.d (D.tup [D.int (c), D.int (e)])] σ = some (V.d (D.bool (decide (a ≤ e))), σ) :=
  path (ds := [D.str (Str.ofString "<="), D.tup [D.int (a), D.int (b)], D.tup [D.int (c), D.int (e)]]) (i := 7) (x := D.bool (decide (a ≤ e))) (P := some (D.bool (decide (a ≤ e))) = some (D.bool (decide (a ≤ e)))) [] L09_f_may_hold (L09_imp _) (by kernel_rfl) rfl σ
theorem L09_left_le_0 (d : Nat) (a b c e : Int)  (hc1 : ∀ σ, callN B09 H09 (d + 1) (Str.ofString "met") [V.d (D.tup [D.int (a), D.int (b)]), V.d (D.tup [D.int (-1000000), D.int (e)])] σ = some (V.d (sD (metS (a, b) (-1000000, e))), σ)) (σ : St) : callN B09 H09 (d + 1 + 1) (Str.ofString "left_side") [V.d (D.str (Str.ofString "<=")), V.d (D.tup [D.int (a), D.int (b)]), V.d (D.tup [D.int (c), D.int (e)])] σ = some (V.d (sD (metS (a, b) (-1000000, e))), σ) :=
  path (ds := [D.str (Str.ofString "<="), D.tup [D.int (a), D.int (b)], D.tup [D.int (c), D.int (e)]]) (i := 9) (x := sD (metS (a, b) (-1000000, e))) (P := (callN B09 H09 (d + 1) (Str.ofString "met") [V.d (D.tup [D.int (a), D.int (b)]), V.d (D.tup [D.int (-1000000), D.int (e)])] [] = some (V.d (sD (metS (a, b) (-1000000, e))), [])) ∧ some (sD (metS (a, b) (-1000000, e))) = some (sD (metS (a, b) (-1000000, e)))) [(5, Tell.w (V.d (sD (metS (a, b) (-1000000, e)))) [])] L09_f_left_side (L09_imp _) (by kernel_rfl) ⟨hc1 _, rfl⟩ σ
theorem L09_right_le_0 (d : Nat) (a b c e : Int)  (hc1 : ∀ σ, callN B09 H09 (d + 1) (Str.ofString "met") [V.d (D.tup [D.int (a), D.int (b)]), V.d (D.tup [D.int (c), D.int (1000000)])] σ = some (V.d (sD (metS (a, b) (c, 1000000))), σ)) (σ : St) : callN B09 H09 (d + 1 + 1) (Str.ofString "right_side") [V.d (D.str (Str.ofString "<=")), V.d (D.tup [D.int (a), D.int (b)]), V.d (D.tup [D.int (c), D.int (e)])] σ = some (V.d (sD (metS (a, b) (c, 1000000))), σ) :=
  path (ds := [D.str (Str.ofString "<="), D.tup [D.int (a), D.int (b)], D.tup [D.int (c), D.int (e)]]) (i := 10) (x := sD (metS (a, b) (c, 1000000))) (P := (callN B09 H09 (d + 1) (Str.ofString "met") [V.d (D.tup [D.int (a), D.int (b)]), V.d (D.tup [D.int (c), D.int (1000000)])] [] = some (V.d (sD (metS (a, b) (c, 1000000))), [])) ∧ some (sD (metS (a, b) (c, 1000000))) = some (sD (metS (a, b) (c, 1000000)))) [(5, Tell.w (V.d (sD (metS (a, b) (c, 1000000)))) [])] L09_f_right_side (L09_imp _) (by kernel_rfl) ⟨hc1 _, rfl⟩ σ
theorem L09_side_let_0 (d : Nat) (a b c e : Int)  (hc1 : ∀ σ, callN B09 H09 (d + 1) (Str.ofString "_law_met") [V.d (D.tup [D.int (a), D.int (b)]), V.d (D.int (-1000000)), V.d (D.int (e - 0))] σ = some (V.d (sD (metS (a, b) (-1000000, e - 0))), σ)) (σ : St) : callN B09 H09 (d + 1 + 1) (Str.ofString "_law_side") [V.d (D.str (Str.ofString "<=")), V.d (D.tup [D.int (a), D.int (b)]), V.d (D.tup [D.int (c), D.int (e)]), V.d (D.bool (true))] σ = some (V.d (sD (metS (a, b) (-1000000, e - 0))), σ) :=
  path (ds := [D.str (Str.ofString "<="), D.tup [D.int (a), D.int (b)], D.tup [D.int (c), D.int (e)], D.bool (true)]) (i := 33) (x := sD (metS (a, b) (-1000000, e - 0))) (P := (callN B09 H09 (d + 1) (Str.ofString "_law_met") [V.d (D.tup [D.int (a), D.int (b)]), V.d (D.int (-1000000)), V.d (D.int (e - 0))] [] = some (V.d (sD (metS (a, b) (-1000000, e - 0))), [])) ∧ some (sD (metS (a, b) (-1000000, e - 0))) = some (sD (metS (a, b) (-1000000, e - 0)))) [(9, Tell.w (V.d (sD (metS (a, b) (-1000000, e - 0)))) [])] L09_f__law_side (L09_imp _) (by kernel_rfl) ⟨hc1 _, rfl⟩ σ
theorem L09_side_lef_0 (d : Nat) (a b c e : Int)  (hc1 : ∀ σ, callN B09 H09 (d + 1) (Str.ofString "_law_met") [V.d (D.tup [D.int (a), D.int (b)]), V.d (D.int (c + 0)), V.d (D.int (1000000))] σ = some (V.d (sD (metS (a, b) (c + 0, 1000000))), σ)) (σ : St) : callN B09 H09 (d + 1 + 1) (Str.ofString "_law_side") [V.d (D.str (Str.ofString "<=")), V.d (D.tup [D.int (a), D.int (b)]), V.d (D.tup [D.int (c), D.int (e)]), V.d (D.bool (false))] σ = some (V.d (sD (metS (a, b) (c + 0, 1000000))), σ) :=
  path (ds := [D.str (Str.ofString "<="), D.tup [D.int (a), D.int (b)], D.tup [D.int (c), D.int (e)], D.bool (false)]) (i := 33) (x := sD (metS (a, b) (c + 0, 1000000))) (P := (callN B09 H09 (d + 1) (Str.ofString "_law_met") [V.d (D.tup [D.int (a), D.int (b)]), V.d (D.int (c + 0)), V.d (D.int (1000000))] [] = some (V.d (sD (metS (a, b) (c + 0, 1000000))), [])) ∧ some (sD (metS (a, b) (c + 0, 1000000))) = some (sD (metS (a, b) (c + 0, 1000000)))) [(9, Tell.w (V.d (sD (metS (a, b) (c + 0, 1000000)))) [])] L09_f__law_side (L09_imp _) (by kernel_rfl) ⟨hc1 _, rfl⟩ σ
theorem L09_may_eq_0 (d : Nat) (a b c e : Int)  (hc1 : ∀ σ, callN B09 H09 (d + 1) (Str.ofString "met") [V.d (D.tup [D.int (a), D.int (b)]), V.d (D.tup [D.int (c), D.int (e)])] σ = some (V.d (sD (metS (a, b) (c, e))), σ)) (h1 : cmpV [] .IsNot (V.d (sD (metS (a, b) (c, e)))) (V.d (D.none)) = some ((metS (a, b) (c, e)).isSome)) (σ : St) : callN B09 H09 (d + 1 + 1) (Str.ofString "may_hold") [V.d (D.str (Str.ofString "=")), V.d (D.tup [D.int (a), D.int (b)]), V.d (D.tup [D.int (c), D.int (e)])] σ = some (V.d (D.bool ((metS (a, b) (c, e)).isSome)), σ) :=
  path (ds := [D.str (Str.ofString "="), D.tup [D.int (a), D.int (b)], D.tup [D.int (c), D.int (e)]]) (i := 7) (x := D.bool ((metS (a, b) (c, e)).isSome)) (P := (callN B09 H09 (d + 1) (Str.ofString "met") [V.d (D.tup [D.int (a), D.int (b)]), V.d (D.tup [D.int (c), D.int (e)])] [] = some (V.d (sD (metS (a, b) (c, e))), [])) ∧ (cmpV [] .IsNot (V.d (sD (metS (a, b) (c, e)))) (V.d (D.none)) = some ((metS (a, b) (c, e)).isSome)) ∧ some (D.bool ((metS (a, b) (c, e)).isSome)) = some (D.bool ((metS (a, b) (c, e)).isSome))) [(6, Tell.w (V.d (sD (metS (a, b) (c, e)))) []), (7, Tell.b ((metS (a, b) (c, e)).isSome))] L09_f_may_hold (L09_imp _) (by kernel_rfl) ⟨hc1 _, h1, rfl⟩ σ
theorem L09_left_eq_0 (d : Nat) (a b c e : Int)  (hc1 : ∀ σ, callN B09 H09 (d + 1) (Str.ofString "met") [V.d (D.tup [D.int (a), D.int (b)]), V.d (D.tup [D.int (c), D.int (e)])] σ = some (V.d (sD (metS (a, b) (c, e))), σ)) (σ : St) : callN B09 H09 (d + 1 + 1) (Str.ofString "left_side") [V.d (D.str (Str.ofString "=")), V.d (D.tup [D.int (a), D.int (b)]), V.d (D.tup [D.int (c), D.int (e)])] σ = some (V.d (sD (metS (a, b) (c, e))), σ) :=
  path (ds := [D.str (Str.ofString "="), D.tup [D.int (a), D.int (b)], D.tup [D.int (c), D.int (e)]]) (i := 9) (x := sD (metS (a, b) (c, e))) (P := (callN B09 H09 (d + 1) (Str.ofString "met") [V.d (D.tup [D.int (a), D.int (b)]), V.d (D.tup [D.int (c), D.int (e)])] [] = some (V.d (sD (metS (a, b) (c, e))), [])) ∧ some (sD (metS (a, b) (c, e))) = some (sD (metS (a, b) (c, e)))) [(6, Tell.w (V.d (sD (metS (a, b) (c, e)))) [])] L09_f_left_side (L09_imp _) (by kernel_rfl) ⟨hc1 _, rfl⟩ σ
theorem L09_right_eq_0 (d : Nat) (a b c e : Int)  (hc1 : ∀ σ, callN B09 H09 (d + 1) (Str.ofString "met") [V.d (D.tup [D.int (a), D.int (b)]), V.d (D.tup [D.int (c), D.int (e)])] σ = some (V.d (sD (metS (a, b) (c, e))), σ)) (σ : St) : callN B09 H09 (d + 1 + 1) (Str.ofString "right_side") [V.d (D.str (Str.ofString "=")), V.d (D.tup [D.int (a), D.int (b)]), V.d (D.tup [D.int (c), D.int (e)])] σ = some (V.d (sD (metS (a, b) (c, e))), σ) :=
  path (ds := [D.str (Str.ofString "="), D.tup [D.int (a), D.int (b)], D.tup [D.int (c), D.int (e)]]) (i := 10) (x := sD (metS (a, b) (c, e))) (P := (callN B09 H09 (d + 1) (Str.ofString "met") [V.d (D.tup [D.int (a), D.int (b)]), V.d (D.tup [D.int (c), D.int (e)])] [] = some (V.d (sD (metS (a, b) (c, e))), [])) ∧ some (sD (metS (a, b) (c, e))) = some (sD (metS (a, b) (c, e)))) [(6, Tell.w (V.d (sD (metS (a, b) (c, e)))) [])] L09_f_right_side (L09_imp _) (by kernel_rfl) ⟨hc1 _, rfl⟩ σ
theorem L09_side_eqf_0 (d : Nat) (a b c e : Int) (fb : Bool)  (hc1 : ∀ σ, callN B09 H09 (d + 1) (Str.ofString "_law_met") [V.d (D.tup [D.int (a), D.int (b)]), V.d (D.int (c)), V.d (D.int (e))] σ = some (V.d (sD (metS (a, b) (c, e))), σ)) (σ : St) : callN B09 H09 (d + 1 + 1) (Str.ofString "_law_side") [V.d (D.str (Str.ofString "=")), V.d (D.tup [D.int (a), D.int (b)]), V.d (D.tup [D.int (c), D.int (e)]), V.d (D.bool (fb))] σ = some (V.d (sD (metS (a, b) (c, e))), σ) :=
  path (ds := [D.str (Str.ofString "="), D.tup [D.int (a), D.int (b)], D.tup [D.int (c), D.int (e)], D.bool (fb)]) (i := 33) (x := sD (metS (a, b) (c, e))) (P := (callN B09 H09 (d + 1) (Str.ofString "_law_met") [V.d (D.tup [D.int (a), D.int (b)]), V.d (D.int (c)), V.d (D.int (e))] [] = some (V.d (sD (metS (a, b) (c, e))), [])) ∧ some (sD (metS (a, b) (c, e))) = some (sD (metS (a, b) (c, e)))) [(4, Tell.w (V.d (sD (metS (a, b) (c, e)))) [])] L09_f__law_side (L09_imp _) (by kernel_rfl) ⟨hc1 _, rfl⟩ σ
theorem L09_may_ne_T (d : Nat) (a b c e : Int)  (h1 : cmpV [] .NotEq (V.d (D.tup [D.int (a), D.int (b)])) (V.d (D.tup [D.int (c), D.int (e)])) = some (neP (a, b) (c, e))) (h2 : (neP (a, b) (c, e)) = true) (σ : St) : callN B09 H09 (d + 1 + 1) (Str.ofString "may_hold") [V.d (D.str (Str.ofString "!=")), V.d (D.tup [D.int (a), D.int (b)]), V.d (D.tup [D.int (c), D.int (e)])] σ = some (V.d (D.bool (neP (a, b) (c, e))), σ) :=
  path (ds := [D.str (Str.ofString "!="), D.tup [D.int (a), D.int (b)], D.tup [D.int (c), D.int (e)]]) (i := 7) (x := D.bool (neP (a, b) (c, e))) (P := (cmpV [] .NotEq (V.d (D.tup [D.int (a), D.int (b)])) (V.d (D.tup [D.int (c), D.int (e)])) = some (neP (a, b) (c, e))) ∧ (some (neP (a, b) (c, e)) = some true) ∧ some (D.bool (neP (a, b) (c, e))) = some (D.bool (neP (a, b) (c, e)))) [(6, Tell.b (neP (a, b) (c, e))), (7, Tell.b true)] L09_f_may_hold (L09_imp _) (by kernel_rfl) ⟨h1, congrArg some h2, rfl⟩ σ
theorem L09_may_ne_F (d : Nat) (a b c e : Int)  (h1 : cmpV [] .NotEq (V.d (D.tup [D.int (a), D.int (b)])) (V.d (D.tup [D.int (c), D.int (e)])) = some (neP (a, b) (c, e))) (h2 : (neP (a, b) (c, e)) = false) (σ : St) : callN B09 H09 (d + 1 + 1) (Str.ofString "may_hold") [V.d (D.str (Str.ofString "!=")), V.d (D.tup [D.int (a), D.int (b)]), V.d (D.tup [D.int (c), D.int (e)])] σ = some (V.d (D.bool (!(decide (a = b)))), σ) :=
  path (ds := [D.str (Str.ofString "!="), D.tup [D.int (a), D.int (b)], D.tup [D.int (c), D.int (e)]]) (i := 7) (x := D.bool (!(decide (a = b)))) (P := (cmpV [] .NotEq (V.d (D.tup [D.int (a), D.int (b)])) (V.d (D.tup [D.int (c), D.int (e)])) = some (neP (a, b) (c, e))) ∧ (some (neP (a, b) (c, e)) = some false) ∧ some (D.bool (!(decide (a = b)))) = some (D.bool (!(decide (a = b))))) [(6, Tell.b (neP (a, b) (c, e))), (7, Tell.b false)] L09_f_may_hold (L09_imp _) (by kernel_rfl) ⟨h1, congrArg some h2, rfl⟩ σ
theorem L09_left_ne_0 (d : Nat) (a b c e : Int)  (hc1 : ∀ σ, callN B09 H09 (d + 1) (Str.ofString "without") [V.d (D.tup [D.int (a), D.int (b)]), V.d (D.tup [D.int (c), D.int (e)])] σ = some (V.d (sD (withoutS (a, b) (c, e))), σ)) (σ : St) : callN B09 H09 (d + 1 + 1) (Str.ofString "left_side") [V.d (D.str (Str.ofString "!=")), V.d (D.tup [D.int (a), D.int (b)]), V.d (D.tup [D.int (c), D.int (e)])] σ = some (V.d (sD (withoutS (a, b) (c, e))), σ) :=
  path (ds := [D.str (Str.ofString "!="), D.tup [D.int (a), D.int (b)], D.tup [D.int (c), D.int (e)]]) (i := 9) (x := sD (withoutS (a, b) (c, e))) (P := (callN B09 H09 (d + 1) (Str.ofString "without") [V.d (D.tup [D.int (a), D.int (b)]), V.d (D.tup [D.int (c), D.int (e)])] [] = some (V.d (sD (withoutS (a, b) (c, e))), [])) ∧ some (sD (withoutS (a, b) (c, e))) = some (sD (withoutS (a, b) (c, e)))) [(6, Tell.w (V.d (sD (withoutS (a, b) (c, e)))) [])] L09_f_left_side (L09_imp _) (by kernel_rfl) ⟨hc1 _, rfl⟩ σ
theorem L09_right_ne_0 (d : Nat) (a b c e : Int)  (hc1 : ∀ σ, callN B09 H09 (d + 1) (Str.ofString "without") [V.d (D.tup [D.int (a), D.int (b)]), V.d (D.tup [D.int (c), D.int (e)])] σ = some (V.d (sD (withoutS (a, b) (c, e))), σ)) (σ : St) : callN B09 H09 (d + 1 + 1) (Str.ofString "right_side") [V.d (D.str (Str.ofString "!=")), V.d (D.tup [D.int (a), D.int (b)]), V.d (D.tup [D.int (c), D.int (e)])] σ = some (V.d (sD (withoutS (a, b) (c, e))), σ) :=
  path (ds := [D.str (Str.ofString "!="), D.tup [D.int (a), D.int (b)], D.tup [D.int (c), D.int (e)]]) (i := 10) (x := sD (withoutS (a, b) (c, e))) (P := (callN B09 H09 (d + 1) (Str.ofString "without") [V.d (D.tup [D.int (a), D.int (b)]), V.d (D.tup [D.int (c), D.int (e)])] [] = some (V.d (sD (withoutS (a, b) (c, e))), [])) ∧ some (sD (withoutS (a, b) (c, e))) = some (sD (withoutS (a, b) (c, e)))) [(6, Tell.w (V.d (sD (withoutS (a, b) (c, e)))) [])] L09_f_right_side (L09_imp _) (by kernel_rfl) ⟨hc1 _, rfl⟩ σ
theorem L09_side_nef_T (d : Nat) (a b c e : Int) (fb : Bool)  (h1 : (!(decide (c = e))) = true) (σ : St) : callN B09 H09 (d + 1 + 1) (Str.ofString "_law_side") [V.d (D.str (Str.ofString "!=")), V.d (D.tup [D.int (a), D.int (b)]), V.d (D.tup [D.int (c), D.int (e)]), V.d (D.bool (fb))] σ = some (V.d (D.tup [D.int (a), D.int (b)]), σ) :=
  path (ds := [D.str (Str.ofString "!="), D.tup [D.int (a), D.int (b)], D.tup [D.int (c), D.int (e)], D.bool (fb)]) (i := 33) (x := D.tup [D.int (a), D.int (b)]) (P := (some (!(decide (c = e))) = some true) ∧ (some (!(decide (c = e))) = some true) ∧ some (D.tup [D.int (a), D.int (b)]) = some (D.tup [D.int (a), D.int (b)])) [(7, Tell.b true), (8, Tell.b true)] L09_f__law_side (L09_imp _) (by kernel_rfl) ⟨congrArg some h1, congrArg some h1, rfl⟩ σ
theorem L09_side_nef_FT (d : Nat) (a b c e : Int) (fb : Bool)  (h1 : (!(decide (c = e))) = false) (h2 : cmpV [] .NotIn (V.d (D.int (c))) (V.d (D.tup [D.int (a), D.int (b)])) = some (ninP c (a, b))) (h3 : (ninP c (a, b)) = true) (σ : St) : callN B09 H09 (d + 1 + 1) (Str.ofString "_law_side") [V.d (D.str (Str.ofString "!=")), V.d (D.tup [D.int (a), D.int (b)]), V.d (D.tup [D.int (c), D.int (e)]), V.d (D.bool (fb))] σ = some (V.d (D.tup [D.int (a), D.int (b)]), σ) :=
  path (ds := [D.str (Str.ofString "!="), D.tup [D.int (a), D.int (b)], D.tup [D.int (c), D.int (e)], D.bool (fb)]) (i := 33) (x := D.tup [D.int (a), D.int (b)]) (P := (some (!(decide (c = e))) = some false) ∧ (cmpV [] .NotIn (V.d (D.int (c))) (V.d (D.tup [D.int (a), D.int (b)])) = some (ninP c (a, b))) ∧ (some (ninP c (a, b)) = some true) ∧ some (D.tup [D.int (a), D.int (b)]) = some (D.tup [D.int (a), D.int (b)])) [(7, Tell.b false), (9, Tell.b (ninP c (a, b))), (10, Tell.b true)] L09_f__law_side (L09_imp _) (by kernel_rfl) ⟨congrArg some h1, h2, congrArg some h3, rfl⟩ σ
theorem L09_side_nef_FFT (d : Nat) (a b c e : Int) (fb : Bool)  (h1 : (!(decide (c = e))) = false) (h2 : cmpV [] .NotIn (V.d (D.int (c))) (V.d (D.tup [D.int (a), D.int (b)])) = some (ninP c (a, b))) (h3 : (ninP c (a, b)) = false) (h4 : (!(decide (a = c))) = true) (hc1 : ∀ σ, callN B09 H09 (d + 1) (Str.ofString "_law_met") [V.d (D.tup [D.int (a), D.int (b)]), V.d (D.int (a + (if decide (a = c) then 1 else 0))), V.d (D.int (b - (if !(decide (a = c)) then 1 else 0)))] σ = some (V.d (sD (metS (a, b) (a + (if decide (a = c) then 1 else 0), b - (if !(decide (a = c)) then 1 else 0)))), σ)) (σ : St) : callN B09 H09 (d + 1 + 1) (Str.ofString "_law_side") [V.d (D.str (Str.ofString "!=")), V.d (D.tup [D.int (a), D.int (b)]), V.d (D.tup [D.int (c), D.int (e)]), V.d (D.bool (fb))] σ = some (V.d (sD (metS (a, b) (a + (if decide (a = c) then 1 else 0), b - (if !(decide (a = c)) then 1 else 0)))), σ) :=
  path (ds := [D.str (Str.ofString "!="), D.tup [D.int (a), D.int (b)], D.tup [D.int (c), D.int (e)], D.bool (fb)]) (i := 33) (x := sD (metS (a, b) (a + (if decide (a = c) then 1 else 0), b - (if !(decide (a = c)) then 1 else 0)))) (P := (some (!(decide (c = e))) = some false) ∧ (cmpV [] .NotIn (V.d (D.int (c))) (V.d (D.tup [D.int (a), D.int (b)])) = some (ninP c (a, b))) ∧ (some (ninP c (a, b)) = some false) ∧ (some (!(decide (a = c))) = some true) ∧ (callN B09 H09 (d + 1) (Str.ofString "_law_met") [V.d (D.tup [D.int (a), D.int (b)]), V.d (D.int (a + (if decide (a = c) then 1 else 0))), V.d (D.int (b - (if !(decide (a = c)) then 1 else 0)))] [] = some (V.d (sD (metS (a, b) (a + (if decide (a = c) then 1 else 0), b - (if !(decide (a = c)) then 1 else 0)))), [])) ∧ some (sD (metS (a, b) (a + (if decide (a = c) then 1 else 0), b - (if !(decide (a = c)) then 1 else 0)))) = some (sD (metS (a, b) (a + (if decide (a = c) then 1 else 0), b - (if !(decide (a = c)) then 1 else 0))))) [(7, Tell.b false), (9, Tell.b (ninP c (a, b))), (10, Tell.b false), (21, Tell.b true), (24, Tell.w (V.d (sD (metS (a, b) (a + (if decide (a = c) then 1 else 0), b - (if !(decide (a = c)) then 1 else 0))))) [])] L09_f__law_side (L09_imp _) (by kernel_rfl) ⟨congrArg some h1, h2, congrArg some h3, congrArg some h4, hc1 _, rfl⟩ σ
theorem L09_side_nef_FFF (d : Nat) (a b c e : Int) (fb : Bool)  (h1 : (!(decide (c = e))) = false) (h2 : cmpV [] .NotIn (V.d (D.int (c))) (V.d (D.tup [D.int (a), D.int (b)])) = some (ninP c (a, b))) (h3 : (ninP c (a, b)) = false) (h4 : (!(decide (a = c))) = false) (hc1 : ∀ σ, callN B09 H09 (d + 1) (Str.ofString "_law_met") [V.d (D.tup [D.int (a), D.int (b)]), V.d (D.int (a + (if decide (a = c) then 1 else 0))), V.d (D.int (b - (if decide (b = a) then 1 else 0)))] σ = some (V.d (sD (metS (a, b) (a + (if decide (a = c) then 1 else 0), b - (if decide (b = a) then 1 else 0)))), σ)) (σ : St) : callN B09 H09 (d + 1 + 1) (Str.ofString "_law_side") [V.d (D.str (Str.ofString "!=")), V.d (D.tup [D.int (a), D.int (b)]), V.d (D.tup [D.int (c), D.int (e)]), V.d (D.bool (fb))] σ = some (V.d (sD (metS (a, b) (a + (if decide (a = c) then 1 else 0), b - (if decide (b = a) then 1 else 0)))), σ) :=
  path (ds := [D.str (Str.ofString "!="), D.tup [D.int (a), D.int (b)], D.tup [D.int (c), D.int (e)], D.bool (fb)]) (i := 33) (x := sD (metS (a, b) (a + (if decide (a = c) then 1 else 0), b - (if decide (b = a) then 1 else 0)))) (P := (some (!(decide (c = e))) = some false) ∧ (cmpV [] .NotIn (V.d (D.int (c))) (V.d (D.tup [D.int (a), D.int (b)])) = some (ninP c (a, b))) ∧ (some (ninP c (a, b)) = some false) ∧ (some (!(decide (a = c))) = some false) ∧ (callN B09 H09 (d + 1) (Str.ofString "_law_met") [V.d (D.tup [D.int (a), D.int (b)]), V.d (D.int (a + (if decide (a = c) then 1 else 0))), V.d (D.int (b - (if decide (b = a) then 1 else 0)))] [] = some (V.d (sD (metS (a, b) (a + (if decide (a = c) then 1 else 0), b - (if decide (b = a) then 1 else 0)))), [])) ∧ some (sD (metS (a, b) (a + (if decide (a = c) then 1 else 0), b - (if decide (b = a) then 1 else 0)))) = some (sD (metS (a, b) (a + (if decide (a = c) then 1 else 0), b - (if decide (b = a) then 1 else 0))))) [(7, Tell.b false), (9, Tell.b (ninP c (a, b))), (10, Tell.b false), (21, Tell.b false), (27, Tell.w (V.d (sD (metS (a, b) (a + (if decide (a = c) then 1 else 0), b - (if decide (b = a) then 1 else 0))))) [])] L09_f__law_side (L09_imp _) (by kernel_rfl) ⟨congrArg some h1, h2, congrArg some h3, congrArg some h4, hc1 _, rfl⟩ σ
theorem L09_con_lt_0 (d : Nat) (t1 t2 : D)   (σ : St) : callN B09 H09 (d + 1) (Str.ofString "contrary") [V.d (D.tup [D.str (Str.ofString "<"), t1, t2])] σ = some (V.d (D.tup [D.str (Str.ofString "<="), t2, t1]), σ) :=
  path (ds := [D.tup [D.str (Str.ofString "<"), t1, t2]]) (i := 12) (x := D.tup [D.str (Str.ofString "<="), t2, t1]) (P := some (D.tup [D.str (Str.ofString "<="), t2, t1]) = some (D.tup [D.str (Str.ofString "<="), t2, t1])) [] L09_f_contrary (L09_imp _) (by kernel_rfl) rfl σ
theorem L09_lcon_lt_0 (d : Nat) (t1 t2 : D)   (σ : St) : callN B09 H09 (d + 1) (Str.ofString "_law_contrary") [V.d (D.tup [D.str (Str.ofString "<"), t1, t2])] σ = some (V.d (D.tup [D.str (Str.ofString "<="), t2, t1]), σ) :=
  path (ds := [D.tup [D.str (Str.ofString "<"), t1, t2]]) (i := 35) (x := D.tup [D.str (Str.ofString "<="), t2, t1]) (P := some (D.tup [D.str (Str.ofString "<="), t2, t1]) = some (D.tup [D.str (Str.ofString "<="), t2, t1])) [] L09_f__law_contrary (L09_imp _) (by kernel_rfl) rfl σ
theorem L09_con_le_0 (d : Nat) (t1 t2 : D)   (σ : St) : callN B09 H09 (d + 1) (Str.ofString "contrary") [V.d (D.tup [D.str (Str.ofString "<="), t1, t2])] σ = some (V.d (D.tup [D.str (Str.ofString "<"), t2, t1]), σ) :=
  path (ds := [D.tup [D.str (Str.ofString "<="), t1, t2]]) (i := 12) (x := D.tup [D.str (Str.ofString "<"), t2, t1]) (P := some (D.tup [D.str (Str.ofString "<"), t2, t1]) = some (D.tup [D.str (Str.ofString "<"), t2, t1])) [] L09_f_contrary (L09_imp _) (by kernel_rfl) rfl σ
theorem L09_lcon_le_0 (d : Nat) (t1 t2 : D)   (σ : St) : callN B09 H09 (d + 1) (Str.ofString "_law_contrary") [V.d (D.tup [D.str (Str.ofString "<="), t1, t2])] σ = some (V.d (D.tup [D.str (Str.ofString "<"), t2, t1]), σ) :=
  path (ds := [D.tup [D.str (Str.ofString "<="), t1, t2]]) (i := 35) (x := D.tup [D.str (Str.ofString "<"), t2, t1]) (P := some (D.tup [D.str (Str.ofString "<"), t2, t1]) = some (D.tup [D.str (Str.ofString "<"), t2, t1])) [] L09_f__law_contrary (L09_imp _) (by kernel_rfl) rfl σ
theorem L09_con_eq_0 (d : Nat) (t1 t2 : D)   (σ : St) : callN B09 H09 (d + 1) (Str.ofString "contrary") [V.d (D.tup [D.str (Str.ofString "="), t1, t2])] σ = some (V.d (D.tup [D.str (Str.ofString "!="), t1, t2]), σ) :=
  path (ds := [D.tup [D.str (Str.ofString "="), t1, t2]]) (i := 12) (x := D.tup [D.str (Str.ofString "!="), t1, t2]) (P := some (D.tup [D.str (Str.ofString "!="), t1, t2]) = some (D.tup [D.str (Str.ofString "!="), t1, t2])) [] L09_f_contrary (L09_imp _) (by kernel_rfl) rfl σ
theorem L09_lcon_eq_0 (d : Nat) (t1 t2 : D)   (σ : St) : callN B09 H09 (d + 1) (Str.ofString "_law_contrary") [V.d (D.tup [D.str (Str.ofString "="), t1, t2])] σ = some (V.d (D.tup [D.str (Str.ofString "!="), t1, t2]), σ) :=
  path (ds := [D.tup [D.str (Str.ofString "="), t1, t2]]) (i := 35) (x := D.tup [D.str (Str.ofString "!="), t1, t2]) (P := some (D.tup [D.str (Str.ofString "!="), t1, t2]) = some (D.tup [D.str (Str.ofString "!="), t1, t2])) [] L09_f__law_contrary (L09_imp _) (by kernel_rfl) rfl σ
theorem L09_con_ne_0 (d : Nat) (t1 t2 : D)   (σ : St) : callN B09 H09 (d + 1) (Str.ofString "contrary") [V.d (D.tup [D.str (Str.ofString "!="), t1, t2])] σ = some (V.d (D.tup [D.str (Str.ofString "="), t1, t2]), σ) :=
  path (ds := [D.tup [D.str (Str.ofString "!="), t1, t2]]) (i := 12) (x := D.tup [D.str (Str.ofString "="), t1, t2]) (P := some (D.tup [D.str (Str.ofString "="), t1, t2]) = some (D.tup [D.str (Str.ofString "="), t1, t2])) [] L09_f_contrary (L09_imp _) (by kernel_rfl) rfl σ
theorem L09_lcon_ne_0 (d : Nat) (t1 t2 : D)   (σ : St) : callN B09 H09 (d + 1) (Str.ofString "_law_contrary") [V.d (D.tup [D.str (Str.ofString "!="), t1, t2])] σ = some (V.d (D.tup [D.str (Str.ofString "="), t1, t2]), σ) :=
  path (ds := [D.tup [D.str (Str.ofString "!="), t1, t2]]) (i := 35) (x := D.tup [D.str (Str.ofString "="), t1, t2]) (P := some (D.tup [D.str (Str.ofString "="), t1, t2]) = some (D.tup [D.str (Str.ofString "="), t1, t2])) [] L09_f__law_contrary (L09_imp _) (by kernel_rfl) rfl σ
theorem L09_kept_n1_0 (d : Nat) (gs : Str) (t1 : D) (t2 : D)  (ks : List Key) (ps : List (Int × Int)) (rr : D)  (hc1 : ∀ σ, callN B09 H09 (d + 8) (Str.ofString "reach") [V.d (t1), V.d (D.dict ks (ps.map pD))] σ = some (V.d (D.none), σ)) (hc2 : ∀ σ, callN B09 H09 (d + 8) (Str.ofString "reach") [V.d (t2), V.d (D.dict ks (ps.map pD))] σ = some (V.d (rr), σ)) (σ : St) : callN B09 H09 (d + 8 + 1) (Str.ofString "kept") [V.d (D.tup [D.str (gs), t1, t2]), V.d (D.dict ks (ps.map pD))] σ = some (V.d (D.none), σ) :=
  path (ds := [D.tup [D.str (gs), t1, t2], D.dict ks (ps.map pD)]) (i := 11) (x := D.none) (P := (callN B09 H09 (d + 8) (Str.ofString "reach") [V.d (t1), V.d (D.dict ks (ps.map pD))] [] = some (V.d (D.none), [])) ∧ (callN B09 H09 (d + 8) (Str.ofString "reach") [V.d (t2), V.d (D.dict ks (ps.map pD))] [] = some (V.d (rr), [])) ∧ some (D.none) = some (D.none)) [(2, Tell.w (V.d (D.none)) []), (4, Tell.w (V.d (rr)) [])] L09_f_kept (L09_imp _) (by kernel_rfl) ⟨hc1 _, hc2 _, rfl⟩ σ
theorem L09_kept_n2_0 (d : Nat) (gs : Str) (t1 : D) (t2 : D)  (ks : List Key) (ps : List (Int × Int)) (a b : Int)  (hc1 : ∀ σ, callN B09 H09 (d + 8) (Str.ofString "reach") [V.d (t1), V.d (D.dict ks (ps.map pD))] σ = some (V.d (D.tup [D.int (a), D.int (b)]), σ)) (hc2 : ∀ σ, callN B09 H09 (d + 8) (Str.ofString "reach") [V.d (t2), V.d (D.dict ks (ps.map pD))] σ = some (V.d (D.none), σ)) (σ : St) : callN B09 H09 (d + 8 + 1) (Str.ofString "kept") [V.d (D.tup [D.str (gs), t1, t2]), V.d (D.dict ks (ps.map pD))] σ = some (V.d (D.none), σ) :=
  path (ds := [D.tup [D.str (gs), t1, t2], D.dict ks (ps.map pD)]) (i := 11) (x := D.none) (P := (callN B09 H09 (d + 8) (Str.ofString "reach") [V.d (t1), V.d (D.dict ks (ps.map pD))] [] = some (V.d (D.tup [D.int (a), D.int (b)]), [])) ∧ (callN B09 H09 (d + 8) (Str.ofString "reach") [V.d (t2), V.d (D.dict ks (ps.map pD))] [] = some (V.d (D.none), [])) ∧ some (D.none) = some (D.none)) [(2, Tell.w (V.d (D.tup [D.int (a), D.int (b)])) []), (4, Tell.w (V.d (D.none)) [])] L09_f_kept (L09_imp _) (by kernel_rfl) ⟨hc1 _, hc2 _, rfl⟩ σ
theorem L09_kept_n3_0 (d : Nat) (gs : Str) (t1 : D) (t2 : D)  (ks : List Key) (ps : List (Int × Int)) (a b c e : Int)  (hc1 : ∀ σ, callN B09 H09 (d + 8) (Str.ofString "reach") [V.d (t1), V.d (D.dict ks (ps.map pD))] σ = some (V.d (D.tup [D.int (a), D.int (b)]), σ)) (hc2 : ∀ σ, callN B09 H09 (d + 8) (Str.ofString "reach") [V.d (t2), V.d (D.dict ks (ps.map pD))] σ = some (V.d (D.tup [D.int (c), D.int (e)]), σ)) (hc3 : ∀ σ, callN B09 H09 (d + 8) (Str.ofString "may_hold") [V.d (D.str (gs)), V.d (D.tup [D.int (a), D.int (b)]), V.d (D.tup [D.int (c), D.int (e)])] σ = some (V.d (D.bool (false)), σ)) (σ : St) : callN B09 H09 (d + 8 + 1) (Str.ofString "kept") [V.d (D.tup [D.str (gs), t1, t2]), V.d (D.dict ks (ps.map pD))] σ = some (V.d (D.none), σ) :=
  path (ds := [D.tup [D.str (gs), t1, t2], D.dict ks (ps.map pD)]) (i := 11) (x := D.none) (P := (callN B09 H09 (d + 8) (Str.ofString "reach") [V.d (t1), V.d (D.dict ks (ps.map pD))] [] = some (V.d (D.tup [D.int (a), D.int (b)]), [])) ∧ (callN B09 H09 (d + 8) (Str.ofString "reach") [V.d (t2), V.d (D.dict ks (ps.map pD))] [] = some (V.d (D.tup [D.int (c), D.int (e)]), [])) ∧ (callN B09 H09 (d + 8) (Str.ofString "may_hold") [V.d (D.str (gs)), V.d (D.tup [D.int (a), D.int (b)]), V.d (D.tup [D.int (c), D.int (e)])] [] = some (V.d (D.bool (false)), [])) ∧ some (D.none) = some (D.none)) [(2, Tell.w (V.d (D.tup [D.int (a), D.int (b)])) []), (4, Tell.w (V.d (D.tup [D.int (c), D.int (e)])) []), (9, Tell.w (V.d (D.bool (false))) [])] L09_f_kept (L09_imp _) (by kernel_rfl) ⟨hc1 _, hc2 _, hc3 _, rfl⟩ σ
theorem L09_kept_oo_0 (d : Nat) (gs : Str) (t1 : D) (t2 : D)  (ks : List Key) (ps : List (Int × Int)) (a b c e : Int)  (hc1 : ∀ σ, callN B09 H09 (d + 8) (Str.ofString "reach") [V.d (t1), V.d (D.dict ks (ps.map pD))] σ = some (V.d (D.tup [D.int (a), D.int (b)]), σ)) (hc2 : ∀ σ, callN B09 H09 (d + 8) (Str.ofString "reach") [V.d (t2), V.d (D.dict ks (ps.map pD))] σ = some (V.d (D.tup [D.int (c), D.int (e)]), σ)) (hc3 : ∀ σ, callN B09 H09 (d + 8) (Str.ofString "may_hold") [V.d (D.str (gs)), V.d (D.tup [D.int (a), D.int (b)]), V.d (D.tup [D.int (c), D.int (e)])] σ = some (V.d (D.bool (true)), σ)) (h1 : bfV [] .dict [V.d (D.dict ks (ps.map pD))] = some (V.d (D.dict ks (ps.map pD)))) (h2 : isiV [(false, MO.dict ks ((ps.map pD).map V.d))] (Str.ofString "str") (V.d (t1)) = some false) (h3 : isiV [(false, MO.dict ks ((ps.map pD).map V.d))] (Str.ofString "str") (V.d (t2)) = some false) (h4 : handD true [(false, MO.dict ks ((ps.map pD).map V.d))] (V.obj 0) = some (D.dict ks (ps.map pD))) (σ : St) : callN B09 H09 (d + 8 + 1) (Str.ofString "kept") [V.d (D.tup [D.str (gs), t1, t2]), V.d (D.dict ks (ps.map pD))] σ = some (V.d (D.dict ks (ps.map pD)), σ) :=
  path (ds := [D.tup [D.str (gs), t1, t2], D.dict ks (ps.map pD)]) (i := 11) (x := D.dict ks (ps.map pD)) (P := (callN B09 H09 (d + 8) (Str.ofString "reach") [V.d (t1), V.d (D.dict ks (ps.map pD))] [] = some (V.d (D.tup [D.int (a), D.int (b)]), [])) ∧ (callN B09 H09 (d + 8) (Str.ofString "reach") [V.d (t2), V.d (D.dict ks (ps.map pD))] [] = some (V.d (D.tup [D.int (c), D.int (e)]), [])) ∧ (callN B09 H09 (d + 8) (Str.ofString "may_hold") [V.d (D.str (gs)), V.d (D.tup [D.int (a), D.int (b)]), V.d (D.tup [D.int (c), D.int (e)])] [] = some (V.d (D.bool (true)), [])) ∧ (bfV [] .dict [V.d (D.dict ks (ps.map pD))] = some (V.d (D.dict ks (ps.map pD)))) ∧ (isiV [(false, MO.dict ks ((ps.map pD).map V.d))] (Str.ofString "str") (V.d (t1)) = some false) ∧ (isiV [(false, MO.dict ks ((ps.map pD).map V.d))] (Str.ofString "str") (V.d (t2)) = some false) ∧ handD true [(false, MO.dict ks ((ps.map pD).map V.d))] (V.obj 0) = some (D.dict ks (ps.map pD))) [(2, Tell.w (V.d (D.tup [D.int (a), D.int (b)])) []), (4, Tell.w (V.d (D.tup [D.int (c), D.int (e)])) []), (9, Tell.w (V.d (D.bool (true))) []), (12, Tell.v (V.d (D.dict ks (ps.map pD)))), (14, Tell.b false), (17, Tell.b false)] L09_f_kept (L09_imp _) (by kernel_rfl) ⟨hc1 _, hc2 _, hc3 _, h1, h2, h3, h4⟩ σ
theorem L09_kept_xN_0 (d : Nat) (gs : Str) (t2 : D) (x : Str) (ks : List Key) (ps : List (Int × Int)) (a b c e : Int) (s t : Int) (ks1 : List Key) (vs1 : List V)  (hc1 : ∀ σ, callN B09 H09 (d + 8) (Str.ofString "reach") [V.d (D.str (x)), V.d (D.dict ks (ps.map pD))] σ = some (V.d (D.tup [D.int (a), D.int (b)]), σ)) (hc2 : ∀ σ, callN B09 H09 (d + 8) (Str.ofString "reach") [V.d (t2), V.d (D.dict ks (ps.map pD))] σ = some (V.d (D.tup [D.int (c), D.int (e)]), σ)) (hc3 : ∀ σ, callN B09 H09 (d + 8) (Str.ofString "may_hold") [V.d (D.str (gs)), V.d (D.tup [D.int (a), D.int (b)]), V.d (D.tup [D.int (c), D.int (e)])] σ = some (V.d (D.bool (true)), σ)) (h1 : bfV [] .dict [V.d (D.dict ks (ps.map pD))] = some (V.d (D.dict ks (ps.map pD)))) (h2 : getItemV [(false, MO.dict ks ((ps.map pD).map V.d))] (V.obj 0) (V.d (D.str (x))) = some (V.d (D.tup [D.int (s), D.int (t)]))) (hc4 : ∀ σ, callN B09 H09 (d + 8) (Str.ofString "left_side") [V.d (D.str (gs)), V.d (D.tup [D.int (s), D.int (t)]), V.d (D.tup [D.int (c), D.int (e)])] σ = some (V.d (D.none), σ)) (h3 : setItemV [(false, MO.dict ks ((ps.map pD).map V.d))] (V.obj 0) (V.d (D.str (x))) (V.d (D.none)) = some [(false, MO.dict ks1 vs1)]) (h4 : getItemV [(false, MO.dict ks1 vs1)] (V.obj 0) (V.d (D.str (x))) = some (V.d (D.none))) (σ : St) : callN B09 H09 (d + 8 + 1) (Str.ofString "kept") [V.d (D.tup [D.str (gs), D.str (x), t2]), V.d (D.dict ks (ps.map pD))] σ = some (V.d (D.none), σ) :=
  path (ds := [D.tup [D.str (gs), D.str (x), t2], D.dict ks (ps.map pD)]) (i := 11) (x := D.none) (P := (callN B09 H09 (d + 8) (Str.ofString "reach") [V.d (D.str (x)), V.d (D.dict ks (ps.map pD))] [] = some (V.d (D.tup [D.int (a), D.int (b)]), [])) ∧ (callN B09 H09 (d + 8) (Str.ofString "reach") [V.d (t2), V.d (D.dict ks (ps.map pD))] [] = some (V.d (D.tup [D.int (c), D.int (e)]), [])) ∧ (callN B09 H09 (d + 8) (Str.ofString "may_hold") [V.d (D.str (gs)), V.d (D.tup [D.int (a), D.int (b)]), V.d (D.tup [D.int (c), D.int (e)])] [] = some (V.d (D.bool (true)), [])) ∧ (bfV [] .dict [V.d (D.dict ks (ps.map pD))] = some (V.d (D.dict ks (ps.map pD)))) ∧ (getItemV [(false, MO.dict ks ((ps.map pD).map V.d))] (V.obj 0) (V.d (D.str (x))) = some (V.d (D.tup [D.int (s), D.int (t)]))) ∧ (callN B09 H09 (d + 8) (Str.ofString "left_side") [V.d (D.str (gs)), V.d (D.tup [D.int (s), D.int (t)]), V.d (D.tup [D.int (c), D.int (e)])] [(false, MO.dict ks ((ps.map pD).map V.d))] = some (V.d (D.none), [(false, MO.dict ks ((ps.map pD).map V.d))])) ∧ (setItemV [(false, MO.dict ks ((ps.map pD).map V.d))] (V.obj 0) (V.d (D.str (x))) (V.d (D.none)) = some [(false, MO.dict ks1 vs1)]) ∧ (getItemV [(false, MO.dict ks1 vs1)] (V.obj 0) (V.d (D.str (x))) = some (V.d (D.none))) ∧ some (D.none) = some (D.none)) [(2, Tell.w (V.d (D.tup [D.int (a), D.int (b)])) []), (4, Tell.w (V.d (D.tup [D.int (c), D.int (e)])) []), (9, Tell.w (V.d (D.bool (true))) []), (12, Tell.v (V.d (D.dict ks (ps.map pD)))), (16, Tell.v (V.d (D.tup [D.int (s), D.int (t)]))), (17, Tell.w (V.d (D.none)) [(false, MO.dict ks ((ps.map pD).map V.d))]), (18, Tell.s [(false, MO.dict ks1 vs1)]), (19, Tell.v (V.d (D.none)))] L09_f_kept (L09_imp _) (by kernel_rfl) ⟨hc1 _, hc2 _, hc3 _, h1, h2, hc4 _, h3, h4, rfl⟩ σ
theorem L09_kept_xoP_0 (d : Nat) (gs : Str) (t2 : D) (x : Str) (ks : List Key) (ps : List (Int × Int)) (a b c e : Int) (s t : Int) (q1 : Int × Int) (ps1 : List (Int × Int))  (hc1 : ∀ σ, callN B09 H09 (d + 8) (Str.ofString "reach") [V.d (D.str (x)), V.d (D.dict ks (ps.map pD))] σ = some (V.d (D.tup [D.int (a), D.int (b)]), σ)) (hc2 : ∀ σ, callN B09 H09 (d + 8) (Str.ofString "reach") [V.d (t2), V.d (D.dict ks (ps.map pD))] σ = some (V.d (D.tup [D.int (c), D.int (e)]), σ)) (hc3 : ∀ σ, callN B09 H09 (d + 8) (Str.ofString "may_hold") [V.d (D.str (gs)), V.d (D.tup [D.int (a), D.int (b)]), V.d (D.tup [D.int (c), D.int (e)])] σ = some (V.d (D.bool (true)), σ)) (h1 : bfV [] .dict [V.d (D.dict ks (ps.map pD))] = some (V.d (D.dict ks (ps.map pD)))) (h2 : getItemV [(false, MO.dict ks ((ps.map pD).map V.d))] (V.obj 0) (V.d (D.str (x))) = some (V.d (D.tup [D.int (s), D.int (t)]))) (hc4 : ∀ σ, callN B09 H09 (d + 8) (Str.ofString "left_side") [V.d (D.str (gs)), V.d (D.tup [D.int (s), D.int (t)]), V.d (D.tup [D.int (c), D.int (e)])] σ = some (V.d (pD q1), σ)) (h3 : setItemV [(false, MO.dict ks ((ps.map pD).map V.d))] (V.obj 0) (V.d (D.str (x))) (V.d (pD q1)) = some [(false, MO.dict ks ((ps1.map pD).map V.d))]) (h4 : getItemV [(false, MO.dict ks ((ps1.map pD).map V.d))] (V.obj 0) (V.d (D.str (x))) = some (V.d (pD q1))) (h5 : isiV [(false, MO.dict ks ((ps1.map pD).map V.d))] (Str.ofString "str") (V.d (t2)) = some false) (h6 : handD true [(false, MO.dict ks ((ps1.map pD).map V.d))] (V.obj 0) = some (D.dict ks (ps1.map pD))) (σ : St) : callN B09 H09 (d + 8 + 1) (Str.ofString "kept") [V.d (D.tup [D.str (gs), D.str (x), t2]), V.d (D.dict ks (ps.map pD))] σ = some (V.d (D.dict ks (ps1.map pD)), σ) :=
  path (ds := [D.tup [D.str (gs), D.str (x), t2], D.dict ks (ps.map pD)]) (i := 11) (x := D.dict ks (ps1.map pD)) (P := (callN B09 H09 (d + 8) (Str.ofString "reach") [V.d (D.str (x)), V.d (D.dict ks (ps.map pD))] [] = some (V.d (D.tup [D.int (a), D.int (b)]), [])) ∧ (callN B09 H09 (d + 8) (Str.ofString "reach") [V.d (t2), V.d (D.dict ks (ps.map pD))] [] = some (V.d (D.tup [D.int (c), D.int (e)]), [])) ∧ (callN B09 H09 (d + 8) (Str.ofString "may_hold") [V.d (D.str (gs)), V.d (D.tup [D.int (a), D.int (b)]), V.d (D.tup [D.int (c), D.int (e)])] [] = some (V.d (D.bool (true)), [])) ∧ (bfV [] .dict [V.d (D.dict ks (ps.map pD))] = some (V.d (D.dict ks (ps.map pD)))) ∧ (getItemV [(false, MO.dict ks ((ps.map pD).map V.d))] (V.obj 0) (V.d (D.str (x))) = some (V.d (D.tup [D.int (s), D.int (t)]))) ∧ (callN B09 H09 (d + 8) (Str.ofString "left_side") [V.d (D.str (gs)), V.d (D.tup [D.int (s), D.int (t)]), V.d (D.tup [D.int (c), D.int (e)])] [(false, MO.dict ks ((ps.map pD).map V.d))] = some (V.d (pD q1), [(false, MO.dict ks ((ps.map pD).map V.d))])) ∧ (setItemV [(false, MO.dict ks ((ps.map pD).map V.d))] (V.obj 0) (V.d (D.str (x))) (V.d (pD q1)) = some [(false, MO.dict ks ((ps1.map pD).map V.d))]) ∧ (getItemV [(false, MO.dict ks ((ps1.map pD).map V.d))] (V.obj 0) (V.d (D.str (x))) = some (V.d (pD q1))) ∧ (isiV [(false, MO.dict ks ((ps1.map pD).map V.d))] (Str.ofString "str") (V.d (t2)) = some false) ∧ handD true [(false, MO.dict ks ((ps1.map pD).map V.d))] (V.obj 0) = some (D.dict ks (ps1.map pD))) [(2, Tell.w (V.d (D.tup [D.int (a), D.int (b)])) []), (4, Tell.w (V.d (D.tup [D.int (c), D.int (e)])) []), (9, Tell.w (V.d (D.bool (true))) []), (12, Tell.v (V.d (D.dict ks (ps.map pD)))), (16, Tell.v (V.d (D.tup [D.int (s), D.int (t)]))), (17, Tell.w (V.d (pD q1)) [(false, MO.dict ks ((ps.map pD).map V.d))]), (18, Tell.s [(false, MO.dict ks ((ps1.map pD).map V.d))]), (19, Tell.v (V.d (pD q1))), (23, Tell.b false)] L09_f_kept (L09_imp _) (by kernel_rfl) ⟨hc1 _, hc2 _, hc3 _, h1, h2, hc4 _, h3, h4, h5, h6⟩ σ
theorem L09_kept_oyN_0 (d : Nat) (gs : Str) (t1 : D) (y : Str) (ks : List Key) (ps : List (Int × Int)) (a b c e : Int) (s t : Int) (ks1 : List Key) (vs1 : List V)  (hc1 : ∀ σ, callN B09 H09 (d + 8) (Str.ofString "reach") [V.d (t1), V.d (D.dict ks (ps.map pD))] σ = some (V.d (D.tup [D.int (a), D.int (b)]), σ)) (hc2 : ∀ σ, callN B09 H09 (d + 8) (Str.ofString "reach") [V.d (D.str (y)), V.d (D.dict ks (ps.map pD))] σ = some (V.d (D.tup [D.int (c), D.int (e)]), σ)) (hc3 : ∀ σ, callN B09 H09 (d + 8) (Str.ofString "may_hold") [V.d (D.str (gs)), V.d (D.tup [D.int (a), D.int (b)]), V.d (D.tup [D.int (c), D.int (e)])] σ = some (V.d (D.bool (true)), σ)) (h1 : bfV [] .dict [V.d (D.dict ks (ps.map pD))] = some (V.d (D.dict ks (ps.map pD)))) (h2 : isiV [(false, MO.dict ks ((ps.map pD).map V.d))] (Str.ofString "str") (V.d (t1)) = some false) (h3 : getItemV [(false, MO.dict ks ((ps.map pD).map V.d))] (V.obj 0) (V.d (D.str (y))) = some (V.d (D.tup [D.int (s), D.int (t)]))) (hc4 : ∀ σ, callN B09 H09 (d + 8) (Str.ofString "right_side") [V.d (D.str (gs)), V.d (D.tup [D.int (s), D.int (t)]), V.d (D.tup [D.int (a), D.int (b)])] σ = some (V.d (D.none), σ)) (h4 : setItemV [(false, MO.dict ks ((ps.map pD).map V.d))] (V.obj 0) (V.d (D.str (y))) (V.d (D.none)) = some [(false, MO.dict ks1 vs1)]) (h5 : getItemV [(false, MO.dict ks1 vs1)] (V.obj 0) (V.d (D.str (y))) = some (V.d (D.none))) (σ : St) : callN B09 H09 (d + 8 + 1) (Str.ofString "kept") [V.d (D.tup [D.str (gs), t1, D.str (y)]), V.d (D.dict ks (ps.map pD))] σ = some (V.d (D.none), σ) :=
  path (ds := [D.tup [D.str (gs), t1, D.str (y)], D.dict ks (ps.map pD)]) (i := 11) (x := D.none) (P := (callN B09 H09 (d + 8) (Str.ofString "reach") [V.d (t1), V.d (D.dict ks (ps.map pD))] [] = some (V.d (D.tup [D.int (a), D.int (b)]), [])) ∧ (callN B09 H09 (d + 8) (Str.ofString "reach") [V.d (D.str (y)), V.d (D.dict ks (ps.map pD))] [] = some (V.d (D.tup [D.int (c), D.int (e)]), [])) ∧ (callN B09 H09 (d + 8) (Str.ofString "may_hold") [V.d (D.str (gs)), V.d (D.tup [D.int (a), D.int (b)]), V.d (D.tup [D.int (c), D.int (e)])] [] = some (V.d (D.bool (true)), [])) ∧ (bfV [] .dict [V.d (D.dict ks (ps.map pD))] = some (V.d (D.dict ks (ps.map pD)))) ∧ (isiV [(false, MO.dict ks ((ps.map pD).map V.d))] (Str.ofString "str") (V.d (t1)) = some false) ∧ (getItemV [(false, MO.dict ks ((ps.map pD).map V.d))] (V.obj 0) (V.d (D.str (y))) = some (V.d (D.tup [D.int (s), D.int (t)]))) ∧ (callN B09 H09 (d + 8) (Str.ofString "right_side") [V.d (D.str (gs)), V.d (D.tup [D.int (s), D.int (t)]), V.d (D.tup [D.int (a), D.int (b)])] [(false, MO.dict ks ((ps.map pD).map V.d))] = some (V.d (D.none), [(false, MO.dict ks ((ps.map pD).map V.d))])) ∧ (setItemV [(false, MO.dict ks ((ps.map pD).map V.d))] (V.obj 0) (V.d (D.str (y))) (V.d (D.none)) = some [(false, MO.dict ks1 vs1)]) ∧ (getItemV [(false, MO.dict ks1 vs1)] (V.obj 0) (V.d (D.str (y))) = some (V.d (D.none))) ∧ some (D.none) = some (D.none)) [(2, Tell.w (V.d (D.tup [D.int (a), D.int (b)])) []), (4, Tell.w (V.d (D.tup [D.int (c), D.int (e)])) []), (9, Tell.w (V.d (D.bool (true))) []), (12, Tell.v (V.d (D.dict ks (ps.map pD)))), (14, Tell.b false), (19, Tell.v (V.d (D.tup [D.int (s), D.int (t)]))), (20, Tell.w (V.d (D.none)) [(false, MO.dict ks ((ps.map pD).map V.d))]), (21, Tell.s [(false, MO.dict ks1 vs1)]), (22, Tell.v (V.d (D.none)))] L09_f_kept (L09_imp _) (by kernel_rfl) ⟨hc1 _, hc2 _, hc3 _, h1, h2, h3, hc4 _, h4, h5, rfl⟩ σ
theorem L09_kept_oyP_0 (d : Nat) (gs : Str) (t1 : D) (y : Str) (ks : List Key) (ps : List (Int × Int)) (a b c e : Int) (s t : Int) (q1 : Int × Int) (ps1 : List (Int × Int))  (hc1 : ∀ σ, callN B09 H09 (d + 8) (Str.ofString "reach") [V.d (t1), V.d (D.dict ks (ps.map pD))] σ = some (V.d (D.tup [D.int (a), D.int (b)]), σ)) (hc2 : ∀ σ, callN B09 H09 (d + 8) (Str.ofString "reach") [V.d (D.str (y)), V.d (D.dict ks (ps.map pD))] σ = some (V.d (D.tup [D.int (c), D.int (e)]), σ)) (hc3 : ∀ σ, callN B09 H09 (d + 8) (Str.ofString "may_hold") [V.d (D.str (gs)), V.d (D.tup [D.int (a), D.int (b)]), V.d (D.tup [D.int (c), D.int (e)])] σ = some (V.d (D.bool (true)), σ)) (h1 : bfV [] .dict [V.d (D.dict ks (ps.map pD))] = some (V.d (D.dict ks (ps.map pD)))) (h2 : isiV [(false, MO.dict ks ((ps.map pD).map V.d))] (Str.ofString "str") (V.d (t1)) = some false) (h3 : getItemV [(false, MO.dict ks ((ps.map pD).map V.d))] (V.obj 0) (V.d (D.str (y))) = some (V.d (D.tup [D.int (s), D.int (t)]))) (hc4 : ∀ σ, callN B09 H09 (d + 8) (Str.ofString "right_side") [V.d (D.str (gs)), V.d (D.tup [D.int (s), D.int (t)]), V.d (D.tup [D.int (a), D.int (b)])] σ = some (V.d (pD q1), σ)) (h4 : setItemV [(false, MO.dict ks ((ps.map pD).map V.d))] (V.obj 0) (V.d (D.str (y))) (V.d (pD q1)) = some [(false, MO.dict ks ((ps1.map pD).map V.d))]) (h5 : getItemV [(false, MO.dict ks ((ps1.map pD).map V.d))] (V.obj 0) (V.d (D.str (y))) = some (V.d (pD q1))) (h6 : handD true [(false, MO.dict ks ((ps1.map pD).map V.d))] (V.obj 0) = some (D.dict ks (ps1.map pD))) (σ : St) : callN B09 H09 (d + 8 + 1) (Str.ofString "kept") [V.d (D.tup [D.str (gs), t1, D.str (y)]), V.d (D.dict ks (ps.map pD))] σ = some (V.d (D.dict ks (ps1.map pD)), σ) :=
  path (ds := [D.tup [D.str (gs), t1, D.str (y)], D.dict ks (ps.map pD)]) (i := 11) (x := D.dict ks (ps1.map pD)) (P := (callN B09 H09 (d + 8) (Str.ofString "reach") [V.d (t1), V.d (D.dict ks (ps.map pD))] [] = some (V.d (D.tup [D.int (a), D.int (b)]), [])) ∧ (callN B09 H09 (d + 8) (Str.ofString "reach") [V.d (D.str (y)), V.d (D.dict ks (ps.map pD))] [] = some (V.d (D.tup [D.int (c), D.int (e)]), [])) ∧ (callN B09 H09 (d + 8) (Str.ofString "may_hold") [V.d (D.str (gs)), V.d (D.tup [D.int (a), D.int (b)]), V.d (D.tup [D.int (c), D.int (e)])] [] = some (V.d (D.bool (true)), [])) ∧ (bfV [] .dict [V.d (D.dict ks (ps.map pD))] = some (V.d (D.dict ks (ps.map pD)))) ∧ (isiV [(false, MO.dict ks ((ps.map pD).map V.d))] (Str.ofString "str") (V.d (t1)) = some false) ∧ (getItemV [(false, MO.dict ks ((ps.map pD).map V.d))] (V.obj 0) (V.d (D.str (y))) = some (V.d (D.tup [D.int (s), D.int (t)]))) ∧ (callN B09 H09 (d + 8) (Str.ofString "right_side") [V.d (D.str (gs)), V.d (D.tup [D.int (s), D.int (t)]), V.d (D.tup [D.int (a), D.int (b)])] [(false, MO.dict ks ((ps.map pD).map V.d))] = some (V.d (pD q1), [(false, MO.dict ks ((ps.map pD).map V.d))])) ∧ (setItemV [(false, MO.dict ks ((ps.map pD).map V.d))] (V.obj 0) (V.d (D.str (y))) (V.d (pD q1)) = some [(false, MO.dict ks ((ps1.map pD).map V.d))]) ∧ (getItemV [(false, MO.dict ks ((ps1.map pD).map V.d))] (V.obj 0) (V.d (D.str (y))) = some (V.d (pD q1))) ∧ handD true [(false, MO.dict ks ((ps1.map pD).map V.d))] (V.obj 0) = some (D.dict ks (ps1.map pD))) [(2, Tell.w (V.d (D.tup [D.int (a), D.int (b)])) []), (4, Tell.w (V.d (D.tup [D.int (c), D.int (e)])) []), (9, Tell.w (V.d (D.bool (true))) []), (12, Tell.v (V.d (D.dict ks (ps.map pD)))), (14, Tell.b false), (19, Tell.v (V.d (D.tup [D.int (s), D.int (t)]))), (20, Tell.w (V.d (pD q1)) [(false, MO.dict ks ((ps.map pD).map V.d))]), (21, Tell.s [(false, MO.dict ks ((ps1.map pD).map V.d))]), (22, Tell.v (V.d (pD q1)))] L09_f_kept (L09_imp _) (by kernel_rfl) ⟨hc1 _, hc2 _, hc3 _, h1, h2, h3, hc4 _, h4, h5, h6⟩ σ
theorem L09_kept_xyN_0 (d : Nat) (gs : Str)  (x : Str) (y : Str) (ks : List Key) (ps : List (Int × Int)) (a b c e : Int) (s t : Int) (q1 : Int × Int) (ps1 : List (Int × Int)) (ks1 : List Key) (vs1 : List V) (u v : Int)  (hc1 : ∀ σ, callN B09 H09 (d + 8) (Str.ofString "reach") [V.d (D.str (x)), V.d (D.dict ks (ps.map pD))] σ = some (V.d (D.tup [D.int (a), D.int (b)]), σ)) (hc2 : ∀ σ, callN B09 H09 (d + 8) (Str.ofString "reach") [V.d (D.str (y)), V.d (D.dict ks (ps.map pD))] σ = some (V.d (D.tup [D.int (c), D.int (e)]), σ)) (hc3 : ∀ σ, callN B09 H09 (d + 8) (Str.ofString "may_hold") [V.d (D.str (gs)), V.d (D.tup [D.int (a), D.int (b)]), V.d (D.tup [D.int (c), D.int (e)])] σ = some (V.d (D.bool (true)), σ)) (h1 : bfV [] .dict [V.d (D.dict ks (ps.map pD))] = some (V.d (D.dict ks (ps.map pD)))) (h2 : getItemV [(false, MO.dict ks ((ps.map pD).map V.d))] (V.obj 0) (V.d (D.str (x))) = some (V.d (D.tup [D.int (s), D.int (t)]))) (hc4 : ∀ σ, callN B09 H09 (d + 8) (Str.ofString "left_side") [V.d (D.str (gs)), V.d (D.tup [D.int (s), D.int (t)]), V.d (D.tup [D.int (c), D.int (e)])] σ = some (V.d (pD q1), σ)) (h3 : setItemV [(false, MO.dict ks ((ps.map pD).map V.d))] (V.obj 0) (V.d (D.str (x))) (V.d (pD q1)) = some [(false, MO.dict ks ((ps1.map pD).map V.d))]) (h4 : getItemV [(false, MO.dict ks ((ps1.map pD).map V.d))] (V.obj 0) (V.d (D.str (x))) = some (V.d (pD q1))) (h5 : getItemV [(false, MO.dict ks ((ps1.map pD).map V.d))] (V.obj 0) (V.d (D.str (y))) = some (V.d (D.tup [D.int (u), D.int (v)]))) (hc5 : ∀ σ, callN B09 H09 (d + 8) (Str.ofString "right_side") [V.d (D.str (gs)), V.d (D.tup [D.int (u), D.int (v)]), V.d (D.tup [D.int (a), D.int (b)])] σ = some (V.d (D.none), σ)) (h6 : setItemV [(false, MO.dict ks ((ps1.map pD).map V.d))] (V.obj 0) (V.d (D.str (y))) (V.d (D.none)) = some [(false, MO.dict ks1 vs1)]) (h7 : getItemV [(false, MO.dict ks1 vs1)] (V.obj 0) (V.d (D.str (y))) = some (V.d (D.none))) (σ : St) : callN B09 H09 (d + 8 + 1) (Str.ofString "kept") [V.d (D.tup [D.str (gs), D.str (x), D.str (y)]), V.d (D.dict ks (ps.map pD))] σ = some (V.d (D.none), σ) :=
  path (ds := [D.tup [D.str (gs), D.str (x), D.str (y)], D.dict ks (ps.map pD)]) (i := 11) (x := D.none) (P := (callN B09 H09 (d + 8) (Str.ofString "reach") [V.d (D.str (x)), V.d (D.dict ks (ps.map pD))] [] = some (V.d (D.tup [D.int (a), D.int (b)]), [])) ∧ (callN B09 H09 (d + 8) (Str.ofString "reach") [V.d (D.str (y)), V.d (D.dict ks (ps.map pD))] [] = some (V.d (D.tup [D.int (c), D.int (e)]), [])) ∧ (callN B09 H09 (d + 8) (Str.ofString "may_hold") [V.d (D.str (gs)), V.d (D.tup [D.int (a), D.int (b)]), V.d (D.tup [D.int (c), D.int (e)])] [] = some (V.d (D.bool (true)), [])) ∧ (bfV [] .dict [V.d (D.dict ks (ps.map pD))] = some (V.d (D.dict ks (ps.map pD)))) ∧ (getItemV [(false, MO.dict ks ((ps.map pD).map V.d))] (V.obj 0) (V.d (D.str (x))) = some (V.d (D.tup [D.int (s), D.int (t)]))) ∧ (callN B09 H09 (d + 8) (Str.ofString "left_side") [V.d (D.str (gs)), V.d (D.tup [D.int (s), D.int (t)]), V.d (D.tup [D.int (c), D.int (e)])] [(false, MO.dict ks ((ps.map pD).map V.d))] = some (V.d (pD q1), [(false, MO.dict ks ((ps.map pD).map V.d))])) ∧ (setItemV [(false, MO.dict ks ((ps.map pD).map V.d))] (V.obj 0) (V.d (D.str (x))) (V.d (pD q1)) = some [(false, MO.dict ks ((ps1.map pD).map V.d))]) ∧ (getItemV [(false, MO.dict ks ((ps1.map pD).map V.d))] (V.obj 0) (V.d (D.str (x))) = some (V.d (pD q1))) ∧ (getItemV [(false, MO.dict ks ((ps1.map pD).map V.d))] (V.obj 0) (V.d (D.str (y))) = some (V.d (D.tup [D.int (u), D.int (v)]))) ∧ (callN B09 H09 (d + 8) (Str.ofString "right_side") [V.d (D.str (gs)), V.d (D.tup [D.int (u), D.int (v)]), V.d (D.tup [D.int (a), D.int (b)])] [(false, MO.dict ks ((ps1.map pD).map V.d))] = some (V.d (D.none), [(false, MO.dict ks ((ps1.map pD).map V.d))])) ∧ (setItemV [(false, MO.dict ks ((ps1.map pD).map V.d))] (V.obj 0) (V.d (D.str (y))) (V.d (D.none)) = some [(false, MO.dict ks1 vs1)]) ∧ (getItemV [(false, MO.dict ks1 vs1)] (V.obj 0) (V.d (D.str (y))) = some (V.d (D.none))) ∧ some (D.none) = some (D.none)) [(2, Tell.w (V.d (D.tup [D.int (a), D.int (b)])) []), (4, Tell.w (V.d (D.tup [D.int (c), D.int (e)])) []), (9, Tell.w (V.d (D.bool (true))) []), (12, Tell.v (V.d (D.dict ks (ps.map pD)))), (16, Tell.v (V.d (D.tup [D.int (s), D.int (t)]))), (17, Tell.w (V.d (pD q1)) [(false, MO.dict ks ((ps.map pD).map V.d))]), (18, Tell.s [(false, MO.dict ks ((ps1.map pD).map V.d))]), (19, Tell.v (V.d (pD q1))), (25, Tell.v (V.d (D.tup [D.int (u), D.int (v)]))), (26, Tell.w (V.d (D.none)) [(false, MO.dict ks ((ps1.map pD).map V.d))]), (27, Tell.s [(false, MO.dict ks1 vs1)]), (28, Tell.v (V.d (D.none)))] L09_f_kept (L09_imp _) (by kernel_rfl) ⟨hc1 _, hc2 _, hc3 _, h1, h2, hc4 _, h3, h4, h5, hc5 _, h6, h7, rfl⟩ σ
theorem L09_kept_xyP_0 (d : Nat) (gs : Str)  (x : Str) (y : Str) (ks : List Key) (ps : List (Int × Int)) (a b c e : Int) (s t : Int) (q1 : Int × Int) (ps1 : List (Int × Int)) (u v : Int) (q2 : Int × Int) (ps2 : List (Int × Int))  (hc1 : ∀ σ, callN B09 H09 (d + 8) (Str.ofString "reach") [V.d (D.str (x)), V.d (D.dict ks (ps.map pD))] σ = some (V.d (D.tup [D.int (a), D.int (b)]), σ)) (hc2 : ∀ σ, callN B09 H09 (d + 8) (Str.ofString "reach") [V.d (D.str (y)), V.d (D.dict ks (ps.map pD))] σ = some (V.d (D.tup [D.int (c), D.int (e)]), σ)) (hc3 : ∀ σ, callN B09 H09 (d + 8) (Str.ofString "may_hold") [V.d (D.str (gs)), V.d (D.tup [D.int (a), D.int (b)]), V.d (D.tup [D.int (c), D.int (e)])] σ = some (V.d (D.bool (true)), σ)) (h1 : bfV [] .dict [V.d (D.dict ks (ps.map pD))] = some (V.d (D.dict ks (ps.map pD)))) (h2 : getItemV [(false, MO.dict ks ((ps.map pD).map V.d))] (V.obj 0) (V.d (D.str (x))) = some (V.d (D.tup [D.int (s), D.int (t)]))) (hc4 : ∀ σ, callN B09 H09 (d + 8) (Str.ofString "left_side") [V.d (D.str (gs)), V.d (D.tup [D.int (s), D.int (t)]), V.d (D.tup [D.int (c), D.int (e)])] σ = some (V.d (pD q1), σ)) (h3 : setItemV [(false, MO.dict ks ((ps.map pD).map V.d))] (V.obj 0) (V.d (D.str (x))) (V.d (pD q1)) = some [(false, MO.dict ks ((ps1.map pD).map V.d))]) (h4 : getItemV [(false, MO.dict ks ((ps1.map pD).map V.d))] (V.obj 0) (V.d (D.str (x))) = some (V.d (pD q1))) (h5 : getItemV [(false, MO.dict ks ((ps1.map pD).map V.d))] (V.obj 0) (V.d (D.str (y))) = some (V.d (D.tup [D.int (u), D.int (v)]))) (hc5 : ∀ σ, callN B09 H09 (d + 8) (Str.ofString "right_side") [V.d (D.str (gs)), V.d (D.tup [D.int (u), D.int (v)]), V.d (D.tup [D.int (a), D.int (b)])] σ = some (V.d (pD q2), σ)) (h6 : setItemV [(false, MO.dict ks ((ps1.map pD).map V.d))] (V.obj 0) (V.d (D.str (y))) (V.d (pD q2)) = some [(false, MO.dict ks ((ps2.map pD).map V.d))]) (h7 : getItemV [(false, MO.dict ks ((ps2.map pD).map V.d))] (V.obj 0) (V.d (D.str (y))) = some (V.d (pD q2))) (h8 : handD true [(false, MO.dict ks ((ps2.map pD).map V.d))] (V.obj 0) = some (D.dict ks (ps2.map pD))) (σ : St) : callN B09 H09 (d + 8 + 1) (Str.ofString "kept") [V.d (D.tup [D.str (gs), D.str (x), D.str (y)]), V.d (D.dict ks (ps.map pD))] σ = some (V.d (D.dict ks (ps2.map pD)), σ) :=
  path (ds := [D.tup [D.str (gs), D.str (x), D.str (y)], D.dict ks (ps.map pD)]) (i := 11) (x := D.dict ks (ps2.map pD)) (P := (callN B09 H09 (d + 8) (Str.ofString "reach") [V.d (D.str (x)), V.d (D.dict ks (ps.map pD))] [] = some (V.d (D.tup [D.int (a), D.int (b)]), [])) ∧ (callN B09 H09 (d + 8) (Str.ofString "reach") [V.d (D.str (y)), V.d (D.dict ks (ps.map pD))] [] = some (V.d (D.tup [D.int (c), D.int (e)]), [])) ∧ (callN B09 H09 (d + 8) (Str.ofString "may_hold") [V.d (D.str (gs)), V.d (D.tup [D.int (a), D.int (b)]), V.d (D.tup [D.int (c), D.int (e)])] [] = some (V.d (D.bool (true)), [])) ∧ (bfV [] .dict [V.d (D.dict ks (ps.map pD))] = some (V.d (D.dict ks (ps.map pD)))) ∧ (getItemV [(false, MO.dict ks ((ps.map pD).map V.d))] (V.obj 0) (V.d (D.str (x))) = some (V.d (D.tup [D.int (s), D.int (t)]))) ∧ (callN B09 H09 (d + 8) (Str.ofString "left_side") [V.d (D.str (gs)), V.d (D.tup [D.int (s), D.int (t)]), V.d (D.tup [D.int (c), D.int (e)])] [(false, MO.dict ks ((ps.map pD).map V.d))] = some (V.d (pD q1), [(false, MO.dict ks ((ps.map pD).map V.d))])) ∧ (setItemV [(false, MO.dict ks ((ps.map pD).map V.d))] (V.obj 0) (V.d (D.str (x))) (V.d (pD q1)) = some [(false, MO.dict ks ((ps1.map pD).map V.d))]) ∧ (getItemV [(false, MO.dict ks ((ps1.map pD).map V.d))] (V.obj 0) (V.d (D.str (x))) = some (V.d (pD q1))) ∧ (getItemV [(false, MO.dict ks ((ps1.map pD).map V.d))] (V.obj 0) (V.d (D.str (y))) = some (V.d (D.tup [D.int (u), D.int (v)]))) ∧ (callN B09 H09 (d + 8) (Str.ofString "right_side") [V.d (D.str (gs)), V.d (D.tup [D.int (u), D.int (v)]), V.d (D.tup [D.int (a), D.int (b)])] [(false, MO.dict ks ((ps1.map pD).map V.d))] = some (V.d (pD q2), [(false, MO.dict ks ((ps1.map pD).map V.d))])) ∧ (setItemV [(false, MO.dict ks ((ps1.map pD).map V.d))] (V.obj 0) (V.d (D.str (y))) (V.d (pD q2)) = some [(false, MO.dict ks ((ps2.map pD).map V.d))]) ∧ (getItemV [(false, MO.dict ks ((ps2.map pD).map V.d))] (V.obj 0) (V.d (D.str (y))) = some (V.d (pD q2))) ∧ handD true [(false, MO.dict ks ((ps2.map pD).map V.d))] (V.obj 0) = some (D.dict ks (ps2.map pD))) [(2, Tell.w (V.d (D.tup [D.int (a), D.int (b)])) []), (4, Tell.w (V.d (D.tup [D.int (c), D.int (e)])) []), (9, Tell.w (V.d (D.bool (true))) []), (12, Tell.v (V.d (D.dict ks (ps.map pD)))), (16, Tell.v (V.d (D.tup [D.int (s), D.int (t)]))), (17, Tell.w (V.d (pD q1)) [(false, MO.dict ks ((ps.map pD).map V.d))]), (18, Tell.s [(false, MO.dict ks ((ps1.map pD).map V.d))]), (19, Tell.v (V.d (pD q1))), (25, Tell.v (V.d (D.tup [D.int (u), D.int (v)]))), (26, Tell.w (V.d (pD q2)) [(false, MO.dict ks ((ps1.map pD).map V.d))]), (27, Tell.s [(false, MO.dict ks ((ps2.map pD).map V.d))]), (28, Tell.v (V.d (pD q2)))] L09_f_kept (L09_imp _) (by kernel_rfl) ⟨hc1 _, hc2 _, hc3 _, h1, h2, hc4 _, h3, h4, h5, hc5 _, h6, h7, h8⟩ σ
noncomputable def L09_LK0 (gs : Str) (t1 t2 e0 e1 : D) (ks : List Key) (ps : List (Int × Int)) (a b c e : Int) : Loc := [(Str.ofString "_law_told_here", V.d (D.tup [D.str (gs), t1, t2])), (Str.ofString "_law_known_here", V.d (D.dict ks (ps.map pD))), (Str.ofString "_law_left", V.d (D.tup [D.int (a), D.int (b)])), (Str.ofString "_law_right", V.d (D.tup [D.int (c), D.int (e)])), (Str.ofString "_law_ends", V.d (D.list [e0, e1])), (Str.ofString "_law_made", V.obj 0)]
noncomputable def L09_LK (gs : Str) (t1 t2 e0 e1 : D) (ks : List Key) (ps : List (Int × Int)) (a b c e : Int) (vk : V) : Loc := [(Str.ofString "_law_told_here", V.d (D.tup [D.str (gs), t1, t2])), (Str.ofString "_law_known_here", V.d (D.dict ks (ps.map pD))), (Str.ofString "_law_left", V.d (D.tup [D.int (a), D.int (b)])), (Str.ofString "_law_right", V.d (D.tup [D.int (c), D.int (e)])), (Str.ofString "_law_ends", V.d (D.list [e0, e1])), (Str.ofString "_law_made", V.obj 0), (Str.ofString "_law_k", vk)]
theorem L09_lkE (d : Nat) (gs : Str) (t1 t2 e0 e1 : D) (ks : List Key) (ps : List (Int × Int)) (a b c e : Int) (k : Int) (qs : List (Int × Int))  (h1 : getItemV [(false, MO.dict ks ((qs.map pD).map V.d))] (V.d (D.list [e0, e1])) (V.d (D.int (k))) = some (V.d (D.none))) : evSs (gen B09 H09 (d + 8) (Str.ofString "_law_kept")) (forBody (stAt B09 34 5)) [(Str.ofString "_law_told_here", V.d (D.tup [D.str (gs), t1, t2])), (Str.ofString "_law_known_here", V.d (D.dict ks (ps.map pD))), (Str.ofString "_law_left", V.d (D.tup [D.int (a), D.int (b)])), (Str.ofString "_law_right", V.d (D.tup [D.int (c), D.int (e)])), (Str.ofString "_law_ends", V.d (D.list [e0, e1])), (Str.ofString "_law_made", V.obj 0), (Str.ofString "_law_k", V.d (D.int (k)))] ([(false, MO.dict ks ((qs.map pD).map V.d))]) = some (Fl.ret (V.d (D.none)), [(Str.ofString "_law_told_here", V.d (D.tup [D.str (gs), t1, t2])), (Str.ofString "_law_known_here", V.d (D.dict ks (ps.map pD))), (Str.ofString "_law_left", V.d (D.tup [D.int (a), D.int (b)])), (Str.ofString "_law_right", V.d (D.tup [D.int (c), D.int (e)])), (Str.ofString "_law_ends", V.d (D.list [e0, e1])), (Str.ofString "_law_made", V.obj 0), (Str.ofString "_law_k", V.d (D.int (k)))], [(false, MO.dict ks ((qs.map pD).map V.d))]) :=
  pathS (P := (getItemV [(false, MO.dict ks ((qs.map pD).map V.d))] (V.d (D.list [e0, e1])) (V.d (D.int (k))) = some (V.d (D.none))) ∧ ((Fl.ret (V.d (D.none)), [(Str.ofString "_law_told_here", V.d (D.tup [D.str (gs), t1, t2])), (Str.ofString "_law_known_here", V.d (D.dict ks (ps.map pD))), (Str.ofString "_law_left", V.d (D.tup [D.int (a), D.int (b)])), (Str.ofString "_law_right", V.d (D.tup [D.int (c), D.int (e)])), (Str.ofString "_law_ends", V.d (D.list [e0, e1])), (Str.ofString "_law_made", V.obj 0), (Str.ofString "_law_k", V.d (D.int (k)))], [(false, MO.dict ks ((qs.map pD).map V.d))]) : Fl × Loc × St) = (Fl.ret (V.d (D.none)), [(Str.ofString "_law_told_here", V.d (D.tup [D.str (gs), t1, t2])), (Str.ofString "_law_known_here", V.d (D.dict ks (ps.map pD))), (Str.ofString "_law_left", V.d (D.tup [D.int (a), D.int (b)])), (Str.ofString "_law_right", V.d (D.tup [D.int (c), D.int (e)])), (Str.ofString "_law_ends", V.d (D.list [e0, e1])), (Str.ofString "_law_made", V.obj 0), (Str.ofString "_law_k", V.d (D.int (k)))], [(false, MO.dict ks ((qs.map pD).map V.d))])) [(0, Tell.v (V.d (D.none)))] (by kernel_rfl) ⟨h1, rfl⟩
theorem L09_lkS (d : Nat) (gs : Str) (t1 t2 e0 e1 : D) (ks : List Key) (ps : List (Int × Int)) (a b c e : Int) (k : Int) (qs : List (Int × Int)) (g h : Int) (t : D)  (h1 : getItemV [(false, MO.dict ks ((qs.map pD).map V.d))] (V.d (D.list [e0, e1])) (V.d (D.int (k))) = some (V.d (D.tup [D.int (g), D.int (h)]))) (h2 : getItemV [(false, MO.dict ks ((qs.map pD).map V.d))] (V.d (D.tup [D.str (gs), t1, t2])) (V.d (D.int (1 + k))) = some (V.d (t))) (h3 : isiV [(false, MO.dict ks ((qs.map pD).map V.d))] (Str.ofString "str") (V.d (t)) = some false) : evSs (gen B09 H09 (d + 8) (Str.ofString "_law_kept")) (forBody (stAt B09 34 5)) [(Str.ofString "_law_told_here", V.d (D.tup [D.str (gs), t1, t2])), (Str.ofString "_law_known_here", V.d (D.dict ks (ps.map pD))), (Str.ofString "_law_left", V.d (D.tup [D.int (a), D.int (b)])), (Str.ofString "_law_right", V.d (D.tup [D.int (c), D.int (e)])), (Str.ofString "_law_ends", V.d (D.list [e0, e1])), (Str.ofString "_law_made", V.obj 0), (Str.ofString "_law_k", V.d (D.int (k)))] ([(false, MO.dict ks ((qs.map pD).map V.d))]) = some (Fl.next, [(Str.ofString "_law_told_here", V.d (D.tup [D.str (gs), t1, t2])), (Str.ofString "_law_known_here", V.d (D.dict ks (ps.map pD))), (Str.ofString "_law_left", V.d (D.tup [D.int (a), D.int (b)])), (Str.ofString "_law_right", V.d (D.tup [D.int (c), D.int (e)])), (Str.ofString "_law_ends", V.d (D.list [e0, e1])), (Str.ofString "_law_made", V.obj 0), (Str.ofString "_law_k", V.d (D.int (k)))], [(false, MO.dict ks ((qs.map pD).map V.d))]) :=
  pathS (P := (getItemV [(false, MO.dict ks ((qs.map pD).map V.d))] (V.d (D.list [e0, e1])) (V.d (D.int (k))) = some (V.d (D.tup [D.int (g), D.int (h)]))) ∧ (getItemV [(false, MO.dict ks ((qs.map pD).map V.d))] (V.d (D.tup [D.str (gs), t1, t2])) (V.d (D.int (1 + k))) = some (V.d (t))) ∧ (isiV [(false, MO.dict ks ((qs.map pD).map V.d))] (Str.ofString "str") (V.d (t)) = some false) ∧ ((Fl.next, [(Str.ofString "_law_told_here", V.d (D.tup [D.str (gs), t1, t2])), (Str.ofString "_law_known_here", V.d (D.dict ks (ps.map pD))), (Str.ofString "_law_left", V.d (D.tup [D.int (a), D.int (b)])), (Str.ofString "_law_right", V.d (D.tup [D.int (c), D.int (e)])), (Str.ofString "_law_ends", V.d (D.list [e0, e1])), (Str.ofString "_law_made", V.obj 0), (Str.ofString "_law_k", V.d (D.int (k)))], [(false, MO.dict ks ((qs.map pD).map V.d))]) : Fl × Loc × St) = (Fl.next, [(Str.ofString "_law_told_here", V.d (D.tup [D.str (gs), t1, t2])), (Str.ofString "_law_known_here", V.d (D.dict ks (ps.map pD))), (Str.ofString "_law_left", V.d (D.tup [D.int (a), D.int (b)])), (Str.ofString "_law_right", V.d (D.tup [D.int (c), D.int (e)])), (Str.ofString "_law_ends", V.d (D.list [e0, e1])), (Str.ofString "_law_made", V.obj 0), (Str.ofString "_law_k", V.d (D.int (k)))], [(false, MO.dict ks ((qs.map pD).map V.d))])) [(0, Tell.v (V.d (D.tup [D.int (g), D.int (h)]))), (4, Tell.v (V.d (t))), (5, Tell.b false)] (by kernel_rfl) ⟨h1, h2, h3, rfl⟩
theorem L09_lkN (d : Nat) (gs : Str) (t1 t2 e0 e1 : D) (ks : List Key) (ps : List (Int × Int)) (a b c e : Int) (k : Int) (qs : List (Int × Int)) (g h s t : Int) (x : Str) (ks1 : List Key) (vs1 : List V)  (h1 : getItemV [(false, MO.dict ks ((qs.map pD).map V.d))] (V.d (D.list [e0, e1])) (V.d (D.int (k))) = some (V.d (D.tup [D.int (g), D.int (h)]))) (h2 : getItemV [(false, MO.dict ks ((qs.map pD).map V.d))] (V.d (D.tup [D.str (gs), t1, t2])) (V.d (D.int (1 + k))) = some (V.d (D.str (x)))) (h3 : getItemV [(false, MO.dict ks ((qs.map pD).map V.d))] (V.obj 0) (V.d (D.str (x))) = some (V.d (D.tup [D.int (s), D.int (t)]))) (hc1 : ∀ σ, callN B09 H09 (d + 8) (Str.ofString "_law_met") [V.d (D.tup [D.int (s), D.int (t)]), V.d (D.int (g)), V.d (D.int (h))] σ = some (V.d (D.none), σ)) (h4 : setItemV [(false, MO.dict ks ((qs.map pD).map V.d))] (V.obj 0) (V.d (D.str (x))) (V.d (D.none)) = some [(false, MO.dict ks1 vs1)]) (h5 : getItemV [(false, MO.dict ks1 vs1)] (V.d (D.tup [D.str (gs), t1, t2])) (V.d (D.int (1 + k))) = some (V.d (D.str (x)))) (h6 : getItemV [(false, MO.dict ks1 vs1)] (V.obj 0) (V.d (D.str (x))) = some (V.d (D.none))) : evSs (gen B09 H09 (d + 8) (Str.ofString "_law_kept")) (forBody (stAt B09 34 5)) [(Str.ofString "_law_told_here", V.d (D.tup [D.str (gs), t1, t2])), (Str.ofString "_law_known_here", V.d (D.dict ks (ps.map pD))), (Str.ofString "_law_left", V.d (D.tup [D.int (a), D.int (b)])), (Str.ofString "_law_right", V.d (D.tup [D.int (c), D.int (e)])), (Str.ofString "_law_ends", V.d (D.list [e0, e1])), (Str.ofString "_law_made", V.obj 0), (Str.ofString "_law_k", V.d (D.int (k)))] ([(false, MO.dict ks ((qs.map pD).map V.d))]) = some (Fl.ret (V.d (D.none)), [(Str.ofString "_law_told_here", V.d (D.tup [D.str (gs), t1, t2])), (Str.ofString "_law_known_here", V.d (D.dict ks (ps.map pD))), (Str.ofString "_law_left", V.d (D.tup [D.int (a), D.int (b)])), (Str.ofString "_law_right", V.d (D.tup [D.int (c), D.int (e)])), (Str.ofString "_law_ends", V.d (D.list [e0, e1])), (Str.ofString "_law_made", V.obj 0), (Str.ofString "_law_k", V.d (D.int (k)))], [(false, MO.dict ks1 vs1)]) :=
  pathS (P := (getItemV [(false, MO.dict ks ((qs.map pD).map V.d))] (V.d (D.list [e0, e1])) (V.d (D.int (k))) = some (V.d (D.tup [D.int (g), D.int (h)]))) ∧ (getItemV [(false, MO.dict ks ((qs.map pD).map V.d))] (V.d (D.tup [D.str (gs), t1, t2])) (V.d (D.int (1 + k))) = some (V.d (D.str (x)))) ∧ (getItemV [(false, MO.dict ks ((qs.map pD).map V.d))] (V.d (D.tup [D.str (gs), t1, t2])) (V.d (D.int (1 + k))) = some (V.d (D.str (x)))) ∧ (getItemV [(false, MO.dict ks ((qs.map pD).map V.d))] (V.obj 0) (V.d (D.str (x))) = some (V.d (D.tup [D.int (s), D.int (t)]))) ∧ (getItemV [(false, MO.dict ks ((qs.map pD).map V.d))] (V.d (D.list [e0, e1])) (V.d (D.int (k))) = some (V.d (D.tup [D.int (g), D.int (h)]))) ∧ (getItemV [(false, MO.dict ks ((qs.map pD).map V.d))] (V.d (D.list [e0, e1])) (V.d (D.int (k))) = some (V.d (D.tup [D.int (g), D.int (h)]))) ∧ (callN B09 H09 (d + 8) (Str.ofString "_law_met") [V.d (D.tup [D.int (s), D.int (t)]), V.d (D.int (g)), V.d (D.int (h))] [(false, MO.dict ks ((qs.map pD).map V.d))] = some (V.d (D.none), [(false, MO.dict ks ((qs.map pD).map V.d))])) ∧ (getItemV [(false, MO.dict ks ((qs.map pD).map V.d))] (V.d (D.tup [D.str (gs), t1, t2])) (V.d (D.int (1 + k))) = some (V.d (D.str (x)))) ∧ (setItemV [(false, MO.dict ks ((qs.map pD).map V.d))] (V.obj 0) (V.d (D.str (x))) (V.d (D.none)) = some [(false, MO.dict ks1 vs1)]) ∧ (getItemV [(false, MO.dict ks1 vs1)] (V.d (D.tup [D.str (gs), t1, t2])) (V.d (D.int (1 + k))) = some (V.d (D.str (x)))) ∧ (getItemV [(false, MO.dict ks1 vs1)] (V.obj 0) (V.d (D.str (x))) = some (V.d (D.none))) ∧ ((Fl.ret (V.d (D.none)), [(Str.ofString "_law_told_here", V.d (D.tup [D.str (gs), t1, t2])), (Str.ofString "_law_known_here", V.d (D.dict ks (ps.map pD))), (Str.ofString "_law_left", V.d (D.tup [D.int (a), D.int (b)])), (Str.ofString "_law_right", V.d (D.tup [D.int (c), D.int (e)])), (Str.ofString "_law_ends", V.d (D.list [e0, e1])), (Str.ofString "_law_made", V.obj 0), (Str.ofString "_law_k", V.d (D.int (k)))], [(false, MO.dict ks1 vs1)]) : Fl × Loc × St) = (Fl.ret (V.d (D.none)), [(Str.ofString "_law_told_here", V.d (D.tup [D.str (gs), t1, t2])), (Str.ofString "_law_known_here", V.d (D.dict ks (ps.map pD))), (Str.ofString "_law_left", V.d (D.tup [D.int (a), D.int (b)])), (Str.ofString "_law_right", V.d (D.tup [D.int (c), D.int (e)])), (Str.ofString "_law_ends", V.d (D.list [e0, e1])), (Str.ofString "_law_made", V.obj 0), (Str.ofString "_law_k", V.d (D.int (k)))], [(false, MO.dict ks1 vs1)])) [(0, Tell.v (V.d (D.tup [D.int (g), D.int (h)]))), (4, Tell.v (V.d (D.str (x)))), (8, Tell.v (V.d (D.str (x)))), (9, Tell.v (V.d (D.tup [D.int (s), D.int (t)]))), (10, Tell.v (V.d (D.tup [D.int (g), D.int (h)]))), (12, Tell.v (V.d (D.tup [D.int (g), D.int (h)]))), (14, Tell.w (V.d (D.none)) [(false, MO.dict ks ((qs.map pD).map V.d))]), (16, Tell.v (V.d (D.str (x)))), (17, Tell.s [(false, MO.dict ks1 vs1)]), (19, Tell.v (V.d (D.str (x)))), (20, Tell.v (V.d (D.none)))] (by kernel_rfl) ⟨h1, h2, h2, h3, h1, h1, hc1 _, h2, h4, h5, h6, rfl⟩
theorem L09_lkP (d : Nat) (gs : Str) (t1 t2 e0 e1 : D) (ks : List Key) (ps : List (Int × Int)) (a b c e : Int) (k : Int) (qs : List (Int × Int)) (g h s t : Int) (x : Str) (q1 : Int × Int) (ps1 : List (Int × Int))  (h1 : getItemV [(false, MO.dict ks ((qs.map pD).map V.d))] (V.d (D.list [e0, e1])) (V.d (D.int (k))) = some (V.d (D.tup [D.int (g), D.int (h)]))) (h2 : getItemV [(false, MO.dict ks ((qs.map pD).map V.d))] (V.d (D.tup [D.str (gs), t1, t2])) (V.d (D.int (1 + k))) = some (V.d (D.str (x)))) (h3 : getItemV [(false, MO.dict ks ((qs.map pD).map V.d))] (V.obj 0) (V.d (D.str (x))) = some (V.d (D.tup [D.int (s), D.int (t)]))) (hc1 : ∀ σ, callN B09 H09 (d + 8) (Str.ofString "_law_met") [V.d (D.tup [D.int (s), D.int (t)]), V.d (D.int (g)), V.d (D.int (h))] σ = some (V.d (pD q1), σ)) (h4 : setItemV [(false, MO.dict ks ((qs.map pD).map V.d))] (V.obj 0) (V.d (D.str (x))) (V.d (pD q1)) = some [(false, MO.dict ks ((ps1.map pD).map V.d))]) (h5 : getItemV [(false, MO.dict ks ((ps1.map pD).map V.d))] (V.d (D.tup [D.str (gs), t1, t2])) (V.d (D.int (1 + k))) = some (V.d (D.str (x)))) (h6 : getItemV [(false, MO.dict ks ((ps1.map pD).map V.d))] (V.obj 0) (V.d (D.str (x))) = some (V.d (pD q1))) : evSs (gen B09 H09 (d + 8) (Str.ofString "_law_kept")) (forBody (stAt B09 34 5)) [(Str.ofString "_law_told_here", V.d (D.tup [D.str (gs), t1, t2])), (Str.ofString "_law_known_here", V.d (D.dict ks (ps.map pD))), (Str.ofString "_law_left", V.d (D.tup [D.int (a), D.int (b)])), (Str.ofString "_law_right", V.d (D.tup [D.int (c), D.int (e)])), (Str.ofString "_law_ends", V.d (D.list [e0, e1])), (Str.ofString "_law_made", V.obj 0), (Str.ofString "_law_k", V.d (D.int (k)))] ([(false, MO.dict ks ((qs.map pD).map V.d))]) = some (Fl.next, [(Str.ofString "_law_told_here", V.d (D.tup [D.str (gs), t1, t2])), (Str.ofString "_law_known_here", V.d (D.dict ks (ps.map pD))), (Str.ofString "_law_left", V.d (D.tup [D.int (a), D.int (b)])), (Str.ofString "_law_right", V.d (D.tup [D.int (c), D.int (e)])), (Str.ofString "_law_ends", V.d (D.list [e0, e1])), (Str.ofString "_law_made", V.obj 0), (Str.ofString "_law_k", V.d (D.int (k)))], [(false, MO.dict ks ((ps1.map pD).map V.d))]) :=
  pathS (P := (getItemV [(false, MO.dict ks ((qs.map pD).map V.d))] (V.d (D.list [e0, e1])) (V.d (D.int (k))) = some (V.d (D.tup [D.int (g), D.int (h)]))) ∧ (getItemV [(false, MO.dict ks ((qs.map pD).map V.d))] (V.d (D.tup [D.str (gs), t1, t2])) (V.d (D.int (1 + k))) = some (V.d (D.str (x)))) ∧ (getItemV [(false, MO.dict ks ((qs.map pD).map V.d))] (V.d (D.tup [D.str (gs), t1, t2])) (V.d (D.int (1 + k))) = some (V.d (D.str (x)))) ∧ (getItemV [(false, MO.dict ks ((qs.map pD).map V.d))] (V.obj 0) (V.d (D.str (x))) = some (V.d (D.tup [D.int (s), D.int (t)]))) ∧ (getItemV [(false, MO.dict ks ((qs.map pD).map V.d))] (V.d (D.list [e0, e1])) (V.d (D.int (k))) = some (V.d (D.tup [D.int (g), D.int (h)]))) ∧ (getItemV [(false, MO.dict ks ((qs.map pD).map V.d))] (V.d (D.list [e0, e1])) (V.d (D.int (k))) = some (V.d (D.tup [D.int (g), D.int (h)]))) ∧ (callN B09 H09 (d + 8) (Str.ofString "_law_met") [V.d (D.tup [D.int (s), D.int (t)]), V.d (D.int (g)), V.d (D.int (h))] [(false, MO.dict ks ((qs.map pD).map V.d))] = some (V.d (pD q1), [(false, MO.dict ks ((qs.map pD).map V.d))])) ∧ (getItemV [(false, MO.dict ks ((qs.map pD).map V.d))] (V.d (D.tup [D.str (gs), t1, t2])) (V.d (D.int (1 + k))) = some (V.d (D.str (x)))) ∧ (setItemV [(false, MO.dict ks ((qs.map pD).map V.d))] (V.obj 0) (V.d (D.str (x))) (V.d (pD q1)) = some [(false, MO.dict ks ((ps1.map pD).map V.d))]) ∧ (getItemV [(false, MO.dict ks ((ps1.map pD).map V.d))] (V.d (D.tup [D.str (gs), t1, t2])) (V.d (D.int (1 + k))) = some (V.d (D.str (x)))) ∧ (getItemV [(false, MO.dict ks ((ps1.map pD).map V.d))] (V.obj 0) (V.d (D.str (x))) = some (V.d (pD q1))) ∧ ((Fl.next, [(Str.ofString "_law_told_here", V.d (D.tup [D.str (gs), t1, t2])), (Str.ofString "_law_known_here", V.d (D.dict ks (ps.map pD))), (Str.ofString "_law_left", V.d (D.tup [D.int (a), D.int (b)])), (Str.ofString "_law_right", V.d (D.tup [D.int (c), D.int (e)])), (Str.ofString "_law_ends", V.d (D.list [e0, e1])), (Str.ofString "_law_made", V.obj 0), (Str.ofString "_law_k", V.d (D.int (k)))], [(false, MO.dict ks ((ps1.map pD).map V.d))]) : Fl × Loc × St) = (Fl.next, [(Str.ofString "_law_told_here", V.d (D.tup [D.str (gs), t1, t2])), (Str.ofString "_law_known_here", V.d (D.dict ks (ps.map pD))), (Str.ofString "_law_left", V.d (D.tup [D.int (a), D.int (b)])), (Str.ofString "_law_right", V.d (D.tup [D.int (c), D.int (e)])), (Str.ofString "_law_ends", V.d (D.list [e0, e1])), (Str.ofString "_law_made", V.obj 0), (Str.ofString "_law_k", V.d (D.int (k)))], [(false, MO.dict ks ((ps1.map pD).map V.d))])) [(0, Tell.v (V.d (D.tup [D.int (g), D.int (h)]))), (4, Tell.v (V.d (D.str (x)))), (8, Tell.v (V.d (D.str (x)))), (9, Tell.v (V.d (D.tup [D.int (s), D.int (t)]))), (10, Tell.v (V.d (D.tup [D.int (g), D.int (h)]))), (12, Tell.v (V.d (D.tup [D.int (g), D.int (h)]))), (14, Tell.w (V.d (pD q1)) [(false, MO.dict ks ((qs.map pD).map V.d))]), (16, Tell.v (V.d (D.str (x)))), (17, Tell.s [(false, MO.dict ks ((ps1.map pD).map V.d))]), (19, Tell.v (V.d (D.str (x)))), (20, Tell.v (V.d (pD q1)))] (by kernel_rfl) ⟨h1, h2, h2, h3, h1, h1, hc1 _, h2, h4, h5, h6, rfl⟩
theorem L09_lkept_n1_0 (d : Nat) (gs : Str) (t1 t2 : D) (ks : List Key) (ps : List (Int × Int)) (rr : D)  (hc1 : ∀ σ, callN B09 H09 (d + 8) (Str.ofString "_law_reach") [V.d (t1), V.d (D.dict ks (ps.map pD))] σ = some (V.d (D.none), σ)) (hc2 : ∀ σ, callN B09 H09 (d + 8) (Str.ofString "_law_reach") [V.d (t2), V.d (D.dict ks (ps.map pD))] σ = some (V.d (rr), σ)) (σ : St) : callN B09 H09 (d + 8 + 1) (Str.ofString "_law_kept") [V.d (D.tup [D.str (gs), t1, t2]), V.d (D.dict ks (ps.map pD))] σ = some (V.d (D.none), σ) :=
  path (ds := [D.tup [D.str (gs), t1, t2], D.dict ks (ps.map pD)]) (i := 34) (x := D.none) (P := (callN B09 H09 (d + 8) (Str.ofString "_law_reach") [V.d (t1), V.d (D.dict ks (ps.map pD))] [] = some (V.d (D.none), [])) ∧ (callN B09 H09 (d + 8) (Str.ofString "_law_reach") [V.d (t2), V.d (D.dict ks (ps.map pD))] [] = some (V.d (rr), [])) ∧ some (D.none) = some (D.none)) [(1, Tell.w (V.d (D.none)) []), (3, Tell.w (V.d (rr)) [])] L09_f__law_kept (L09_imp _) (by kernel_rfl) ⟨hc1 _, hc2 _, rfl⟩ σ
theorem L09_lkept_n2_0 (d : Nat) (gs : Str) (t1 t2 : D) (ks : List Key) (ps : List (Int × Int)) (a b : Int)  (hc1 : ∀ σ, callN B09 H09 (d + 8) (Str.ofString "_law_reach") [V.d (t1), V.d (D.dict ks (ps.map pD))] σ = some (V.d (D.tup [D.int (a), D.int (b)]), σ)) (hc2 : ∀ σ, callN B09 H09 (d + 8) (Str.ofString "_law_reach") [V.d (t2), V.d (D.dict ks (ps.map pD))] σ = some (V.d (D.none), σ)) (σ : St) : callN B09 H09 (d + 8 + 1) (Str.ofString "_law_kept") [V.d (D.tup [D.str (gs), t1, t2]), V.d (D.dict ks (ps.map pD))] σ = some (V.d (D.none), σ) :=
  path (ds := [D.tup [D.str (gs), t1, t2], D.dict ks (ps.map pD)]) (i := 34) (x := D.none) (P := (callN B09 H09 (d + 8) (Str.ofString "_law_reach") [V.d (t1), V.d (D.dict ks (ps.map pD))] [] = some (V.d (D.tup [D.int (a), D.int (b)]), [])) ∧ (callN B09 H09 (d + 8) (Str.ofString "_law_reach") [V.d (t2), V.d (D.dict ks (ps.map pD))] [] = some (V.d (D.none), [])) ∧ some (D.none) = some (D.none)) [(1, Tell.w (V.d (D.tup [D.int (a), D.int (b)])) []), (3, Tell.w (V.d (D.none)) [])] L09_f__law_kept (L09_imp _) (by kernel_rfl) ⟨hc1 _, hc2 _, rfl⟩ σ
theorem L09_lkept_r_0 (d : Nat) (gs : Str) (t1 t2 : D) (ks : List Key) (ps : List (Int × Int)) (a b c e : Int) (e0 e1 : D) (vk : V) (ks1 : List Key) (vs1 : List V)  (hc1 : ∀ σ, callN B09 H09 (d + 8) (Str.ofString "_law_reach") [V.d (t1), V.d (D.dict ks (ps.map pD))] σ = some (V.d (D.tup [D.int (a), D.int (b)]), σ)) (hc2 : ∀ σ, callN B09 H09 (d + 8) (Str.ofString "_law_reach") [V.d (t2), V.d (D.dict ks (ps.map pD))] σ = some (V.d (D.tup [D.int (c), D.int (e)]), σ)) (hc3 : ∀ σ, callN B09 H09 (d + 8) (Str.ofString "_law_side") [V.d (D.str (gs)), V.d (D.tup [D.int (a), D.int (b)]), V.d (D.tup [D.int (c), D.int (e)]), V.d (D.bool (true))] σ = some (V.d (e0), σ)) (hc4 : ∀ σ, callN B09 H09 (d + 8) (Str.ofString "_law_side") [V.d (D.str (gs)), V.d (D.tup [D.int (c), D.int (e)]), V.d (D.tup [D.int (a), D.int (b)]), V.d (D.bool (false))] σ = some (V.d (e1), σ)) (h1 : bfV [] .dict [V.d (D.dict ks (ps.map pD))] = some (V.d (D.dict ks (ps.map pD)))) (h2 : evS (gen B09 H09 (d + 8) (Str.ofString "_law_kept")) (stAt B09 34 5) [(Str.ofString "_law_told_here", V.d (D.tup [D.str (gs), t1, t2])), (Str.ofString "_law_known_here", V.d (D.dict ks (ps.map pD))), (Str.ofString "_law_left", V.d (D.tup [D.int (a), D.int (b)])), (Str.ofString "_law_right", V.d (D.tup [D.int (c), D.int (e)])), (Str.ofString "_law_ends", V.d (D.list [e0, e1])), (Str.ofString "_law_made", V.obj 0)] [(false, MO.dict ks ((ps.map pD).map V.d))] = some (Fl.ret (V.d D.none), [(Str.ofString "_law_told_here", V.d (D.tup [D.str (gs), t1, t2])), (Str.ofString "_law_known_here", V.d (D.dict ks (ps.map pD))), (Str.ofString "_law_left", V.d (D.tup [D.int (a), D.int (b)])), (Str.ofString "_law_right", V.d (D.tup [D.int (c), D.int (e)])), (Str.ofString "_law_ends", V.d (D.list [e0, e1])), (Str.ofString "_law_made", V.obj 0), (Str.ofString "_law_k", vk)], [(false, MO.dict ks1 vs1)])) (σ : St) : callN B09 H09 (d + 8 + 1) (Str.ofString "_law_kept") [V.d (D.tup [D.str (gs), t1, t2]), V.d (D.dict ks (ps.map pD))] σ = some (V.d (D.none), σ) :=
  path (ds := [D.tup [D.str (gs), t1, t2], D.dict ks (ps.map pD)]) (i := 34) (x := D.none) (P := (callN B09 H09 (d + 8) (Str.ofString "_law_reach") [V.d (t1), V.d (D.dict ks (ps.map pD))] [] = some (V.d (D.tup [D.int (a), D.int (b)]), [])) ∧ (callN B09 H09 (d + 8) (Str.ofString "_law_reach") [V.d (t2), V.d (D.dict ks (ps.map pD))] [] = some (V.d (D.tup [D.int (c), D.int (e)]), [])) ∧ (callN B09 H09 (d + 8) (Str.ofString "_law_side") [V.d (D.str (gs)), V.d (D.tup [D.int (a), D.int (b)]), V.d (D.tup [D.int (c), D.int (e)]), V.d (D.bool (true))] [] = some (V.d (e0), [])) ∧ (callN B09 H09 (d + 8) (Str.ofString "_law_side") [V.d (D.str (gs)), V.d (D.tup [D.int (c), D.int (e)]), V.d (D.tup [D.int (a), D.int (b)]), V.d (D.bool (false))] [] = some (V.d (e1), [])) ∧ (bfV [] .dict [V.d (D.dict ks (ps.map pD))] = some (V.d (D.dict ks (ps.map pD)))) ∧ (evS (gen B09 H09 (d + 8) (Str.ofString "_law_kept")) (stAt B09 34 5) [(Str.ofString "_law_told_here", V.d (D.tup [D.str (gs), t1, t2])), (Str.ofString "_law_known_here", V.d (D.dict ks (ps.map pD))), (Str.ofString "_law_left", V.d (D.tup [D.int (a), D.int (b)])), (Str.ofString "_law_right", V.d (D.tup [D.int (c), D.int (e)])), (Str.ofString "_law_ends", V.d (D.list [e0, e1])), (Str.ofString "_law_made", V.obj 0)] [(false, MO.dict ks ((ps.map pD).map V.d))] = some (Fl.ret (V.d D.none), [(Str.ofString "_law_told_here", V.d (D.tup [D.str (gs), t1, t2])), (Str.ofString "_law_known_here", V.d (D.dict ks (ps.map pD))), (Str.ofString "_law_left", V.d (D.tup [D.int (a), D.int (b)])), (Str.ofString "_law_right", V.d (D.tup [D.int (c), D.int (e)])), (Str.ofString "_law_ends", V.d (D.list [e0, e1])), (Str.ofString "_law_made", V.obj 0), (Str.ofString "_law_k", vk)], [(false, MO.dict ks1 vs1)])) ∧ some (D.none) = some (D.none)) [(1, Tell.w (V.d (D.tup [D.int (a), D.int (b)])) []), (3, Tell.w (V.d (D.tup [D.int (c), D.int (e)])) []), (9, Tell.w (V.d (e0)) []), (11, Tell.w (V.d (e1)) []), (13, Tell.v (V.d (D.dict ks (ps.map pD)))), (14, Tell.f (Fl.ret (V.d D.none)) [(Str.ofString "_law_told_here", V.d (D.tup [D.str (gs), t1, t2])), (Str.ofString "_law_known_here", V.d (D.dict ks (ps.map pD))), (Str.ofString "_law_left", V.d (D.tup [D.int (a), D.int (b)])), (Str.ofString "_law_right", V.d (D.tup [D.int (c), D.int (e)])), (Str.ofString "_law_ends", V.d (D.list [e0, e1])), (Str.ofString "_law_made", V.obj 0), (Str.ofString "_law_k", vk)] [(false, MO.dict ks1 vs1)])] L09_f__law_kept (L09_imp _) (by kernel_rfl) ⟨hc1 _, hc2 _, hc3 _, hc4 _, h1, h2, rfl⟩ σ
theorem L09_lkept_n_0 (d : Nat) (gs : Str) (t1 t2 : D) (ks : List Key) (ps : List (Int × Int)) (a b c e : Int) (e0 e1 : D) (vk : V) (qs : List (Int × Int))  (hc1 : ∀ σ, callN B09 H09 (d + 8) (Str.ofString "_law_reach") [V.d (t1), V.d (D.dict ks (ps.map pD))] σ = some (V.d (D.tup [D.int (a), D.int (b)]), σ)) (hc2 : ∀ σ, callN B09 H09 (d + 8) (Str.ofString "_law_reach") [V.d (t2), V.d (D.dict ks (ps.map pD))] σ = some (V.d (D.tup [D.int (c), D.int (e)]), σ)) (hc3 : ∀ σ, callN B09 H09 (d + 8) (Str.ofString "_law_side") [V.d (D.str (gs)), V.d (D.tup [D.int (a), D.int (b)]), V.d (D.tup [D.int (c), D.int (e)]), V.d (D.bool (true))] σ = some (V.d (e0), σ)) (hc4 : ∀ σ, callN B09 H09 (d + 8) (Str.ofString "_law_side") [V.d (D.str (gs)), V.d (D.tup [D.int (c), D.int (e)]), V.d (D.tup [D.int (a), D.int (b)]), V.d (D.bool (false))] σ = some (V.d (e1), σ)) (h1 : bfV [] .dict [V.d (D.dict ks (ps.map pD))] = some (V.d (D.dict ks (ps.map pD)))) (h2 : evS (gen B09 H09 (d + 8) (Str.ofString "_law_kept")) (stAt B09 34 5) [(Str.ofString "_law_told_here", V.d (D.tup [D.str (gs), t1, t2])), (Str.ofString "_law_known_here", V.d (D.dict ks (ps.map pD))), (Str.ofString "_law_left", V.d (D.tup [D.int (a), D.int (b)])), (Str.ofString "_law_right", V.d (D.tup [D.int (c), D.int (e)])), (Str.ofString "_law_ends", V.d (D.list [e0, e1])), (Str.ofString "_law_made", V.obj 0)] [(false, MO.dict ks ((ps.map pD).map V.d))] = some (Fl.next, [(Str.ofString "_law_told_here", V.d (D.tup [D.str (gs), t1, t2])), (Str.ofString "_law_known_here", V.d (D.dict ks (ps.map pD))), (Str.ofString "_law_left", V.d (D.tup [D.int (a), D.int (b)])), (Str.ofString "_law_right", V.d (D.tup [D.int (c), D.int (e)])), (Str.ofString "_law_ends", V.d (D.list [e0, e1])), (Str.ofString "_law_made", V.obj 0), (Str.ofString "_law_k", vk)], [(false, MO.dict ks ((qs.map pD).map V.d))])) (h3 : handD false [(false, MO.dict ks ((qs.map pD).map V.d))] (V.obj 0) = some (D.dict ks (qs.map pD))) (σ : St) : callN B09 H09 (d + 8 + 1) (Str.ofString "_law_kept") [V.d (D.tup [D.str (gs), t1, t2]), V.d (D.dict ks (ps.map pD))] σ = some (V.d (D.dict ks (qs.map pD)), σ) :=
  path (ds := [D.tup [D.str (gs), t1, t2], D.dict ks (ps.map pD)]) (i := 34) (x := D.dict ks (qs.map pD)) (P := (callN B09 H09 (d + 8) (Str.ofString "_law_reach") [V.d (t1), V.d (D.dict ks (ps.map pD))] [] = some (V.d (D.tup [D.int (a), D.int (b)]), [])) ∧ (callN B09 H09 (d + 8) (Str.ofString "_law_reach") [V.d (t2), V.d (D.dict ks (ps.map pD))] [] = some (V.d (D.tup [D.int (c), D.int (e)]), [])) ∧ (callN B09 H09 (d + 8) (Str.ofString "_law_side") [V.d (D.str (gs)), V.d (D.tup [D.int (a), D.int (b)]), V.d (D.tup [D.int (c), D.int (e)]), V.d (D.bool (true))] [] = some (V.d (e0), [])) ∧ (callN B09 H09 (d + 8) (Str.ofString "_law_side") [V.d (D.str (gs)), V.d (D.tup [D.int (c), D.int (e)]), V.d (D.tup [D.int (a), D.int (b)]), V.d (D.bool (false))] [] = some (V.d (e1), [])) ∧ (bfV [] .dict [V.d (D.dict ks (ps.map pD))] = some (V.d (D.dict ks (ps.map pD)))) ∧ (evS (gen B09 H09 (d + 8) (Str.ofString "_law_kept")) (stAt B09 34 5) [(Str.ofString "_law_told_here", V.d (D.tup [D.str (gs), t1, t2])), (Str.ofString "_law_known_here", V.d (D.dict ks (ps.map pD))), (Str.ofString "_law_left", V.d (D.tup [D.int (a), D.int (b)])), (Str.ofString "_law_right", V.d (D.tup [D.int (c), D.int (e)])), (Str.ofString "_law_ends", V.d (D.list [e0, e1])), (Str.ofString "_law_made", V.obj 0)] [(false, MO.dict ks ((ps.map pD).map V.d))] = some (Fl.next, [(Str.ofString "_law_told_here", V.d (D.tup [D.str (gs), t1, t2])), (Str.ofString "_law_known_here", V.d (D.dict ks (ps.map pD))), (Str.ofString "_law_left", V.d (D.tup [D.int (a), D.int (b)])), (Str.ofString "_law_right", V.d (D.tup [D.int (c), D.int (e)])), (Str.ofString "_law_ends", V.d (D.list [e0, e1])), (Str.ofString "_law_made", V.obj 0), (Str.ofString "_law_k", vk)], [(false, MO.dict ks ((qs.map pD).map V.d))])) ∧ handD false [(false, MO.dict ks ((qs.map pD).map V.d))] (V.obj 0) = some (D.dict ks (qs.map pD))) [(1, Tell.w (V.d (D.tup [D.int (a), D.int (b)])) []), (3, Tell.w (V.d (D.tup [D.int (c), D.int (e)])) []), (9, Tell.w (V.d (e0)) []), (11, Tell.w (V.d (e1)) []), (13, Tell.v (V.d (D.dict ks (ps.map pD)))), (14, Tell.f (Fl.next) [(Str.ofString "_law_told_here", V.d (D.tup [D.str (gs), t1, t2])), (Str.ofString "_law_known_here", V.d (D.dict ks (ps.map pD))), (Str.ofString "_law_left", V.d (D.tup [D.int (a), D.int (b)])), (Str.ofString "_law_right", V.d (D.tup [D.int (c), D.int (e)])), (Str.ofString "_law_ends", V.d (D.list [e0, e1])), (Str.ofString "_law_made", V.obj 0), (Str.ofString "_law_k", vk)] [(false, MO.dict ks ((qs.map pD).map V.d))])] L09_f__law_kept (L09_imp _) (by kernel_rfl) ⟨hc1 _, hc2 _, hc3 _, hc4 _, h1, h2, h3⟩ σ
theorem L09_sdbody (d : Nat) (ks : List Key) (qs : List (Int × Int)) (a b : Int) (nm : Str)  (h1 : getItemV [] (V.d (D.dict ks (qs.map pD))) (V.d (D.str (nm))) = some (V.d (D.tup [D.int (a), D.int (b)]))) (hc1 : ∀ σ, callN B09 H09 (d + 1 + 1) (Str.ofString "_law_is_stretch") [V.d (D.tup [D.int (a), D.int (b)])] σ = some (V.d (D.bool (true)), σ)) : evSs (gen B09 H09 (d + 1 + 1) (Str.ofString "_law_same_dict")) (forBody (stAt B09 36 1)) [(Str.ofString "_law_found", V.d (D.dict ks (qs.map pD))), (Str.ofString "_law_due", V.d (D.dict ks (qs.map pD))), (Str.ofString "_law_name", V.d (D.str (nm)))] ([]) = some (Fl.next, [(Str.ofString "_law_found", V.d (D.dict ks (qs.map pD))), (Str.ofString "_law_due", V.d (D.dict ks (qs.map pD))), (Str.ofString "_law_name", V.d (D.str (nm)))], []) :=
  pathS (P := (getItemV [] (V.d (D.dict ks (qs.map pD))) (V.d (D.str (nm))) = some (V.d (D.tup [D.int (a), D.int (b)]))) ∧ (callN B09 H09 (d + 1 + 1) (Str.ofString "_law_is_stretch") [V.d (D.tup [D.int (a), D.int (b)])] [] = some (V.d (D.bool (true)), [])) ∧ ((Fl.next, [(Str.ofString "_law_found", V.d (D.dict ks (qs.map pD))), (Str.ofString "_law_due", V.d (D.dict ks (qs.map pD))), (Str.ofString "_law_name", V.d (D.str (nm)))], []) : Fl × Loc × St) = (Fl.next, [(Str.ofString "_law_found", V.d (D.dict ks (qs.map pD))), (Str.ofString "_law_due", V.d (D.dict ks (qs.map pD))), (Str.ofString "_law_name", V.d (D.str (nm)))], [])) [(0, Tell.v (V.d (D.tup [D.int (a), D.int (b)]))), (1, Tell.w (V.d (D.bool (true))) [])] (by kernel_rfl) ⟨h1, hc1 _, rfl⟩
theorem L09_same_dict_0 (d : Nat) (ks : List Key) (qs : List (Int × Int)) (vn : V)  (h1 : cmpV [] .NotEq (V.d (D.dict ks (qs.map pD))) (V.d (D.dict ks (qs.map pD))) = some (false)) (h2 : evS (gen B09 H09 (d + 1 + 1) (Str.ofString "_law_same_dict")) (stAt B09 36 1) [(Str.ofString "_law_found", V.d (D.dict ks (qs.map pD))), (Str.ofString "_law_due", V.d (D.dict ks (qs.map pD)))] [] = some (Fl.next, [(Str.ofString "_law_found", V.d (D.dict ks (qs.map pD))), (Str.ofString "_law_due", V.d (D.dict ks (qs.map pD))), (Str.ofString "_law_name", vn)], [])) (σ : St) : callN B09 H09 (d + 1 + 1 + 1) (Str.ofString "_law_same_dict") [V.d (D.dict ks (qs.map pD)), V.d (D.dict ks (qs.map pD))] σ = some (V.d (D.bool (true)), σ) :=
  path (ds := [D.dict ks (qs.map pD), D.dict ks (qs.map pD)]) (i := 36) (x := D.bool (true)) (P := (cmpV [] .NotEq (V.d (D.dict ks (qs.map pD))) (V.d (D.dict ks (qs.map pD))) = some (false)) ∧ (evS (gen B09 H09 (d + 1 + 1) (Str.ofString "_law_same_dict")) (stAt B09 36 1) [(Str.ofString "_law_found", V.d (D.dict ks (qs.map pD))), (Str.ofString "_law_due", V.d (D.dict ks (qs.map pD)))] [] = some (Fl.next, [(Str.ofString "_law_found", V.d (D.dict ks (qs.map pD))), (Str.ofString "_law_due", V.d (D.dict ks (qs.map pD))), (Str.ofString "_law_name", vn)], [])) ∧ some (D.bool (true)) = some (D.bool (true))) [(3, Tell.b (false)), (5, Tell.f (Fl.next) [(Str.ofString "_law_found", V.d (D.dict ks (qs.map pD))), (Str.ofString "_law_due", V.d (D.dict ks (qs.map pD))), (Str.ofString "_law_name", vn)] [])] L09_f__law_same_dict (L09_imp _) (by kernel_rfl) ⟨h1, h2, rfl⟩ σ
theorem L09_gbody (d : Nat) (td kd : D) (ks : List Key) (qs : List (Int × Int)) (is : List Int) (a b v : Int) (nm : Str)  (h1 : getItemV [(false, MO.dict ks ((qs.map pD).map V.d))] (V.obj 0) (V.d (D.str (nm))) = some (V.d (D.tup [D.int (a), D.int (b)]))) (h2 : getItemV [(false, MO.dict ks ((qs.map pD).map V.d))] (V.d (D.dict ks (is.map D.int))) (V.d (D.str (nm))) = some (V.d (D.int (v)))) (h3 : a ≤ v) (h4 : v ≤ b) : evSs (gen B09 H09 (d + 8 + 1) (Str.ofString "_law_good")) (forBody (stAt B09 38 5)) [(Str.ofString "_law_told_here", V.d (td)), (Str.ofString "_law_known_here", V.d (kd)), (Str.ofString "_law_held_here", V.d (D.dict ks (is.map D.int))), (Str.ofString "_law_found", V.obj 0), (Str.ofString "_law_due", V.d (D.dict ks (qs.map pD))), (Str.ofString "_law_name", V.d (D.str (nm)))] ([(false, MO.dict ks ((qs.map pD).map V.d))]) = some (Fl.next, [(Str.ofString "_law_told_here", V.d (td)), (Str.ofString "_law_known_here", V.d (kd)), (Str.ofString "_law_held_here", V.d (D.dict ks (is.map D.int))), (Str.ofString "_law_found", V.obj 0), (Str.ofString "_law_due", V.d (D.dict ks (qs.map pD))), (Str.ofString "_law_name", V.d (D.str (nm)))], [(false, MO.dict ks ((qs.map pD).map V.d))]) :=
  pathS (P := (getItemV [(false, MO.dict ks ((qs.map pD).map V.d))] (V.obj 0) (V.d (D.str (nm))) = some (V.d (D.tup [D.int (a), D.int (b)]))) ∧ (getItemV [(false, MO.dict ks ((qs.map pD).map V.d))] (V.d (D.dict ks (is.map D.int))) (V.d (D.str (nm))) = some (V.d (D.int (v)))) ∧ (some (decide (a ≤ v)) = some true) ∧ (getItemV [(false, MO.dict ks ((qs.map pD).map V.d))] (V.obj 0) (V.d (D.str (nm))) = some (V.d (D.tup [D.int (a), D.int (b)]))) ∧ (some (decide (v ≤ b)) = some true) ∧ ((Fl.next, [(Str.ofString "_law_told_here", V.d (td)), (Str.ofString "_law_known_here", V.d (kd)), (Str.ofString "_law_held_here", V.d (D.dict ks (is.map D.int))), (Str.ofString "_law_found", V.obj 0), (Str.ofString "_law_due", V.d (D.dict ks (qs.map pD))), (Str.ofString "_law_name", V.d (D.str (nm)))], [(false, MO.dict ks ((qs.map pD).map V.d))]) : Fl × Loc × St) = (Fl.next, [(Str.ofString "_law_told_here", V.d (td)), (Str.ofString "_law_known_here", V.d (kd)), (Str.ofString "_law_held_here", V.d (D.dict ks (is.map D.int))), (Str.ofString "_law_found", V.obj 0), (Str.ofString "_law_due", V.d (D.dict ks (qs.map pD))), (Str.ofString "_law_name", V.d (D.str (nm)))], [(false, MO.dict ks ((qs.map pD).map V.d))])) [(0, Tell.v (V.d (D.tup [D.int (a), D.int (b)]))), (2, Tell.v (V.d (D.int (v)))), (3, Tell.b true), (4, Tell.v (V.d (D.tup [D.int (a), D.int (b)]))), (6, Tell.b true)] (by kernel_rfl) ⟨h1, h2, dT h3, h1, dT h4, rfl⟩
theorem L09_good_NN_0 (d : Nat) (td kd : D) (ks : List Key) (is : List Int)  (hc1 : ∀ σ, callN B09 H09 (d + 8 + 1) (Str.ofString "kept") [V.d (td), V.d (kd)] σ = some (V.d (D.none), σ)) (hc2 : ∀ σ, callN B09 H09 (d + 8 + 1) (Str.ofString "_law_kept") [V.d (td), V.d (kd)] σ = some (V.d (D.none), σ)) (hc3 : ∀ σ, callN B09 H09 (d + 8 + 1) (Str.ofString "_law_holds") [V.d (td), V.d (D.dict ks (is.map D.int))] σ = some (V.d (D.none), σ)) (σ : St) : callN B09 H09 (d + 8 + 1 + 1) (Str.ofString "_law_good") [V.d (td), V.d (kd), V.d (D.dict ks (is.map D.int))] σ = some (V.d (D.bool (true)), σ) :=
  path (ds := [td, kd, D.dict ks (is.map D.int)]) (i := 38) (x := D.bool (true)) (P := (callN B09 H09 (d + 8 + 1) (Str.ofString "kept") [V.d (td), V.d (kd)] [] = some (V.d (D.none), [])) ∧ (callN B09 H09 (d + 8 + 1) (Str.ofString "_law_kept") [V.d (td), V.d (kd)] [] = some (V.d (D.none), [])) ∧ (callN B09 H09 (d + 8 + 1) (Str.ofString "_law_holds") [V.d (td), V.d (D.dict ks (is.map D.int))] [] = some (V.d (D.none), [])) ∧ some (D.bool (true)) = some (D.bool (true))) [(0, Tell.w (V.d (D.none)) []), (1, Tell.w (V.d (D.none)) []), (9, Tell.w (V.d (D.none)) [])] L09_f__law_good (L09_imp _) (by kernel_rfl) ⟨hc1 _, hc2 _, hc3 _, rfl⟩ σ
theorem L09_good_NF_0 (d : Nat) (td kd : D) (ks : List Key) (is : List Int)  (hc1 : ∀ σ, callN B09 H09 (d + 8 + 1) (Str.ofString "kept") [V.d (td), V.d (kd)] σ = some (V.d (D.none), σ)) (hc2 : ∀ σ, callN B09 H09 (d + 8 + 1) (Str.ofString "_law_kept") [V.d (td), V.d (kd)] σ = some (V.d (D.none), σ)) (hc3 : ∀ σ, callN B09 H09 (d + 8 + 1) (Str.ofString "_law_holds") [V.d (td), V.d (D.dict ks (is.map D.int))] σ = some (V.d (D.bool (false)), σ)) (σ : St) : callN B09 H09 (d + 8 + 1 + 1) (Str.ofString "_law_good") [V.d (td), V.d (kd), V.d (D.dict ks (is.map D.int))] σ = some (V.d (D.bool (true)), σ) :=
  path (ds := [td, kd, D.dict ks (is.map D.int)]) (i := 38) (x := D.bool (true)) (P := (callN B09 H09 (d + 8 + 1) (Str.ofString "kept") [V.d (td), V.d (kd)] [] = some (V.d (D.none), [])) ∧ (callN B09 H09 (d + 8 + 1) (Str.ofString "_law_kept") [V.d (td), V.d (kd)] [] = some (V.d (D.none), [])) ∧ (callN B09 H09 (d + 8 + 1) (Str.ofString "_law_holds") [V.d (td), V.d (D.dict ks (is.map D.int))] [] = some (V.d (D.bool (false)), [])) ∧ some (D.bool (true)) = some (D.bool (true))) [(0, Tell.w (V.d (D.none)) []), (1, Tell.w (V.d (D.none)) []), (9, Tell.w (V.d (D.bool (false))) [])] L09_f__law_good (L09_imp _) (by kernel_rfl) ⟨hc1 _, hc2 _, hc3 _, rfl⟩ σ
theorem L09_good_DN_0 (d : Nat) (td kd : D) (ks : List Key) (is : List Int) (qs : List (Int × Int))  (hc1 : ∀ σ, callN B09 H09 (d + 8 + 1) (Str.ofString "kept") [V.d (td), V.d (kd)] σ = some (V.d (D.dict ks (qs.map pD)), σ)) (hc2 : ∀ σ, callN B09 H09 (d + 8 + 1) (Str.ofString "_law_kept") [V.d (td), V.d (kd)] σ = some (V.d (D.dict ks (qs.map pD)), σ)) (hc3 : callN B09 H09 (d + 8 + 1) (Str.ofString "_law_same_dict") [V.obj 0, V.d (D.dict ks (qs.map pD))] [(false, MO.dict ks ((qs.map pD).map V.d))] = some (V.d (D.bool (true)), [(false, MO.dict ks ((qs.map pD).map V.d))])) (hc4 : ∀ σ, callN B09 H09 (d + 8 + 1) (Str.ofString "_law_holds") [V.d (td), V.d (D.dict ks (is.map D.int))] σ = some (V.d (D.none), σ)) (σ : St) : callN B09 H09 (d + 8 + 1 + 1) (Str.ofString "_law_good") [V.d (td), V.d (kd), V.d (D.dict ks (is.map D.int))] σ = some (V.d (D.bool (true)), σ) :=
  path (ds := [td, kd, D.dict ks (is.map D.int)]) (i := 38) (x := D.bool (true)) (P := (callN B09 H09 (d + 8 + 1) (Str.ofString "kept") [V.d (td), V.d (kd)] [] = some (V.d (D.dict ks (qs.map pD)), [])) ∧ (callN B09 H09 (d + 8 + 1) (Str.ofString "_law_kept") [V.d (td), V.d (kd)] [(false, MO.dict ks ((qs.map pD).map V.d))] = some (V.d (D.dict ks (qs.map pD)), [(false, MO.dict ks ((qs.map pD).map V.d))])) ∧ (callN B09 H09 (d + 8 + 1) (Str.ofString "_law_same_dict") [V.obj 0, V.d (D.dict ks (qs.map pD))] [(false, MO.dict ks ((qs.map pD).map V.d))] = some (V.d (D.bool (true)), [(false, MO.dict ks ((qs.map pD).map V.d))])) ∧ (callN B09 H09 (d + 8 + 1) (Str.ofString "_law_holds") [V.d (td), V.d (D.dict ks (is.map D.int))] [(false, MO.dict ks ((qs.map pD).map V.d))] = some (V.d (D.none), [(false, MO.dict ks ((qs.map pD).map V.d))])) ∧ some (D.bool (true)) = some (D.bool (true))) [(0, Tell.w (V.d (D.dict ks (qs.map pD))) []), (1, Tell.w (V.d (D.dict ks (qs.map pD))) [(false, MO.dict ks ((qs.map pD).map V.d))]), (7, Tell.w (V.d (D.bool (true))) [(false, MO.dict ks ((qs.map pD).map V.d))]), (10, Tell.w (V.d (D.none)) [(false, MO.dict ks ((qs.map pD).map V.d))])] L09_f__law_good (L09_imp _) (by kernel_rfl) ⟨hc1 _, hc2 _, hc3, hc4 _, rfl⟩ σ
theorem L09_good_DF_0 (d : Nat) (td kd : D) (ks : List Key) (is : List Int) (qs : List (Int × Int))  (hc1 : ∀ σ, callN B09 H09 (d + 8 + 1) (Str.ofString "kept") [V.d (td), V.d (kd)] σ = some (V.d (D.dict ks (qs.map pD)), σ)) (hc2 : ∀ σ, callN B09 H09 (d + 8 + 1) (Str.ofString "_law_kept") [V.d (td), V.d (kd)] σ = some (V.d (D.dict ks (qs.map pD)), σ)) (hc3 : callN B09 H09 (d + 8 + 1) (Str.ofString "_law_same_dict") [V.obj 0, V.d (D.dict ks (qs.map pD))] [(false, MO.dict ks ((qs.map pD).map V.d))] = some (V.d (D.bool (true)), [(false, MO.dict ks ((qs.map pD).map V.d))])) (hc4 : ∀ σ, callN B09 H09 (d + 8 + 1) (Str.ofString "_law_holds") [V.d (td), V.d (D.dict ks (is.map D.int))] σ = some (V.d (D.bool (false)), σ)) (σ : St) : callN B09 H09 (d + 8 + 1 + 1) (Str.ofString "_law_good") [V.d (td), V.d (kd), V.d (D.dict ks (is.map D.int))] σ = some (V.d (D.bool (true)), σ) :=
  path (ds := [td, kd, D.dict ks (is.map D.int)]) (i := 38) (x := D.bool (true)) (P := (callN B09 H09 (d + 8 + 1) (Str.ofString "kept") [V.d (td), V.d (kd)] [] = some (V.d (D.dict ks (qs.map pD)), [])) ∧ (callN B09 H09 (d + 8 + 1) (Str.ofString "_law_kept") [V.d (td), V.d (kd)] [(false, MO.dict ks ((qs.map pD).map V.d))] = some (V.d (D.dict ks (qs.map pD)), [(false, MO.dict ks ((qs.map pD).map V.d))])) ∧ (callN B09 H09 (d + 8 + 1) (Str.ofString "_law_same_dict") [V.obj 0, V.d (D.dict ks (qs.map pD))] [(false, MO.dict ks ((qs.map pD).map V.d))] = some (V.d (D.bool (true)), [(false, MO.dict ks ((qs.map pD).map V.d))])) ∧ (callN B09 H09 (d + 8 + 1) (Str.ofString "_law_holds") [V.d (td), V.d (D.dict ks (is.map D.int))] [(false, MO.dict ks ((qs.map pD).map V.d))] = some (V.d (D.bool (false)), [(false, MO.dict ks ((qs.map pD).map V.d))])) ∧ some (D.bool (true)) = some (D.bool (true))) [(0, Tell.w (V.d (D.dict ks (qs.map pD))) []), (1, Tell.w (V.d (D.dict ks (qs.map pD))) [(false, MO.dict ks ((qs.map pD).map V.d))]), (7, Tell.w (V.d (D.bool (true))) [(false, MO.dict ks ((qs.map pD).map V.d))]), (10, Tell.w (V.d (D.bool (false))) [(false, MO.dict ks ((qs.map pD).map V.d))])] L09_f__law_good (L09_imp _) (by kernel_rfl) ⟨hc1 _, hc2 _, hc3, hc4 _, rfl⟩ σ
theorem L09_good_DT_0 (d : Nat) (td kd : D) (ks : List Key) (is : List Int) (qs : List (Int × Int)) (vn : V)  (hc1 : ∀ σ, callN B09 H09 (d + 8 + 1) (Str.ofString "kept") [V.d (td), V.d (kd)] σ = some (V.d (D.dict ks (qs.map pD)), σ)) (hc2 : ∀ σ, callN B09 H09 (d + 8 + 1) (Str.ofString "_law_kept") [V.d (td), V.d (kd)] σ = some (V.d (D.dict ks (qs.map pD)), σ)) (hc3 : callN B09 H09 (d + 8 + 1) (Str.ofString "_law_same_dict") [V.obj 0, V.d (D.dict ks (qs.map pD))] [(false, MO.dict ks ((qs.map pD).map V.d))] = some (V.d (D.bool (true)), [(false, MO.dict ks ((qs.map pD).map V.d))])) (hc4 : ∀ σ, callN B09 H09 (d + 8 + 1) (Str.ofString "_law_holds") [V.d (td), V.d (D.dict ks (is.map D.int))] σ = some (V.d (D.bool (true)), σ)) (h1 : evS (gen B09 H09 (d + 8 + 1) (Str.ofString "_law_good")) (stAt B09 38 5) [(Str.ofString "_law_told_here", V.d (td)), (Str.ofString "_law_known_here", V.d (kd)), (Str.ofString "_law_held_here", V.d (D.dict ks (is.map D.int))), (Str.ofString "_law_found", V.obj 0), (Str.ofString "_law_due", V.d (D.dict ks (qs.map pD)))] [(false, MO.dict ks ((qs.map pD).map V.d))] = some (Fl.next, [(Str.ofString "_law_told_here", V.d (td)), (Str.ofString "_law_known_here", V.d (kd)), (Str.ofString "_law_held_here", V.d (D.dict ks (is.map D.int))), (Str.ofString "_law_found", V.obj 0), (Str.ofString "_law_due", V.d (D.dict ks (qs.map pD))), (Str.ofString "_law_name", vn)], [(false, MO.dict ks ((qs.map pD).map V.d))])) (h2 : methV [(false, MO.dict ks ((qs.map pD).map V.d))] .dclear (V.obj 0) [] = some (V.d D.none, [(false, MO.dict [] [])])) (σ : St) : callN B09 H09 (d + 8 + 1 + 1) (Str.ofString "_law_good") [V.d (td), V.d (kd), V.d (D.dict ks (is.map D.int))] σ = some (V.d (D.bool (true)), σ) :=
  path (ds := [td, kd, D.dict ks (is.map D.int)]) (i := 38) (x := D.bool (true)) (P := (callN B09 H09 (d + 8 + 1) (Str.ofString "kept") [V.d (td), V.d (kd)] [] = some (V.d (D.dict ks (qs.map pD)), [])) ∧ (callN B09 H09 (d + 8 + 1) (Str.ofString "_law_kept") [V.d (td), V.d (kd)] [(false, MO.dict ks ((qs.map pD).map V.d))] = some (V.d (D.dict ks (qs.map pD)), [(false, MO.dict ks ((qs.map pD).map V.d))])) ∧ (callN B09 H09 (d + 8 + 1) (Str.ofString "_law_same_dict") [V.obj 0, V.d (D.dict ks (qs.map pD))] [(false, MO.dict ks ((qs.map pD).map V.d))] = some (V.d (D.bool (true)), [(false, MO.dict ks ((qs.map pD).map V.d))])) ∧ (callN B09 H09 (d + 8 + 1) (Str.ofString "_law_holds") [V.d (td), V.d (D.dict ks (is.map D.int))] [(false, MO.dict ks ((qs.map pD).map V.d))] = some (V.d (D.bool (true)), [(false, MO.dict ks ((qs.map pD).map V.d))])) ∧ (evS (gen B09 H09 (d + 8 + 1) (Str.ofString "_law_good")) (stAt B09 38 5) [(Str.ofString "_law_told_here", V.d (td)), (Str.ofString "_law_known_here", V.d (kd)), (Str.ofString "_law_held_here", V.d (D.dict ks (is.map D.int))), (Str.ofString "_law_found", V.obj 0), (Str.ofString "_law_due", V.d (D.dict ks (qs.map pD)))] [(false, MO.dict ks ((qs.map pD).map V.d))] = some (Fl.next, [(Str.ofString "_law_told_here", V.d (td)), (Str.ofString "_law_known_here", V.d (kd)), (Str.ofString "_law_held_here", V.d (D.dict ks (is.map D.int))), (Str.ofString "_law_found", V.obj 0), (Str.ofString "_law_due", V.d (D.dict ks (qs.map pD))), (Str.ofString "_law_name", vn)], [(false, MO.dict ks ((qs.map pD).map V.d))])) ∧ (methV [(false, MO.dict ks ((qs.map pD).map V.d))] .dclear (V.obj 0) [] = some (V.d D.none, [(false, MO.dict [] [])])) ∧ some (D.bool (true)) = some (D.bool (true))) [(0, Tell.w (V.d (D.dict ks (qs.map pD))) []), (1, Tell.w (V.d (D.dict ks (qs.map pD))) [(false, MO.dict ks ((qs.map pD).map V.d))]), (7, Tell.w (V.d (D.bool (true))) [(false, MO.dict ks ((qs.map pD).map V.d))]), (10, Tell.w (V.d (D.bool (true))) [(false, MO.dict ks ((qs.map pD).map V.d))]), (15, Tell.f (Fl.next) [(Str.ofString "_law_told_here", V.d (td)), (Str.ofString "_law_known_here", V.d (kd)), (Str.ofString "_law_held_here", V.d (D.dict ks (is.map D.int))), (Str.ofString "_law_found", V.obj 0), (Str.ofString "_law_due", V.d (D.dict ks (qs.map pD))), (Str.ofString "_law_name", vn)] [(false, MO.dict ks ((qs.map pD).map V.d))]), (16, Tell.w (V.d D.none) [(false, MO.dict [] [])])] L09_f__law_good (L09_imp _) (by kernel_rfl) ⟨hc1 _, hc2 _, hc3, hc4 _, h1, h2, rfl⟩ σ
theorem L09_told_TTT (d : Nat) (scr : List Int) (ns : List Str) (ks : List Key) (ps : List (Int × Int)) (c : Int) (xs : List Int) (gs : Str) (l r : D) (qa qb : Int) (w12 : Int) (w13 : Int) (nm1 : Str) (w1 : Int) (w2 : Int) (hc1 : ∀ σ, callN B09 H09 (d + 8 + 1 + 1) (Str.ofString "_law_cell_at") [V.d (D.list (scr.map D.int)), V.d (D.int (2))] σ = some (V.d (D.int (c)), σ)) (hc2 : ∀ σ, callN B09 H09 (d + 8 + 1 + 1) (Str.ofString "_law_stream") [V.d (D.int (c)), V.d (D.int (14))] σ = some (V.d (D.list (xs.map D.int)), σ)) (hc3 : ∀ σ, callN B09 H09 (d + 8 + 1 + 1) (Str.ofString "_law_condition") [V.d (D.list (xs.map D.int)), V.d (D.list (ns.map D.str))] σ = some (V.d (D.tup [D.str (gs), l, r]), σ)) (h1 : idxL (xs.map D.int) (12) = some (D.int (w12))) (h2 : (w12 % 2) = 0) (h3 : idxL (xs.map D.int) (13) = some (D.int (w13))) (h4 : bfV [] .len [V.d (D.list (ns.map D.str))] = some (V.d (D.int (((List.length ns : Nat) : Int))))) (h5 : 0 < (((List.length ns : Nat) : Int))) (h6 : idxL (ns.map D.str) (w13 % (((List.length ns : Nat) : Int))) = some (D.str (nm1))) (h7 : getItemV [] (V.d (D.dict ks (ps.map pD))) (V.d (D.str (nm1))) = some (V.d (D.tup [D.int (qa), D.int (qb)]))) (h8 : idxL [D.int (qa), D.int (qb)] ((w13 / 12) % 2) = some (D.int (w1))) (h9 : idxL [D.int (0), D.int (0), D.int (-1), D.int (1)] ((w13 / 24) % 4) = some (D.int (w2))) (h10 : ((w13 / 96) % 4) > 0) (h11 : idxL [D.tup [D.str (gs), D.str (nm1), D.int (if (if (w1 + w2) > (-1000000) then w1 + w2 else -1000000) < 1000000 then if (w1 + w2) > (-1000000) then w1 + w2 else -1000000 else 1000000)], D.tup [D.str (gs), D.int (if (if (w1 + w2) > (-1000000) then w1 + w2 else -1000000) < 1000000 then if (w1 + w2) > (-1000000) then w1 + w2 else -1000000 else 1000000), D.str (nm1)]] ((w13 / 384) % 2) = some (D.tup [D.str (gs), D.str (nm1), D.int (if (if (w1 + w2) > (-1000000) then w1 + w2 else -1000000) < 1000000 then if (w1 + w2) > (-1000000) then w1 + w2 else -1000000 else 1000000)])) (σ : St) : callN B09 H09 (d + 8 + 1 + 1 + 1) (Str.ofString "_law_told") [V.d (D.list (scr.map D.int)), V.d (D.list (ns.map D.str)), V.d (D.dict ks (ps.map pD))] σ = some (V.d (D.tup [D.str (gs), D.str (nm1), D.int (if (if (w1 + w2) > (-1000000) then w1 + w2 else -1000000) < 1000000 then if (w1 + w2) > (-1000000) then w1 + w2 else -1000000 else 1000000)]), σ) :=
  path (ds := [D.list (scr.map D.int), D.list (ns.map D.str), D.dict ks (ps.map pD)]) (i := 37) (x := D.tup [D.str (gs), D.str (nm1), D.int (if (if (w1 + w2) > (-1000000) then w1 + w2 else -1000000) < 1000000 then if (w1 + w2) > (-1000000) then w1 + w2 else -1000000 else 1000000)]) (P := (callN B09 H09 (d + 8 + 1 + 1) (Str.ofString "_law_cell_at") [V.d (D.list (scr.map D.int)), V.d (D.int (2))] [] = some (V.d (D.int (c)), [])) ∧ (callN B09 H09 (d + 8 + 1 + 1) (Str.ofString "_law_stream") [V.d (D.int (c)), V.d (D.int (14))] [] = some (V.d (D.list (xs.map D.int)), [])) ∧ (callN B09 H09 (d + 8 + 1 + 1) (Str.ofString "_law_condition") [V.d (D.list (xs.map D.int)), V.d (D.list (ns.map D.str))] [] = some (V.d (D.tup [D.str (gs), l, r]), [])) ∧ (getItemV [] (V.d (D.list (xs.map D.int))) (V.d (D.int (12))) = some (V.d (D.int (w12)))) ∧ (some (decide ((w12 % 2) = 0)) = some true) ∧ (getItemV [] (V.d (D.list (xs.map D.int))) (V.d (D.int (13))) = some (V.d (D.int (w13)))) ∧ (bfV [] .len [V.d (D.list (ns.map D.str))] = some (V.d (D.int (((List.length ns : Nat) : Int))))) ∧ (binV [] .Mod (V.d (D.int (w13))) (V.d (D.int (((List.length ns : Nat) : Int)))) = some (V.d (D.int (w13 % (((List.length ns : Nat) : Int)))))) ∧ (getItemV [] (V.d (D.list (ns.map D.str))) (V.d (D.int (w13 % (((List.length ns : Nat) : Int))))) = some (V.d (D.str (nm1)))) ∧ (getItemV [] (V.d (D.dict ks (ps.map pD))) (V.d (D.str (nm1))) = some (V.d (D.tup [D.int (qa), D.int (qb)]))) ∧ (getItemV [] (V.d (D.list (xs.map D.int))) (V.d (D.int (13))) = some (V.d (D.int (w13)))) ∧ (getItemV [] (V.d (D.tup [D.int (qa), D.int (qb)])) (V.d (D.int ((w13 / 12) % 2))) = some (V.d (D.int (w1)))) ∧ (getItemV [] (V.d (D.list (xs.map D.int))) (V.d (D.int (13))) = some (V.d (D.int (w13)))) ∧ (getItemV [] (V.d (D.list [D.int (0), D.int (0), D.int (-1), D.int (1)])) (V.d (D.int ((w13 / 24) % 4))) = some (V.d (D.int (w2)))) ∧ (getItemV [] (V.d (D.list (xs.map D.int))) (V.d (D.int (13))) = some (V.d (D.int (w13)))) ∧ (some (decide (((w13 / 96) % 4) > 0)) = some true) ∧ (getItemV [] (V.d (D.list (xs.map D.int))) (V.d (D.int (13))) = some (V.d (D.int (w13)))) ∧ (getItemV [] (V.d (D.list [D.tup [D.str (gs), D.str (nm1), D.int (if (if (w1 + w2) > (-1000000) then w1 + w2 else -1000000) < 1000000 then if (w1 + w2) > (-1000000) then w1 + w2 else -1000000 else 1000000)], D.tup [D.str (gs), D.int (if (if (w1 + w2) > (-1000000) then w1 + w2 else -1000000) < 1000000 then if (w1 + w2) > (-1000000) then w1 + w2 else -1000000 else 1000000), D.str (nm1)]])) (V.d (D.int ((w13 / 384) % 2))) = some (V.d (D.tup [D.str (gs), D.str (nm1), D.int (if (if (w1 + w2) > (-1000000) then w1 + w2 else -1000000) < 1000000 then if (w1 + w2) > (-1000000) then w1 + w2 else -1000000 else 1000000)]))) ∧ some (D.tup [D.str (gs), D.str (nm1), D.int (if (if (w1 + w2) > (-1000000) then w1 + w2 else -1000000) < 1000000 then if (w1 + w2) > (-1000000) then w1 + w2 else -1000000 else 1000000)]) = some (D.tup [D.str (gs), D.str (nm1), D.int (if (if (w1 + w2) > (-1000000) then w1 + w2 else -1000000) < 1000000 then if (w1 + w2) > (-1000000) then w1 + w2 else -1000000 else 1000000)])) [(0, Tell.w (V.d (D.int (c))) []), (1, Tell.w (V.d (D.list (xs.map D.int))) []), (2, Tell.w (V.d (D.tup [D.str (gs), l, r])) []), (3, Tell.v (V.d (D.int (w12)))), (5, Tell.b true), (7, Tell.v (V.d (D.int (w13)))), (8, Tell.v (V.d (D.int (((List.length ns : Nat) : Int))))), (9, Tell.v (V.d (D.int (w13 % (((List.length ns : Nat) : Int)))))), (10, Tell.v (V.d (D.str (nm1)))), (11, Tell.v (V.d (D.tup [D.int (qa), D.int (qb)]))), (12, Tell.v (V.d (D.int (w13)))), (15, Tell.v (V.d (D.int (w1)))), (17, Tell.v (V.d (D.int (w13)))), (20, Tell.v (V.d (D.int (w2)))), (25, Tell.v (V.d (D.int (w13)))), (28, Tell.b true), (34, Tell.v (V.d (D.int (w13)))), (37, Tell.v (V.d (D.tup [D.str (gs), D.str (nm1), D.int (if (if (w1 + w2) > (-1000000) then w1 + w2 else -1000000) < 1000000 then if (w1 + w2) > (-1000000) then w1 + w2 else -1000000 else 1000000)])))] L09_f__law_told (L09_imp _) (by kernel_rfl) ⟨hc1 _, hc2 _, hc3 _, idx_list h1, dT h2, idx_list h3, h4, mod_ok h5, idx_list h6, h7, idx_list h3, idx_tup h8, idx_list h3, idx_list h9, idx_list h3, dT h10, idx_list h3, idx_list h11, rfl⟩ σ
theorem L09_told_F (d : Nat) (scr : List Int) (ns : List Str) (ks : List Key) (ps : List (Int × Int)) (c : Int) (xs : List Int) (gs : Str) (l r : D) (qa qb : Int) (w12 : Int) (hc1 : ∀ σ, callN B09 H09 (d + 8 + 1 + 1) (Str.ofString "_law_cell_at") [V.d (D.list (scr.map D.int)), V.d (D.int (2))] σ = some (V.d (D.int (c)), σ)) (hc2 : ∀ σ, callN B09 H09 (d + 8 + 1 + 1) (Str.ofString "_law_stream") [V.d (D.int (c)), V.d (D.int (14))] σ = some (V.d (D.list (xs.map D.int)), σ)) (hc3 : ∀ σ, callN B09 H09 (d + 8 + 1 + 1) (Str.ofString "_law_condition") [V.d (D.list (xs.map D.int)), V.d (D.list (ns.map D.str))] σ = some (V.d (D.tup [D.str (gs), l, r]), σ)) (h1 : idxL (xs.map D.int) (12) = some (D.int (w12))) (h2 : ¬ ((w12 % 2) = 0)) (σ : St) : callN B09 H09 (d + 8 + 1 + 1 + 1) (Str.ofString "_law_told") [V.d (D.list (scr.map D.int)), V.d (D.list (ns.map D.str)), V.d (D.dict ks (ps.map pD))] σ = some (V.d (D.tup [D.str (gs), l, r]), σ) :=
  path (ds := [D.list (scr.map D.int), D.list (ns.map D.str), D.dict ks (ps.map pD)]) (i := 37) (x := D.tup [D.str (gs), l, r]) (P := (callN B09 H09 (d + 8 + 1 + 1) (Str.ofString "_law_cell_at") [V.d (D.list (scr.map D.int)), V.d (D.int (2))] [] = some (V.d (D.int (c)), [])) ∧ (callN B09 H09 (d + 8 + 1 + 1) (Str.ofString "_law_stream") [V.d (D.int (c)), V.d (D.int (14))] [] = some (V.d (D.list (xs.map D.int)), [])) ∧ (callN B09 H09 (d + 8 + 1 + 1) (Str.ofString "_law_condition") [V.d (D.list (xs.map D.int)), V.d (D.list (ns.map D.str))] [] = some (V.d (D.tup [D.str (gs), l, r]), [])) ∧ (getItemV [] (V.d (D.list (xs.map D.int))) (V.d (D.int (12))) = some (V.d (D.int (w12)))) ∧ (some (decide ((w12 % 2) = 0)) = some false) ∧ some (D.tup [D.str (gs), l, r]) = some (D.tup [D.str (gs), l, r])) [(0, Tell.w (V.d (D.int (c))) []), (1, Tell.w (V.d (D.list (xs.map D.int))) []), (2, Tell.w (V.d (D.tup [D.str (gs), l, r])) []), (3, Tell.v (V.d (D.int (w12)))), (5, Tell.b false)] L09_f__law_told (L09_imp _) (by kernel_rfl) ⟨hc1 _, hc2 _, hc3 _, idx_list h1, dF h2, rfl⟩ σ
theorem L09_told_TFT (d : Nat) (scr : List Int) (ns : List Str) (ks : List Key) (ps : List (Int × Int)) (c : Int) (xs : List Int) (gs : Str) (l r : D) (qa qb : Int) (w12 : Int) (w13 : Int) (nm1 : Str) (w1 : Int) (w2 : Int) (hc1 : ∀ σ, callN B09 H09 (d + 8 + 1 + 1) (Str.ofString "_law_cell_at") [V.d (D.list (scr.map D.int)), V.d (D.int (2))] σ = some (V.d (D.int (c)), σ)) (hc2 : ∀ σ, callN B09 H09 (d + 8 + 1 + 1) (Str.ofString "_law_stream") [V.d (D.int (c)), V.d (D.int (14))] σ = some (V.d (D.list (xs.map D.int)), σ)) (hc3 : ∀ σ, callN B09 H09 (d + 8 + 1 + 1) (Str.ofString "_law_condition") [V.d (D.list (xs.map D.int)), V.d (D.list (ns.map D.str))] σ = some (V.d (D.tup [D.str (gs), l, r]), σ)) (h1 : idxL (xs.map D.int) (12) = some (D.int (w12))) (h2 : (w12 % 2) = 0) (h3 : idxL (xs.map D.int) (13) = some (D.int (w13))) (h4 : bfV [] .len [V.d (D.list (ns.map D.str))] = some (V.d (D.int (((List.length ns : Nat) : Int))))) (h5 : 0 < (((List.length ns : Nat) : Int))) (h6 : idxL (ns.map D.str) (w13 % (((List.length ns : Nat) : Int))) = some (D.str (nm1))) (h7 : getItemV [] (V.d (D.dict ks (ps.map pD))) (V.d (D.str (nm1))) = some (V.d (D.tup [D.int (qa), D.int (qb)]))) (h8 : idxL [D.int (qa), D.int (qb)] ((w13 / 12) % 2) = some (D.int (w1))) (h9 : idxL [D.int (0), D.int (0), D.int (-1), D.int (1)] ((w13 / 24) % 4) = some (D.int (w2))) (h10 : ¬ (((w13 / 96) % 4) > 0)) (h11 : idxL [D.tup [D.str (gs), D.str (nm1), D.str (nm1)], D.tup [D.str (gs), D.str (nm1), D.str (nm1)]] ((w13 / 384) % 2) = some (D.tup [D.str (gs), D.str (nm1), D.str (nm1)])) (σ : St) : callN B09 H09 (d + 8 + 1 + 1 + 1) (Str.ofString "_law_told") [V.d (D.list (scr.map D.int)), V.d (D.list (ns.map D.str)), V.d (D.dict ks (ps.map pD))] σ = some (V.d (D.tup [D.str (gs), D.str (nm1), D.str (nm1)]), σ) :=
  path (ds := [D.list (scr.map D.int), D.list (ns.map D.str), D.dict ks (ps.map pD)]) (i := 37) (x := D.tup [D.str (gs), D.str (nm1), D.str (nm1)]) (P := (callN B09 H09 (d + 8 + 1 + 1) (Str.ofString "_law_cell_at") [V.d (D.list (scr.map D.int)), V.d (D.int (2))] [] = some (V.d (D.int (c)), [])) ∧ (callN B09 H09 (d + 8 + 1 + 1) (Str.ofString "_law_stream") [V.d (D.int (c)), V.d (D.int (14))] [] = some (V.d (D.list (xs.map D.int)), [])) ∧ (callN B09 H09 (d + 8 + 1 + 1) (Str.ofString "_law_condition") [V.d (D.list (xs.map D.int)), V.d (D.list (ns.map D.str))] [] = some (V.d (D.tup [D.str (gs), l, r]), [])) ∧ (getItemV [] (V.d (D.list (xs.map D.int))) (V.d (D.int (12))) = some (V.d (D.int (w12)))) ∧ (some (decide ((w12 % 2) = 0)) = some true) ∧ (getItemV [] (V.d (D.list (xs.map D.int))) (V.d (D.int (13))) = some (V.d (D.int (w13)))) ∧ (bfV [] .len [V.d (D.list (ns.map D.str))] = some (V.d (D.int (((List.length ns : Nat) : Int))))) ∧ (binV [] .Mod (V.d (D.int (w13))) (V.d (D.int (((List.length ns : Nat) : Int)))) = some (V.d (D.int (w13 % (((List.length ns : Nat) : Int)))))) ∧ (getItemV [] (V.d (D.list (ns.map D.str))) (V.d (D.int (w13 % (((List.length ns : Nat) : Int))))) = some (V.d (D.str (nm1)))) ∧ (getItemV [] (V.d (D.dict ks (ps.map pD))) (V.d (D.str (nm1))) = some (V.d (D.tup [D.int (qa), D.int (qb)]))) ∧ (getItemV [] (V.d (D.list (xs.map D.int))) (V.d (D.int (13))) = some (V.d (D.int (w13)))) ∧ (getItemV [] (V.d (D.tup [D.int (qa), D.int (qb)])) (V.d (D.int ((w13 / 12) % 2))) = some (V.d (D.int (w1)))) ∧ (getItemV [] (V.d (D.list (xs.map D.int))) (V.d (D.int (13))) = some (V.d (D.int (w13)))) ∧ (getItemV [] (V.d (D.list [D.int (0), D.int (0), D.int (-1), D.int (1)])) (V.d (D.int ((w13 / 24) % 4))) = some (V.d (D.int (w2)))) ∧ (getItemV [] (V.d (D.list (xs.map D.int))) (V.d (D.int (13))) = some (V.d (D.int (w13)))) ∧ (some (decide (((w13 / 96) % 4) > 0)) = some false) ∧ (getItemV [] (V.d (D.list (xs.map D.int))) (V.d (D.int (13))) = some (V.d (D.int (w13)))) ∧ (getItemV [] (V.d (D.list [D.tup [D.str (gs), D.str (nm1), D.str (nm1)], D.tup [D.str (gs), D.str (nm1), D.str (nm1)]])) (V.d (D.int ((w13 / 384) % 2))) = some (V.d (D.tup [D.str (gs), D.str (nm1), D.str (nm1)]))) ∧ some (D.tup [D.str (gs), D.str (nm1), D.str (nm1)]) = some (D.tup [D.str (gs), D.str (nm1), D.str (nm1)])) [(0, Tell.w (V.d (D.int (c))) []), (1, Tell.w (V.d (D.list (xs.map D.int))) []), (2, Tell.w (V.d (D.tup [D.str (gs), l, r])) []), (3, Tell.v (V.d (D.int (w12)))), (5, Tell.b true), (7, Tell.v (V.d (D.int (w13)))), (8, Tell.v (V.d (D.int (((List.length ns : Nat) : Int))))), (9, Tell.v (V.d (D.int (w13 % (((List.length ns : Nat) : Int)))))), (10, Tell.v (V.d (D.str (nm1)))), (11, Tell.v (V.d (D.tup [D.int (qa), D.int (qb)]))), (12, Tell.v (V.d (D.int (w13)))), (15, Tell.v (V.d (D.int (w1)))), (17, Tell.v (V.d (D.int (w13)))), (20, Tell.v (V.d (D.int (w2)))), (25, Tell.v (V.d (D.int (w13)))), (28, Tell.b false), (34, Tell.v (V.d (D.int (w13)))), (37, Tell.v (V.d (D.tup [D.str (gs), D.str (nm1), D.str (nm1)])))] L09_f__law_told (L09_imp _) (by kernel_rfl) ⟨hc1 _, hc2 _, hc3 _, idx_list h1, dT h2, idx_list h3, h4, mod_ok h5, idx_list h6, h7, idx_list h3, idx_tup h8, idx_list h3, idx_list h9, idx_list h3, dF h10, idx_list h3, idx_list h11, rfl⟩ σ
theorem L09_told_TTF (d : Nat) (scr : List Int) (ns : List Str) (ks : List Key) (ps : List (Int × Int)) (c : Int) (xs : List Int) (gs : Str) (l r : D) (qa qb : Int) (w12 : Int) (w13 : Int) (nm1 : Str) (w1 : Int) (w2 : Int) (hc1 : ∀ σ, callN B09 H09 (d + 8 + 1 + 1) (Str.ofString "_law_cell_at") [V.d (D.list (scr.map D.int)), V.d (D.int (2))] σ = some (V.d (D.int (c)), σ)) (hc2 : ∀ σ, callN B09 H09 (d + 8 + 1 + 1) (Str.ofString "_law_stream") [V.d (D.int (c)), V.d (D.int (14))] σ = some (V.d (D.list (xs.map D.int)), σ)) (hc3 : ∀ σ, callN B09 H09 (d + 8 + 1 + 1) (Str.ofString "_law_condition") [V.d (D.list (xs.map D.int)), V.d (D.list (ns.map D.str))] σ = some (V.d (D.tup [D.str (gs), l, r]), σ)) (h1 : idxL (xs.map D.int) (12) = some (D.int (w12))) (h2 : (w12 % 2) = 0) (h3 : idxL (xs.map D.int) (13) = some (D.int (w13))) (h4 : bfV [] .len [V.d (D.list (ns.map D.str))] = some (V.d (D.int (((List.length ns : Nat) : Int))))) (h5 : 0 < (((List.length ns : Nat) : Int))) (h6 : idxL (ns.map D.str) (w13 % (((List.length ns : Nat) : Int))) = some (D.str (nm1))) (h7 : getItemV [] (V.d (D.dict ks (ps.map pD))) (V.d (D.str (nm1))) = some (V.d (D.tup [D.int (qa), D.int (qb)]))) (h8 : idxL [D.int (qa), D.int (qb)] ((w13 / 12) % 2) = some (D.int (w1))) (h9 : idxL [D.int (0), D.int (0), D.int (-1), D.int (1)] ((w13 / 24) % 4) = some (D.int (w2))) (h10 : ((w13 / 96) % 4) > 0) (h11 : idxL [D.tup [D.str (gs), D.str (nm1), D.int (if (if (w1 + w2) > (-1000000) then w1 + w2 else -1000000) < 1000000 then if (w1 + w2) > (-1000000) then w1 + w2 else -1000000 else 1000000)], D.tup [D.str (gs), D.int (if (if (w1 + w2) > (-1000000) then w1 + w2 else -1000000) < 1000000 then if (w1 + w2) > (-1000000) then w1 + w2 else -1000000 else 1000000), D.str (nm1)]] ((w13 / 384) % 2) = some (D.tup [D.str (gs), D.int (if (if (w1 + w2) > (-1000000) then w1 + w2 else -1000000) < 1000000 then if (w1 + w2) > (-1000000) then w1 + w2 else -1000000 else 1000000), D.str (nm1)])) (σ : St) : callN B09 H09 (d + 8 + 1 + 1 + 1) (Str.ofString "_law_told") [V.d (D.list (scr.map D.int)), V.d (D.list (ns.map D.str)), V.d (D.dict ks (ps.map pD))] σ = some (V.d (D.tup [D.str (gs), D.int (if (if (w1 + w2) > (-1000000) then w1 + w2 else -1000000) < 1000000 then if (w1 + w2) > (-1000000) then w1 + w2 else -1000000 else 1000000), D.str (nm1)]), σ) :=
  path (ds := [D.list (scr.map D.int), D.list (ns.map D.str), D.dict ks (ps.map pD)]) (i := 37) (x := D.tup [D.str (gs), D.int (if (if (w1 + w2) > (-1000000) then w1 + w2 else -1000000) < 1000000 then if (w1 + w2) > (-1000000) then w1 + w2 else -1000000 else 1000000), D.str (nm1)]) (P := (callN B09 H09 (d + 8 + 1 + 1) (Str.ofString "_law_cell_at") [V.d (D.list (scr.map D.int)), V.d (D.int (2))] [] = some (V.d (D.int (c)), [])) ∧ (callN B09 H09 (d + 8 + 1 + 1) (Str.ofString "_law_stream") [V.d (D.int (c)), V.d (D.int (14))] [] = some (V.d (D.list (xs.map D.int)), [])) ∧ (callN B09 H09 (d + 8 + 1 + 1) (Str.ofString "_law_condition") [V.d (D.list (xs.map D.int)), V.d (D.list (ns.map D.str))] [] = some (V.d (D.tup [D.str (gs), l, r]), [])) ∧ (getItemV [] (V.d (D.list (xs.map D.int))) (V.d (D.int (12))) = some (V.d (D.int (w12)))) ∧ (some (decide ((w12 % 2) = 0)) = some true) ∧ (getItemV [] (V.d (D.list (xs.map D.int))) (V.d (D.int (13))) = some (V.d (D.int (w13)))) ∧ (bfV [] .len [V.d (D.list (ns.map D.str))] = some (V.d (D.int (((List.length ns : Nat) : Int))))) ∧ (binV [] .Mod (V.d (D.int (w13))) (V.d (D.int (((List.length ns : Nat) : Int)))) = some (V.d (D.int (w13 % (((List.length ns : Nat) : Int)))))) ∧ (getItemV [] (V.d (D.list (ns.map D.str))) (V.d (D.int (w13 % (((List.length ns : Nat) : Int))))) = some (V.d (D.str (nm1)))) ∧ (getItemV [] (V.d (D.dict ks (ps.map pD))) (V.d (D.str (nm1))) = some (V.d (D.tup [D.int (qa), D.int (qb)]))) ∧ (getItemV [] (V.d (D.list (xs.map D.int))) (V.d (D.int (13))) = some (V.d (D.int (w13)))) ∧ (getItemV [] (V.d (D.tup [D.int (qa), D.int (qb)])) (V.d (D.int ((w13 / 12) % 2))) = some (V.d (D.int (w1)))) ∧ (getItemV [] (V.d (D.list (xs.map D.int))) (V.d (D.int (13))) = some (V.d (D.int (w13)))) ∧ (getItemV [] (V.d (D.list [D.int (0), D.int (0), D.int (-1), D.int (1)])) (V.d (D.int ((w13 / 24) % 4))) = some (V.d (D.int (w2)))) ∧ (getItemV [] (V.d (D.list (xs.map D.int))) (V.d (D.int (13))) = some (V.d (D.int (w13)))) ∧ (some (decide (((w13 / 96) % 4) > 0)) = some true) ∧ (getItemV [] (V.d (D.list (xs.map D.int))) (V.d (D.int (13))) = some (V.d (D.int (w13)))) ∧ (getItemV [] (V.d (D.list [D.tup [D.str (gs), D.str (nm1), D.int (if (if (w1 + w2) > (-1000000) then w1 + w2 else -1000000) < 1000000 then if (w1 + w2) > (-1000000) then w1 + w2 else -1000000 else 1000000)], D.tup [D.str (gs), D.int (if (if (w1 + w2) > (-1000000) then w1 + w2 else -1000000) < 1000000 then if (w1 + w2) > (-1000000) then w1 + w2 else -1000000 else 1000000), D.str (nm1)]])) (V.d (D.int ((w13 / 384) % 2))) = some (V.d (D.tup [D.str (gs), D.int (if (if (w1 + w2) > (-1000000) then w1 + w2 else -1000000) < 1000000 then if (w1 + w2) > (-1000000) then w1 + w2 else -1000000 else 1000000), D.str (nm1)]))) ∧ some (D.tup [D.str (gs), D.int (if (if (w1 + w2) > (-1000000) then w1 + w2 else -1000000) < 1000000 then if (w1 + w2) > (-1000000) then w1 + w2 else -1000000 else 1000000), D.str (nm1)]) = some (D.tup [D.str (gs), D.int (if (if (w1 + w2) > (-1000000) then w1 + w2 else -1000000) < 1000000 then if (w1 + w2) > (-1000000) then w1 + w2 else -1000000 else 1000000), D.str (nm1)])) [(0, Tell.w (V.d (D.int (c))) []), (1, Tell.w (V.d (D.list (xs.map D.int))) []), (2, Tell.w (V.d (D.tup [D.str (gs), l, r])) []), (3, Tell.v (V.d (D.int (w12)))), (5, Tell.b true), (7, Tell.v (V.d (D.int (w13)))), (8, Tell.v (V.d (D.int (((List.length ns : Nat) : Int))))), (9, Tell.v (V.d (D.int (w13 % (((List.length ns : Nat) : Int)))))), (10, Tell.v (V.d (D.str (nm1)))), (11, Tell.v (V.d (D.tup [D.int (qa), D.int (qb)]))), (12, Tell.v (V.d (D.int (w13)))), (15, Tell.v (V.d (D.int (w1)))), (17, Tell.v (V.d (D.int (w13)))), (20, Tell.v (V.d (D.int (w2)))), (25, Tell.v (V.d (D.int (w13)))), (28, Tell.b true), (34, Tell.v (V.d (D.int (w13)))), (37, Tell.v (V.d (D.tup [D.str (gs), D.int (if (if (w1 + w2) > (-1000000) then w1 + w2 else -1000000) < 1000000 then if (w1 + w2) > (-1000000) then w1 + w2 else -1000000 else 1000000), D.str (nm1)])))] L09_f__law_told (L09_imp _) (by kernel_rfl) ⟨hc1 _, hc2 _, hc3 _, idx_list h1, dT h2, idx_list h3, h4, mod_ok h5, idx_list h6, h7, idx_list h3, idx_tup h8, idx_list h3, idx_list h9, idx_list h3, dT h10, idx_list h3, idx_list h11, rfl⟩ σ
theorem L09_law_N_0 (d : Nat) (scr : List Int) (c0 c1 c3 x0 x1 x2 y0 : Int) (ns : List Str) (gs hs : Str) (l r l' r' : D) (ks : List Key) (ps : List (Int × Int)) (is : List Int) (w1 : Int) (hc1 : ∀ σ, callN B09 H09 (d + 11) (Str.ofString "_law_cell_at") [V.d (D.list (scr.map D.int)), V.d (D.int (0))] σ = some (V.d (D.int (c0)), σ)) (hc2 : ∀ σ, callN B09 H09 (d + 11) (Str.ofString "_law_stream") [V.d (D.int (c0)), V.d (D.int (3))] σ = some (V.d (D.list [D.int (x0), D.int (x1), D.int (x2)]), σ)) (h1 : idxL [D.int (1 + (x1 % 3)), D.int (12)] (if decide (((x1 / 3) % 8) = 0) then 1 else 0) = some (D.int (w1))) (hc3 : ∀ σ, callN B09 H09 (d + 11) (Str.ofString "_law_names") [V.d (D.int (x0)), V.d (D.int (w1))] σ = some (V.d (D.list (ns.map D.str)), σ)) (hc4 : ∀ σ, callN B09 H09 (d + 11) (Str.ofString "_law_cell_at") [V.d (D.list (scr.map D.int)), V.d (D.int (1))] σ = some (V.d (D.int (c1)), σ)) (hc5 : ∀ σ, callN B09 H09 (d + 11) (Str.ofString "_law_stream") [V.d (D.int (c1)), V.d (D.int (1))] σ = some (V.d (D.list [D.int (y0)]), σ)) (hc6 : ∀ σ, callN B09 H09 (d + 11) (Str.ofString "_law_known") [V.d (D.list [D.int (y0)]), V.d (D.list (ns.map D.str))] σ = some (V.d (D.dict ks (ps.map pD)), σ)) (hc7 : ∀ σ, callN B09 H09 (d + 11) (Str.ofString "_law_cell_at") [V.d (D.list (scr.map D.int)), V.d (D.int (3))] σ = some (V.d (D.int (c3)), σ)) (hc8 : ∀ σ, callN B09 H09 (d + 11) (Str.ofString "_law_held") [V.d (D.dict ks (ps.map pD)), V.d (D.int (c3 % 2147483647))] σ = some (V.d (D.dict ks (is.map D.int)), σ)) (hc9 : ∀ σ, callN B09 H09 (d + 11) (Str.ofString "_law_told") [V.d (D.list (scr.map D.int)), V.d (D.list (ns.map D.str)), V.d (D.dict ks (ps.map pD))] σ = some (V.d (D.tup [D.str (gs), l, r]), σ)) (h2 : bfV [] .dict [V.d (D.dict ks (ps.map pD))] = some (V.d (D.dict ks (ps.map pD)))) (hc10 : ∀ σ, callN B09 H09 (d + 11) (Str.ofString "contrary") [V.d (D.tup [D.str (gs), l, r])] σ = some (V.d (D.tup [D.str (hs), l', r']), σ)) (hc11 : ∀ σ, callN B09 H09 (d + 11) (Str.ofString "_law_contrary") [V.d (D.tup [D.str (gs), l, r])] σ = some (V.d (D.tup [D.str (hs), l', r']), σ)) (h3 : cmpV [] .NotEq (V.d (D.tup [D.str (hs), l', r'])) (V.d (D.tup [D.str (hs), l', r'])) = some (false)) (hc12 : ∀ σ, callN B09 H09 (d + 11) (Str.ofString "_law_good") [V.d (D.tup [D.str (gs), l, r]), V.d (D.dict ks (ps.map pD)), V.d (D.dict ks (is.map D.int))] σ = some (V.d (D.bool (true)), σ)) (hc13 : ∀ σ, callN B09 H09 (d + 11) (Str.ofString "_law_good") [V.d (D.tup [D.str (hs), l', r']), V.d (D.dict ks (ps.map pD)), V.d (D.dict ks (is.map D.int))] σ = some (V.d (D.bool (true)), σ)) (hc14 : ∀ σ, callN B09 H09 (d + 11) (Str.ofString "_law_holds") [V.d (D.tup [D.str (gs), l, r]), V.d (D.dict ks (is.map D.int))] σ = some (V.d (D.none), σ)) (h4 : cmpV [] .Eq (V.d (D.dict ks (ps.map pD))) (V.d (D.dict ks (ps.map pD))) = some (true)) (σ : St) : callN B09 H09 (d + 11 + 1) (Str.ofString "law") [V.d (D.list (scr.map D.int))] σ = some (V.d (D.bool (true)), σ) :=
  path (ds := [D.list (scr.map D.int)]) (i := 39) (x := D.bool (true)) (P := (callN B09 H09 (d + 11) (Str.ofString "_law_cell_at") [V.d (D.list (scr.map D.int)), V.d (D.int (0))] [] = some (V.d (D.int (c0)), [])) ∧ (callN B09 H09 (d + 11) (Str.ofString "_law_stream") [V.d (D.int (c0)), V.d (D.int (3))] [] = some (V.d (D.list [D.int (x0), D.int (x1), D.int (x2)]), [])) ∧ (getItemV [] (V.d (D.list [D.int (1 + (x1 % 3)), D.int (12)])) (V.d (D.int (if decide (((x1 / 3) % 8) = 0) then 1 else 0))) = some (V.d (D.int (w1)))) ∧ (callN B09 H09 (d + 11) (Str.ofString "_law_names") [V.d (D.int (x0)), V.d (D.int (w1))] [] = some (V.d (D.list (ns.map D.str)), [])) ∧ (callN B09 H09 (d + 11) (Str.ofString "_law_cell_at") [V.d (D.list (scr.map D.int)), V.d (D.int (1))] [] = some (V.d (D.int (c1)), [])) ∧ (callN B09 H09 (d + 11) (Str.ofString "_law_stream") [V.d (D.int (c1)), V.d (D.int (1))] [] = some (V.d (D.list [D.int (y0)]), [])) ∧ (callN B09 H09 (d + 11) (Str.ofString "_law_known") [V.d (D.list [D.int (y0)]), V.d (D.list (ns.map D.str))] [] = some (V.d (D.dict ks (ps.map pD)), [])) ∧ (callN B09 H09 (d + 11) (Str.ofString "_law_cell_at") [V.d (D.list (scr.map D.int)), V.d (D.int (3))] [] = some (V.d (D.int (c3)), [])) ∧ (callN B09 H09 (d + 11) (Str.ofString "_law_held") [V.d (D.dict ks (ps.map pD)), V.d (D.int (c3 % 2147483647))] [] = some (V.d (D.dict ks (is.map D.int)), [])) ∧ (callN B09 H09 (d + 11) (Str.ofString "_law_told") [V.d (D.list (scr.map D.int)), V.d (D.list (ns.map D.str)), V.d (D.dict ks (ps.map pD))] [] = some (V.d (D.tup [D.str (gs), l, r]), [])) ∧ (bfV [] .dict [V.d (D.dict ks (ps.map pD))] = some (V.d (D.dict ks (ps.map pD)))) ∧ (callN B09 H09 (d + 11) (Str.ofString "contrary") [V.d (D.tup [D.str (gs), l, r])] [] = some (V.d (D.tup [D.str (hs), l', r']), [])) ∧ (callN B09 H09 (d + 11) (Str.ofString "_law_contrary") [V.d (D.tup [D.str (gs), l, r])] [] = some (V.d (D.tup [D.str (hs), l', r']), [])) ∧ (cmpV [] .NotEq (V.d (D.tup [D.str (hs), l', r'])) (V.d (D.tup [D.str (hs), l', r'])) = some (false)) ∧ (callN B09 H09 (d + 11) (Str.ofString "_law_good") [V.d (D.tup [D.str (gs), l, r]), V.d (D.dict ks (ps.map pD)), V.d (D.dict ks (is.map D.int))] [] = some (V.d (D.bool (true)), [])) ∧ (callN B09 H09 (d + 11) (Str.ofString "_law_good") [V.d (D.tup [D.str (hs), l', r']), V.d (D.dict ks (ps.map pD)), V.d (D.dict ks (is.map D.int))] [] = some (V.d (D.bool (true)), [])) ∧ (callN B09 H09 (d + 11) (Str.ofString "_law_holds") [V.d (D.tup [D.str (gs), l, r]), V.d (D.dict ks (is.map D.int))] [] = some (V.d (D.none), [])) ∧ (cmpV [] .Eq (V.d (D.dict ks (ps.map pD))) (V.d (D.dict ks (ps.map pD))) = some (true)) ∧ some (D.bool (true)) = some (D.bool (true))) [(0, Tell.w (V.d (D.int (c0))) []), (1, Tell.w (V.d (D.list [D.int (x0), D.int (x1), D.int (x2)])) []), (12, Tell.v (V.d (D.int (w1)))), (13, Tell.w (V.d (D.list (ns.map D.str))) []), (14, Tell.w (V.d (D.int (c1))) []), (15, Tell.w (V.d (D.list [D.int (y0)])) []), (16, Tell.w (V.d (D.dict ks (ps.map pD))) []), (17, Tell.w (V.d (D.int (c3))) []), (19, Tell.w (V.d (D.dict ks (is.map D.int))) []), (20, Tell.w (V.d (D.tup [D.str (gs), l, r])) []), (21, Tell.v (V.d (D.dict ks (ps.map pD)))), (22, Tell.w (V.d (D.tup [D.str (hs), l', r'])) []), (26, Tell.w (V.d (D.tup [D.str (hs), l', r'])) []), (27, Tell.b (false)), (29, Tell.w (V.d (D.bool (true))) []), (32, Tell.w (V.d (D.bool (true))) []), (35, Tell.w (V.d (D.none)) []), (39, Tell.b (true))] L09_f_law (L09_imp _) (by kernel_rfl) ⟨hc1 _, hc2 _, idx_list h1, hc3 _, hc4 _, hc5 _, hc6 _, hc7 _, hc8 _, hc9 _, h2, hc10 _, hc11 _, h3, hc12 _, hc13 _, hc14 _, h4, rfl⟩ σ
theorem L09_law_B_F (d : Nat) (scr : List Int) (c0 c1 c3 x0 x1 x2 y0 : Int) (ns : List Str) (gs hs : Str) (l r l' r' : D) (ks : List Key) (ps : List (Int × Int)) (is : List Int) (b1 b2 : Bool) (w1 : Int) (hc1 : ∀ σ, callN B09 H09 (d + 11) (Str.ofString "_law_cell_at") [V.d (D.list (scr.map D.int)), V.d (D.int (0))] σ = some (V.d (D.int (c0)), σ)) (hc2 : ∀ σ, callN B09 H09 (d + 11) (Str.ofString "_law_stream") [V.d (D.int (c0)), V.d (D.int (3))] σ = some (V.d (D.list [D.int (x0), D.int (x1), D.int (x2)]), σ)) (h1 : idxL [D.int (1 + (x1 % 3)), D.int (12)] (if decide (((x1 / 3) % 8) = 0) then 1 else 0) = some (D.int (w1))) (hc3 : ∀ σ, callN B09 H09 (d + 11) (Str.ofString "_law_names") [V.d (D.int (x0)), V.d (D.int (w1))] σ = some (V.d (D.list (ns.map D.str)), σ)) (hc4 : ∀ σ, callN B09 H09 (d + 11) (Str.ofString "_law_cell_at") [V.d (D.list (scr.map D.int)), V.d (D.int (1))] σ = some (V.d (D.int (c1)), σ)) (hc5 : ∀ σ, callN B09 H09 (d + 11) (Str.ofString "_law_stream") [V.d (D.int (c1)), V.d (D.int (1))] σ = some (V.d (D.list [D.int (y0)]), σ)) (hc6 : ∀ σ, callN B09 H09 (d + 11) (Str.ofString "_law_known") [V.d (D.list [D.int (y0)]), V.d (D.list (ns.map D.str))] σ = some (V.d (D.dict ks (ps.map pD)), σ)) (hc7 : ∀ σ, callN B09 H09 (d + 11) (Str.ofString "_law_cell_at") [V.d (D.list (scr.map D.int)), V.d (D.int (3))] σ = some (V.d (D.int (c3)), σ)) (hc8 : ∀ σ, callN B09 H09 (d + 11) (Str.ofString "_law_held") [V.d (D.dict ks (ps.map pD)), V.d (D.int (c3 % 2147483647))] σ = some (V.d (D.dict ks (is.map D.int)), σ)) (hc9 : ∀ σ, callN B09 H09 (d + 11) (Str.ofString "_law_told") [V.d (D.list (scr.map D.int)), V.d (D.list (ns.map D.str)), V.d (D.dict ks (ps.map pD))] σ = some (V.d (D.tup [D.str (gs), l, r]), σ)) (h2 : bfV [] .dict [V.d (D.dict ks (ps.map pD))] = some (V.d (D.dict ks (ps.map pD)))) (hc10 : ∀ σ, callN B09 H09 (d + 11) (Str.ofString "contrary") [V.d (D.tup [D.str (gs), l, r])] σ = some (V.d (D.tup [D.str (hs), l', r']), σ)) (hc11 : ∀ σ, callN B09 H09 (d + 11) (Str.ofString "_law_contrary") [V.d (D.tup [D.str (gs), l, r])] σ = some (V.d (D.tup [D.str (hs), l', r']), σ)) (h3 : cmpV [] .NotEq (V.d (D.tup [D.str (hs), l', r'])) (V.d (D.tup [D.str (hs), l', r'])) = some (false)) (hc12 : ∀ σ, callN B09 H09 (d + 11) (Str.ofString "_law_good") [V.d (D.tup [D.str (gs), l, r]), V.d (D.dict ks (ps.map pD)), V.d (D.dict ks (is.map D.int))] σ = some (V.d (D.bool (true)), σ)) (hc13 : ∀ σ, callN B09 H09 (d + 11) (Str.ofString "_law_good") [V.d (D.tup [D.str (hs), l', r']), V.d (D.dict ks (ps.map pD)), V.d (D.dict ks (is.map D.int))] σ = some (V.d (D.bool (true)), σ)) (hc14 : ∀ σ, callN B09 H09 (d + 11) (Str.ofString "_law_holds") [V.d (D.tup [D.str (gs), l, r]), V.d (D.dict ks (is.map D.int))] σ = some (V.d (D.bool (b1)), σ)) (hc15 : ∀ σ, callN B09 H09 (d + 11) (Str.ofString "_law_holds") [V.d (D.tup [D.str (hs), l', r']), V.d (D.dict ks (is.map D.int))] σ = some (V.d (D.bool (b2)), σ)) (h4 : (b1 == b2) = false) (h5 : cmpV [] .Eq (V.d (D.dict ks (ps.map pD))) (V.d (D.dict ks (ps.map pD))) = some (true)) (σ : St) : callN B09 H09 (d + 11 + 1) (Str.ofString "law") [V.d (D.list (scr.map D.int))] σ = some (V.d (D.bool (true)), σ) :=
  path (ds := [D.list (scr.map D.int)]) (i := 39) (x := D.bool (true)) (P := (callN B09 H09 (d + 11) (Str.ofString "_law_cell_at") [V.d (D.list (scr.map D.int)), V.d (D.int (0))] [] = some (V.d (D.int (c0)), [])) ∧ (callN B09 H09 (d + 11) (Str.ofString "_law_stream") [V.d (D.int (c0)), V.d (D.int (3))] [] = some (V.d (D.list [D.int (x0), D.int (x1), D.int (x2)]), [])) ∧ (getItemV [] (V.d (D.list [D.int (1 + (x1 % 3)), D.int (12)])) (V.d (D.int (if decide (((x1 / 3) % 8) = 0) then 1 else 0))) = some (V.d (D.int (w1)))) ∧ (callN B09 H09 (d + 11) (Str.ofString "_law_names") [V.d (D.int (x0)), V.d (D.int (w1))] [] = some (V.d (D.list (ns.map D.str)), [])) ∧ (callN B09 H09 (d + 11) (Str.ofString "_law_cell_at") [V.d (D.list (scr.map D.int)), V.d (D.int (1))] [] = some (V.d (D.int (c1)), [])) ∧ (callN B09 H09 (d + 11) (Str.ofString "_law_stream") [V.d (D.int (c1)), V.d (D.int (1))] [] = some (V.d (D.list [D.int (y0)]), [])) ∧ (callN B09 H09 (d + 11) (Str.ofString "_law_known") [V.d (D.list [D.int (y0)]), V.d (D.list (ns.map D.str))] [] = some (V.d (D.dict ks (ps.map pD)), [])) ∧ (callN B09 H09 (d + 11) (Str.ofString "_law_cell_at") [V.d (D.list (scr.map D.int)), V.d (D.int (3))] [] = some (V.d (D.int (c3)), [])) ∧ (callN B09 H09 (d + 11) (Str.ofString "_law_held") [V.d (D.dict ks (ps.map pD)), V.d (D.int (c3 % 2147483647))] [] = some (V.d (D.dict ks (is.map D.int)), [])) ∧ (callN B09 H09 (d + 11) (Str.ofString "_law_told") [V.d (D.list (scr.map D.int)), V.d (D.list (ns.map D.str)), V.d (D.dict ks (ps.map pD))] [] = some (V.d (D.tup [D.str (gs), l, r]), [])) ∧ (bfV [] .dict [V.d (D.dict ks (ps.map pD))] = some (V.d (D.dict ks (ps.map pD)))) ∧ (callN B09 H09 (d + 11) (Str.ofString "contrary") [V.d (D.tup [D.str (gs), l, r])] [] = some (V.d (D.tup [D.str (hs), l', r']), [])) ∧ (callN B09 H09 (d + 11) (Str.ofString "_law_contrary") [V.d (D.tup [D.str (gs), l, r])] [] = some (V.d (D.tup [D.str (hs), l', r']), [])) ∧ (cmpV [] .NotEq (V.d (D.tup [D.str (hs), l', r'])) (V.d (D.tup [D.str (hs), l', r'])) = some (false)) ∧ (callN B09 H09 (d + 11) (Str.ofString "_law_good") [V.d (D.tup [D.str (gs), l, r]), V.d (D.dict ks (ps.map pD)), V.d (D.dict ks (is.map D.int))] [] = some (V.d (D.bool (true)), [])) ∧ (callN B09 H09 (d + 11) (Str.ofString "_law_good") [V.d (D.tup [D.str (hs), l', r']), V.d (D.dict ks (ps.map pD)), V.d (D.dict ks (is.map D.int))] [] = some (V.d (D.bool (true)), [])) ∧ (callN B09 H09 (d + 11) (Str.ofString "_law_holds") [V.d (D.tup [D.str (gs), l, r]), V.d (D.dict ks (is.map D.int))] [] = some (V.d (D.bool (b1)), [])) ∧ (callN B09 H09 (d + 11) (Str.ofString "_law_holds") [V.d (D.tup [D.str (gs), l, r]), V.d (D.dict ks (is.map D.int))] [] = some (V.d (D.bool (b1)), [])) ∧ (callN B09 H09 (d + 11) (Str.ofString "_law_holds") [V.d (D.tup [D.str (hs), l', r']), V.d (D.dict ks (is.map D.int))] [] = some (V.d (D.bool (b2)), [])) ∧ (some (b1 == b2) = some false) ∧ (cmpV [] .Eq (V.d (D.dict ks (ps.map pD))) (V.d (D.dict ks (ps.map pD))) = some (true)) ∧ some (D.bool (true)) = some (D.bool (true))) [(0, Tell.w (V.d (D.int (c0))) []), (1, Tell.w (V.d (D.list [D.int (x0), D.int (x1), D.int (x2)])) []), (12, Tell.v (V.d (D.int (w1)))), (13, Tell.w (V.d (D.list (ns.map D.str))) []), (14, Tell.w (V.d (D.int (c1))) []), (15, Tell.w (V.d (D.list [D.int (y0)])) []), (16, Tell.w (V.d (D.dict ks (ps.map pD))) []), (17, Tell.w (V.d (D.int (c3))) []), (19, Tell.w (V.d (D.dict ks (is.map D.int))) []), (20, Tell.w (V.d (D.tup [D.str (gs), l, r])) []), (21, Tell.v (V.d (D.dict ks (ps.map pD)))), (22, Tell.w (V.d (D.tup [D.str (hs), l', r'])) []), (26, Tell.w (V.d (D.tup [D.str (hs), l', r'])) []), (27, Tell.b (false)), (29, Tell.w (V.d (D.bool (true))) []), (32, Tell.w (V.d (D.bool (true))) []), (35, Tell.w (V.d (D.bool (b1))) []), (38, Tell.w (V.d (D.bool (b1))) []), (39, Tell.w (V.d (D.bool (b2))) []), (41, Tell.b false), (42, Tell.b (true))] L09_f_law (L09_imp _) (by kernel_rfl) ⟨hc1 _, hc2 _, idx_list h1, hc3 _, hc4 _, hc5 _, hc6 _, hc7 _, hc8 _, hc9 _, h2, hc10 _, hc11 _, h3, hc12 _, hc13 _, hc14 _, hc14 _, hc15 _, congrArg some h4, h5, rfl⟩ σ
theorem L09_without (d : Nat) (p q : Int × Int) (hp : p.1 ≤ p.2) (σ : St) : callN B09 H09 (d + 1) (Str.ofString "without") [.d (pD p), .d (pD q)] σ = some (.d (sD (withoutS p q)), σ) := by
  unfold withoutS
  by_cases c1 : q.1 = q.2
  · have b1 : (!(decide (q.1 = q.2))) = false := by rw [decide_eq_true c1]; rfl
    rw [if_pos c1]
    by_cases c2 : p.1 = q.1
    · rw [if_pos c2]
      by_cases c3 : p.1 + 1 > p.2
      · rw [if_pos c3]; exact L09_without_FTT d p.1 p.2 q.1 q.2 b1 c2 c3 σ
      · rw [if_neg c3]; exact L09_without_FTF d p.1 p.2 q.1 q.2 b1 c2 c3 σ
    · rw [if_neg c2]
      by_cases c3 : p.2 = q.1
      · rw [if_pos c3]; exact L09_without_FFTF d p.1 p.2 q.1 q.2 b1 c2 c3 (by omega) σ
      · rw [if_neg c3]; exact L09_without_FFFF d p.1 p.2 q.1 q.2 b1 c2 c3 (by omega) σ
  · rw [if_neg c1]; exact L09_without_T d p.1 p.2 q.1 q.2 (by rw [decide_eq_false c1]; rfl) σ
theorem L09_may (d : Nat) (g : Sg) (p q : Int × Int) (σ : St) : callN B09 H09 (d + 1 + 1) (Str.ofString "may_hold") [.d (.str g.str), .d (pD p), .d (pD q)] σ = some (.d (.bool (mayS g p q)), σ) := by
  cases g with
  | lt => exact L09_may_lt_0 d p.1 p.2 q.1 q.2 σ
  | le => exact L09_may_le_0 d p.1 p.2 q.1 q.2 σ
  | eq => exact L09_may_eq_0 d p.1 p.2 q.1 q.2 (L09_met d p q) not_none σ
  | ne =>
    show _ = some (V.d (D.bool (neP p q || !(decide (p.1 = p.2)))), σ)
    cases e : neP p q with
    | true => exact (L09_may_ne_T d p.1 p.2 q.1 q.2 ne_pair e σ).trans (by rw [show neP (p.1, p.2) (q.1, q.2) = true from e]; rfl)
    | false => exact L09_may_ne_F d p.1 p.2 q.1 q.2 ne_pair e σ
theorem L09_sideL (d : Nat) (g : Sg) (p q : Int × Int) (hp : p.1 ≤ p.2) (σ : St) : callN B09 H09 (d + 1 + 1) (Str.ofString "left_side") [.d (.str g.str), .d (pD p), .d (pD q)] σ = some (.d (sD (sideL g p q)), σ) := by
  cases g with
  | lt => exact L09_left_lt_0 d p.1 p.2 q.1 q.2 (L09_met d p (-1000000, q.2 - 1)) σ
  | le => exact L09_left_le_0 d p.1 p.2 q.1 q.2 (L09_met d p (-1000000, q.2)) σ
  | eq => exact L09_left_eq_0 d p.1 p.2 q.1 q.2 (L09_met d p q) σ
  | ne => exact L09_left_ne_0 d p.1 p.2 q.1 q.2 (L09_without d p q hp) σ
theorem L09_sideR (d : Nat) (g : Sg) (p q : Int × Int) (hp : p.1 ≤ p.2) (σ : St) : callN B09 H09 (d + 1 + 1) (Str.ofString "right_side") [.d (.str g.str), .d (pD p), .d (pD q)] σ = some (.d (sD (sideR g p q)), σ) := by
  cases g with
  | lt => exact L09_right_lt_0 d p.1 p.2 q.1 q.2 (L09_met d p (q.1 + 1, 1000000)) σ
  | le => exact L09_right_le_0 d p.1 p.2 q.1 q.2 (L09_met d p (q.1, 1000000)) σ
  | eq => exact L09_right_eq_0 d p.1 p.2 q.1 q.2 (L09_met d p q) σ
  | ne => exact L09_right_ne_0 d p.1 p.2 q.1 q.2 (L09_without d p q hp) σ
theorem L09_lne (d : Nat) (p q : Int × Int) (hp : p.1 ≤ p.2) (fb : Bool) (σ : St) : callN B09 H09 (d + 1 + 1) (Str.ofString "_law_side") [.d (.str (Str.ofString "!=")), .d (pD p), .d (pD q), .d (.bool fb)] σ = some (.d (sD (withoutS p q)), σ) := by
  by_cases c1 : q.1 = q.2
  · have b1 : (!(decide (q.1 = q.2))) = false := by rw [decide_eq_true c1]; rfl
    by_cases c2 : p.1 = q.1
    · have n : ninP q.1 p = false := by unfold ninP; rw [decide_eq_true c2]; rfl
      rw [← side_neT hp c1 c2]
      exact L09_side_nef_FFF d p.1 p.2 q.1 q.2 fb b1 nin_pair n (by rw [decide_eq_true c2]; rfl) (L09_lmet d p _ _) σ
    · by_cases c3 : p.2 = q.1
      · have n : ninP q.1 p = false := by unfold ninP; rw [decide_eq_true c3, Bool.or_true]; rfl
        rw [← side_neF hp c1 c2 c3]
        exact L09_side_nef_FFT d p.1 p.2 q.1 q.2 fb b1 nin_pair n (by rw [decide_eq_false c2]; rfl) (L09_lmet d p _ _) σ
      · have n : ninP q.1 p = true := by unfold ninP; rw [decide_eq_false c2, decide_eq_false c3]; rfl
        rw [show withoutS p q = some p from (if_pos c1).trans ((if_neg c2).trans (if_neg c3))]
        exact L09_side_nef_FT d p.1 p.2 q.1 q.2 fb b1 nin_pair n σ
  · rw [show withoutS p q = some p from if_neg c1]
    exact L09_side_nef_T d p.1 p.2 q.1 q.2 fb (by rw [decide_eq_false c1]; rfl) σ
theorem L09_lsideL (d : Nat) (g : Sg) (p q : Int × Int) (hp : p.1 ≤ p.2) (σ : St) : callN B09 H09 (d + 1 + 1) (Str.ofString "_law_side") [.d (.str g.str), .d (pD p), .d (pD q), .d (.bool true)] σ = some (.d (sD (sideL g p q)), σ) := by
  cases g with
  | lt => exact L09_side_ltt_0 d p.1 p.2 q.1 q.2 (L09_lmet d p (-1000000) (q.2 - 1)) σ
  | le =>
    have e := L09_side_let_0 d p.1 p.2 q.1 q.2 (L09_lmet d p (-1000000) (q.2 - 0)) σ
    rw [Int.sub_zero q.2] at e
    exact e
  | eq => exact L09_side_eqf_0 d p.1 p.2 q.1 q.2 true (L09_lmet d p q.1 q.2) σ
  | ne => exact L09_lne d p q hp true σ
theorem L09_lsideR (d : Nat) (g : Sg) (p q : Int × Int) (hp : p.1 ≤ p.2) (σ : St) : callN B09 H09 (d + 1 + 1) (Str.ofString "_law_side") [.d (.str g.str), .d (pD p), .d (pD q), .d (.bool false)] σ = some (.d (sD (sideR g p q)), σ) := by
  cases g with
  | lt => exact L09_side_ltf_0 d p.1 p.2 q.1 q.2 (L09_lmet d p (q.1 + 1) 1000000) σ
  | le =>
    have e := L09_side_lef_0 d p.1 p.2 q.1 q.2 (L09_lmet d p (q.1 + 0) 1000000) σ
    rw [Int.add_zero q.1] at e
    exact e
  | eq => exact L09_side_eqf_0 d p.1 p.2 q.1 q.2 false (L09_lmet d p q.1 q.2) σ
  | ne => exact L09_lne d p q hp false σ
theorem L09_con (d : Nat) (g : Sg) (l r : T5) : (∀ σ, callN B09 H09 (d + 1) (Str.ofString "contrary") [.d (.tup [.str g.str, l.D, r.D])] σ = some (.d (.tup [.str g.con.str, (g.fst l r).D, (g.snd l r).D]), σ)) ∧ ∀ σ, callN B09 H09 (d + 1) (Str.ofString "_law_contrary") [.d (.tup [.str g.str, l.D, r.D])] σ = some (.d (.tup [.str g.con.str, (g.fst l r).D, (g.snd l r).D]), σ) := by
  cases g with
  | lt => exact ⟨L09_con_lt_0 d _ _, L09_lcon_lt_0 d _ _⟩
  | le => exact ⟨L09_con_le_0 d _ _, L09_lcon_le_0 d _ _⟩
  | eq => exact ⟨L09_con_eq_0 d _ _, L09_lcon_eq_0 d _ _⟩
  | ne => exact ⟨L09_con_ne_0 d _ _, L09_lcon_ne_0 d _ _⟩

theorem L09_kept {ns : List Str} {ks : List Key} {ps : List (Int × Int)} (h : Held InS ns ks ps) (hz : ks.length < 100000) (g : Sg) (l r : T5) (ol : l.ok ns) (or : r.ok ns) (dl : l.dep ≤ 5) (dr : r.dep ≤ 5) (d : Nat) (σ : St) : callN B09 H09 (d + 8 + 1) (Str.ofString "kept") [.d (.tup [.str g.str, l.D, r.D]), .d (.dict ks (ps.map pD))] σ = some (.d (kD ks (keptS g l r ks ps)), σ) := by
  have hg : ∀ x ∈ ns, InS (gOf ks ps x) := fun x hx => (h.at hx).2
  have hl := L09_reach h l ol (d + 7) (by omega)
  have hr := L09_reach h r or (d + 7) (by omega)
  have hd : ∀ {σ : St}, bfV σ .dict [.d (.dict ks (ps.map pD))] = some (.d (.dict ks (ps.map pD))) := dict_data hz
  cases el : l.reach (gOf ks ps) with
  | none =>
    rw [el] at hl
    rw [show keptS g l r ks ps = none by unfold keptS; rw [el]; rfl]
    exact L09_kept_n1_0 _ _ _ _ _ _ _ (hl) (hr) σ
  | some p =>
    rw [el] at hl
    have hp := T5.reach_in hg l ol p el
    cases er : r.reach (gOf ks ps) with
    | none =>
      rw [er] at hr
      rw [show keptS g l r ks ps = none by unfold keptS; rw [el, er]; rfl]
      exact L09_kept_n2_0 _ _ _ _ _ _ _ _ (hl) (hr) σ
    | some q =>
      rw [er] at hr
      have hq := T5.reach_in hg r or q er
      have hm := L09_may (d + 6) g p q
      rw [keptS_of el er]
      by_cases c : mayS g p q = true
      · rw [if_pos c]
        rw [c] at hm
        cases cl : l.nm with
        | none =>
          rw [stepN_none cl, Option.bind_some]
          cases cr : r.nm with
          | none => rw [stepN_none cr]; exact L09_kept_oo_0 _ _ _ _ _ _ _ _ _ _ (hl) (hr) (hm) (hd) (T5.nostr cl) (T5.nostr cr) (hand_any) σ
          | some y =>
            obtain rfl := T5.nm_eq cr
            have hs := L09_sideR (d + 6) g (gOf ks ps y) p (h.at or).2.2.1
            have hi := item_obj (e := pD) (h.at or).1
            cases es : sideR g (gOf ks ps y) p with
            | none => rw [es] at hs; rw [stepN_name es]; exact L09_kept_oyN_0 _ _ _ _ _ _ _ _ _ _ _ _ _ _ (hl) (hr) (hm) (hd) (T5.nostr cl) (hi) (hs) (set_any hz) (item_any (held_len h)) σ
            | some b => rw [es] at hs; rw [stepN_name es]; exact L09_kept_oyP_0 _ _ _ _ _ _ _ _ _ _ _ _ _ _ (hl) (hr) (hm) (hd) (T5.nostr cl) (hi) (hs) (set_putP h or hz) (item_obj (e := pD) (get_putP h or)) (hand_any) σ
        | some x =>
          obtain rfl := T5.nm_eq cl
          have hs := L09_sideL (d + 6) g (gOf ks ps x) q (h.at ol).2.2.1
          have hi := item_obj (e := pD) (h.at ol).1
          cases es : sideL g (gOf ks ps x) q with
          | none => rw [es] at hs; rw [stepN_name es]; exact L09_kept_xN_0 _ _ _ _ _ _ _ _ _ _ _ _ _ _ (hl) (hr) (hm) (hd) (hi) (hs) (set_any hz) (item_any (held_len h)) σ
          | some a =>
            rw [es] at hs
            rw [stepN_name es, Option.map_some, Option.bind_some]
            have ha := side_in (h.at ol).2 (.inl es)
            have h' := h.putP ol ha
            have ht := set_putP h ol (a := a) hz
            have hu := item_obj (e := pD) (get_putP h ol (a := a))
            cases cr : r.nm with
            | none => rw [stepN_none cr]; exact L09_kept_xoP_0 _ _ _ _ _ _ _ _ _ _ _ _ _ _ (hl) (hr) (hm) (hd) (hi) (hs) (ht) (hu) (T5.nostr cr) (hand_any) σ
            | some y =>
              obtain rfl := T5.nm_eq cr
              have hs' := L09_sideR (d + 6) g (gOf ks (putP x a ks ps) y) p (h'.at or).2.2.1
              have hi' := item_obj (e := pD) (h'.at or).1
              cases es' : sideR g (gOf ks (putP x a ks ps) y) p with
              | none => rw [es'] at hs'; rw [stepN_name es']; exact L09_kept_xyN_0 _ _ _ _ _ _ _ _ _ _ _ _ _ _ _ _ _ _ (hl) (hr) (hm) (hd) (hi) (hs) (ht) (hu) (hi') (hs') (set_any hz) (item_any (held_len h')) σ
              | some b => rw [es'] at hs'; rw [stepN_name es']; exact L09_kept_xyP_0 _ _ _ _ _ _ _ _ _ _ _ _ _ _ _ _ _ _ (hl) (hr) (hm) (hd) (hi) (hs) (ht) (hu) (hi') (hs') (set_putP h' or hz) (item_obj (e := pD) (get_putP h' or)) (hand_any) σ
      · rw [if_neg c]
        rw [Bool.eq_false_iff.mpr c] at hm
        exact L09_kept_n3_0 _ _ _ _ _ _ _ _ _ _ (hl) (hr) (hm) σ
theorem L09_lturn {ns : List Str} {ks : List Key} {qs : List (Int × Int)} (h : Held InS ns ks qs) (hz : ks.length < 100000) (t : T5) (ot : t.ok ns) (d : Nat) (gs : Str) (t1 t2 e0 e1 : D) (ps : List (Int × Int)) (a b c e : Int) (k : Int) (w : Int × Int) (he : ∀ σ, getItemV σ (.d (.list [e0, e1])) (.d (.int k)) = some (.d (pD w))) (hn : ∀ σ, getItemV σ (.d (.tup [.str gs, t1, t2])) (.d (.int (1 + k))) = some (.d t.D)) : match stepN t ks qs fun s => metS s w with | none => ∃ (ks1 : List Key) (vs1 : List V), evSs (gen B09 H09 (d + 8) (Str.ofString "_law_kept")) (forBody (stAt B09 34 5)) (L09_LK gs t1 t2 e0 e1 ks ps a b c e (.d (.int k))) [(false, .dict ks ((qs.map pD).map V.d))] = some (.ret (.d .none), L09_LK gs t1 t2 e0 e1 ks ps a b c e (.d (.int k)), [(false, .dict ks1 vs1)]) | some qs' => evSs (gen B09 H09 (d + 8) (Str.ofString "_law_kept")) (forBody (stAt B09 34 5)) (L09_LK gs t1 t2 e0 e1 ks ps a b c e (.d (.int k))) [(false, .dict ks ((qs.map pD).map V.d))] = some (.next, L09_LK gs t1 t2 e0 e1 ks ps a b c e (.d (.int k)), [(false, .dict ks ((qs'.map pD).map V.d))]) := by
  cases cn : t.nm with
  | none => rw [stepN_none cn]; exact L09_lkS d gs t1 t2 e0 e1 ks ps a b c e k qs w.1 w.2 _ (he _) (hn _) (T5.nostr cn)
  | some x =>
    obtain rfl := T5.nm_eq cn
    have hm := L09_lmet (d + 7) (gOf ks qs x) w.1 w.2
    have hi := item_obj (e := pD) (h.at ot).1
    rw [stepN_name rfl]
    cases es : metS (gOf ks qs x) w with
    | none => rw [show metS (gOf ks qs x) (w.1, w.2) = none from es] at hm; exact ⟨_, _, L09_lkN d gs t1 t2 e0 e1 ks ps a b c e k qs w.1 w.2 _ _ x _ _ (he _) (hn _) hi hm (set_any hz) (hn _) (item_any (held_len h))⟩
    | some z => rw [show metS (gOf ks qs x) (w.1, w.2) = some z from es] at hm; exact L09_lkP d gs t1 t2 e0 e1 ks ps a b c e k qs w.1 w.2 _ _ x z _ (he _) (hn _) hi hm (set_putP h ot hz) (hn _) (item_obj (e := pD) (get_putP h ot))
theorem L09_lloop {d : Nat} {gs : Str} {t1 t2 e0 e1 : D} {ks : List Key} {ps : List (Int × Int)} {a b c e : Int} {fl : Fl} {vk : V} {σ' : St} (h : loopL (fun v ρ σ => evSs (gen B09 H09 (d + 8) (Str.ofString "_law_kept")) (forBody (stAt B09 34 5)) (setV (Str.ofString "_law_k") v ρ) σ) [.d (.int 0), .d (.int 1)] (L09_LK0 gs t1 t2 e0 e1 ks ps a b c e) [(false, .dict ks ((ps.map pD).map V.d))] = some (fl, L09_LK gs t1 t2 e0 e1 ks ps a b c e vk, σ')) : evS (gen B09 H09 (d + 8) (Str.ofString "_law_kept")) (stAt B09 34 5) (L09_LK0 gs t1 t2 e0 e1 ks ps a b c e) [(false, .dict ks ((ps.map pD).map V.d))] = some (fl, L09_LK gs t1 t2 e0 e1 ks ps a b c e vk, σ') := by
  have he : evE (gen B09 H09 (d + 8) (Str.ofString "_law_kept")) (L09_LK0 gs t1 t2 e0 e1 ks ps a b c e) false (rangeArg (stAt B09 34 5)) [(false, .dict ks ((ps.map pD).map V.d))] = some (.d (.int 2), [(false, .dict ks ((ps.map pD).map V.d))]) := by kernel_rfl
  exact for_range (x := Str.ofString "_law_k") (body := forBody (stAt B09 34 5)) rfl he (by omega) h
theorem L09_lks0 (gs : Str) (t1 t2 e0 e1 : D) (ks : List Key) (ps : List (Int × Int)) (a b c e : Int) (v : V) : setV (Str.ofString "_law_k") v (L09_LK0 gs t1 t2 e0 e1 ks ps a b c e) = L09_LK gs t1 t2 e0 e1 ks ps a b c e v := by
  kernel_rfl
theorem L09_lks1 (gs : Str) (t1 t2 e0 e1 : D) (ks : List Key) (ps : List (Int × Int)) (a b c e : Int) (u v : V) : setV (Str.ofString "_law_k") v (L09_LK gs t1 t2 e0 e1 ks ps a b c e u) = L09_LK gs t1 t2 e0 e1 ks ps a b c e v := by
  kernel_rfl
theorem L09_lkept {ns : List Str} {ks : List Key} {ps : List (Int × Int)} (h : Held InS ns ks ps) (hz : ks.length < 100000) (g : Sg) (l r : T5) (ol : l.ok ns) (or : r.ok ns) (dl : l.dep ≤ 5) (dr : r.dep ≤ 5) (d : Nat) (σ : St) : callN B09 H09 (d + 8 + 1) (Str.ofString "_law_kept") [.d (.tup [.str g.str, l.D, r.D]), .d (.dict ks (ps.map pD))] σ = some (.d (kD ks (keptS g l r ks ps)), σ) := by
  have hg : ∀ x ∈ ns, InS (gOf ks ps x) := fun x hx => (h.at hx).2
  have hl := L09_lreach h l ol (d + 7) (by omega)
  have hr := L09_lreach h r or (d + 7) (by omega)
  have hd : ∀ {σ : St}, bfV σ .dict [.d (.dict ks (ps.map pD))] = some (.d (.dict ks (ps.map pD))) := dict_data hz
  cases el : l.reach (gOf ks ps) with
  | none =>
    rw [el] at hl
    rw [show keptS g l r ks ps = none by unfold keptS; rw [el]; rfl]
    exact L09_lkept_n1_0 _ _ _ _ _ _ _ (hl) (hr) σ
  | some p =>
    rw [el] at hl
    have hp := T5.reach_in hg l ol p el
    cases er : r.reach (gOf ks ps) with
    | none =>
      rw [er] at hr
      rw [show keptS g l r ks ps = none by unfold keptS; rw [el, er]; rfl]
      exact L09_lkept_n2_0 _ _ _ _ _ _ _ _ (hl) (hr) σ
    | some q =>
      rw [er] at hr
      have hq := T5.reach_in hg r or q er
      have h0 := L09_lsideL (d + 6) g p q hp.2.1
      have h1 := L09_lsideR (d + 6) g q p hq.2.1
      by_cases c : mayS g p q = true
      · obtain ⟨v, w, hv, hw, hc⟩ := may_wit hp hq c
        obtain ⟨a, ea, -⟩ := sideL_ev hp hv hw hc
        obtain ⟨b, eb, -⟩ := sideR_ev hq hv hw hc
        rw [ea] at h0
        rw [eb] at h1
        rw [keptS_law h ol or el er c ea eb hp hq]
        have t0 := L09_lturn h hz l ol d g.str l.D r.D (pD a) (pD b) ps p.1 p.2 q.1 q.2 0 a (fun σ => by kernel_rfl) (fun σ => by kernel_rfl)
        cases e0 : stepN l ks ps fun s => metS s a with
        | none =>
          rw [e0] at t0
          obtain ⟨ks1, vs1, e⟩ := t0
          exact L09_lkept_r_0 _ _ _ _ _ _ _ _ _ _ _ _ _ _ _ (hl) (hr) (h0) (h1) (hd) (L09_lloop (vk := .d (.int 0)) (loop_ret (L09_lks0 g.str l.D r.D _ _ ks ps p.1 p.2 q.1 q.2 _) e)) σ
        | some p1 =>
          rw [e0] at t0
          rw [Option.bind_some]
          have t1 := L09_lturn (step_held h ol (fun s t hs ht => in_of_sub hs (let q := (metS_mem ht).1; ⟨q.1, q.2.2.1, q.2.2.2.1⟩)) e0) hz r or d g.str l.D r.D (pD a) (pD b) ps p.1 p.2 q.1 q.2 1 b (fun σ => by kernel_rfl) (fun σ => by kernel_rfl)
          cases e1 : stepN r ks p1 fun s => metS s b with
          | none =>
            rw [e1] at t1
            obtain ⟨ks1, vs1, e⟩ := t1
            exact L09_lkept_r_0 _ _ _ _ _ _ _ _ _ _ _ _ _ _ _ (hl) (hr) (h0) (h1) (hd) (L09_lloop (vk := .d (.int 1)) (loop_next (L09_lks0 g.str l.D r.D _ _ ks ps p.1 p.2 q.1 q.2 _) t0 (loop_ret (L09_lks1 g.str l.D r.D _ _ ks ps p.1 p.2 q.1 q.2 _ _) e))) σ
          | some p2 =>
            rw [e1] at t1
            exact L09_lkept_n_0 _ _ _ _ _ _ _ _ _ _ _ _ _ _ (hl) (hr) (h0) (h1) (hd) (L09_lloop (vk := .d (.int 1)) (loop_next (L09_lks0 g.str l.D r.D _ _ ks ps p.1 p.2 q.1 q.2 _) t0 (loop_next (L09_lks1 g.str l.D r.D _ _ ks ps p.1 p.2 q.1 q.2 _ _) t1 rfl))) (hand_any) σ
      · rw [side_none c] at h0
        rw [keptS_none el er c]
        exact L09_lkept_r_0 _ _ _ _ _ _ _ _ _ _ _ _ _ _ _ (hl) (hr) (h0) (h1) (hd) (L09_lloop (vk := .d (.int 0)) (loop_ret (L09_lks0 g.str l.D r.D _ _ ks ps p.1 p.2 q.1 q.2 _) (L09_lkE d g.str l.D r.D _ _ ks ps p.1 p.2 q.1 q.2 0 ps rfl))) σ
theorem L09_same_dict {ns : List Str} {ks : List Key} {qs : List (Int × Int)} (h : Held InS ns ks qs) (h0 : ks ≠ []) (d : Nat) (σ : St) : callN B09 H09 (d + 1 + 1 + 1) (Str.ofString "_law_same_dict") [.d (.dict ks (qs.map pD)), .d (.dict ks (qs.map pD))] σ = some (.d (.bool true), σ) := by
  have turn : ∀ k ∈ ks, evSs (gen B09 H09 (d + 1 + 1) (Str.ofString "_law_same_dict")) (forBody (stAt B09 36 1)) [(Str.ofString "_law_found", V.d (D.dict ks (qs.map pD))), (Str.ofString "_law_due", V.d (D.dict ks (qs.map pD))), (Str.ofString "_law_name", .d k.toD)] [] = some (.next, [(Str.ofString "_law_found", V.d (D.dict ks (qs.map pD))), (Str.ofString "_law_due", V.d (D.dict ks (qs.map pD))), (Str.ofString "_law_name", .d k.toD)], []) := fun k hk => by
    obtain ⟨x, rfl⟩ := h.str k hk
    obtain ⟨w, e⟩ := held_get h hk
    exact L09_sdbody d ks qs w.1 w.2 x (item_data (e := pD) e) (L09_is_stretch_s_0 d w.1 w.2 (L09_whole_0 d w.1) (L09_whole_0 d w.2))
  obtain ⟨vn, e⟩ := dict_pass1 (G := (gen B09 H09 (d + 1 + 1) (Str.ofString "_law_same_dict"))) (body := forBody (stAt B09 36 1)) (x := Str.ofString "_law_name") (L := fun v => [(Str.ofString "_law_found", V.d (D.dict ks (qs.map pD))), (Str.ofString "_law_due", V.d (D.dict ks (qs.map pD))), (Str.ofString "_law_name", v)]) (ρ := [(Str.ofString "_law_found", V.d (D.dict ks (qs.map pD))), (Str.ofString "_law_due", V.d (D.dict ks (qs.map pD)))]) (σ := []) (fun v => by kernel_rfl) (fun u v => by kernel_rfl) h0 turn
  exact L09_same_dict_0 d ks qs vn (by show Option.map not (eqD (.dict ks (qs.map pD)) (.dict ks (qs.map pD))) = _; rw [eqD_held eqP_pD h]; rfl) (for_dict (x := Str.ofString "_law_name") (body := forBody (stAt B09 36 1)) (ks := ks) (vs := qs.map pD) rfl e) σ
theorem L09_gloop {ns : List Str} {ks : List Key} {qs : List (Int × Int)} {is : List Int} (h : Held InS ns ks qs) (hi : Ins qs is) (h0 : ks ≠ []) (d : Nat) (td kd : D) : ∃ vn, evS (gen B09 H09 (d + 8 + 1) (Str.ofString "_law_good")) (stAt B09 38 5) [(Str.ofString "_law_told_here", V.d td), (Str.ofString "_law_known_here", V.d kd), (Str.ofString "_law_held_here", V.d (D.dict ks (is.map D.int))), (Str.ofString "_law_found", V.obj 0), (Str.ofString "_law_due", V.d (D.dict ks (qs.map pD)))] [(false, .dict ks ((qs.map pD).map V.d))] = some (.next, [(Str.ofString "_law_told_here", V.d td), (Str.ofString "_law_known_here", V.d kd), (Str.ofString "_law_held_here", V.d (D.dict ks (is.map D.int))), (Str.ofString "_law_found", V.obj 0), (Str.ofString "_law_due", V.d (D.dict ks (qs.map pD))), (Str.ofString "_law_name", vn)], [(false, .dict ks ((qs.map pD).map V.d))]) := by
  have turn : ∀ k ∈ ks, evSs (gen B09 H09 (d + 8 + 1) (Str.ofString "_law_good")) (forBody (stAt B09 38 5)) [(Str.ofString "_law_told_here", V.d td), (Str.ofString "_law_known_here", V.d kd), (Str.ofString "_law_held_here", V.d (D.dict ks (is.map D.int))), (Str.ofString "_law_found", V.obj 0), (Str.ofString "_law_due", V.d (D.dict ks (qs.map pD))), (Str.ofString "_law_name", .d k.toD)] [(false, .dict ks ((qs.map pD).map V.d))] = some (.next, [(Str.ofString "_law_told_here", V.d td), (Str.ofString "_law_known_here", V.d kd), (Str.ofString "_law_held_here", V.d (D.dict ks (is.map D.int))), (Str.ofString "_law_found", V.obj 0), (Str.ofString "_law_due", V.d (D.dict ks (qs.map pD))), (Str.ofString "_law_name", .d k.toD)], [(false, .dict ks ((qs.map pD).map V.d))]) := fun k hk => by
    obtain ⟨x, rfl⟩ := h.str k hk
    obtain ⟨w, e⟩ := held_get h hk
    obtain ⟨v, e', h1, h2⟩ := hi.get e
    exact L09_gbody d td kd ks qs is w.1 w.2 v x (item_obj (e := pD) e) (item_data (e := D.int) e') h1 h2
  obtain ⟨vn, e⟩ := dict_pass1 (G := (gen B09 H09 (d + 8 + 1) (Str.ofString "_law_good"))) (body := forBody (stAt B09 38 5)) (x := Str.ofString "_law_name") (L := fun v => [(Str.ofString "_law_told_here", V.d td), (Str.ofString "_law_known_here", V.d kd), (Str.ofString "_law_held_here", V.d (D.dict ks (is.map D.int))), (Str.ofString "_law_found", V.obj 0), (Str.ofString "_law_due", V.d (D.dict ks (qs.map pD))), (Str.ofString "_law_name", v)]) (ρ := [(Str.ofString "_law_told_here", V.d td), (Str.ofString "_law_known_here", V.d kd), (Str.ofString "_law_held_here", V.d (D.dict ks (is.map D.int))), (Str.ofString "_law_found", V.obj 0), (Str.ofString "_law_due", V.d (D.dict ks (qs.map pD)))]) (σ := [(false, .dict ks ((qs.map pD).map V.d))]) (fun v => by kernel_rfl) (fun u v => by kernel_rfl) h0 turn
  exact ⟨vn, for_dict (x := Str.ofString "_law_name") (body := forBody (stAt B09 38 5)) (ks := ks) (vs := is.map D.int) rfl e⟩
theorem L09_good {ns : List Str} {ks : List Key} {ps : List (Int × Int)} {is : List Int} (h : Held InS ns ks ps) (hi : Ins ps is) (h0 : ks ≠ []) (hz : ks.length < 100000) (g : Sg) (l r : T5) (ol : l.ok ns) (or : r.ok ns) (dl : l.dep ≤ 5) (dr : r.dep ≤ 5) (d : Nat) (σ : St) : callN B09 H09 (d + 8 + 1 + 1) (Str.ofString "_law_good") [.d (.tup [.str g.str, l.D, r.D]), .d (.dict ks (ps.map pD)), .d (.dict ks (is.map .int))] σ = some (.d (.bool true), σ) := by
  have ek := L09_kept h hz g l r ol or dl dr d
  have elk := L09_lkept h hz g l r ol or dl dr d
  have eh := L09_lholds (held_of h hi).1 g l r ol or (d + 7) (by omega) (by omega)
  have hb : cD g (l.ev (gOf ks is)) (r.ev (gOf ks is)) = .none ∨ cD g (l.ev (gOf ks is)) (r.ev (gOf ks is)) = .bool false ∨ (cD g (l.ev (gOf ks is)) (r.ev (gOf ks is)) = .bool true ∧ ∃ qs, keptS g l r ks ps = some qs ∧ Ins qs is) := by
    rcases cD_two g (l.ev (gOf ks is)) (r.ev (gOf ks is)) with e | ⟨v, w, e1, e2, e⟩
    · exact .inl e
    · rw [e]
      cases hc : g.ap v w with
      | false => exact .inr (.inl rfl)
      | true => exact .inr (.inr ⟨rfl, kept_ev h hi ol or e1 e2 hc⟩)
  cases e : keptS g l r ks ps with
  | none =>
    rw [e] at ek elk
    rcases hb with hb | hb | ⟨_, qs, hb, _⟩
    · rw [hb] at eh; exact L09_good_NN_0 _ _ _ _ _ (ek) (elk) (eh) σ
    · rw [hb] at eh; exact L09_good_NF_0 _ _ _ _ _ (ek) (elk) (eh) σ
    · rw [e] at hb; cases hb
  | some qs =>
    rw [e] at ek elk
    have hq := kept_held h ol or e
    have es := callN_obj1 (rd_data (ks := ks) (ds := qs.map pD)) (L09_same_dict hq h0 (d + 6)) rfl
    rcases hb with hb | hb | ⟨hb, qs', hb', hi'⟩
    · rw [hb] at eh; exact L09_good_DN_0 _ _ _ _ _ _ (ek) (elk) (es) (eh) σ
    · rw [hb] at eh; exact L09_good_DF_0 _ _ _ _ _ _ (ek) (elk) (es) (eh) σ
    · rw [e] at hb'; cases hb'
      rw [hb] at eh
      obtain ⟨vn, el⟩ := L09_gloop hq hi' h0 d (.tup [.str g.str, l.D, r.D]) (.dict ks (ps.map pD))
      exact L09_good_DT_0 _ _ _ _ _ _ _ (ek) (elk) (es) (eh) (el) (clear_ok hz) σ
theorem L09_told {ns : List Str} {ks : List Key} {ps : List (Int × Int)} (h : Held InS ns ks ps) (d : Nat) (scr : List Int) (hs : scr.length ≤ 63) (h0 : 0 < ns.length) (h1 : ns.length ≤ 100) : ∃ (g : Sg) (l r : T5), l.ok ns ∧ r.ok ns ∧ l.dep ≤ 5 ∧ r.dep ≤ 5 ∧ ∀ σ, callN B09 H09 (d + 8 + 1 + 1 + 1) (Str.ofString "_law_told") [.d (.list (scr.map .int)), .d (.list (ns.map .str)), .d (.dict ks (ps.map pD))] σ = some (.d (.tup [.str g.str, l.D, r.D]), σ) := by
  obtain ⟨c, ec⟩ := L09_cell_at (d + 8 + 1) scr 2 (by omega) (by omega) hs
  obtain ⟨xs, hx, bx, ex⟩ := L09_stream (d + 8 + 1) c 14 (by omega) (by omega)
  have hx : xs.length = 14 := hx
  obtain ⟨g, l, r, ol, or, dl, dr, et⟩ := L09_condition d xs ns h0 h1 (by omega) (by omega) bx
  obtain ⟨w12, _, e12⟩ := idx_ints (ns := xs) (i := 12) (by omega) (by omega) (by omega)
  by_cases c1 : w12 % 2 = 0
  · obtain ⟨w13, m13, e13⟩ := idx_ints (ns := xs) (i := 13) (by omega) (by omega) (by omega)
    have b13 := bx w13 m13
    have m0 := Int.emod_nonneg w13 (show (ns.length : Int) ≠ 0 by omega)
    have m1 := Int.emod_lt_of_pos w13 (show 0 < (ns.length : Int) by omega)
    obtain ⟨nm, hn, _, en⟩ := idx_strs m0 m1 (by omega)
    have hI := (h.at hn).2
    unfold InS at hI
    obtain ⟨w1, hw1, e1⟩ := pick2 (P := fun w => -1000000 ≤ w ∧ w ≤ 1000000) (i := w13 / 12 % 2) (a := (gOf ks ps nm).1) (b := (gOf ks ps nm).2) (mod2 _) (by omega) (by omega)
    obtain ⟨w2, hw2, e2⟩ := pick4 (P := fun w => -1 ≤ w ∧ w ≤ 1) (i := w13 / 24 % 4) (a := 0) (b := 0) (c := -1) (d := 1) (mod4 _) (by decide) (by decide) (by decide) (by decide)
    by_cases c2 : w13 / 96 % 4 > 0
    · have hc := mod2 (w13 / 384)
      have hN : -1000000 ≤ (if (if (w1 + w2) > (-1000000) then w1 + w2 else -1000000) < 1000000 then if (w1 + w2) > (-1000000) then w1 + w2 else -1000000 else 1000000) ∧ (if (if (w1 + w2) > (-1000000) then w1 + w2 else -1000000) < 1000000 then if (w1 + w2) > (-1000000) then w1 + w2 else -1000000 else 1000000) ≤ 1000000 := by omega
      rcases hc with hc | hc
      · exact ⟨g, .name nm, .num (if (if (w1 + w2) > (-1000000) then w1 + w2 else -1000000) < 1000000 then if (w1 + w2) > (-1000000) then w1 + w2 else -1000000 else 1000000), hn, hN, Nat.zero_le _, Nat.zero_le _, L09_told_TTT _ _ _ _ _ _ _ _ _ _ _ _ _ _ _ _ _ (ec) (ex) (et) (e12) (c1) (e13) (len_strs (by omega)) (by omega) (en) (item_held (e := pD) h hn) (e1) (e2) (c2) (by rw [hc]; rfl)⟩
      · exact ⟨g, .num (if (if (w1 + w2) > (-1000000) then w1 + w2 else -1000000) < 1000000 then if (w1 + w2) > (-1000000) then w1 + w2 else -1000000 else 1000000), .name nm, hN, hn, Nat.zero_le _, Nat.zero_le _, L09_told_TTF _ _ _ _ _ _ _ _ _ _ _ _ _ _ _ _ _ (ec) (ex) (et) (e12) (c1) (e13) (len_strs (by omega)) (by omega) (en) (item_held (e := pD) h hn) (e1) (e2) (c2) (by rw [hc]; rfl)⟩
    · have hc := mod2 (w13 / 384)
      exact ⟨g, .name nm, .name nm, hn, hn, Nat.zero_le _, Nat.zero_le _, L09_told_TFT _ _ _ _ _ _ _ _ _ _ _ _ _ _ _ _ _ (ec) (ex) (et) (e12) (c1) (e13) (len_strs (by omega)) (by omega) (en) (item_held (e := pD) h hn) (e1) (e2) (c2) (by rcases hc with hc | hc <;> rw [hc] <;> rfl)⟩
  · exact ⟨g, l, r, ol, or, dl, dr, L09_told_F _ _ _ _ _ _ _ _ _ _ 0 0 _ (ec) (ex) (et) (e12) (c1)⟩
theorem L09_law (d : Nat) (scr : List Int) (hs : scr.length ≤ 63) : callN B09 H09 (d + 11 + 1) (Str.ofString "law") [.d (.list (scr.map .int))] [] = some (.d (.bool true), []) := by
  have mem0 : ∀ {a : Int} {r : List Int}, a ∈ a :: r := List.mem_cons_self
  have mem1 : ∀ {a b : Int} {r : List Int}, b ∈ a :: b :: r := List.mem_cons_of_mem _ List.mem_cons_self
  have mem2 : ∀ {a b c : Int} {r : List Int}, c ∈ a :: b :: c :: r := List.mem_cons_of_mem _ (List.mem_cons_of_mem _ List.mem_cons_self)
  obtain ⟨c0, ec0⟩ := L09_cell_at (d + 10) scr 0 (by omega) (by omega) hs
  obtain ⟨c1, ec1⟩ := L09_cell_at (d + 10) scr 1 (by omega) (by omega) hs
  obtain ⟨c3, ec3⟩ := L09_cell_at (d + 10) scr 3 (by omega) (by omega) hs
  obtain ⟨xs, hx, bx, ex⟩ := L09_stream (d + 10) c0 3 (by omega) (by omega)
  obtain ⟨x0, x1, x2, rfl⟩ := len3 (show xs.length = 3 from hx)
  have b1 := bx x1 mem1
  obtain ⟨ys, hy, by', ey⟩ := L09_stream (d + 10) c1 1 (by omega) (by omega)
  obtain ⟨y0, rfl⟩ : ∃ y, ys = [y] := by
    match ys, hy with
    | [y], _ => exact ⟨y, rfl⟩
  obtain ⟨m, hm, ew⟩ := pick2 (P := fun w => 1 ≤ w ∧ w ≤ 12) (i := if decide (x1 / 3 % 8 = 0) then 1 else 0) (a := 1 + x1 % 3) (b := 12) (by split; exact .inr rfl; exact .inl rfl) (by omega) (by omega)
  obtain ⟨ns, hl, ens⟩ := L09_names (d + 10) x0 m hm
  obtain ⟨ks, ps, hk, hz, ek⟩ := L09_known (d + 8) y0 ns (by omega) (by omega)
  have hz : ks.length < 100000 := by omega
  have h0 : ks ≠ [] := fun e => by
    obtain ⟨i, q⟩ := hk.get (ns[0]'(by omega)) (List.getElem_mem _)
    rw [e] at q; cases q
  obtain ⟨is, hi, eh⟩ := L09_held hk (d + 9) (c3 % 2147483647) (by omega) (by omega) (by omega)
  obtain ⟨g, l, r, ol, or, dl, dr, et⟩ := L09_told hk d scr hs (by omega) (by omega)
  have ct := L09_con (d + 10) g l r
  have ol' : (g.fst l r).ok ns := by cases g <;> assumption
  have or' : (g.snd l r).ok ns := by cases g <;> assumption
  have dl' : (g.fst l r).dep ≤ 5 := by cases g <;> assumption
  have dr' : (g.snd l r).dep ≤ 5 := by cases g <;> assumption
  have g1 := L09_good hk hi h0 hz g l r ol or dl dr (d + 1)
  have g2 := L09_good hk hi h0 hz g.con (g.fst l r) (g.snd l r) ol' or' dl' dr' (d + 1)
  have o1 := L09_lholds (held_of hk hi).1 g l r ol or (d + 9) (by omega) (by omega)
  have o2 := L09_lholds (held_of hk hi).1 g.con (g.fst l r) (g.snd l r) ol' or' (d + 9) (by omega) (by omega)
  have ene : cmpV [] .NotEq (.d (.tup [.str g.con.str, (g.fst l r).D, (g.snd l r).D])) (.d (.tup [.str g.con.str, (g.fst l r).D, (g.snd l r).D])) = some false := by
    show Option.map not (eqP 20 (.tup [.str g.con.str, (g.fst l r).D, (g.snd l r).D]) (.tup [.str g.con.str, (g.fst l r).D, (g.snd l r).D])) = _
    rw [eqP_tup3 (k := 19) eqP_str (T5.eqP _ 19 (by omega)) (T5.eqP _ 19 (by omega))]
    rfl
  have eeq : cmpV [] .Eq (.d (.dict ks (ps.map pD))) (.d (.dict ks (ps.map pD))) = some true := eqD_held eqP_pD hk
  rcases cD_two g (l.ev (gOf ks is)) (r.ev (gOf ks is)) with e | ⟨v, w, e1, e2, e⟩
  · rw [e] at o1
    exact L09_law_N_0 _ _ _ _ _ _ _ _ _ _ _ _ _ _ _ _ _ _ _ _ (ec0) (ex) (ew) (ens) (ec1) (ey) (ek) (ec3) (eh) (et) (dict_data hz) (ct.1) (ct.2) (ene) (g1) (g2) (o1) (eeq) []
  · have e' := con_cD e
    rw [show g.fst (l.ev (gOf ks is)) (r.ev (gOf ks is)) = (g.fst l r).ev (gOf ks is) by cases g <;> rfl, show g.snd (l.ev (gOf ks is)) (r.ev (gOf ks is)) = (g.snd l r).ev (gOf ks is) by cases g <;> rfl] at e'
    rw [e] at o1
    rw [e'] at o2
    have eb : (g.ap v w == !(g.ap v w)) = false := by cases g.ap v w <;> rfl
    exact L09_law_B_F _ _ _ _ _ _ _ _ _ _ _ _ _ _ _ _ _ _ _ _ _ _ (ec0) (ex) (ew) (ens) (ec1) (ey) (ek) (ec3) (eh) (et) (dict_data hz) (ct.1) (ct.2) (ene) (g1) (g2) (o1) (o2) (eb) (eeq) []
end Mine
end

section
open PySem PySem.W PyProof.Rows
set_option Elab.async false
set_option maxRecDepth 100000
set_option maxHeartbeats 8000000
set_option linter.unusedVariables false
namespace Mine
noncomputable def pick (is : List Nat) (b : List Stmt) : List Stmt := is.filterMap fun i => b[i]?
noncomputable def viewOf (p : Program) (is : List Nat) : Program := { p with main := { p.main with body := pick is p.main.body } }
noncomputable abbrev Q09 : Program := viewOf PySem.Challenge.rw_uf010002_09.prog [1, 2, 3, 4, 5, 6, 7, 9, 10, 11, 12, 13, 14, 15, 17, 18, 19, 20, 21, 22, 23, 24, 25, 26, 27, 28, 29, 30, 31, 32, 33, 34, 35, 36, 37, 38, 39, 40, 41, 42, 43]
theorem ok09 : (B09.filterMap fnRec?).all (okFn fun x => H09.consts.lookup x) = true := by decide +kernel
theorem z09 : PySem.Challenge.rw_uf010002_09.Holds := by
  w_on
  refine holds_law (by decide +kernel) fun said => ?_
  refine holds_open (q := Q09) (loose := []) (Xt := fun s => xlAt Q09 [] s && recOk (RowW.records PySem.Challenge.rw_uf010002_09.row.toRowW) s) (XP := XL Q09 []) (Yf := Hook.obs Hook.none) (Ya := Hook.val Hook.none) (YP := Hook.says Hook.none) (N := 3000) ?hl (Hook.of Hook.none) (Hook.keeps Hook.none) (fun s e => xl_of s (Bool.and_eq_true_iff.mp e).1) XL.keeps (by rfl) (by rfl) (by rfl) (fun s e => recFacts_of (Bool.and_eq_true_iff.mp e).2) (by rfl) (by first | assumption | decide +kernel) (by decide +kernel) ⟨rfl, rfl, rfl, rfl, rfl, by decide +kernel⟩ ?hw ?hc
  case hw => w_witness2
  case hl => exact fun w => by kernel_rfl
  case hc => exact Mine.law_walk Mine.H09 11 (by kernel_rfl) Mine.ok09 (by decide +kernel) (by decide +kernel) rfl (by decide) fun ns hn => Mine.L09_law 0 ns hn
end Mine
end

set_option maxRecDepth 100000 in
set_option maxHeartbeats 8000000 in
theorem PySem.Challenge.cw_uf010002_09_holds : PySem.Challenge.rw_uf010002_09.Holds := by
  exact Mine.z09
