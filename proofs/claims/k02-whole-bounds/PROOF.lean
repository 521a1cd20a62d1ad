import PyProof.Rows.All
import PySem.Challenge.RW_samebuilds_k02_whole_bounds
import HandS.ForMost
import HandS.Deep
import HandS.Zip
import HandS.TupAny
import HandS.TupMul
import HandS.AnyAll
import HandS.Style
import HandS.TupLe
import HandS.Strs
import HandS.Conv
import KE.SortData
import KE.DataIsa
import KE.DataMinMax
import KE.DataFind
import KE.DataCmp
import KE.GoesEnum
import HandS.More
import OpenK.KEqL
set_option Elab.async false
set_option linter.all false
set_option maxRecDepth 100000
/-! The small language: its texts, its values, what it computes. -/
namespace SB
open PySem

abbrev D := PyData
/-- a value or a slot: frozen, owned, borrowed, the list of the draws -/
inductive Sl where
  | fz (d : D) | ow (d : D) | bw (d : D) | st

/-- computations: the number of draws so far (none: no list of draws yet); none: stuck -/
def M (α : Type) : Type := Option Nat → Option (α × Option Nat)
@[simp] def M.fail {α : Type} : M α := fun _ => none
instance : Monad M where
  pure a := fun c => some (a, c)
  bind x f := fun c => (x c).bind fun p => f p.1 p.2
theorem M.pure_run {α : Type} (a : α) (c : Option Nat) : (pure a : M α) c = some (a, c) := rfl
theorem M.bind_run {α β : Type} (x : M α) (f : α → M β) (c : Option Nat) : (x >>= f) c = (x c).bind fun p => f p.1 p.2 := rfl
instance : LawfulMonad M := LawfulMonad.mk' (m := M)
  (id_map := fun x => by
    funext c
    show (x c).bind _ = x c
    cases x c <;> rfl)
  (pure_bind := fun a f => rfl)
  (bind_assoc := fun x f g => by
    funext c
    show ((x c).bind _).bind _ = (x c).bind _
    cases x c <;> rfl)
theorem M.bind_some {α β : Type} {x : M α} {f : α → M β} {c : Option Nat} {r : β × Option Nat} (h : (x >>= f) c = some r) : ∃ a c1, x c = some (a, c1) ∧ f a c1 = some r := by
  rw [M.bind_run] at h
  cases e : x c with
  | none => rw [e] at h; cases h
  | some p => rw [e] at h; exact ⟨p.1, p.2, rfl, h⟩
@[simp] theorem M.fail_bind {α β : Type} (f : α → M β) : (M.fail >>= f) = M.fail := rfl
def ofO {α : Type} : Option α → M α
  | some a => pure a
  | none => M.fail
@[simp] theorem ofO_some {α : Type} (a : α) : ofO (some a) = pure a := rfl
@[simp] theorem ofO_none {α : Type} : ofO (none : Option α) = M.fail := rfl
theorem ofO_run {α : Type} {o : Option α} {c : Option Nat} {r : α × Option Nat} (h : ofO o c = some r) : o = some r.1 ∧ r.2 = c := by
  cases o with
  | none => cases h
  | some a =>
    cases h
    exact ⟨rfl, rfl⟩

/-! ### texts -/
inductive IK where
  | seq | range | enum | zip
inductive Bf where
  | len | all | any | list | tuple | min | max | sum | sorted | str | int
inductive Ty where
  | int | bool | str | tuple | list
inductive Mf where
  | count | index | join | split | replace | upper
def Bf.nm : Bf → Str
  | .len => "len" | .all => "all" | .any => "any" | .list => "list" | .tuple => "tuple" | .min => "min" | .max => "max" | .sum => "sum" | .sorted => "sorted" | .str => "str" | .int => "int"
def Ty.nm : Ty → String
  | .int => "int" | .bool => "bool" | .str => "str" | .tuple => "tuple" | .list => "list"
def Mf.nm : Mf → Str
  | .count => "count" | .index => "index" | .join => "join" | .split => "split" | .replace => "replace" | .upper => "upper"
inductive Ex where
  | non | bl (b : Bool) | int (i : Int) | str (x : Str)
  | v (i : Nat)
  | lenS (i : Nat)
  | gl (x : Str)
  | tup (es : List Ex) | lst (es : List Ex)
  | bin (o : Operator) (a b : Ex)
  | not (a : Ex) | neg (a : Ex)
  | and (a b : Ex) | or (a b : Ex)
  | cmp (o : CmpOp) (a b : Ex)
  | chain (o o' : CmpOp) (a b c : Ex)
  | ife (c a b : Ex)
  | call (f : Str) (es : List Ex)
  | blt (f : Bf) (es : List Ex)
  | isa (a : Ex) (T : Ty)
  | inG (ng : Bool) (a : Ex) (x : Str) | getG (x : Str) (a : Ex)
  | dget (ks : List (Str × Int)) (a b : Ex)
  | rng (lst : Bool) (es : List Ex)
  | sset (a : Ex)
  | meth (m : Mf) (o : Ex) (es : List Ex)
  | ix (a i : Ex)
  | sl (a : Ex) (lo hi : List Ex)
  | rev (a : Ex)
  | comp (elt : Ex) (own : List Nat) (tg : List Nat) (one : Bool) (k : IK) (args : List Ex) (cond : List Ex)
inductive St where
  | asg (i : Nat) (e : Ex)
  | mv (i j : Nat)
  | asgT (is : List Nat) (e : Ex)
  | par (is : List Nat) (es : List Ex)
  | init (i : Nat)
  | aug (o : Operator) (i : Nat) (e : Ex)
  | app (i : Nat) (e : Ex)
  | ext (i : Nat) (e : Ex)
  | popA (i j : Nat)
  | appPop (i j : Nat) (e : Ex)
  | put (i : Nat) (k e : Ex)
  | expr (e : Ex)
  | ifs (c : Ex) (a b : List St)
  | frz (is : List Nat)
  | for (tg : List Nat) (one : Bool) (k : IK) (args : List Ex) (body : List St)
  | while (c : Ex) (body : List St)
  | ret (e : Ex)
  | retv (i : Nat)
  | pass
  | never

abbrev Rho := List (Option Sl)
/-- what a def computes -/
abbrev Fn := List Sl → M Sl
structure Tab where
  fn : Str → Option Fn
  gl : Str → Option D
  gd : Str → Option (List (Str × Int))

/-! ### operations on data -/
def binD : Operator → D → D → Option Sl
  | .Add, .int i, .int j => some (.fz (.int (i + j)))
  | .Add, .str x, .str y => if x.length + y.length ≤ sizeLine then some (.fz (.str (x ++ y))) else none
  | .Add, .tuple xs, .tuple ys => if xs.length + ys.length ≤ sizeLine then some (.fz (.tuple (xs ++ ys))) else none
  | .Add, .list xs, .list ys => if xs.length + ys.length ≤ sizeLine then some (.ow (.list (xs ++ ys))) else none
  | .Sub, .int i, .int j => some (.fz (.int (i - j)))
  | .Mult, .int i, .int j => if (-(2 ^ 64) < i ∧ i < 2 ^ 64) ∨ (-(2 ^ 64) < j ∧ j < 2 ^ 64) then some (.fz (.int (i * j))) else none
  | .Mult, .tuple xs, .int k => if xs ≠ [] ∧ 2 ≤ k ∧ k ≤ 1000 ∧ xs.length ≤ 1000 then some (.fz (.tuple (List.replicate k.toNat xs).flatten)) else none
  | .FloorDiv, .int i, .int j => if 0 < j ∧ j < 1073741824 then some (.fz (.int (i / j))) else none
  | .Mod, .int i, .int j => if 0 < j then some (.fz (.int (i % j))) else none
  | .Pow, .int i, .int j => if 0 ≤ j ∧ j ≤ 1000000 ∧ i.natAbs < 2 ^ 64 then some (.fz (.int (i ^ j.toNat))) else none
  | _, _, _ => none
/-- == may be asked -/
abbrev okD (d : D) : Bool := SeqAt.shaped d
def cmpD : CmpOp → D → D → Option Bool
  | .Eq, a, b => if okD a && okD b then some (PyData.eqv a b) else none
  | .NotEq, a, b => if okD a && okD b then some (!PyData.eqv a b) else none
  | .Lt, .int i, .int j => some (decide (i < j))
  | .Lt, .str x, .str y => some (decide (x.cps.toList < y.cps.toList))
  | .Lt, .tuple xs, .tuple ys => if W.alike (.tuple xs) (.tuple ys) && okD (.tuple xs) && okD (.tuple ys) then some (W.dataLt (.tuple xs) (.tuple ys)) else none
  | .LtE, .int i, .int j => some (decide (i ≤ j))
  | .Gt, .int i, .int j => some (decide (j < i))
  | .GtE, .int i, .int j => some (decide (j ≤ i))
  | .In, .str x, .str y => match x.cps.toList with
    | [c] => some (decide (c ∈ y.cps.toList))
    | _ => none
  | .NotIn, .str x, .str y => match x.cps.toList with
    | [c] => some (!decide (c ∈ y.cps.toList))
    | _ => none
  | .In, d, .list ds => if okD d && okD (.list ds) then some (ds.any fun z => PyData.eqv z d) else none
  | .NotIn, d, .list ds => if okD d && okD (.list ds) then some (!ds.any fun z => PyData.eqv z d) else none
  | .In, d, .tuple ds => if okD d && okD (.tuple ds) then some (ds.any fun z => PyData.eqv z d) else none
  | .NotIn, d, .tuple ds => if okD d && okD (.tuple ds) then some (!ds.any fun z => PyData.eqv z d) else none
  | .Is, .none, .none => some true
  | .Is, .bool _, .none => some false
  | .Is, .int _, .none => some false
  | .Is, .str _, .none => some false
  | .Is, .tuple _, .none => some false
  | .Is, .list _, .none => some false
  | .IsNot, .none, .none => some false
  | .IsNot, .bool _, .none => some true
  | .IsNot, .int _, .none => some true
  | .IsNot, .str _, .none => some true
  | .IsNot, .tuple _, .none => some true
  | .IsNot, .list _, .none => some true
  | .Is, .bool a, .bool b => some (decide (a = b))
  | .IsNot, .bool a, .bool b => some (!decide (a = b))
  | _, _, _ => none
def boolsOf : List D → Option (List Bool)
  | [] => some []
  | .bool b :: ds => (boolsOf ds).map (b :: ·)
  | _ :: _ => none
def intsOf : List D → Option (List Int)
  | [] => some []
  | .int i :: ds => (intsOf ds).map (i :: ·)
  | _ :: _ => none
def isTupNE : D → Bool
  | .tuple (_ :: _) => true
  | _ => false
def notTup : D → Bool
  | .tuple _ => false
  | .none => false
  | _ => true
def sortD (ds : List D) : Option (List D) :=
  if (ds.all fun d => ds.all fun e => W.alike d e) && (ds.all isTupNE || ds.all notTup) && ds.all (fun d => decide (d.depth ≤ 64)) then some (ds.mergeSort (W.dataLe false id)) else none
def bltD : Bf → List D → Option Sl
  | .len, [.list xs] => some (.fz (.int xs.length))
  | .len, [.tuple xs] => some (.fz (.int xs.length))
  | .len, [.str x] => if x.length ≤ sizeLine then some (.fz (.int x.length)) else none
  | .all, [.list xs] => (boolsOf xs).map fun bs => .fz (.bool (bs.all id))
  | .any, [.list xs] => (boolsOf xs).map fun bs => .fz (.bool (bs.any id))
  | .list, [.list xs] => some (.ow (.list xs))
  | .list, [.tuple xs] => some (.ow (.list xs))
  | .tuple, [.list xs] => some (.fz (.tuple xs))
  | .tuple, [.tuple xs] => some (.fz (.tuple xs))
  | .min, [.int i, .int j] => some (.fz (.int (if j < i then j else i)))
  | .sum, [.list xs] => (intsOf xs).map fun ns => .fz (.int ns.sum)
  | .sorted, [.list xs] => (sortD xs).map fun ys => .ow (.list ys)
  | _, _ => none
def isaD : Ty → D → Bool
  | .int, d => d.isInt
  | .bool, d => d.isBool
  | .str, d => d.isStr
  | .tuple, d => d.isTuple
  | .list, d => d.isList
def cutL {α : Type} (xs : List α) (lo hi : Option Int) : List α := (xs.drop (HT.sIx xs.length 0 lo)).take (HT.sIx xs.length xs.length hi - HT.sIx xs.length 0 lo)
def ixD : D → D → Option Sl
  | .list xs, .int i => (L2.atI xs i).map .fz
  | .tuple xs, .int i => (L2.atI xs i).map .fz
  | _, _ => none
def slD : D → Option Int → Option Int → Option Sl
  | .list xs, lo, hi => some (.ow (.list (cutL xs lo hi)))
  | .tuple xs, lo, hi => some (.fz (.tuple (cutL xs lo hi)))
  | _, _, _ => none
def iterD : IK → List D → Option (List D)
  | .seq, [.list xs] => some xs
  | .seq, [.tuple xs] => some xs
  | .seq, [.str x] => if x.length ≤ sizeLine then some (x.cps.toList.map fun c => .str ⟨#[c]⟩) else none
  | .range, [.int j] => if j ≤ sizeLine ∧ -(2 ^ 62) ≤ j then some ((List.range j.toNat).map fun i => .int ((i : Nat) : Int)) else none
  | .range, [.int i, .int j] => if -(2 ^ 62) ≤ i ∧ i < 2 ^ 62 ∧ -(2 ^ 62) ≤ j ∧ j < 2 ^ 62 ∧ (j - i).toNat ≤ sizeLine then some ((List.range (j - i).toNat).map fun k => .int (i + ((k : Nat) : Int))) else none
  | .range, [.int i, .int j, .int c] => if c = -1 ∧ -(2 ^ 62) ≤ i ∧ i < 2 ^ 62 ∧ -(2 ^ 62) ≤ j ∧ j < 2 ^ 62 ∧ (i - j).toNat ≤ sizeLine then some ((List.range (i - j).toNat).map fun k => .int (i + ((k : Nat) : Int) * (-1))) else none
  | .enum, [.list xs] => some (xs.zipIdx.map fun p => .tuple [.int ((p.2 : Nat) : Int), p.1])
  | .enum, [.tuple xs] => some (xs.zipIdx.map fun p => .tuple [.int ((p.2 : Nat) : Int), p.1])
  | .zip, [.list xs, .list ys] => some ((xs.zip ys).map fun p => .tuple [p.1, p.2])
  | .zip, [.tuple xs, .tuple ys] => some ((xs.zip ys).map fun p => .tuple [p.1, p.2])
  | _, _ => none

/-! ### slots -/
def Sl.rd : Sl → M D
  | .fz d => pure d
  | .ow d => pure d
  | .bw d => pure d
  | .st => M.fail
/-- a value that is kept: a new list is frozen -/
def Sl.fr : Sl → M Sl
  | .fz d => pure (.fz d)
  | .ow (.list ds) => pure (.fz (.list ds))
  | .ow _ => M.fail
  | .bw d => pure (.bw d)
  | .st => pure .st
/-- a value inside another one -/
def Sl.kp : Sl → M D
  | .fz d => pure d
  | .ow (.list ds) => pure (.list ds)
  | _ => M.fail
def Sl.seen : Sl → Sl
  | .ow d => .bw d
  | s => s
def asB : D → M Bool
  | .bool b => pure b
  | _ => M.fail
def setAll : List Nat → List D → Rho → Rho
  | i :: is, d :: ds, ρ => setAll is ds (ρ.set i (some (.fz d)))
  | _, _, ρ => ρ
/-- one name, or a tuple of names -/
def bindT (one : Bool) (tg : List Nat) (d : D) (ρ : Rho) : Option Rho :=
  if one then match tg with
    | [i] => some (ρ.set i (some (.fz d)))
    | _ => none
  else match d with
    | .tuple ds => if ds.length = tg.length then some (setAll tg ds ρ) else none
    | _ => none
def wipeR (ρ : Rho) : List Nat → Rho
  | [] => ρ
  | v :: vs => (wipeR ρ vs).set v none
/-- a comprehension's turns -/
def turns (f : D → M (Option D)) : List D → M (List D)
  | [] => pure []
  | d :: ds => do
    let o ← f d
    let r ← turns f ds
    pure (match o with
      | some y => y :: r
      | none => r)
/-- the value at a key, the last one -/
def lastOf (x : Str) (ks : List (Str × Int)) : Option Int := ks.foldl (fun o p => if x = p.1 then some p.2 else o) none
def optI : List D → M (Option Int)
  | [] => pure none
  | [.int i] => pure (some i)
  | _ => M.fail

def intOf : D → Option Int
  | .int i => some i
  | _ => none
def strOf : D → Option Str
  | .str x => some x
  | _ => none
def lstOf : D → Option (List D)
  | .list xs => some xs
  | _ => none
def slAt (ρ : Rho) (i : Nat) : Option Sl := (ρ[i]?).bind id
def owOf : Sl → Option D
  | .ow d => some d
  | _ => none
def owL (ρ : Rho) (i : Nat) : Option (List D) := ((slAt ρ i).bind owOf).bind lstOf
/-- what may be stored or handed back -/
def keepS : Sl → Option Sl
  | .fz d => some (.fz d)
  | .ow d => some (.ow d)
  | _ => none
/-- a list that may be lengthened: an owned one, or the list of the draws -/
def appK : Sl → Option (Option (List D))
  | .ow (.list ds) => some (some ds)
  | .st => some none
  | _ => none
def augD (o : Operator) (a b : D) : Option D :=
  match a, b, binD o a b with
  | .int _, .int _, some (.fz z) => some z
  | _, _, _ => none
def tickM : M Nat := fun c => match c with
  | none => none
  | some n => if n < 1000000 then some (n + 1, some (n + 1)) else none
def appTo (ρ : Rho) (i : Nat) (d : D) : Option (List D) → M Rho
  | some ds => if ds.length < sizeLine then pure (ρ.set i (some (.ow (.list (ds ++ [d]))))) else M.fail
  | none => do
    let j ← ofO (intOf d)
    if j = 0 then do let _ ← tickM; pure ρ else M.fail
def isSt : Sl → Option Unit
  | .st => some ()
  | _ => none
def getM : M Nat := fun c => match c with
  | none => none
  | some n => some (n, some n)
variable (Φ : Tab)
mutual
def ev : Ex → Rho → M Sl
  | .non, _ => pure (.fz .none)
  | .bl b, _ => pure (.fz (.bool b))
  | .int i, _ => pure (.fz (.int i))
  | .str x, _ => pure (.fz (.str x))
  | .v i, ρ => do let s ← ofO (slAt ρ i); pure s.seen
  | .lenS i, ρ => do
    let s ← ofO (slAt ρ i)
    let _ ← ofO (isSt s)
    let n ← getM
    pure (.fz (.int n))
  | .gl x, _ => ofO ((Φ.gl x).map .fz)
  | .tup es, ρ => do let ds ← evk es ρ; if ds.length ≤ sizeLine then pure (.fz (.tuple ds)) else M.fail
  | .lst es, ρ => do let ds ← evk es ρ; if ds.length ≤ sizeLine then pure (.ow (.list ds)) else M.fail
  | .bin o a b, ρ => do let x ← ev a ρ; let d ← x.rd; let y ← ev b ρ; let e ← y.rd; ofO (binD o d e)
  | .not a, ρ => do let x ← ev a ρ; let d ← x.rd; let b ← asB d; pure (.fz (.bool (!b)))
  | .neg a, ρ => do
    let x ← ev a ρ
    let d ← x.rd
    let i ← ofO (intOf d)
    pure (.fz (.int (-i)))
  | .and a b, ρ => do let x ← ev a ρ; let d ← x.rd; let k ← asB d; if k then ev b ρ else pure (.fz (.bool false))
  | .or a b, ρ => do let x ← ev a ρ; let d ← x.rd; let k ← asB d; if k then pure (.fz (.bool true)) else ev b ρ
  | .cmp o a b, ρ => do let x ← ev a ρ; let d ← x.rd; let y ← ev b ρ; let e ← y.rd; ofO ((cmpD o d e).map fun k => .fz (.bool k))
  | .chain o o' a b c, ρ => do
    let x ← ev a ρ; let d ← x.rd; let y ← ev b ρ; let e ← y.rd; let k ← ofO (cmpD o d e)
    if k then do let z ← ev c ρ; let f ← z.rd; ofO ((cmpD o' e f).map fun k => .fz (.bool k)) else pure (.fz (.bool false))
  | .ife c a b, ρ => do let x ← ev c ρ; let d ← x.rd; let k ← asB d; if k then ev a ρ else ev b ρ
  | .call f es, ρ => do
    let rs ← eva es ρ
    let g ← ofO (Φ.fn f)
    g rs
  | .blt f es, ρ => do let ds ← evr es ρ; ofO (bltD f ds)
  | .isa a T, ρ => do let x ← ev a ρ; let d ← x.rd; pure (.fz (.bool (isaD T d)))
  | .inG ng a x, ρ => do
    let y ← ev a ρ
    let d ← y.rd
    let z ← ofO (strOf d)
    let kvs ← ofO (Φ.gd x)
    pure (.fz (.bool (ng != (kvs.lookup z).isSome)))
  | .getG x a, ρ => do
    let y ← ev a ρ
    let d ← y.rd
    let z ← ofO (strOf d)
    let kvs ← ofO (Φ.gd x)
    let i ← ofO (kvs.lookup z)
    pure (.fz (.int i))
  | .dget ks a b, ρ => do
    let y ← ev a ρ
    let d ← y.rd
    let z ← ev b ρ
    let e ← z.rd
    let x ← ofO (strOf d)
    let j ← ofO (intOf e)
    pure (.fz (.int ((lastOf x ks).getD j)))
  | .rng l es, ρ => do
    let ds ← evr es ρ
    let xs ← ofO (iterD .range ds)
    if l then pure (.ow (.list xs)) else pure (.fz (.tuple xs))
  | .sset _, _ => M.fail
  | .meth _ _ _, _ => M.fail
  | .ix a i, ρ => do let x ← ev a ρ; let d ← x.rd; let y ← ev i ρ; let e ← y.rd; ofO (ixD d e)
  | .sl a lo hi, ρ => do let x ← ev a ρ; let d ← x.rd; let l ← evr lo ρ; let lo ← optI l; let h ← evr hi ρ; let hi ← optI h; ofO (slD d lo hi)
  | .rev _, _ => M.fail
  | .comp elt own tg one k args cond, ρ => do
    let ds ← evr args ρ
    let xs ← ofO (iterD k ds)
    let ys ← turns (fun d => do
      let ρ1 ← ofO (bindT one tg d (wipeR ρ own))
      let t ← evc cond ρ1
      if t then do let y ← ev elt ρ1; let e ← y.kp; pure (some e) else pure none) xs
    pure (.ow (.list ys))
/-- arguments -/
def eva : List Ex → Rho → M (List Sl)
  | [], _ => pure []
  | e :: es, ρ => do let x ← ev e ρ; let y ← x.fr; let r ← eva es ρ; pure (y :: r)
/-- items that are kept -/
def evk : List Ex → Rho → M (List D)
  | [], _ => pure []
  | e :: es, ρ => do let x ← ev e ρ; let y ← x.kp; let r ← evk es ρ; pure (y :: r)
/-- items that are read -/
def evr : List Ex → Rho → M (List D)
  | [], _ => pure []
  | e :: es, ρ => do let x ← ev e ρ; let y ← x.rd; let r ← evr es ρ; pure (y :: r)
/-- tests of a comprehension -/
def evc : List Ex → Rho → M Bool
  | [], _ => pure true
  | [e], ρ => do let x ← ev e ρ; let d ← x.rd; asB d
  | _, _ => M.fail
end

/-! ### statements -/
inductive Fl where
  | nx (ρ : Rho) | rt (v : Sl)
def loop (f : D → Rho → M Fl) : List D → Rho → M Fl
  | [], ρ => pure (.nx ρ)
  | d :: ds, ρ => do
    let r ← f d ρ
    match r with
    | .nx ρ' => loop f ds ρ'
    | .rt v => pure (.rt v)
def wloop (c : Rho → M Bool) (f : Rho → M Fl) : Nat → Rho → M Fl
  | 0, _ => M.fail
  | n + 1, ρ => do
    let b ← c ρ
    if b then do
      let r ← f ρ
      match r with
      | .nx ρ' => wloop c f n ρ'
      | .rt v => pure (.rt v)
    else pure (.nx ρ)
/-- at most so many turns of a while -/
def fuel : Nat := 1000000
def frzR : List Nat → Rho → Rho
  | [], ρ => ρ
  | i :: is, ρ => frzR is (match ρ[i]? with
    | some (some (.ow (.list ds))) => ρ.set i (some (.fz (.list ds)))
    | _ => ρ)
def initM : M Unit := fun c => match c with
  | none => some ((), some 0)
  | some _ => none
mutual
def ex : St → Rho → M Fl
  | .asg i e, ρ => do
    let x ← ev Φ e ρ
    let y ← ofO (keepS x)
    pure (.nx (ρ.set i (some y)))
  | .mv i j, ρ => do
    let s ← ofO (slAt ρ j)
    let d ← ofO (owOf s)
    pure (.nx ((ρ.set j none).set i (some (.ow d))))
  | .asgT is e, ρ => do
    let x ← ev Φ e ρ
    let d ← x.rd
    let ρ' ← ofO (bindT false is d ρ)
    pure (.nx ρ')
  | .par is es, ρ => do
    let rs ← evo es ρ
    match is, rs with
    | [i, j], [x, y] => pure (.nx ((ρ.set i (some x)).set j (some y)))
    | [i, j, k], [x, y, z] => pure (.nx (((ρ.set i (some x)).set j (some y)).set k (some z)))
    | _, _ => M.fail
  | .init i, ρ => do let _ ← initM; pure (.nx (ρ.set i (some .st)))
  | .aug o i e, ρ => do
    let s ← ofO (slAt ρ i)
    let d ← s.rd
    let y ← ev Φ e ρ
    let f ← y.rd
    let z ← ofO (augD o d f)
    pure (.nx (ρ.set i (some (.fz z))))
  | .app i e, ρ => do
    let x ← ev Φ e ρ
    let d ← x.kp
    let s ← ofO (slAt ρ i)
    let k ← ofO (appK s)
    let ρ' ← appTo ρ i d k
    pure (.nx ρ')
  | .ext i e, ρ => do
    let x ← ev Φ e ρ
    let d ← ofO (owOf x)
    let es ← ofO (lstOf d)
    let ds ← ofO (owL ρ i)
    if ds.length + es.length ≤ sizeLine then pure (.nx (ρ.set i (some (.ow (.list (ds ++ es)))))) else M.fail
  | .popA i j, ρ => do
    let ds ← ofO (owL ρ j)
    let d ← ofO ds.getLast?
    pure (.nx ((ρ.set j (some (.ow (.list ds.dropLast)))).set i (some (.fz d))))
  | .appPop i j e, ρ => do
    let x ← ev Φ e ρ
    let d ← x.rd
    let k ← ofO (intOf d)
    let xs ← ofO (owL ρ i)
    let ys ← ofO (owL ρ j)
    let y ← ofO ys[k.toNat]?
    if 0 ≤ k ∧ k < 2 ^ 62 ∧ i ≠ j ∧ xs.length < sizeLine then pure (.nx ((ρ.set j (some (.ow (.list (ys.eraseIdx k.toNat))))).set i (some (.ow (.list (xs ++ [y])))))) else M.fail
  | .put _ _ _, _ => M.fail
  | .expr e, ρ => do let _ ← ev Φ e ρ; pure (.nx ρ)
  | .ifs c a b, ρ => do
    let x ← ev Φ c ρ
    let d ← x.rd
    let k ← asB d
    if k then exs a ρ else exs b ρ
  | .frz is, ρ => pure (.nx (frzR is ρ))
  | .for tg one k args body, ρ => do
    let ds ← evk Φ args ρ
    let xs ← ofO (iterD k ds)
    loop (fun d ρ => do
      let ρ1 ← ofO (bindT one tg d ρ)
      exs body ρ1) xs ρ
  | .while c body, ρ => wloop (fun ρ => do let x ← ev Φ c ρ; let d ← x.rd; asB d) (fun ρ => exs body ρ) fuel ρ
  | .ret e, ρ => do
    let x ← ev Φ e ρ
    let y ← ofO (keepS x)
    pure (.rt y)
  | .retv i, ρ => do
    let s ← ofO (slAt ρ i)
    let y ← ofO (keepS s)
    pure (.rt y)
  | .pass, ρ => pure (.nx ρ)
  | .never, _ => M.fail
def exs : List St → Rho → M Fl
  | [], ρ => pure (.nx ρ)
  | s :: ss, ρ => do
    let r ← ex s ρ
    match r with
    | .nx ρ' => exs ss ρ'
    | .rt v => pure (.rt v)
/-- several values for several names -/
def evo : List Ex → Rho → M (List Sl)
  | [], _ => pure []
  | e :: es, ρ => do
    let x ← ev Φ e ρ
    let y ← ofO (keepS x)
    let r ← evo es ρ
    pure (y :: r)
end
/-- a def -/
structure Df where
  N : List Str
  np : Nat
  body : List St
def argOk : Sl → Bool
  | .ow _ => false
  | _ => true
def runD (d : Df) : Fn := fun args => if args.length = d.np ∧ args.all argOk then do
    let r ← exs Φ d.body (args.map some ++ List.replicate (d.N.length - d.np) none)
    match r with
    | .nx _ => pure (.fz .none)
    | .rt v => pure v
  else M.fail
end SB
/-! How data lie in the abstract heap: G what is frozen, H what stands. -/
namespace SB
open PySem PySem.Spec PyProof.Rows L2

theorem same_sqT {K : PySem.W.Frag} {H H' : Hp} {a : Addr} {xs : List V} (e : Same H H') (h : SqT K H a xs) : SqT K H' a xs := by
  rcases h with (h | ⟨o, h⟩) | h
  · exact .inl (.inl (e _ _ h))
  · exact .inl (.inr ⟨o, e _ _ h⟩)
  · exact .inr h
mutual
/-- a datum at a value: its lists are tracked ones -/
inductive Dq (K : PySem.W.Frag) (H : Hp) : V → D → Prop
  | non : Dq K H .non .none
  | bl (b : Bool) : Dq K H (.bl b) (.bool b)
  | int (i : Int) : Dq K H (.int i) (.int i)
  | str (x : Str) : Dq K H (.str x) (.str x)
  | lst {a : Addr} {xs : List V} {ds : List D} : SqL K H a xs → DqAll K H xs ds → Dq K H (.ref a) (.list ds)
  | tup {a : Addr} {xs : List V} {ds : List D} : SqT K H a xs → DqAll K H xs ds → Dq K H (.ref a) (.tuple ds)
inductive DqAll (K : PySem.W.Frag) (H : Hp) : List V → List D → Prop
  | nil : DqAll K H [] []
  | cons {v : V} {vs : List V} {d : D} {ds : List D} : Dq K H v d → DqAll K H vs ds → DqAll K H (v :: vs) (d :: ds)
end
mutual
theorem Dq.dp {K : PySem.W.Frag} {H : Hp} : ∀ (d : D) {v : V}, Dq K H v d → Dp K H v d
  | .none, _, h => by cases h; exact .non
  | .bool b, _, h => by cases h; exact .bl b
  | .int i, _, h => by cases h; exact .int i
  | .str x, _, h => by cases h; exact .str x
  | .list ds, _, h => by
    cases h with
    | lst hs ha => exact .lst hs (DqAll.dp ds ha)
  | .tuple ds, _, h => by
    cases h with
    | tup hs ha => exact .tup hs (DqAll.dp ds ha)
  | .dict _, _, h => by cases h
theorem DqAll.dp {K : PySem.W.Frag} {H : Hp} : ∀ (ds : List D) {vs : List V}, DqAll K H vs ds → DpAll K H vs ds
  | [], _, h => by cases h; exact .nil
  | d :: ds, _, h => by
    cases h with
    | cons h1 h2 => exact .cons (Dq.dp d h1) (DqAll.dp ds h2)
end
theorem same_rd {H H' : Hp} {a : Addr} {u : HO} (e : Same H H') (h : Rd H a u) : Rd H' a u := by
  rcases h with h | ⟨o, h⟩
  · exact .inl (e _ _ h)
  · exact .inr ⟨o, e _ _ h⟩
mutual
theorem dp_mono {K : PySem.W.Frag} {G H : Hp} (s : Same G H) : ∀ (d : D) {v : V}, Dq K G v d → Dq K H v d
  | .none, _, h => by cases h; exact .non
  | .bool b, _, h => by cases h; exact .bl b
  | .int i, _, h => by cases h; exact .int i
  | .str x, _, h => by cases h; exact .str x
  | .list ds, _, h => by
    cases h with
    | lst hs ha => exact .lst (s.seq hs) (dpAll_mono s ds ha)
  | .tuple ds, _, h => by
    cases h with
    | tup hs ha => exact .tup (same_sqT s hs) (dpAll_mono s ds ha)
  | .dict _, _, h => by cases h
theorem dpAll_mono {K : PySem.W.Frag} {G H : Hp} (s : Same G H) : ∀ (ds : List D) {vs : List V}, DqAll K G vs ds → DqAll K H vs ds
  | [], _, h => by cases h; exact .nil
  | d :: ds, _, h => by
    cases h with
    | cons h1 h2 => exact .cons (dp_mono s d h1) (dpAll_mono s ds h2)
end
section
variable {K : PySem.W.Frag} {G H : Hp}
theorem dpAll_length : ∀ {vs : List V} {ds : List D}, DqAll K G vs ds → vs.length = ds.length
  | _, [], h => by cases h; rfl
  | _, d :: ds, h => by
    cases h with
    | cons h1 h2 => exact congrArg (· + 1) (dpAll_length h2)
theorem dpAll_append : ∀ {vs ws : List V} {ds es : List D}, DqAll K G vs ds → DqAll K G ws es → DqAll K G (vs ++ ws) (ds ++ es)
  | _, _, [], _, h, h2 => by cases h; exact h2
  | _, _, d :: ds, _, h, h2 => by
    cases h with
    | cons h1 h3 => exact .cons h1 (dpAll_append h3 h2)
theorem dpAll_get : ∀ {vs : List V} {ds : List D} {i : Nat} {d : D}, DqAll K G vs ds → ds[i]? = some d → ∃ v, vs[i]? = some v ∧ Dq K G v d
  | _, [], _, _, _, e => by simp at e
  | _, d :: ds, 0, _, h, e => by
    cases h with
    | cons h1 h2 => simp at e; subst e; exact ⟨_, rfl, h1⟩
  | _, d :: ds, i + 1, _, h, e => by
    cases h with
    | cons h1 h2 =>
      obtain ⟨v, e1, h3⟩ := dpAll_get (i := i) h2 (by simpa using e)
      exact ⟨v, by simpa using e1, h3⟩
theorem dpAll_get' : ∀ {vs : List V} {ds : List D} {i : Nat} {v : V}, DqAll K G vs ds → vs[i]? = some v → ∃ d, ds[i]? = some d ∧ Dq K G v d := fun {vs ds i v} h e => by
  obtain ⟨hi, _⟩ := List.getElem?_eq_some_iff.mp e
  have hl := dpAll_length h
  have hd : ds[i]? = some (ds[i]'(by omega)) := List.getElem?_eq_getElem (by omega)
  obtain ⟨w, ew, hw⟩ := dpAll_get h hd
  rw [e] at ew
  cases ew
  exact ⟨_, hd, hw⟩
theorem dpAll_drop : ∀ {vs : List V} {ds : List D} (n : Nat), DqAll K G vs ds → DqAll K G (vs.drop n) (ds.drop n)
  | _, _, 0, h => h
  | _, [], n + 1, h => by cases h; exact .nil
  | _, d :: ds, n + 1, h => by
    cases h with
    | cons h1 h2 => exact dpAll_drop n h2
theorem dpAll_take : ∀ {vs : List V} {ds : List D} (n : Nat), DqAll K G vs ds → DqAll K G (vs.take n) (ds.take n)
  | _, [], 0, h => by cases h; exact .nil
  | _, d :: ds, 0, h => .nil
  | _, [], n + 1, h => by cases h; exact .nil
  | _, d :: ds, n + 1, h => by
    cases h with
    | cons h1 h2 => exact .cons h1 (dpAll_take n h2)
theorem dpAll_erase : ∀ {vs : List V} {ds : List D} (n : Nat), DqAll K G vs ds → DqAll K G (vs.eraseIdx n) (ds.eraseIdx n)
  | _, [], _, h => by cases h; exact .nil
  | _, d :: ds, 0, h => by
    cases h with
    | cons h1 h2 => exact h2
  | _, d :: ds, n + 1, h => by
    cases h with
    | cons h1 h2 => exact .cons h1 (dpAll_erase n h2)
theorem dpAll_dropLast {vs : List V} {ds : List D} (h : DqAll K G vs ds) : DqAll K G vs.dropLast ds.dropLast := by
  rw [List.dropLast_eq_take, List.dropLast_eq_take, dpAll_length h]
  exact dpAll_take _ h
theorem dpAll_cut {vs : List V} {ds : List D} (h : DqAll K G vs ds) (lo hi : Option Int) : DqAll K G (cutV vs lo hi) (cutL ds lo hi) := by
  unfold cutV cutL
  rw [dpAll_length h]
  exact dpAll_take _ (dpAll_drop _ h)
theorem atI_map {vs : List V} {ds : List D} {i : Int} {d : D} (h : DqAll K G vs ds) (e : L2.atI ds i = some d) : ∃ v, L2.atI vs i = some v ∧ Dq K G v d := by
  unfold L2.atI at e ⊢
  rw [dpAll_length h]
  cases q : ixN ds.length i with
  | none => rw [q] at e; cases e
  | some j =>
    rw [q] at e
    exact dpAll_get h e
end

/-- a list (or dict) that stands unfrozen -/
def OwnAt (K : PySem.W.Frag) (G H : Hp) (a : Addr) : D → Prop
  | .list ds => ∃ vs, H a = some (.lst vs) ∧ DqAll K G vs ds
  | _ => False
/-- nothing that stood has changed (but the list of the draws), nothing that stood was frozen -/
structure Kp (S : Option Addr) (G H G' H' : Hp) : Prop where
  kh : ∀ b o, S ≠ some b → H b = some o → H' b = some o
  kg : Same G G'
  kn : ∀ b, H b ≠ none → G' b = G b
  dm : ∀ b, H b ≠ none → H' b ≠ none
def Sta (S : Option Addr) (c : Option Nat) (G H : Hp) : Prop :=
  match S, c with
  | none, none => True
  | some a, some n => G a = none ∧ H a = some (.lst (List.replicate n (.int 0)))
  | _, _ => False
structure Nxt (S : Option Addr) (c : Option Nat) (G H G' H' : Hp) : Prop where
  sub : Same G' H'
  sta : Sta S c G' H'
  kp : Kp S G H G' H'
/-- what a value stands for -/
def RR (K : PySem.W.Frag) (S : Option Addr) (H0 G H : Hp) (v : V) : Sl → Prop
  | .fz d => Dq K G v d
  | .ow d => ∃ a, v = .ref a ∧ H0 a = none ∧ G a = none ∧ S ≠ some a ∧ OwnAt K G H a d
  | .bw d => ∃ a, v = .ref a ∧ S ≠ some a ∧ OwnAt K G H a d
  | .st => ∃ a, S = some a ∧ v = .ref a
/-- what a slot stands for -/
def SV (K : PySem.W.Frag) (S : Option Addr) (He G H : Hp) (v : V) : Sl → Prop
  | .fz d => Dq K G v d
  | .ow d => ∃ a, v = .ref a ∧ He a = none ∧ G a = none ∧ S ≠ some a ∧ OwnAt K G H a d
  | .bw d => ∃ a, v = .ref a ∧ He a ≠ none ∧ S ≠ some a ∧ OwnAt K G H a d
  | .st => ∃ a, S = some a ∧ v = .ref a
/-- a value as it is read -/
def Vw (K : PySem.W.Frag) (G H : Hp) (v : V) : D → Prop
  | .none => v = .non
  | .bool b => v = .bl b
  | .int i => v = .int i
  | .str x => v = .str x
  | .list ds => ∃ a vs, v = .ref a ∧ SqL K H a vs ∧ DqAll K G vs ds
  | .tuple ds => ∃ a vs, v = .ref a ∧ SqT K G a vs ∧ DqAll K G vs ds
  | .dict _ => False

section
variable {K : PySem.W.Frag} {S : Option Addr} {c c' : Option Nat} {G H G' H' G2 H2 H0 : Hp} {v : V} {d : D} {r : Sl}
theorem Sta.out {a : Addr} (h : Sta S c G H) (e : S = some a) : G a = none ∧ ∃ n, c = some n ∧ H a = some (.lst (List.replicate n (.int 0))) := by
  subst e
  cases c with
  | none => exact h.elim
  | some n => exact ⟨h.1, n, rfl, h.2⟩
theorem Kp.refl : Kp S G H G H := ⟨fun _ _ _ h => h, Same.refl _, fun _ _ => rfl, fun _ h => h⟩
theorem Kp.trans (a : Kp S G H G' H') (b : Kp S G' H' G2 H2) : Kp S G H G2 H2 :=
  ⟨fun x o n e => b.kh x o n (a.kh x o n e), a.kg.trans b.kg, fun x h => (b.kn x (a.dm x h)).trans (a.kn x h), fun x h => b.dm x (a.dm x h)⟩
theorem Nxt.refl (s : Same G H) (t : Sta S c G H) : Nxt S c G H G H := ⟨s, t, Kp.refl⟩
theorem Nxt.trans (a : Nxt S c G H G' H') (b : Nxt S c' G' H' G2 H2) : Nxt S c' G H G2 H2 := ⟨b.sub, b.sta, a.kp.trans b.kp⟩
theorem sne (t : Sta S c G H) {p : Addr} (h : H p = none) : S ≠ some p := fun e => by
  obtain ⟨_, n, _, q⟩ := t.out e
  rw [h] at q
  cases q
theorem gne (s : Same G H) {p : Addr} (h : H p = none) : G p = none := s.free h
/-- a new frozen object -/
theorem Nxt.new {p : Addr} {o : HO} (s : Same G H) (t : Sta S c G H) (h : H p = none) : Nxt S c G H (upd G p o) (upd H p o) := by
  have gp := gne s h
  refine ⟨fun b u e => ?_, ?_, fun b u n e => ?_, fun b u e => ?_, fun b n => ?_, fun b n => ?_⟩
  · by_cases hb : b = p
    · subst hb; rw [upd_same] at e ⊢; exact e
    · rw [upd_ne hb] at e ⊢; exact s b u e
  · cases S with
    | none => cases c with
      | none => trivial
      | some n => exact t.elim
    | some a =>
      obtain ⟨h1, n, rfl, h2⟩ := t.out rfl
      have ha : a ≠ p := ne_of_none h2 h
      exact ⟨by rw [upd_ne ha]; exact h1, by rw [upd_ne ha]; exact h2⟩
  · rw [upd_ne (ne_of_none e h)]; exact e
  · rw [upd_ne (ne_of_none e gp)]; exact e
  · have hb : b ≠ p := fun e => n (by rw [e]; exact h)
    rw [upd_ne hb]
  · have hb : b ≠ p := fun e => n (by rw [e]; exact h)
    rw [upd_ne hb]; exact n
/-- a new object that is not frozen -/
theorem Nxt.newO {p : Addr} {o : HO} (s : Same G H) (t : Sta S c G H) (h : H p = none) : Nxt S c G H G (upd H p o) := by
  have gp := gne s h
  refine ⟨fun b u e => ?_, ?_, fun b u n e => ?_, Same.refl _, fun b n => rfl, fun b n => ?_⟩
  · rw [upd_ne (ne_of_none e gp)]; exact s b u e
  · cases S with
    | none => cases c with
      | none => trivial
      | some n => exact t.elim
    | some a =>
      obtain ⟨h1, n, rfl, h2⟩ := t.out rfl
      have ha : a ≠ p := ne_of_none h2 h
      exact ⟨h1, by rw [upd_ne ha]; exact h2⟩
  · rw [upd_ne (ne_of_none e h)]; exact e
  · have hb : b ≠ p := fun e => n (by rw [e]; exact h)
    rw [upd_ne hb]; exact n
/-- a new object is frozen later -/
theorem Nxt.freeze {p : Addr} {o : HO} (n : Nxt S c G H G' H') (h0 : H p = none) (hg : G' p = none) (hS : S ≠ some p) (ho : H' p = some o) : Nxt S c G H (upd G' p o) H' := by
  refine ⟨fun b u e => ?_, ?_, n.kp.kh, fun b u e => ?_, fun b hb => ?_, n.kp.dm⟩
  · by_cases hb : b = p
    · subst hb; rw [upd_same] at e; cases e; exact ho
    · rw [upd_ne hb] at e; exact n.sub b u e
  · have t := n.sta
    cases S with
    | none => cases c with
      | none => trivial
      | some m => exact t.elim
    | some a =>
      obtain ⟨h1, m, rfl, h2⟩ := t.out rfl
      have ha : a ≠ p := fun e => hS (by rw [e])
      exact ⟨by rw [upd_ne ha]; exact h1, h2⟩
  · have := n.kp.kg b u e
    rw [upd_ne (ne_of_none this hg)]; exact this
  · have hbp : b ≠ p := fun e => hb (by rw [e]; exact h0)
    rw [upd_ne hbp]; exact n.kp.kn b hb
theorem own_mono {a : Addr} (h : OwnAt K G H a d) (k : Kp S G H G' H') (hS : S ≠ some a) : OwnAt K G' H' a d := by
  cases d with
  | list ds =>
    obtain ⟨vs, e, hd⟩ := h
    exact ⟨vs, k.kh _ _ hS e, dpAll_mono k.kg _ hd⟩
  | _ => exact h.elim
theorem own_there {a : Addr} (h : OwnAt K G H a d) : H a ≠ none := by
  cases d with
  | list ds =>
    obtain ⟨vs, e, hd⟩ := h
    rw [e]
    exact fun q => nomatch q
  | _ => exact h.elim
theorem RR.mono (h : RR K S H0 G H v r) (k : Kp S G H G' H') : RR K S H0 G' H' v r := by
  cases r with
  | fz d => exact dp_mono k.kg _ h
  | ow d =>
    obtain ⟨a, e, h0, hg, hs, ho⟩ := h
    exact ⟨a, e, h0, (k.kn a (own_there ho)).trans hg, hs, own_mono ho k hs⟩
  | bw d =>
    obtain ⟨a, e, hs, ho⟩ := h
    exact ⟨a, e, hs, own_mono ho k hs⟩
  | st => exact h
theorem SV.mono {He : Hp} (h : SV K S He G H v r) (k : Kp S G H G' H') : SV K S He G' H' v r := by
  cases r with
  | fz d => exact dp_mono k.kg _ h
  | ow d =>
    obtain ⟨a, e, h0, hg, hs, ho⟩ := h
    exact ⟨a, e, h0, (k.kn a (own_there ho)).trans hg, hs, own_mono ho k hs⟩
  | bw d =>
    obtain ⟨a, e, h0, hs, ho⟩ := h
    exact ⟨a, e, h0, hs, own_mono ho k hs⟩
  | st => exact h
theorem Vw.of_dp (s : Same G H) (h : Dq K G v d) : Vw K G H v d := by
  cases d with
  | none => cases h; rfl
  | bool b => cases h; rfl
  | int i => cases h; rfl
  | str x => cases h; rfl
  | list ds => cases h with | lst hs ha => exact ⟨_, _, rfl, s.seq hs, ha⟩
  | tuple ds => cases h with | tup hs ha => exact ⟨_, _, rfl, hs, ha⟩
  | dict _ => cases h
theorem Vw.of_own {a : Addr} (h : OwnAt K G H a d) : Vw K G H (.ref a) d := by
  cases d with
  | list ds =>
    obtain ⟨vs, e, hd⟩ := h
    exact ⟨a, vs, rfl, .inl (.inl e), hd⟩
  | _ => exact h.elim
theorem Vw.dp (s : Same G H) (h : Vw K G H v d) : Dq K H v d := by
  cases d with
  | none => cases h; exact .non
  | bool b => cases h; exact .bl b
  | int i => cases h; exact .int i
  | str x => cases h; exact .str x
  | list ds =>
    obtain ⟨a, vs, rfl, h1, h2⟩ := h
    exact .lst h1 (dpAll_mono s _ h2)
  | tuple ds =>
    obtain ⟨a, vs, rfl, h1, h2⟩ := h
    exact .tup (same_sqT s h1) (dpAll_mono s _ h2)
  | dict _ => exact h.elim
theorem RR.vw (s : Same G H) (h : RR K S H0 G H v r) (e : r.rd c = some (d, c')) : Vw K G H v d ∧ c' = c := by
  cases r with
  | fz x => cases e; exact ⟨.of_dp s h, rfl⟩
  | ow x =>
    cases e
    obtain ⟨a, rfl, _, _, _, ho⟩ := h
    exact ⟨.of_own ho, rfl⟩
  | bw x =>
    cases e
    obtain ⟨a, rfl, _, ho⟩ := h
    exact ⟨.of_own ho, rfl⟩
  | st => cases e
end

/-- the state of a def's body: Se, Ge, He as they were at its entry -/
structure SR (K : PySem.W.Frag) (Se : Option Addr) (Ge He : Hp) (S : Option Addr) (c : Option Nat) (ρ : Rho) (σ : L2.St) (G H : Hp) : Prop where
  sub : Same G H
  sta : Sta S c G H
  kp : Kp Se Ge He G H
  ss : Se = S ∨ (Se = none ∧ ∃ p, S = some p ∧ He p = none)
  len : σ.length = ρ.length
  slot : ∀ (i : Nat) s, ρ[i]? = some (some s) → ∃ v, σ[i]? = some (some v) ∧ SV K S He G H v s
  inj : ∀ (i j : Nat) d d' a, ρ[i]? = some (some (.ow d)) → ρ[j]? = some (some (.ow d')) → σ[i]? = some (some (.ref a)) → σ[j]? = some (some (.ref a)) → i = j
section
variable {K : PySem.W.Frag} {Se S : Option Addr} {c c' : Option Nat} {Ge He G H G' H' : Hp} {ρ : Rho} {σ : L2.St} {v : V} {d : D} {r : Sl} {i : Nat}
theorem Kp.se (a : Kp Se Ge He G H) (ss : Se = S ∨ (Se = none ∧ ∃ p, S = some p ∧ He p = none)) (k : Kp S G H G' H') : Kp Se Ge He G' H' := by
  refine ⟨fun b o n e => k.kh b o ?_ (a.kh b o n e), a.kg.trans k.kg, fun b h => (k.kn b (a.dm b h)).trans (a.kn b h), fun b h => k.dm b (a.dm b h)⟩
  rcases ss with rfl | ⟨_, p, rfl, hp⟩
  · exact n
  · intro q
    cases q
    rw [hp] at e
    cases e
theorem SR.step (s : SR K Se Ge He S c ρ σ G H) (n : Nxt S c' G H G' H') : SR K Se Ge He S c' ρ σ G' H' where
  sub := n.sub
  sta := n.sta
  kp := s.kp.se s.ss n.kp
  ss := s.ss
  len := s.len
  slot := fun i x e => by
    obtain ⟨v, e1, h⟩ := s.slot i x e
    exact ⟨v, e1, h.mono n.kp⟩
  inj := s.inj
theorem set_cases {α : Type} {l : List (Option α)} {i j : Nat} {x y : α} (h : (l.set i (some x))[j]? = some (some y)) : (j = i ∧ x = y) ∨ (j ≠ i ∧ l[j]? = some (some y)) := by
  by_cases e : i = j
  · subst e
    by_cases hl : i < l.length
    · rw [List.getElem?_set_self hl] at h
      cases h
      exact .inl ⟨rfl, rfl⟩
    · rw [List.getElem?_eq_none (by simpa using hl)] at h
      cases h
  · rw [List.getElem?_set_ne e] at h
    exact .inr ⟨Ne.symm e, h⟩
theorem set_none_cases {α : Type} {l : List (Option α)} {i j : Nat} {y : α} (h : (l.set i none)[j]? = some (some y)) : j ≠ i ∧ l[j]? = some (some y) := by
  by_cases e : i = j
  · subst e
    by_cases hl : i < l.length
    · rw [List.getElem?_set_self hl] at h
      cases h
    · rw [List.getElem?_eq_none (by simpa using hl)] at h
      cases h
  · rw [List.getElem?_set_ne e] at h
    exact ⟨Ne.symm e, h⟩
/-- a name is forgotten -/
theorem SR.drop (s : SR K Se Ge He S c ρ σ G H) (i : Nat) : SR K Se Ge He S c (ρ.set i none) σ G H where
  sub := s.sub
  sta := s.sta
  kp := s.kp
  ss := s.ss
  len := by rw [List.length_set]; exact s.len
  slot := fun j x e => s.slot j x (set_none_cases e).2
  inj := fun j k d d' a h1 h2 => s.inj j k d d' a (set_none_cases h1).2 (set_none_cases h2).2
/-- a name is stored -/
theorem SR.put (s : SR K Se Ge He S c ρ σ G H) (hv : SV K S He G H v r) (hn : ∀ d, r = .ow d → ∀ (j : Nat) e a, j ≠ i → ρ[j]? = some (some (.ow e)) → σ[j]? = some (some (.ref a)) → v ≠ .ref a) :
    SR K Se Ge He S c (ρ.set i (some r)) (σ.set i (some v)) G H := by
  by_cases hi : i < σ.length
  · refine ⟨s.sub, s.sta, s.kp, s.ss, by rw [List.length_set, List.length_set]; exact s.len, fun j x e => ?_, fun j k d d' a h1 h2 h3 h4 => ?_⟩
    · rcases set_cases e with ⟨rfl, rfl⟩ | ⟨hj, e⟩
      · exact ⟨v, List.getElem?_set_self hi, hv⟩
      · obtain ⟨w, e1, h⟩ := s.slot j x e
        exact ⟨w, by rw [List.getElem?_set_ne (Ne.symm hj)]; exact e1, h⟩
    · rcases set_cases h1 with ⟨rfl, e1⟩ | ⟨hj, e1⟩
      · rcases set_cases h2 with ⟨rfl, e2⟩ | ⟨hk, e2⟩
        · rfl
        · rw [List.getElem?_set_self hi] at h3
          rw [List.getElem?_set_ne (Ne.symm hk)] at h4
          cases h3
          exact absurd rfl (hn d e1 k d' a hk e2 h4)
      · rcases set_cases h2 with ⟨rfl, e2⟩ | ⟨hk, e2⟩
        · rw [List.getElem?_set_self hi] at h4
          rw [List.getElem?_set_ne (Ne.symm hj)] at h3
          cases h4
          exact absurd rfl (hn d' e2 j d a hj e1 h3)
        · rw [List.getElem?_set_ne (Ne.symm hj)] at h3
          rw [List.getElem?_set_ne (Ne.symm hk)] at h4
          exact s.inj j k d d' a e1 e2 h3 h4
  · have h2 := s.len
    rw [List.set_eq_of_length_le (by omega), List.set_eq_of_length_le (by omega)]
    exact s
theorem SR.putF (s : SR K Se Ge He S c ρ σ G H) (hv : Dq K G v d) : SR K Se Ge He S c (ρ.set i (some (.fz d))) (σ.set i (some v)) G H :=
  s.put (show SV K S He G H v (.fz d) from hv) fun _ e => nomatch e
/-- a new object is stored -/
theorem SR.putO (s : SR K Se Ge He S c ρ σ G H) {H0 : Hp} (d0 : ∀ b, He b ≠ none → H0 b ≠ none) (d1 : ∀ (j : Nat) e a, ρ[j]? = some (some (.ow e)) → σ[j]? = some (some (.ref a)) → H0 a ≠ none) (hv : RR K S H0 G H v (.ow d)) :
    SR K Se Ge He S c (ρ.set i (some (.ow d))) (σ.set i (some v)) G H := by
  obtain ⟨a, rfl, h0, hg, hS, ho⟩ := hv
  refine s.put ⟨a, rfl, ?_, hg, hS, ho⟩ fun d' _ j e b hj h1 h2 q => ?_
  · cases q : He a with
    | none => rfl
    | some o => exact absurd h0 (d0 a (by rw [q]; exact fun z => nomatch z))
  · cases q
    exact d1 j e a h1 h2 h0
theorem SR.there (s : SR K Se Ge He S c ρ σ G H) {j : Nat} {e : D} {a : Addr} (h : ρ[j]? = some (some (.ow e))) (h2 : σ[j]? = some (some (.ref a))) : H a ≠ none := by
  obtain ⟨v, e1, hv⟩ := s.slot j _ h
  rw [h2] at e1
  cases e1
  obtain ⟨b, e, _, _, _, ho⟩ := hv
  cases e
  exact own_there ho
/-- the object of an owned slot is changed -/
theorem SR.chg (s : SR K Se Ge He S c ρ σ G H) {a : Addr} {o : HO} {d' : D} (hi : ρ[i]? = some (some (.ow d))) (ha : σ[i]? = some (some (.ref a))) (hn : OwnAt K G (upd H a o) a d') :
    SR K Se Ge He S c (ρ.set i (some (.ow d'))) σ G (upd H a o) := by
  obtain ⟨v, e1, hv⟩ := s.slot i _ hi
  rw [ha] at e1
  cases e1
  obtain ⟨b, eb, h0, hg, hS, ho⟩ := hv
  cases eb
  have keep : ∀ b u, b ≠ a → H b = some u → (upd H a o) b = some u := fun b u n e => by rw [upd_ne n]; exact e
  refine ⟨fun b u e => keep b u (ne_of_none e hg) (s.sub b u e), ?_, ⟨fun b u n e => keep b u (ne_of_none e h0) (s.kp.kh b u n e), s.kp.kg, s.kp.kn, fun b n => ?_⟩, s.ss, by rw [List.length_set]; exact s.len, fun j x e => ?_, fun j k d1 d2 b h1 h2 h3 h4 => ?_⟩
  · have t := s.sta
    cases S with
    | none => cases c with
      | none => trivial
      | some n => exact t.elim
    | some p =>
      obtain ⟨h1, n, rfl, h2⟩ := t.out rfl
      have hp : p ≠ a := fun e => hS (by rw [e])
      exact ⟨h1, by rw [upd_ne hp]; exact h2⟩
  · have := s.kp.dm b n
    by_cases hb : b = a
    · subst hb; rw [upd_same]; exact fun q => nomatch q
    · rw [upd_ne hb]; exact this
  · rcases set_cases e with ⟨rfl, rfl⟩ | ⟨hj, e⟩
    · exact ⟨_, ha, a, rfl, h0, hg, hS, hn⟩
    · obtain ⟨w, e1, h⟩ := s.slot j x e
      refine ⟨w, e1, ?_⟩
      cases x with
      | fz y => exact h
      | ow y =>
        obtain ⟨b, rfl, k0, kg, kS, ko⟩ := h
        have hb : b ≠ a := fun q => hj (s.inj j i y d a e hi (by rw [e1, q]) ha)
        refine ⟨b, rfl, k0, kg, kS, ?_⟩
        cases y with
        | list ds => obtain ⟨vs, q1, q2⟩ := ko; exact ⟨vs, keep b _ hb q1, q2⟩
        | _ => exact ko.elim
      | bw y =>
        obtain ⟨b, rfl, k0, kS, ko⟩ := h
        have hb : b ≠ a := fun q => k0 (by rw [q]; exact h0)
        refine ⟨b, rfl, k0, kS, ?_⟩
        cases y with
        | list ds => obtain ⟨vs, q1, q2⟩ := ko; exact ⟨vs, keep b _ hb q1, q2⟩
        | _ => exact ko.elim
      | st => exact h
  · have f1 : ∃ e, ρ[j]? = some (some (.ow e)) := by
      rcases set_cases h1 with ⟨rfl, _⟩ | ⟨_, e1⟩
      · exact ⟨_, hi⟩
      · exact ⟨_, e1⟩
    have f2 : ∃ e, ρ[k]? = some (some (.ow e)) := by
      rcases set_cases h2 with ⟨rfl, _⟩ | ⟨_, e1⟩
      · exact ⟨_, hi⟩
      · exact ⟨_, e1⟩
    obtain ⟨_, f1⟩ := f1
    obtain ⟨_, f2⟩ := f2
    exact s.inj j k _ _ b f1 f2 h3 h4
/-- an owned list is frozen -/
theorem SR.frz (s : SR K Se Ge He S c ρ σ G H) {ds : List D} (hi : ρ[i]? = some (some (.ow (.list ds)))) : ∃ a vs, Same G (upd G a (.lst vs)) ∧ SR K Se Ge He S c (ρ.set i (some (.fz (.list ds)))) σ (upd G a (.lst vs)) H := by
  obtain ⟨v, e1, a, rfl, h0, hg, hS, vs, ho, hd⟩ := s.slot i _ hi
  have sG : Same G (upd G a (.lst vs)) := fun b u e => by rw [upd_ne (ne_of_none e hg)]; exact e
  refine ⟨a, vs, sG, fun b u e => ?_, ?_, ⟨s.kp.kh, s.kp.kg.trans sG, fun b n => ?_, s.kp.dm⟩, s.ss, by rw [List.length_set]; exact s.len, fun j x e => ?_, fun j k d1 d2 b h1 h2 h3 h4 => ?_⟩
  · by_cases hb : b = a
    · subst hb; rw [upd_same] at e; cases e; exact ho
    · rw [upd_ne hb] at e; exact s.sub b u e
  · have t := s.sta
    cases S with
    | none => cases c with
      | none => trivial
      | some n => exact t.elim
    | some p =>
      obtain ⟨h1, n, rfl, h2⟩ := t.out rfl
      have hp : p ≠ a := fun e => hS (by rw [e])
      exact ⟨by rw [upd_ne hp]; exact h1, h2⟩
  · have hb : b ≠ a := fun e => n (by rw [e]; exact h0)
    rw [upd_ne hb]; exact s.kp.kn b n
  · rcases set_cases e with ⟨rfl, rfl⟩ | ⟨hj, e⟩
    · exact ⟨_, e1, .lst (.inl (.inl upd_same)) (dpAll_mono sG _ hd)⟩
    · obtain ⟨w, e2, h⟩ := s.slot j x e
      refine ⟨w, e2, ?_⟩
      cases x with
      | fz y => exact dp_mono sG _ h
      | ow y =>
        obtain ⟨b, rfl, k0, kg, kS, ko⟩ := h
        have hb : b ≠ a := fun q => hj (s.inj j i y _ a e hi (by rw [e2, q]) e1)
        refine ⟨b, rfl, k0, by rw [upd_ne hb]; exact kg, kS, ?_⟩
        cases y with
        | list ds => obtain ⟨vs, q1, q2⟩ := ko; exact ⟨vs, q1, dpAll_mono sG _ q2⟩
        | _ => exact ko.elim
      | bw y =>
        obtain ⟨b, rfl, k0, kS, ko⟩ := h
        refine ⟨b, rfl, k0, kS, ?_⟩
        cases y with
        | list ds => obtain ⟨vs, q1, q2⟩ := ko; exact ⟨vs, q1, dpAll_mono sG _ q2⟩
        | _ => exact ko.elim
      | st => exact h
  · rcases set_cases h1 with ⟨_, q⟩ | ⟨_, f1⟩
    · cases q
    · rcases set_cases h2 with ⟨_, q⟩ | ⟨_, f2⟩
      · cases q
      · exact s.inj j k _ _ b f1 f2 h3 h4
end
end SB
/-! Operations on data, over the hand layer. -/
namespace SB
open PySem PySem.Spec PyProof.Rows L2

/-- what follows a value -/
def Then (K : PySem.W.Frag) (S : Option Addr) (c : Option Nat) (G H : Hp) (s : Sl) (Q : VK) : Prop := ∀ v G' H', Nxt S c G H G' H' → RR K S H G' H' v s → Q v H'
/-- an operation of two data, by values -/
def rD (K : PySem.W.Frag) (g : D → D → Option Sl) : R2 := fun x y H Q => ∃ S G c d e s, Same G H ∧ Sta S c G H ∧ Vw K G H x d ∧ Vw K G H y e ∧ g d e = some s ∧ Then K S c G H s Q
section
variable {X : Cx}
theorem Then.plain {K : PySem.W.Frag} {S : Option Addr} {c : Option Nat} {G H : Hp} {d : D} {Q : VK} (s : Same G H) (t : Sta S c G H) (q : Then K S c G H (.fz d) Q) {v : V} (h : Dq K G v d) : Q v H := q v G H (.refl s t) h
theorem Then.tup {K : PySem.W.Frag} {S : Option Addr} {c : Option Nat} {G H : Hp} {ds : List D} {vs : List V} {Q : VK} (s : Same G H) (t : Sta S c G H) (q : Then K S c G H (.fz (.tuple ds)) Q) (h : DqAll K G vs ds) : ∀ p, H p = none → Q (.ref p) (upd H p (.tup vs)) :=
  fun p hp => q _ _ _ (.new s t hp) (.tup (.inl (.inl upd_same)) (dpAll_mono (Nxt.new s t hp (o := .tup vs)).kp.kg _ h))
theorem Then.lst {K : PySem.W.Frag} {S : Option Addr} {c : Option Nat} {G H : Hp} {ds : List D} {vs : List V} {Q : VK} (s : Same G H) (t : Sta S c G H) (q : Then K S c G H (.ow (.list ds)) Q) (h : DqAll K G vs ds) : ∀ p, H p = none → Q (.ref p) (upd H p (.lst vs)) :=
  fun p hp => q _ _ _ (.newO s t hp) ⟨p, rfl, hp, gne s hp, sne t hp, vs, upd_same, h⟩

/-! ### list + list, tracked or frozen -/
def rCatR (K : PySem.W.Frag) : R2 := fun x y H Q => ∃ l b xs zs, x = .ref l ∧ y = .ref b ∧ SqL K H l xs ∧ SqL K H b zs ∧ xs.length + zs.length ≤ sizeLine ∧ ∀ p, H p = none → Q (.ref p) (upd H p (.lst (xs ++ zs)))
theorem rd_lst {pins : List (Addr × Obj)} {σ : L2.St} {H : Hp} {s : Shared} {l : Addr} {xs : List V} (I : Inv X pins σ H s) (h : Rd H l (.lst xs)) : xs.length ≤ sizeLine ∧ ∃ (its : List Value) (n : Nat), Vals xs its ∧ xs.length = its.length ∧ s.heap.get? l = some { cls := .type "list", data := .seq its.toArray n } := by
  obtain ⟨z, its, n, r, e⟩ := h.ok I.hok
  exact ⟨z, its, n, r, r.length, e⟩
theorem sq_lst {pins : List (Addr × Obj)} {σ : L2.St} {H : Hp} {s : Shared} {l : Addr} {xs : List V} (I : Inv X pins σ H s) (h : SqL X.K H l xs) : ∃ (its : List Value) (n : Nat) (od : Option Addr) (osl : Array (Option Value)), Vals xs its ∧ xs.length = its.length ∧ s.heap.get? l = some ⟨.type "list", od, .seq its.toArray n, osl⟩ := by
  rcases h with h | ⟨o, arr, n, look, kind, _, dat, _, vals⟩
  · obtain ⟨_, its, n, r, hl, e⟩ := rd_lst I h
    exact ⟨its, n, _, _, r, hl, e⟩
  · obtain ⟨oc, od, odt, osl⟩ := o
    simp only at kind dat
    subst kind dat
    exact ⟨arr.toList, n, od, osl, vals, vals.length, I.kIn _ _ look⟩
theorem op_catR : OpR X (binaryOp .Add) (rCatR X.K) := by
  intro pins s σ H x y v u Q I rx ry h
  obtain ⟨l, b, xs, zs, rfl, rfl, hH, hB, hz, q⟩ := h
  cases rx
  cases ry
  obtain ⟨its, n, od, osl, r, hl, e⟩ := sq_lst I hH
  obtain ⟨its2, n2, od2, osl2, r2, hl2, e2⟩ := sq_lst I hB
  have sz : its.toArray.size + its2.toArray.size ≤ sizeLine := by
    rw [List.size_toArray, List.size_toArray, ← hl, ← hl2]
    exact hz
  refine concat_meets ⟨_, e, rfl⟩ ⟨_, e2, rfl⟩ noFill_list_add seq_list_add PySem.F.slot_list_add PySem.F.entry_list_add (PySem.F.args_list_add_2 _ _)
    (list_addW l b its.toArray its2.toArray n n2 od od2 osl osl2 sz) ⟨e, e2, ?_⟩
  have ea : its.toArray ++ its2.toArray = (its ++ its2).toArray := by simp
  rw [ea]
  exact ⟨.ref _, _, I.lnew (t' := s.toks) (r.append r2) (by rw [List.length_append]; omega), rfl, q _ I.fresh⟩
theorem vw_len {K : PySem.W.Frag} {G H : Hp} {vs : List V} {ds : List D} (h : DqAll K G vs ds) {n : Nat} (e : ds.length = n) : vs.length = n := (dpAll_length h).trans e

theorem opD_add : OpR X (binaryOp .Add) (rD X.K (binD .Add)) := by
  intro pins s σ H x y v u Q I rx ry h
  obtain ⟨S, G, c, d, e, r, sm, st, hx, hy, hr, q⟩ := h
  cases d <;> cases e <;> simp only [binD, reduceCtorEq] at hr
  · cases hx; cases hy; cases hr
    exact op_add pins s σ H _ _ v u Q I rx ry ⟨_, _, rfl, rfl, q.plain sm st (.int _)⟩
  · cases hx; cases hy
    split at hr
    · cases hr
      rename_i hz
      exact op_add_str pins s σ H _ _ v u Q I rx ry ⟨_, _, rfl, rfl, hz, q.plain sm st (.str _)⟩
    · cases hr
  · obtain ⟨a, vs, rfl, ha, da⟩ := hx
    obtain ⟨b, ws, rfl, hb, db⟩ := hy
    split at hr
    · cases hr
      rename_i hz
      have l1 := dpAll_length da
      have l2 := dpAll_length db
      exact op_catR pins s σ H _ _ v u Q I rx ry ⟨a, b, vs, ws, rfl, rfl, ha, hb, by omega, q.lst sm st (dpAll_append da db)⟩
    · cases hr
  · obtain ⟨a, vs, rfl, ha, da⟩ := hx
    obtain ⟨b, ws, rfl, hb, db⟩ := hy
    split at hr
    · cases hr
      rename_i hz
      have l1 := dpAll_length da
      have l2 := dpAll_length db
      refine op_catA pins s σ H _ _ v u Q I rx ry ⟨a, b, vs, ws, rfl, rfl, same_sqT sm ha, same_sqT sm hb, by omega, fun z => ?_, fun _ z => ?_, fun _ _ => q.tup sm st (dpAll_append da db)⟩
      · subst z
        cases da
        exact q.plain sm st (.tup hb db)
      · subst z
        cases db
        rw [List.append_nil] at q
        exact q.plain sm st (.tup ha da)
    · cases hr
theorem opD_sub : OpR X (binaryOp .Sub) (rD X.K (binD .Sub)) := by
  intro pins s σ H x y v u Q I rx ry h
  obtain ⟨S, G, c, d, e, r, sm, st, hx, hy, hr, q⟩ := h
  cases d <;> cases e <;> simp only [binD, reduceCtorEq] at hr
  cases hx; cases hy; cases hr
  exact op_sub pins s σ H _ _ v u Q I rx ry ⟨_, _, rfl, rfl, q.plain sm st (.int _)⟩
theorem dpAll_rep {K : PySem.W.Frag} {G : Hp} {vs : List V} {ds : List D} (h : DqAll K G vs ds) : ∀ k : Nat, DqAll K G (List.replicate k vs).flatten (List.replicate k ds).flatten
  | 0 => .nil
  | k + 1 => by
    rw [List.replicate_succ, List.replicate_succ, List.flatten_cons, List.flatten_cons]
    exact dpAll_append h (dpAll_rep h k)
theorem opD_mul : OpR X (binaryOp .Mult) (rD X.K (binD .Mult)) := by
  intro pins s σ H x y v u Q I rx ry h
  obtain ⟨S, G, c, d, e, r, sm, st, hx, hy, hr, q⟩ := h
  cases d <;> cases e <;> simp only [binD, reduceCtorEq] at hr
  · cases hx; cases hy
    split at hr
    · cases hr
      rename_i hz
      exact op_mul pins s σ H _ _ v u Q I rx ry ⟨_, _, rfl, rfl, hz, q.plain sm st (.int _)⟩
    · cases hr
  · obtain ⟨a, vs, rfl, ha, da⟩ := hx
    cases hy
    split at hr
    · cases hr
      rename_i hz
      have l1 := dpAll_length da
      have n1 : vs ≠ [] := fun e => by
        subst e
        cases da
        exact hz.1 rfl
      exact op_repT pins s σ H _ _ v u Q I rx ry ⟨a, _, vs, rfl, rfl, same_sqT sm ha, n1, hz.2.1, hz.2.2.1, by omega, q.tup sm st (dpAll_rep da _)⟩
    · cases hr
theorem opD_fdiv : OpR X (binaryOp .FloorDiv) (rD X.K (binD .FloorDiv)) := by
  intro pins s σ H x y v u Q I rx ry h
  obtain ⟨S, G, c, d, e, r, sm, st, hx, hy, hr, q⟩ := h
  cases d <;> cases e <;> simp only [binD, reduceCtorEq] at hr
  cases hx; cases hy
  split at hr
  · cases hr
    rename_i hz
    exact op_fdiv pins s σ H _ _ v u Q I rx ry ⟨_, _, rfl, rfl, hz, q.plain sm st (.int _)⟩
  · cases hr
theorem opD_mod : OpR X (binaryOp .Mod) (rD X.K (binD .Mod)) := by
  intro pins s σ H x y v u Q I rx ry h
  obtain ⟨S, G, c, d, e, r, sm, st, hx, hy, hr, q⟩ := h
  cases d <;> cases e <;> simp only [binD, reduceCtorEq] at hr
  cases hx; cases hy
  split at hr
  · cases hr
    rename_i hz
    exact op_mod pins s σ H _ _ v u Q I rx ry ⟨_, _, rfl, rfl, hz, q.plain sm st (.int _)⟩
  · cases hr
theorem opD_pow : OpR X (binaryOp .Pow) (rD X.K (binD .Pow)) := by
  intro pins s σ H x y v u Q I rx ry h
  obtain ⟨S, G, c, d, e, r, sm, st, hx, hy, hr, q⟩ := h
  cases d <;> cases e <;> simp only [binD, reduceCtorEq] at hr
  cases hx; cases hy
  split at hr
  · cases hr
    rename_i hz
    exact op_pow pins s σ H _ _ v u Q I rx ry ⟨_, _, rfl, rfl, hz, q.plain sm st (.int _)⟩
  · cases hr
theorem opD_bin (op : Operator) : OpR X (binaryOp op) (rD X.K (binD op)) := by
  cases op with
  | Add => exact opD_add
  | Sub => exact opD_sub
  | Mult => exact opD_mul
  | FloorDiv => exact opD_fdiv
  | Mod => exact opD_mod
  | Pow => exact opD_pow
  | _ =>
    intro pins s σ H x y v u Q I rx ry h
    obtain ⟨S, G, c, d, e, r, sm, st, hx, hy, hr, q⟩ := h
    cases d <;> cases e <;> simp only [binD, reduceCtorEq] at hr

/-! ### comparisons -/
def cmpS (op : CmpOp) (d e : D) : Option Sl := (cmpD op d e).map fun k => .fz (.bool k)
theorem opD_eq (hu : X.A.units + 65 < cLine) : OpR X (compareOp .Eq) (rD X.K (cmpS .Eq)) := by
  intro pins s σ H x y v u Q I rx ry h
  obtain ⟨S, G, c, d, e, r, sm, st, hx, hy, hr, q⟩ := h
  simp only [cmpS, cmpD] at hr
  split at hr
  · rename_i hz
    rw [Bool.and_eq_true] at hz
    cases hr
    exact op_eqD (by omega) pins s σ H _ _ v u Q I rx ry ⟨d, e, Dq.dp _ (hx.dp sm), Dq.dp _ (hy.dp sm), hz.1, hz.2, q.plain sm st (.bl _)⟩
  · cases hr
theorem opD_ne (hu : X.A.units + 65 < cLine) : OpR X (compareOp .NotEq) (rD X.K (cmpS .NotEq)) := by
  intro pins s σ H x y v u Q I rx ry h
  obtain ⟨S, G, c, d, e, r, sm, st, hx, hy, hr, q⟩ := h
  simp only [cmpS, cmpD] at hr
  split at hr
  · rename_i hz
    rw [Bool.and_eq_true] at hz
    cases hr
    exact op_neD (by omega) pins s σ H _ _ v u Q I rx ry ⟨d, e, Dq.dp _ (hx.dp sm), Dq.dp _ (hy.dp sm), hz.1, hz.2, q.plain sm st (.bl _)⟩
  · cases hr
theorem shaped_depth {d : D} (h : okD d = true) : d.depth ≤ 64 := by
  have h' : (d.canLay0 && decide (d.depth ≤ 64)) = true := h
  rw [Bool.and_eq_true] at h'
  exact of_decide_eq_true h'.2
theorem opD_lt (hu : X.A.units + 65 < cLine) : OpR X (compareOp .Lt) (rD X.K (cmpS .Lt)) := by
  intro pins s σ H x y v u Q I rx ry h
  obtain ⟨S, G, c, d, e, r, sm, st, hx, hy, hr, q⟩ := h
  cases d <;> cases e <;> simp only [cmpS, cmpD, Option.map_none, Option.map_some, reduceCtorEq] at hr
  · cases hx; cases hy; cases hr
    exact op_lt pins s σ H _ _ v u Q I rx ry ⟨_, _, rfl, rfl, q.plain sm st (.bl _)⟩
  · cases hx; cases hy; cases hr
    exact op_lt_str pins s σ H _ _ v u Q I rx ry ⟨_, _, rfl, rfl, q.plain sm st (.bl _)⟩
  · split at hr
    · rename_i xs ys hz
      rw [Bool.and_eq_true, Bool.and_eq_true] at hz
      obtain ⟨⟨h1, h2⟩, h3⟩ := hz
      cases hr
      obtain ⟨as, r1⟩ := Dp.reads I _ x v (Dq.dp _ (hx.dp sm)) rx
      obtain ⟨bs, r2⟩ := Dp.reads I _ y u (Dq.dp _ (hy.dp sm)) ry
      have d1 := shaped_depth h2
      exact PySem.W.lt_data r1 r2 h1 (fun z => nomatch z) (Nat.lt_of_le_of_lt (Nat.add_le_add_left (Nat.le_trans (Nat.min_le_left _ _) d1) _) (by omega)) ⟨.bl _, H, I, rfl, q.plain sm st (.bl _)⟩
    · cases hr
theorem opD_le : OpR X (compareOp .LtE) (rD X.K (cmpS .LtE)) := by
  intro pins s σ H x y v u Q I rx ry h
  obtain ⟨S, G, c, d, e, r, sm, st, hx, hy, hr, q⟩ := h
  cases d <;> cases e <;> simp only [cmpS, cmpD, Option.map_none, Option.map_some, reduceCtorEq] at hr
  cases hx; cases hy; cases hr
  exact op_le pins s σ H _ _ v u Q I rx ry ⟨_, _, rfl, rfl, q.plain sm st (.bl _)⟩
theorem opD_gt : OpR X (compareOp .Gt) (rD X.K (cmpS .Gt)) := by
  intro pins s σ H x y v u Q I rx ry h
  obtain ⟨S, G, c, d, e, r, sm, st, hx, hy, hr, q⟩ := h
  cases d <;> cases e <;> simp only [cmpS, cmpD, Option.map_none, Option.map_some, reduceCtorEq] at hr
  cases hx; cases hy; cases hr
  exact op_gt pins s σ H _ _ v u Q I rx ry ⟨_, _, rfl, rfl, q.plain sm st (.bl _)⟩
theorem opD_ge : OpR X (compareOp .GtE) (rD X.K (cmpS .GtE)) := by
  intro pins s σ H x y v u Q I rx ry h
  obtain ⟨S, G, c, d, e, r, sm, st, hx, hy, hr, q⟩ := h
  cases d <;> cases e <;> simp only [cmpS, cmpD, Option.map_none, Option.map_some, reduceCtorEq] at hr
  cases hx; cases hy; cases hr
  exact op_ge pins s σ H _ _ v u Q I rx ry ⟨_, _, rfl, rfl, q.plain sm st (.bl _)⟩
theorem str_one {x : Str} {c : Nat} (h : x.cps.toList = [c]) : x = ⟨#[c]⟩ := PySem.W.str_of_cps (by rw [h])
theorem in_core (hu : X.A.units + 65 < cLine) {pins : List (Addr × Obj)} {s : Shared} {σ : L2.St} {H G : Hp} {x y : V} {v u : Value} {Q : VK} {d : D} {ds : List D} (sm : Same G H) (I : Inv X pins σ H s) (rx : RelV x v) (ry : RelV y u)
    (hx : Vw X.K G H x d) (hd : okD d = true) (hy : (Vw X.K G H y (.list ds) ∧ okD (.list ds) = true) ∨ (Vw X.K G H y (.tuple ds) ∧ okD (.tuple ds) = true)) (q : Q (.bl (ds.any fun z => PyData.eqv z d)) H) :
    wpAny (model X.prog X.w) X.A (compareOp .In v u) (EP X pins σ Q) X.xe s := by
  rcases hy with ⟨hy, se⟩ | ⟨hy, se⟩
  · exact op_inD hu pins s σ H _ _ v u Q I rx ry ⟨d, ds, Dq.dp _ (hx.dp sm), Dq.dp _ (hy.dp sm), hd, se, q⟩
  · obtain ⟨as, r1⟩ := Dp.reads I _ x v (Dq.dp _ (hx.dp sm)) rx
    obtain ⟨bs, r2⟩ := Dp.reads I _ y u (Dq.dp _ (hy.dp sm)) ry
    exact SeqAt.in_tuple_reads r2 r1 (SeqAt.canLay_of_shaped se) (SeqAt.canLay_of_shaped hd) (room_in_shaped hd hu) ⟨.bl _, H, I, rfl, q⟩
theorem notIn_core (hu : X.A.units + 65 < cLine) {pins : List (Addr × Obj)} {s : Shared} {σ : L2.St} {H G : Hp} {x y : V} {v u : Value} {Q : VK} {d : D} {ds : List D} (sm : Same G H) (I : Inv X pins σ H s) (rx : RelV x v) (ry : RelV y u)
    (hx : Vw X.K G H x d) (hd : okD d = true) (hy : (Vw X.K G H y (.list ds) ∧ okD (.list ds) = true) ∨ (Vw X.K G H y (.tuple ds) ∧ okD (.tuple ds) = true)) (q : Q (.bl (!ds.any fun z => PyData.eqv z d)) H) :
    wpAny (model X.prog X.w) X.A (compareOp .NotIn v u) (EP X pins σ Q) X.xe s := by
  rcases hy with ⟨hy, se⟩ | ⟨hy, se⟩
  · exact op_notInD hu pins s σ H _ _ v u Q I rx ry ⟨d, ds, Dq.dp _ (hx.dp sm), Dq.dp _ (hy.dp sm), hd, se, q⟩
  · obtain ⟨as, r1⟩ := Dp.reads I _ x v (Dq.dp _ (hx.dp sm)) rx
    obtain ⟨bs, r2⟩ := Dp.reads I _ y u (Dq.dp _ (hy.dp sm)) ry
    exact SeqAt.notIn_tuple_reads r2 r1 (SeqAt.canLay_of_shaped se) (SeqAt.canLay_of_shaped hd) (room_in_shaped hd hu) ⟨.bl _, H, I, rfl, q⟩
theorem opD_in (hu : X.A.units + 65 < cLine) : OpR X (compareOp .In) (rD X.K (cmpS .In)) := by
  intro pins s σ H x y v u Q I rx ry h
  obtain ⟨S, G, c, d, e, r, sm, st, hx, hy, hr, q⟩ := h
  cases e with
  | list ds =>
    have hr' : (if okD d && okD (.list ds) then some (ds.any fun z => PyData.eqv z d) else none).map (fun k => Sl.fz (.bool k)) = some r := by cases d <;> exact hr
    split at hr'
    · rename_i hz
      rw [Bool.and_eq_true] at hz
      cases hr'
      exact in_core hu sm I rx ry hx hz.1 (.inl ⟨hy, hz.2⟩) (q.plain sm st (.bl _))
    · cases hr'
  | tuple ds =>
    have hr' : (if okD d && okD (.tuple ds) then some (ds.any fun z => PyData.eqv z d) else none).map (fun k => Sl.fz (.bool k)) = some r := by cases d <;> exact hr
    split at hr'
    · rename_i hz
      rw [Bool.and_eq_true] at hz
      cases hr'
      exact in_core hu sm I rx ry hx hz.1 (.inr ⟨hy, hz.2⟩) (q.plain sm st (.bl _))
    · cases hr'
  | str z =>
    cases d <;> simp only [cmpS, cmpD, Option.map_none, Option.map_some, reduceCtorEq] at hr
    cases hx; cases hy
    split at hr
    · rename_i w cc hc
      cases hr
      rw [str_one hc] at rx
      exact op_in_sign pins s σ H _ _ v u Q I rx ry ⟨cc, z, rfl, rfl, q.plain sm st (.bl _)⟩
    · cases hr
  | _ => cases d <;> simp only [cmpS, cmpD, Option.map_none, Option.map_some, reduceCtorEq] at hr
theorem opD_notIn (hu : X.A.units + 65 < cLine) : OpR X (compareOp .NotIn) (rD X.K (cmpS .NotIn)) := by
  intro pins s σ H x y v u Q I rx ry h
  obtain ⟨S, G, c, d, e, r, sm, st, hx, hy, hr, q⟩ := h
  cases e with
  | list ds =>
    have hr' : (if okD d && okD (.list ds) then some (!ds.any fun z => PyData.eqv z d) else none).map (fun k => Sl.fz (.bool k)) = some r := by cases d <;> exact hr
    split at hr'
    · rename_i hz
      rw [Bool.and_eq_true] at hz
      cases hr'
      exact notIn_core hu sm I rx ry hx hz.1 (.inl ⟨hy, hz.2⟩) (q.plain sm st (.bl _))
    · cases hr'
  | tuple ds =>
    have hr' : (if okD d && okD (.tuple ds) then some (!ds.any fun z => PyData.eqv z d) else none).map (fun k => Sl.fz (.bool k)) = some r := by cases d <;> exact hr
    split at hr'
    · rename_i hz
      rw [Bool.and_eq_true] at hz
      cases hr'
      exact notIn_core hu sm I rx ry hx hz.1 (.inr ⟨hy, hz.2⟩) (q.plain sm st (.bl _))
    · cases hr'
  | str z =>
    cases d <;> simp only [cmpS, cmpD, Option.map_none, Option.map_some, reduceCtorEq] at hr
    cases hx; cases hy
    split at hr
    · rename_i w cc hc
      cases hr
      rw [str_one hc] at rx
      exact op_notIn_sign pins s σ H _ _ v u Q I rx ry ⟨cc, z, rfl, rfl, q.plain sm st (.bl _)⟩
    · cases hr
  | _ => cases d <;> simp only [cmpS, cmpD, Option.map_none, Option.map_some, reduceCtorEq] at hr
theorem opD_is : OpR X (compareOp .Is) (rD X.K (cmpS .Is)) := by
  intro pins s σ H x y v u Q I rx ry h
  obtain ⟨S, G, c, d, e, r, sm, st, hx, hy, hr, q⟩ := h
  cases e with
  | none =>
    cases hy
    have hq : Q (.bl (decide (x = .non))) H := by
      cases d <;> simp only [cmpS, cmpD, Option.map_none, Option.map_some, reduceCtorEq] at hr <;> first
        | (cases hx; cases hr; exact q.plain sm st (.bl _))
        | (obtain ⟨a, vs, rfl, _⟩ := hx; cases hr; exact q.plain sm st (.bl _))
        | exact hx.elim
    exact op_isN pins s σ H _ _ v u Q I rx ry ⟨rfl, hq⟩
  | bool b =>
    cases d <;> simp only [cmpS, cmpD, Option.map_none, Option.map_some, reduceCtorEq] at hr
    cases hx; cases hy; cases hr
    exact op_is_bl pins s σ H _ _ v u Q I rx ry ⟨_, _, rfl, rfl, q.plain sm st (.bl _)⟩
  | _ => cases d <;> simp only [cmpS, cmpD, Option.map_none, Option.map_some, reduceCtorEq] at hr
theorem opD_isNot : OpR X (compareOp .IsNot) (rD X.K (cmpS .IsNot)) := by
  intro pins s σ H x y v u Q I rx ry h
  obtain ⟨S, G, c, d, e, r, sm, st, hx, hy, hr, q⟩ := h
  cases e with
  | none =>
    cases hy
    have hq : Q (.bl (!decide (x = .non))) H := by
      cases d <;> simp only [cmpS, cmpD, Option.map_none, Option.map_some, reduceCtorEq] at hr <;> first
        | (cases hx; cases hr; exact q.plain sm st (.bl _))
        | (obtain ⟨a, vs, rfl, _⟩ := hx; cases hr; exact q.plain sm st (.bl _))
        | exact hx.elim
    exact op_notN pins s σ H _ _ v u Q I rx ry ⟨rfl, hq⟩
  | bool b =>
    cases d <;> simp only [cmpS, cmpD, Option.map_none, Option.map_some, reduceCtorEq] at hr
    cases hx; cases hy; cases hr
    exact op_isnot_bl pins s σ H _ _ v u Q I rx ry ⟨_, _, rfl, rfl, q.plain sm st (.bl _)⟩
  | _ => cases d <;> simp only [cmpS, cmpD, Option.map_none, Option.map_some, reduceCtorEq] at hr
theorem opD_cmp (hu : X.A.units + 65 < cLine) (op : CmpOp) : OpR X (compareOp op) (rD X.K (cmpS op)) := by
  cases op with
  | Eq => exact opD_eq hu
  | NotEq => exact opD_ne hu
  | Lt => exact opD_lt hu
  | LtE => exact opD_le
  | Gt => exact opD_gt
  | GtE => exact opD_ge
  | Is => exact opD_is
  | IsNot => exact opD_isNot
  | In => exact opD_in hu
  | NotIn => exact opD_notIn hu
end
end SB
/-! Built-in functions on data, subscripts, slices. -/
namespace SB
open PySem PySem.Spec PyProof.Rows L2

abbrev VwA (K : PySem.W.Frag) (G H : Hp) : List V → List D → Prop := Paired (Vw K G H)
def rC (K : PySem.W.Frag) (g : List D → Option Sl) : List V → Hp → VK → Prop := fun vs H Q => ∃ S G c ds s, Same G H ∧ Sta S c G H ∧ VwA K G H vs ds ∧ g ds = some s ∧ Then K S c G H s Q
section
variable {X : Cx} {K : PySem.W.Frag} {G H : Hp}
theorem vwA1 {vs : List V} {d : D} (h : VwA K G H vs [d]) : ∃ v, vs = [v] ∧ Vw K G H v d := by
  cases h with
  | cons h1 h2 => cases h2; exact ⟨_, rfl, h1⟩
theorem vwA2 {vs : List V} {d e : D} (h : VwA K G H vs [d, e]) : ∃ v w, vs = [v, w] ∧ Vw K G H v d ∧ Vw K G H w e := by
  cases h with
  | cons h1 h2 => cases h2 with
    | cons h3 h4 => cases h4; exact ⟨_, _, rfl, h1, h3⟩
theorem bools_dq : ∀ {ds : List D} {bs : List Bool} {vs : List V}, boolsOf ds = some bs → DqAll K G vs ds → vs = bs.map V.bl
  | [], bs, _, e, h => by
    cases h
    cases e
    rfl
  | d :: ds, bs, _, e, h => by
    cases h with
    | cons h1 h2 =>
      cases d with
      | bool b =>
        cases h1
        cases q : boolsOf ds with
        | none => simp only [boolsOf, q, Option.map_none, reduceCtorEq] at e
        | some cs =>
          simp only [boolsOf, q, Option.map_some, Option.some.injEq] at e
          subst e
          rw [bools_dq q h2]
          rfl
      | _ => simp only [boolsOf, reduceCtorEq] at e
theorem ints_dq : ∀ {ds : List D} {ns : List Int} {vs : List V}, intsOf ds = some ns → DqAll K G vs ds → vs = ns.map V.int
  | [], ns, _, e, h => by
    cases h
    cases e
    rfl
  | d :: ds, ns, _, e, h => by
    cases h with
    | cons h1 h2 =>
      cases d with
      | int b =>
        cases h1
        cases q : intsOf ds with
        | none => simp only [intsOf, q, Option.map_none, reduceCtorEq] at e
        | some cs =>
          simp only [intsOf, q, Option.map_some, Option.some.injEq] at e
          subst e
          rw [ints_dq q h2]
          rfl
      | _ => simp only [intsOf, reduceCtorEq] at e

theorem callD_len : CallR X (.builtin "len") (rC X.K (bltD .len)) := by
  intro pins s σ H vs us Q I r h
  obtain ⟨S, G, c, ds, t, sm, st, hv, ht, q⟩ := h
  match ds, hv, ht with
  | [.list xs], hv, ht =>
    obtain ⟨v, rfl, a, ws, rfl, h1, h2⟩ := vwA1 hv
    simp only [bltD, Option.some.injEq] at ht
    subst ht
    refine call_len_seq pins s σ H _ us Q I r ⟨a, ws, rfl, .inl h1, ?_⟩
    rw [dpAll_length h2]
    exact q.plain sm st (.int _)
  | [.tuple xs], hv, ht =>
    obtain ⟨v, rfl, a, ws, rfl, h1, h2⟩ := vwA1 hv
    simp only [bltD, Option.some.injEq] at ht
    subst ht
    refine call_len_seq pins s σ H _ us Q I r ⟨a, ws, rfl, .inr (same_sqT sm h1), ?_⟩
    rw [dpAll_length h2]
    exact q.plain sm st (.int _)
  | [.str x], hv, ht =>
    obtain ⟨v, rfl, hx⟩ := vwA1 hv
    cases hx
    simp only [bltD] at ht
    split at ht
    · rename_i hz
      cases ht
      exact call_len_str pins s σ H _ us Q I r ⟨x, rfl, hz, q.plain sm st (.int _)⟩
    · cases ht
  | [.none], _, ht => cases ht
  | [.bool _], _, ht => cases ht
  | [.int _], _, ht => cases ht
  | [.dict _], _, ht => cases ht
  | [], _, ht => cases ht
  | a :: b :: l, _, ht => cases a <;> cases ht
theorem callD_all (hc : X.calm = true) : CallR X (.builtin "all") (rC X.K (bltD .all)) := by
  intro pins s σ H vs us Q I r h
  obtain ⟨S, G, c, ds, t, sm, st, hv, ht, q⟩ := h
  match ds, hv, ht with
  | [.list xs], hv, ht =>
    obtain ⟨v, rfl, a, ws, rfl, h1, h2⟩ := vwA1 hv
    cases e : boolsOf xs with
    | none => simp only [bltD, e, Option.map_none, reduceCtorEq] at ht
    | some bs =>
      simp only [bltD, e, Option.map_some, Option.some.injEq] at ht
      subst ht
      rw [bools_dq e h2] at h1
      exact cr_all hc pins s σ H _ us Q I r ⟨a, bs, rfl, h1, q.plain sm st (.bl _)⟩
  | [.tuple _], _, ht => cases ht
  | [.str _], _, ht => cases ht
  | [.none], _, ht => cases ht
  | [.bool _], _, ht => cases ht
  | [.int _], _, ht => cases ht
  | [.dict _], _, ht => cases ht
  | [], _, ht => cases ht
  | a :: b :: l, _, ht => cases a <;> cases ht
theorem callD_any (hc : X.calm = true) : CallR X (.builtin "any") (rC X.K (bltD .any)) := by
  intro pins s σ H vs us Q I r h
  obtain ⟨S, G, c, ds, t, sm, st, hv, ht, q⟩ := h
  match ds, hv, ht with
  | [.list xs], hv, ht =>
    obtain ⟨v, rfl, a, ws, rfl, h1, h2⟩ := vwA1 hv
    cases e : boolsOf xs with
    | none => simp only [bltD, e, Option.map_none, reduceCtorEq] at ht
    | some bs =>
      simp only [bltD, e, Option.map_some, Option.some.injEq] at ht
      subst ht
      rw [bools_dq e h2] at h1
      exact cr_any hc pins s σ H _ us Q I r ⟨a, bs, rfl, h1, q.plain sm st (.bl _)⟩
  | [.tuple _], _, ht => cases ht
  | [.str _], _, ht => cases ht
  | [.none], _, ht => cases ht
  | [.bool _], _, ht => cases ht
  | [.int _], _, ht => cases ht
  | [.dict _], _, ht => cases ht
  | [], _, ht => cases ht
  | a :: b :: l, _, ht => cases a <;> cases ht
theorem callD_sum (hc : X.calm = true) : CallR X (.builtin "sum") (rC X.K (bltD .sum)) := by
  intro pins s σ H vs us Q I r h
  obtain ⟨S, G, c, ds, t, sm, st, hv, ht, q⟩ := h
  match ds, hv, ht with
  | [.list xs], hv, ht =>
    obtain ⟨v, rfl, a, ws, rfl, h1, h2⟩ := vwA1 hv
    cases e : intsOf xs with
    | none => simp only [bltD, e, Option.map_none, reduceCtorEq] at ht
    | some bs =>
      simp only [bltD, e, Option.map_some, Option.some.injEq] at ht
      subst ht
      rw [ints_dq e h2] at h1
      exact cr_sum hc pins s σ H _ us Q I r ⟨a, bs, rfl, h1, q.plain sm st (.int _)⟩
  | [.tuple _], _, ht => cases ht
  | [.str _], _, ht => cases ht
  | [.none], _, ht => cases ht
  | [.bool _], _, ht => cases ht
  | [.int _], _, ht => cases ht
  | [.dict _], _, ht => cases ht
  | [], _, ht => cases ht
  | a :: b :: l, _, ht => cases a <;> cases ht
theorem callD_list : CallR X (.type "list") (rC X.K (bltD .list)) := by
  intro pins s σ H vs us Q I r h
  obtain ⟨S, G, c, ds, t, sm, st, hv, ht, q⟩ := h
  match ds, hv, ht with
  | [.list xs], hv, ht =>
    obtain ⟨v, rfl, a, ws, rfl, h1, h2⟩ := vwA1 hv
    simp only [bltD, Option.some.injEq] at ht
    subst ht
    exact call_list_of pins s σ H _ us Q I r ⟨a, ws, rfl, .inl h1, q.lst sm st h2⟩
  | [.tuple xs], hv, ht =>
    obtain ⟨v, rfl, a, ws, rfl, h1, h2⟩ := vwA1 hv
    simp only [bltD, Option.some.injEq] at ht
    subst ht
    exact call_list_of pins s σ H _ us Q I r ⟨a, ws, rfl, .inr (same_sqT sm h1), q.lst sm st h2⟩
  | [.str _], _, ht => cases ht
  | [.none], _, ht => cases ht
  | [.bool _], _, ht => cases ht
  | [.int _], _, ht => cases ht
  | [.dict _], _, ht => cases ht
  | [], _, ht => cases ht
  | a :: b :: l, _, ht => cases a <;> cases ht
theorem callD_tuple : CallR X (.type "tuple") (rC X.K (bltD .tuple)) := by
  intro pins s σ H vs us Q I r h
  obtain ⟨S, G, c, ds, t, sm, st, hv, ht, q⟩ := h
  match ds, hv, ht with
  | [.list xs], hv, ht =>
    obtain ⟨v, rfl, a, ws, rfl, h1, h2⟩ := vwA1 hv
    simp only [bltD, Option.some.injEq] at ht
    subst ht
    exact call_tuple_of pins s σ H _ us Q I r ⟨a, ws, rfl, .inl ⟨h1, q.tup sm st h2⟩⟩
  | [.tuple xs], hv, ht =>
    obtain ⟨v, rfl, a, ws, rfl, h1, h2⟩ := vwA1 hv
    simp only [bltD, Option.some.injEq] at ht
    subst ht
    exact call_tuple_of pins s σ H _ us Q I r ⟨a, ws, rfl, .inr ⟨same_sqT sm h1, q.plain sm st (.tup h1 h2)⟩⟩
  | [.str _], _, ht => cases ht
  | [.none], _, ht => cases ht
  | [.bool _], _, ht => cases ht
  | [.int _], _, ht => cases ht
  | [.dict _], _, ht => cases ht
  | [], _, ht => cases ht
  | a :: b :: l, _, ht => cases a <;> cases ht
theorem callD_min (hc : X.calm = true) : CallR X (.builtin "min") (rC X.K (bltD .min)) := by
  intro pins s σ H vs us Q I r h
  obtain ⟨S, G, c, ds, t, sm, st, hv, ht, q⟩ := h
  match ds, hv, ht with
  | [.int i, .int j], hv, ht =>
    obtain ⟨v, w, rfl, h1, h2⟩ := vwA2 hv
    cases h1; cases h2
    simp only [bltD, Option.some.injEq] at ht
    subst ht
    exact call_min2 hc pins s σ H _ us Q I r ⟨i, j, rfl, q.plain sm st (.int _)⟩
  | [], _, ht => cases ht
  | [a], _, ht => cases a <;> cases ht
  | a :: b :: d :: l, _, ht => cases a <;> cases b <;> cases ht
  | [.int _, .none], _, ht => cases ht
  | [.int _, .bool _], _, ht => cases ht
  | [.int _, .str _], _, ht => cases ht
  | [.int _, .list _], _, ht => cases ht
  | [.int _, .tuple _], _, ht => cases ht
  | [.int _, .dict _], _, ht => cases ht
  | [.none, _], _, ht => cases ht
  | [.bool _, _], _, ht => cases ht
  | [.str _, _], _, ht => cases ht
  | [.list _, _], _, ht => cases ht
  | [.tuple _, _], _, ht => cases ht
  | [.dict _, _], _, ht => cases ht

/-! ### sorted(list) -/
def zipVD : List V → List D → List (V × D)
  | v :: vs, d :: ds => (v, d) :: zipVD vs ds
  | _, _ => []
theorem zip_fst : ∀ {vs : List V} {ds : List D}, vs.length = ds.length → (zipVD vs ds).map (·.1) = vs
  | [], [], _ => rfl
  | v :: vs, d :: ds, h => by
    show v :: (zipVD vs ds).map (·.1) = v :: vs
    rw [zip_fst (Nat.succ.inj h)]
theorem zip_snd : ∀ {vs : List V} {ds : List D}, vs.length = ds.length → (zipVD vs ds).map (·.2) = ds
  | [], [], _ => rfl
  | v :: vs, d :: ds, h => by
    show d :: (zipVD vs ds).map (·.2) = d :: ds
    rw [zip_snd (Nat.succ.inj h)]
theorem zip_dq : ∀ {vs : List V} {ds : List D}, DqAll K G vs ds → ∀ p ∈ zipVD vs ds, Dq K G p.1 p.2
  | _, [], h, p, hp => by
    cases h
    cases hp
  | _, d :: ds, h, p, hp => by
    cases h with
    | cons h1 h2 =>
      rcases List.mem_cons.mp hp with rfl | hp
      · exact h1
      · exact zip_dq h2 p hp
theorem dq_of : ∀ {ps : List (V × D)}, (∀ p ∈ ps, Dq K G p.1 p.2) → DqAll K G (ps.map (·.1)) (ps.map (·.2))
  | [], _ => .nil
  | p :: ps, h => .cons (h p List.mem_cons_self) (dq_of fun q hq => h q (List.mem_cons_of_mem _ hq))
theorem each_vals : ∀ {vs : List V} {ds : List D} {us : List Value}, vs.length = ds.length → Vals vs us → PySem.W.EachIs (fun u (p : V × D) => RelV p.1 u) us (zipVD vs ds)
  | [], [], _, _, .nil => .nil
  | v :: vs, d :: ds, _, h, .cons r t => .cons r (each_vals (Nat.succ.inj h) t)
theorem vals_each : ∀ {us : List Value} {ps : List (V × D)}, PySem.W.EachIs (fun u (p : V × D) => RelV p.1 u) us ps → Vals (ps.map (·.1)) us
  | _, _, .nil => .nil
  | _, _, .cons r t => .cons r (vals_each t)
theorem each_reads {pins : List (Addr × Obj)} {σ : L2.St} {s : Shared} (I : Inv X pins σ H s) (sm : Same G H) : ∀ {vs : List V} {ds : List D} {us : List Value}, DqAll X.K G vs ds → Vals vs us → PySem.W.EachIs (fun u (p : V × D) => ∃ as, Reads s.heap u p.2 as) us (zipVD vs ds)
  | _, [], _, h, r => by
    cases h
    cases r
    exact .nil
  | _, d :: ds, _, h, r => by
    cases h with
    | cons h1 h2 =>
      cases r with
      | cons r1 r2 =>
        exact .cons (Dp.reads I _ _ _ (Dq.dp _ (dp_mono sm _ h1)) r1) (each_reads I sm h2 r2)
theorem sortD_ok {ds ys : List D} (h : sortD ds = some ys) : PySem.W.AllAlike ds ∧ PySem.W.Sortable ds ∧ (∀ d ∈ ds, d.depth ≤ 64) ∧ ys = ds.mergeSort (PySem.W.dataLe false id) := by
  unfold sortD at h
  split at h
  · rename_i hz
    rw [Bool.and_eq_true, Bool.and_eq_true, Bool.or_eq_true] at hz
    obtain ⟨⟨h1, h2⟩, h3⟩ := hz
    refine ⟨fun d hd e he => ?_, ?_, fun d hd => ?_, (Option.some.inj h).symm⟩
    · exact List.all_eq_true.mp (List.all_eq_true.mp h1 d hd) e he
    · rcases h2 with h2 | h2
      · refine .inl fun d hd => ?_
        have q := List.all_eq_true.mp h2 d hd
        cases d with
        | tuple xs =>
          cases xs with
          | nil => cases q
          | cons x r => exact ⟨x, r, rfl⟩
        | _ => cases q
      · refine .inr fun d hd => ?_
        have q := List.all_eq_true.mp h2 d hd
        cases d with
        | none => cases q
        | tuple xs => cases q
        | _ => exact ⟨(fun z => nomatch z), (fun _ z => nomatch z)⟩
    · exact of_decide_eq_true (List.all_eq_true.mp h3 d hd)
  · cases h
theorem callD_sorted (hu : X.A.units + 67 < cLine) : CallR X (.builtin "sorted") (rC X.K (bltD .sorted)) := by
  intro pins s σ H vs us Q I r h
  obtain ⟨S, G, c, ds, t, sm, st, hv, ht, q⟩ := h
  match ds, hv, ht with
  | [.list xs], hv, ht =>
    obtain ⟨v, rfl, a, ws, rfl, h1, h2⟩ := vwA1 hv
    cases e : sortD xs with
    | none => simp only [bltD, e, Option.map_none, reduceCtorEq] at ht
    | some ys =>
      simp only [bltD, e, Option.map_some, Option.some.injEq] at ht
      subst ht
      obtain ⟨k1, k2, k3, k4⟩ := sortD_ok e
      have hl := dpAll_length h2
      obtain ⟨its, rv, hL, hz⟩ := I.list (h1)
      rw [Vals.ref1 r]
      have hsnd : (zipVD ws xs).map (·.2) = xs := zip_snd hl
      have hlen : (zipVD ws xs).length = xs.length := by rw [← List.length_map (f := (·.2)), hsnd]
      refine PySem.W.sorted_data (R := fun u (p : V × D) => RelV p.1 u) (enc := fun p : V × D => p.2) hL.isList (each_vals hl rv) (each_reads I sm h2 rv) (by rw [hsnd]; exact k1) (by rw [hsnd]; exact k2) (by omega) (fun p hp => ?_) fun out hout eo => ?_
      · have hd : p.2 ∈ xs := by
          rw [← hsnd]
          exact List.mem_map.mpr ⟨p, hp, rfl⟩
        have := k3 _ hd
        omega
      · obtain ⟨ep, he⟩ := PyProof.Rows.sortedAll_at s.heap its out.toArray
        have hv' := vals_each eo
        have hm : ((zipVD ws xs).mergeSort (PySem.W.dataLe false fun p : V × D => p.2)).map (·.2) = ys := by
          have q1 := PySem.W.sort_maps (r := PySem.W.dataLe false fun p : V × D => p.2) (s := PySem.W.dataLe false (id : D → D)) (fun p : V × D => p.2) (l := zipVD ws xs) (fun a _ b _ => rfl)
          rw [k4, q1, hsnd]
        have hdq := dq_of (K := X.K) (G := G) (ps := (zipVD ws xs).mergeSort (PySem.W.dataLe false fun p : V × D => p.2)) fun p hp => zip_dq h2 p (List.mem_mergeSort.mp hp)
        rw [hm] at hdq
        refine ⟨.ref _, upd H (s.heap.objs.size + 1) (.lst _), I.laid (t' := s.toks) (fun _ _ => PyProof.Rows.sortedAll_old) (Nat.le_succ _) ⟨?_, out, ep, hv', he⟩, rfl, q.lst sm st hdq _ (I.hok.fresh (Nat.le_succ _))⟩
        have := hv'.length
        omega
  | [.tuple _], _, ht => cases ht
  | [.str _], _, ht => cases ht
  | [.none], _, ht => cases ht
  | [.bool _], _, ht => cases ht
  | [.int _], _, ht => cases ht
  | [.dict _], _, ht => cases ht
  | [], _, ht => cases ht
  | a :: b :: l, _, ht => cases a <;> cases ht

/-! ### isinstance -/
theorem callD_isa {pins : List (Addr × Obj)} {σ : L2.St} {s : Shared} {v : V} {u : Value} {d : D} {Q : VK} (T : Ty) (I : Inv X pins σ H s) (sm : Same G H) (hv : Vw X.K G H v d) (r : RelV v u) (q : Q (.bl (isaD T d)) H) :
    wpAny (model X.prog X.w) X.A (call (.builtin "isinstance") [u, .type T.nm]) (EP X pins σ Q) X.xe s := by
  obtain ⟨as, rd⟩ := Dp.reads I _ v u (Dq.dp _ (hv.dp sm)) r
  cases T with
  | int => exact PySem.W.isinstance_int_data rd fun tk _ => ⟨.bl _, H, I.tok tk, rfl, q⟩
  | bool => exact PySem.W.isinstance_bool_data rd fun tk _ => ⟨.bl _, H, I.tok tk, rfl, q⟩
  | str => exact PySem.W.isinstance_str_data rd fun tk _ => ⟨.bl _, H, I.tok tk, rfl, q⟩
  | tuple => exact PySem.W.isinstance_tuple_data rd fun tk _ => ⟨.bl _, H, I.tok tk, rfl, q⟩
  | list => exact PySem.W.isinstance_list_data rd fun tk _ => ⟨.bl _, H, I.tok tk, rfl, q⟩

/-! ### subscripts, slices -/
theorem ixD_ok : IxR X (rD X.K ixD) := by
  intro value slice pins s σ H x y v u Q I rx ry h hs
  obtain ⟨S, G, c, d, e, t, sm, st, hx, hy, ht, q⟩ := h
  cases d <;> cases e <;> simp only [ixD, reduceCtorEq] at ht
  · obtain ⟨a, ws, rfl, h1, h2⟩ := hx
    cases hy
    obtain ⟨z, hz, rfl⟩ := Option.map_eq_some_iff.mp ht
    obtain ⟨w, hw, hd⟩ := atI_map h2 hz
    exact ix_list value slice pins s σ H _ _ v u Q I rx ry ⟨a, ws, _, w, rfl, rfl, h1, hw, q.plain sm st hd⟩ hs
  · obtain ⟨a, ws, rfl, h1, h2⟩ := hx
    cases hy
    obtain ⟨z, hz, rfl⟩ := Option.map_eq_some_iff.mp ht
    obtain ⟨w, hw, hd⟩ := atI_map h2 hz
    exact ix_tup value slice pins s σ H _ _ v u Q I rx ry ⟨a, ws, _, w, rfl, rfl, same_sqT sm h1, hw, q.plain sm st hd⟩ hs
def rSlD (K : PySem.W.Frag) : V → Option Int → Option Int → Hp → VK → Prop := fun x lo hi H Q => ∃ S G c d s, Same G H ∧ Sta S c G H ∧ Vw K G H x d ∧ slD d lo hi = some s ∧ Then K S c G H s Q
theorem slD_ok : SlR X (rSlD X.K) := by
  intro pins s σ H x v vl vu lo hi sl Q I rx hs pl pu h
  obtain ⟨S, G, c, d, t, sm, st, hx, ht, q⟩ := h
  cases d <;> simp only [slD, reduceCtorEq, Option.some.injEq] at ht
  · subst ht
    obtain ⟨a, ws, rfl, h1, h2⟩ := hx
    exact sl_list pins s σ H _ v vl vu lo hi sl Q I rx hs pl pu ⟨a, ws, rfl, h1, q.lst sm st (dpAll_cut h2 lo hi)⟩
  · subst ht
    obtain ⟨a, ws, rfl, h1, h2⟩ := hx
    refine sl_tupA pins s σ H _ v vl vu lo hi sl Q I rx hs pl pu ⟨a, ws, rfl, same_sqT sm h1, fun hw => ?_, fun _ => q.tup sm st (dpAll_cut h2 lo hi)⟩
    rename_i xs
    have e : cutL xs lo hi = xs := by
      unfold cutL
      rw [← dpAll_length h2, hw.1, hw.2, List.drop_zero, Nat.sub_zero, dpAll_length h2, List.take_length]
    rw [e] at q
    exact q.plain sm st (.tup h1 h2)
end
end SB
/-! What is walked, as data. -/
namespace PySem
set_option maxHeartbeats 1000000 in
theorem sb_meets_enum1 {v : Value} {o : Obj} {H : Heap → Prop} (B : Begins v o H) :
    Meets (Builtin.«enumerate.__new__» ⟨[.type "enumerate", v], []⟩) (fun _ R s => H s.heap ∧
      R (.ok (.ret (.ref (s.heap.push o).objs.size))) { s with heap := (s.heap.push o).push { cls := .type "enumerate", data := .fields #[.none, .bool false, .ref s.heap.objs.size, rawInt 0, .none, .none] } }) :=
  .of_wp fun prog w A R s h => by
    obtain ⟨hp, g, d, tk, os⟩ := s; obtain ⟨h1, h⟩ := h
    have hsub := sub_enumerate
    have q1 : ∀ {A' : Around} {E : Value → Shared → Prop} {Q : Value → Shared → Prop}, Q (.ref hp.objs.size) ⟨hp.push o, g, d, tk, os⟩ → wpAny (model prog w) A' (pyIter v) Q E ⟨hp, g, d, tk, os⟩ :=
      fun q => B.iter prog w _ _ ⟨hp, g, d, tk, os⟩ _ h1 q
    wp_walk using q1
    refine wpAny_stack_any fun st => wpAny_pure ?_
    split
    · rename_i c _ _ _ _ _
      cases (c == Value.type "enumerate")
      · wp_walk using q1
        exact ⟨_, rfl, h⟩
      · wp_walk using q1
        exact ⟨_, rfl, h⟩
    · wp_walk using q1
      exact ⟨_, rfl, h⟩
theorem sb_enum1 {prog : Program} {w : World} {A : Around} {E : Value → Shared → Prop} {s : Shared} {v : Value} {o : Obj} {H : Heap → Prop} {Q : Value → Shared → Prop} (B : Begins v o H) (h1 : H s.heap)
    (h : ∀ h', IsEnum h' (s.heap.objs.size + 1) s.heap.objs.size 0 .none → h'.get? s.heap.objs.size = some o → h'.objs.size = s.heap.objs.size + 2 →
      (∀ b o, s.heap.get? b = some o → h'.get? b = some o) → Q (.ref (s.heap.objs.size + 1)) { s with heap := h' }) :
    wpAny (model prog w) A (call (.type "enumerate") [v]) Q E s := by
  refine callType_new F.called_enumerate (by decide) (F.typeCall_enumerate_1 _) (F.newCall_enumerate_1 _) (fun obj => F.args_object_init_2 obj _) F.entry_enumerate_new
    (sb_meets_enum1 B) ⟨h1, ?_⟩
  have hz : (s.heap.push o).objs.size = s.heap.objs.size + 1 := Heap.size_push ..
  show _ ∧ _
  rw [hz]
  have he : IsEnum ((s.heap.push o).push { cls := .type "enumerate", data := .fields #[.none, .bool false, .ref s.heap.objs.size, rawInt 0, .none, .none] }) (s.heap.objs.size + 1) s.heap.objs.size 0 .none := by
    have := Heap.get?_push_size (s.heap.push o) (o := { cls := .type "enumerate", data := .fields #[.none, .bool false, .ref s.heap.objs.size, rawInt 0, .none, .none] }) rfl
    rw [hz] at this; exact this
  refine ⟨⟨_, he, rfl⟩, h _ he (Heap.get?_push_of_some _ (Heap.get?_push_size _ B.free)) (by rw [Heap.size_push, hz]) fun b o x => Heap.get?_push_of_some _ (Heap.get?_push_of_some _ x)⟩
theorem sb_enum_end {prog : Program} {w : World} {A : Around} {E : Value → Shared → Prop} {s : Shared} {e it l : Addr} {i : Nat} {items : Array Value} {old : Value} {Q : Option Value → Shared → Prop} (hh : A.handled = none)
    (he : IsEnum s.heap e it i old) (hit : s.heap.IsTupleIter it l i) (hl : s.heap.IsTuple l items) (hx : items.size ≤ i)
    (hQ : ∀ h', Heap.ExtBut it s.heap h' → Q none { s with heap := h' }) : wpAny (model prog w) A (pyNext (.ref e)) Q E s := by
  have hT : s.TypeIs (.ref e) "enumerate" := ⟨_, he, rfl⟩
  unfold pyNext
  refine wpAny_bind (wpAny_attempt (wpAny_callSpecial?_slot (name := Str.ofString "__next__") hT F.slot_enumerate_next
    (wpAny_call_entry F.slot_enumerate_next hT F.entry_enumerate_next ?_ (F.args_enumerate_next_1 _))))
  show wpAny _ _ (field (.ref e) 2 >>= _) _ _ _
  refine wpAny_bind (wpAny_field he rfl (x := .ref it) rfl ?_)
  refine wpAny_bind (wpAny_nextOf_tuple_end hh hit hl (by simp [hx]) fun h' x he' hx' => ?_)
  obtain ⟨o, ho, hc⟩ := hx'
  refine wpAny_bind (wpAny_isInstance (T := "StopIteration") (b := true) ⟨o, ho, hc⟩ isSubtype_stop ?_)
  exact wpAny_pure (hQ _ he')
end PySem
namespace SB
open PySem PySem.Spec PyProof.Rows L2

structure ItD (K : PySem.W.Frag) (J : It) (vs : List V) (ds xs : List D) : Prop where
  go : ∀ (i : Nat) G H, Same G H → VwA K G H vs ds → i < xs.length → J.go i H
  stop : ∀ (i : Nat) G H, Same G H → VwA K G H vs ds → xs.length ≤ i → J.stop i H
  yld : ∀ (i : Nat) G H x H', Same G H → VwA K G H vs ds → J.yld i H x H' → i < xs.length → ∃ d G', xs[i]? = some d ∧ (∀ S c, Sta S c G H → Nxt S c G H G' H') ∧ Dq K G' x d
def iD (K : PySem.W.Frag) (k : IK) (ta : TA) : TI := fun σ H R => ta σ H fun vs H1 => ∃ G ds xs, Same G H1 ∧ VwA K G H1 vs ds ∧ iterD k ds = some xs ∧ ∀ J, ItD K J vs ds xs → xs.length ≤ sizeLine → R J H1
section
variable {X : Cx} {K : PySem.W.Frag} {G H : Hp} {tg : Expr}
theorem itD_list {a : Addr} {xs : List D} : ItD K (Itl K a) [.ref a] [.list xs] xs where
  go := fun i G H sm h hi => by
    obtain ⟨v, e, b, ws, e2, h1, h2⟩ := vwA1 h
    cases e; cases e2
    obtain ⟨w, hw, _⟩ := dpAll_get h2 (List.getElem?_eq_getElem hi)
    exact ⟨ws, w, h1, hw⟩
  stop := fun i G H sm h hi => by
    obtain ⟨v, e, b, ws, e2, h1, h2⟩ := vwA1 h
    cases e; cases e2
    exact ⟨ws, h1, by rw [dpAll_length h2]; exact hi⟩
  yld := fun i G H x H' sm h y hi => by
    obtain ⟨v, e, b, ws, e2, h1, h2⟩ := vwA1 h
    cases e; cases e2
    obtain ⟨rfl, y⟩ := y
    obtain ⟨d, hd, hq⟩ := dpAll_get' h2 (y ws h1)
    exact ⟨d, G, hd, fun S c st => .refl sm st, hq⟩
theorem itD_tup {a : Addr} {xs : List D} : ItD K (Itt K a) [.ref a] [.tuple xs] xs where
  go := fun i G H sm h hi => by
    obtain ⟨v, e, b, ws, e2, h1, h2⟩ := vwA1 h
    cases e; cases e2
    obtain ⟨w, hw, _⟩ := dpAll_get h2 (List.getElem?_eq_getElem hi)
    exact ⟨ws, w, same_sqT sm h1, hw⟩
  stop := fun i G H sm h hi => by
    obtain ⟨v, e, b, ws, e2, h1, h2⟩ := vwA1 h
    cases e; cases e2
    exact ⟨ws, same_sqT sm h1, by rw [dpAll_length h2]; exact hi⟩
  yld := fun i G H x H' sm h y hi => by
    obtain ⟨v, e, b, ws, e2, h1, h2⟩ := vwA1 h
    cases e; cases e2
    obtain ⟨rfl, y⟩ := y
    obtain ⟨d, hd, hq⟩ := dpAll_get' h2 (y ws (same_sqT sm h1))
    exact ⟨d, G, hd, fun S c st => .refl sm st, hq⟩
theorem itD_str {x : Str} : ItD K (Its x) [.str x] [.str x] (x.cps.toList.map fun c => .str ⟨#[c]⟩) where
  go := fun i G H sm h hi => by
    rw [List.length_map] at hi
    exact hi
  stop := fun i G H sm h hi => by
    rw [List.length_map] at hi
    exact hi
  yld := fun i G H x H' sm h y hi => by
    obtain ⟨rfl, c, hc, rfl⟩ := y
    refine ⟨.str ⟨#[c]⟩, G, ?_, fun S c st => .refl sm st, .str _⟩
    rw [List.getElem?_map]
    have : x.cps.toList[i]? = some c := by simpa using hc
    rw [this]
    rfl
theorem itD_rng {vs : List V} {ds : List D} {lo : Int} {n : Nat} : ItD K (Itr lo n) vs ds ((List.range n).map fun i => .int (lo + ((i : Nat) : Int))) where
  go := fun i G H sm h hi => by
    rw [List.length_map, List.length_range] at hi
    exact hi
  stop := fun i G H sm h hi => by
    rw [List.length_map, List.length_range] at hi
    exact hi
  yld := fun i G H x H' sm h y hi => by
    rw [List.length_map, List.length_range] at hi
    obtain ⟨rfl, rfl⟩ := y
    refine ⟨.int (lo + i), G, ?_, fun S c st => .refl sm st, .int _⟩
    rw [List.getElem?_map, List.getElem?_range hi]
    rfl
theorem itD_rngC {vs : List V} {ds : List D} {lo c : Int} {n : Nat} : ItD K (Itc lo c n) vs ds ((List.range n).map fun i => .int (lo + ((i : Nat) : Int) * c)) where
  go := fun i G H sm h hi => by
    rw [List.length_map, List.length_range] at hi
    exact hi
  stop := fun i G H sm h hi => by
    rw [List.length_map, List.length_range] at hi
    exact hi
  yld := fun i G H x H' sm h y hi => by
    rw [List.length_map, List.length_range] at hi
    obtain ⟨rfl, rfl⟩ := y
    refine ⟨.int (lo + i * c), G, ?_, fun S c st => .refl sm st, .int _⟩
    rw [List.getElem?_map, List.getElem?_range hi]
    rfl
/-- a new frozen tuple -/
theorem new_tup {T : Addr} {vs : List V} {ds : List D} (sm : Same G H) (hT : H T = none) (h : DqAll K G vs ds) : (∀ S c, Sta S c G H → Nxt S c G H (upd G T (.tup vs)) (upd H T (.tup vs))) ∧ Dq K (upd G T (.tup vs)) (.ref T) (.tuple ds) := by
  have gT := gne sm hT
  have s2 : Same G (upd G T (.tup vs)) := fun b u e => by rw [upd_ne (ne_of_none e gT)]; exact e
  exact ⟨fun S c st => .new sm st hT, .tup (.inl (.inl upd_same)) (dpAll_mono s2 _ h)⟩
theorem itD_enum {a : Addr} {xs : List D} : ItD K (Ite K a) [.ref a] [.list xs] (xs.zipIdx.map fun p => .tuple [.int ((p.2 : Nat) : Int), p.1]) where
  go := fun i G H sm h hi => by
    rw [List.length_map, List.length_zipIdx] at hi
    obtain ⟨v, e, b, ws, e2, h1, h2⟩ := vwA1 h
    cases e; cases e2
    obtain ⟨w, hw, _⟩ := dpAll_get h2 (List.getElem?_eq_getElem hi)
    exact ⟨ws, w, h1, hw⟩
  stop := fun i G H sm h hi => by
    rw [List.length_map, List.length_zipIdx] at hi
    obtain ⟨v, e, b, ws, e2, h1, h2⟩ := vwA1 h
    cases e; cases e2
    exact ⟨ws, h1, by rw [dpAll_length h2]; exact hi⟩
  yld := fun i G H x H' sm h y hi => by
    obtain ⟨v, e, b, ws, e2, h1, h2⟩ := vwA1 h
    cases e; cases e2
    obtain ⟨T, w, rfl, hT, rfl, y⟩ := y
    obtain ⟨d, hd, hq⟩ := dpAll_get' h2 (y ws h1)
    obtain ⟨n1, n2⟩ := new_tup (K := K) (vs := [.int (i : Nat), w]) (ds := [.int ((i : Nat) : Int), d]) sm hT (.cons (.int _) (.cons hq .nil))
    refine ⟨_, _, ?_, n1, n2⟩
    rw [List.getElem?_map, List.getElem?_zipIdx, hd]
    simp
/-- the tuple at a as it stands at each turn, each item in a new pair -/
def IteT (K : PySem.W.Frag) (a : Addr) : It :=
  ⟨fun i H => ∃ (xs : List V) (x : V), SqT K H a xs ∧ xs[i]? = some x, fun i H v H' => ∃ T x, v = .ref T ∧ H T = none ∧ H' = upd H T (.tup [.int (i : Nat), x]) ∧ ∀ xs, SqT K H a xs → xs[i]? = some x, fun i H => ∃ xs : List V, SqT K H a xs ∧ xs.length ≤ i⟩
theorem itD_enumT {a : Addr} {xs : List D} : ItD K (IteT K a) [.ref a] [.tuple xs] (xs.zipIdx.map fun p => .tuple [.int ((p.2 : Nat) : Int), p.1]) where
  go := fun i G H sm h hi => by
    rw [List.length_map, List.length_zipIdx] at hi
    obtain ⟨v, e, b, ws, e2, h1, h2⟩ := vwA1 h
    cases e; cases e2
    obtain ⟨w, hw, _⟩ := dpAll_get h2 (List.getElem?_eq_getElem hi)
    exact ⟨ws, w, same_sqT sm h1, hw⟩
  stop := fun i G H sm h hi => by
    rw [List.length_map, List.length_zipIdx] at hi
    obtain ⟨v, e, b, ws, e2, h1, h2⟩ := vwA1 h
    cases e; cases e2
    exact ⟨ws, same_sqT sm h1, by rw [dpAll_length h2]; exact hi⟩
  yld := fun i G H x H' sm h y hi => by
    obtain ⟨v, e, b, ws, e2, h1, h2⟩ := vwA1 h
    cases e; cases e2
    obtain ⟨T, w, rfl, hT, rfl, y⟩ := y
    obtain ⟨d, hd, hq⟩ := dpAll_get' h2 (y ws (same_sqT sm h1))
    obtain ⟨n1, n2⟩ := new_tup (K := K) (vs := [.int (i : Nat), w]) (ds := [.int ((i : Nat) : Int), d]) sm hT (.cons (.int _) (.cons hq .nil))
    refine ⟨_, _, ?_, n1, n2⟩
    rw [List.getElem?_map, List.getElem?_zipIdx, hd]
    simp
theorem itD_zip {a b : Addr} {xs ys : List D} : ItD K (Itz K a b) [.ref a, .ref b] [.list xs, .list ys] ((xs.zip ys).map fun p => .tuple [p.1, p.2]) where
  go := fun i G H sm h hi => by
    rw [List.length_map, List.length_zip] at hi
    obtain ⟨v, w, e, ⟨a', ws, e2, h1, h2⟩, ⟨b', us, e3, h3, h4⟩⟩ := vwA2 h
    cases e; cases e2; cases e3
    obtain ⟨w, hw, _⟩ := dpAll_get h2 (i := i) (List.getElem?_eq_getElem (by omega))
    obtain ⟨u, hu, _⟩ := dpAll_get h4 (i := i) (List.getElem?_eq_getElem (by omega))
    exact ⟨ws, us, w, u, h1, h3, hw, hu⟩
  stop := fun i G H sm h hi => by
    rw [List.length_map, List.length_zip] at hi
    obtain ⟨v, w, e, ⟨a', ws, e2, h1, h2⟩, ⟨b', us, e3, h3, h4⟩⟩ := vwA2 h
    cases e; cases e2; cases e3
    refine ⟨ws, us, h1, h3, ?_⟩
    rw [dpAll_length h2, dpAll_length h4]
    omega
  yld := fun i G H x H' sm h y hi => by
    obtain ⟨v, w, e, ⟨a', ws, e2, h1, h2⟩, ⟨b', us, e3, h3, h4⟩⟩ := vwA2 h
    cases e; cases e2; cases e3
    obtain ⟨T, p, q, rfl, hT, rfl, y1, y2⟩ := y
    obtain ⟨d, hd, hq⟩ := dpAll_get' h2 (y1 ws h1)
    obtain ⟨d2, hd2, hq2⟩ := dpAll_get' h4 (y2 us h3)
    obtain ⟨n1, n2⟩ := new_tup (K := K) (vs := [p, q]) (ds := [d, d2]) sm hT (.cons hq (.cons hq2 .nil))
    refine ⟨_, _, ?_, n1, n2⟩
    have hz : (xs.zip ys)[i]? = some (d, d2) := List.getElem?_zip_eq_some.mpr ⟨hd, hd2⟩
    rw [List.getElem?_map, hz]
    rfl
theorem itD_zipT {a b : Addr} {xs ys : List D} : ItD K (RZ.ItzT K a b) [.ref a, .ref b] [.tuple xs, .tuple ys] ((xs.zip ys).map fun p => .tuple [p.1, p.2]) where
  go := fun i G H sm h hi => by
    rw [List.length_map, List.length_zip] at hi
    obtain ⟨v, w, e, ⟨a', ws, e2, h1, h2⟩, ⟨b', us, e3, h3, h4⟩⟩ := vwA2 h
    cases e; cases e2; cases e3
    obtain ⟨w, hw, _⟩ := dpAll_get h2 (i := i) (List.getElem?_eq_getElem (by omega))
    obtain ⟨u, hu, _⟩ := dpAll_get h4 (i := i) (List.getElem?_eq_getElem (by omega))
    exact ⟨ws, us, w, u, same_sqT sm h1, same_sqT sm h3, hw, hu⟩
  stop := fun i G H sm h hi => by
    rw [List.length_map, List.length_zip] at hi
    obtain ⟨v, w, e, ⟨a', ws, e2, h1, h2⟩, ⟨b', us, e3, h3, h4⟩⟩ := vwA2 h
    cases e; cases e2; cases e3
    refine ⟨ws, us, same_sqT sm h1, same_sqT sm h3, ?_⟩
    rw [dpAll_length h2, dpAll_length h4]
    omega
  yld := fun i G H x H' sm h y hi => by
    obtain ⟨v, w, e, ⟨a', ws, e2, h1, h2⟩, ⟨b', us, e3, h3, h4⟩⟩ := vwA2 h
    cases e; cases e2; cases e3
    obtain ⟨T, p, q, rfl, hT, rfl, y1, y2⟩ := y
    obtain ⟨d, hd, hq⟩ := dpAll_get' h2 (y1 ws (same_sqT sm h1))
    obtain ⟨d2, hd2, hq2⟩ := dpAll_get' h4 (y2 us (same_sqT sm h3))
    obtain ⟨n1, n2⟩ := new_tup (K := K) (vs := [p, q]) (ds := [d, d2]) sm hT (.cons hq (.cons hq2 .nil))
    refine ⟨_, _, ?_, n1, n2⟩
    have hz : (xs.zip ys)[i]? = some (d, d2) := List.getElem?_zip_eq_some.mpr ⟨hd, hd2⟩
    rw [List.getElem?_map, hz]
    rfl

/-! ### the walks -/
theorem pi_seqD {e : Expr} {te : TE} (he : PE X e te) : PI X tg e (iD X.K .seq (tCons te tNil)) := by
  refine ⟨fun pins s σ H R I h => ?_⟩
  refine thn (he.run pins s σ H _ I h) fun u s1 ⟨v, H1, I1, r1, q1⟩ => ?_
  obtain ⟨G, ds, xs, sm, hv, hx, q⟩ := q1
  match ds, hv, hx with
  | [.list ys], hv, hx =>
    simp only [iterD, Option.some.injEq] at hx
    subst hx
    obtain ⟨w, e1, a, ws, e2, h1, h2⟩ := vwA1 hv
    cases e1; cases e2
    cases r1
    obtain ⟨its, rv, p, hz⟩ := I1.list h1
    refine wpAny_pyIter_list p.isList ?_
    refine ⟨s1.heap.objs.size, [s1.heap.objs.size], _, _, H1, rfl, I1.kept (t' := s1.toks) fun b o e => Heap.get?_push_of_some _ e, turn_list a _, ⟨_, Heap.get?_push_size _ rfl, rfl, rfl⟩, fun b hb => ?_, q _ itD_list (by rw [← dpAll_length h2]; exact hz)⟩
    have e : b = s1.heap.objs.size := by simpa using hb
    subst e
    exact I1.fpOk (Nat.le_refl _) (I1.hok.fresh (Nat.le_refl _))
  | [.tuple ys], hv, hx =>
    simp only [iterD, Option.some.injEq] at hx
    subst hx
    obtain ⟨w, e1, a, ws, e2, h1, h2⟩ := vwA1 hv
    cases e1; cases e2
    cases r1
    obtain ⟨its, rv, p, hz⟩ := I1.tuple (same_sqT sm h1)
    refine wpAny_pyIter_tuple (show s1.heap.IsTuple a its.toArray from p) ?_
    refine ⟨s1.heap.objs.size, [s1.heap.objs.size], _, _, H1, rfl, I1.kept (t' := s1.toks) fun b o e => Heap.get?_push_of_some _ e, turn_tuple a _, ⟨_, Heap.get?_push_size _ rfl, rfl, rfl⟩, fun b hb => ?_, q _ itD_tup (by rw [← dpAll_length h2]; exact hz)⟩
    have e : b = s1.heap.objs.size := by simpa using hb
    subst e
    exact I1.fpOk (Nat.le_refl _) (I1.hok.fresh (Nat.le_refl _))
  | [.str x], hv, hx =>
    simp only [iterD] at hx
    split at hx
    · rename_i hz
      cases hx
      obtain ⟨w, e1, e2⟩ := vwA1 hv
      cases e1; cases e2
      obtain ⟨t, rfl⟩ := r1
      have hz' : (x.cps.toList.map fun c => (PyData.str ⟨#[c]⟩ : D)).length ≤ sizeLine := by
        rw [List.length_map]
        exact hz
      cases ha : x.cps.all (· < 128)
      · exact wpAny_pyIter_wide ha (pi_one (tk := s1.toks) I1 _ (turn_str _ x t "str_iterator" (.inr rfl)) ⟨_, Heap.get?_push_size _ rfl, rfl, rfl⟩ (q _ itD_str hz'))
      · exact wpAny_pyIter_ascii ha (pi_one (tk := s1.toks) I1 _ (turn_str _ x t "str_ascii_iterator" (.inl rfl)) ⟨_, Heap.get?_push_size _ rfl, rfl, rfl⟩ (q _ itD_str hz'))
    · cases hx
  | [.none], _, hx => cases hx
  | [.bool _], _, hx => cases hx
  | [.int _], _, hx => cases hx
  | [.dict _], _, hx => cases hx
  | [], _, hx => cases hx
  | a :: b :: l, _, hx => cases a <;> cases hx
theorem pi_rngD {a : Expr} {es : List Expr} {ta : TA} {p pos : Pos} (hg : Gl X "range") (hm : X.mg "range" = none) (ha : PA X (a :: es) ta)
    (hs : starEach (a :: es) X.env = (false, eval a X.env) :: starEach es X.env) (hpl : (backTo pos (starEach es X.env)).any (·.1) = false) : PI X tg (.Call (.Name "range" p) (a :: es) [] pos) (iD X.K .range ta) := by
  refine ⟨fun pins s σ H R I h => ?_⟩
  refine Call_ (ld_blt I hg hm boot_range (PyProof.Rows.callWith_type1 (thn (ha.run pos pins s σ H _ I h) fun us s1 ⟨vs, H1, I1, r1, q1⟩ => ?_) hs hpl))
  obtain ⟨G, ds, xs, sm, hv, hx, q⟩ := q1
  match ds, hv, hx with
  | [], _, hx => cases hx
  | [d], hv, hx =>
    cases d <;> simp only [iterD, reduceCtorEq] at hx
    rename_i j
    split at hx
    · rename_i hz
      cases hx
      obtain ⟨w, e1, e2⟩ := vwA1 hv
      cases e2
      subst e1
      obtain ⟨u, rfl, t, rfl⟩ := vals1 r1
      have h2 : j < 2 ^ 62 := by
        have := hz.1
        rw [sizeLine_eq] at this
        omega
      refine call_range_1 (range_it I1 (by omega) (by omega) hz.2 h2 ?_)
      have := itD_rng (K := X.K) (vs := [.int j]) (ds := [.int j]) (lo := 0) (n := j.toNat)
      exact q _ (by simpa using this) (by rw [List.length_map, List.length_range]; omega)
    · cases hx
  | [d, e], hv, hx =>
    cases d <;> cases e <;> simp only [iterD, reduceCtorEq] at hx
    rename_i i j
    split at hx
    · rename_i hz
      cases hx
      obtain ⟨w, w2, e1, e2, e3⟩ := vwA2 hv
      cases e2; cases e3
      subst e1
      obtain ⟨u, u2, rfl, ⟨t, rfl⟩, ⟨t2, rfl⟩⟩ := vals2 r1
      exact call_range_2 (range_it I1 hz.1 hz.2.1 hz.2.2.1 hz.2.2.2.1 (q _ itD_rng (by rw [List.length_map, List.length_range]; exact hz.2.2.2.2)))
    · cases hx
  | [d, e, f], hv, hx =>
    cases d <;> cases e <;> cases f <;> simp only [iterD, reduceCtorEq] at hx
    rename_i i j k
    split at hx
    · rename_i hz
      cases hx
      obtain ⟨hk, h1, h2, h3, h4, h5⟩ := hz
      subst hk
      cases hv with
      | cons a1 hv => cases hv with
        | cons a2 hv => cases hv with
          | cons a3 hv =>
            cases hv
            cases a1; cases a2; cases a3
            cases r1 with
            | cons r rr => cases rr with
              | cons r' rr => cases rr with
                | cons r2 rr =>
                  cases rr
                  obtain ⟨t, rfl⟩ := r
                  obtain ⟨t', rfl⟩ := r'
                  obtain ⟨t2, rfl⟩ := r2
                  obtain ⟨c0, c1, c2, c3⟩ := RgC.neg h1 h2 h3 h4
                  refine call_range_3 c0 ?_ (.inl (PyProof.noPylong_small c1))
                  refine wpAny_pyIter_range (IsRange.new ..) c2 ?_
                  have I2 : Inv X pins σ H1 { s1 with heap := s1.heap.push { cls := .type "range", data := .fields #[.int i t, .int j t', .int (-1) t2] } } := I1.kept (t' := s1.toks) fun b o e => Heap.get?_push_of_some _ e
                  refine pi_one (tk := s1.toks) I2 _ (turn_rangeC _ i (-1) (i - j).toNat) ?_ (q _ itD_rngC (by rw [List.length_map, List.length_range]; exact h5))
                  have e1 : i + ((0 : Nat) : Int) * (-1) = i := by simp
                  have e2 : (((i - j).toNat : Nat) : Int) - ((0 : Nat) : Int) = Builtin.Range.rangeSize i j (-1) := by rw [c3]; simp
                  show IsRangeIter _ _ (i + ((0 : Nat) : Int) * (-1)) ((((i - j).toNat : Nat) : Int) - ((0 : Nat) : Int)) (-1)
                  rw [e1, e2]
                  exact Heap.get?_push_size _ rfl
    · cases hx
  | a :: b :: c :: d :: l, _, hx => cases a <;> cases b <;> cases c <;> cases hx
theorem turn_enumT {P : Program} {w : World} {K : PySem.W.Frag} {elts : List Expr} {kk : Nat} {tpos : Pos} (a e it : Addr) :
    Turn P w K (.Tuple elts kk tpos) (IteT K a) [e, it] e (fun i h => (∃ old, IsEnum h e it ((i : Nat) : Int) old) ∧ h.IsTupleIter it a i ∧ e ≠ it ∧ e ≠ a ∧ a ≠ it) where
  mem := by simp
  obj := fun i h st b hb => by
    obtain ⟨⟨old, he⟩, ⟨o, ho, hc, hd⟩, _⟩ := st
    have e' : b = e ∨ b = it := by simpa using hb
    rcases e' with z | z
    · rw [z]; exact ⟨_, he, fun v q => nomatch q⟩
    · rw [z]; exact ⟨o, ho, fun v q => by rw [hd] at q; cases q⟩
  keep := fun i h h' st k => let ⟨⟨old, he⟩, hi, hne⟩ := st; ⟨⟨old, k e (by simp) _ he⟩, hi.at fun o q => k it (by simp) o q, hne⟩
  item := by
    intro X hP hw hK hc i pins s σ H E I hf st hg
    subst hP hw hK
    obtain ⟨⟨old, he⟩, hit, hne, hea, hai⟩ := st
    obtain ⟨xs, x, hq, hx⟩ := hg
    obtain ⟨its, rv, p, hz⟩ := I.tuple hq
    obtain ⟨u, hu, ru⟩ := rv.get hx
    have hel : e < s.heap.objs.size := Heap.lt_size he
    have hil : it < s.heap.objs.size := by obtain ⟨_, q, _⟩ := hit; exact Heap.lt_size q
    have hlt : i < its.toArray.size := by
      obtain ⟨h1, _⟩ := List.getElem?_eq_some_iff.mp hu
      simpa using h1
    refine wpAny_pyNext_enum_itemD (Draws.tuple (A := X.A.in1) (show X.A.handled = none from I.ok.hd hc) it a hai its.toArray) he ⟨hit, p⟩ hlt hne (by simp [hne, hea]) fun y h' tk hP ho hit' hT hsz hk => ?_
    have ey : y = u := by
      have q1 : its[i]? = some y := by simpa using hP
      rw [hu] at q1
      exact (Option.some.inj q1).symm
    subst ey
    refine ⟨_, rfl, wpAny_letOwnedTupleGo_enum (s := { s with heap := h', toks := tk + 1 }) ho fun h'' he' sb => ?_⟩
    have hT2 : h''.get? s.heap.objs.size = some { cls := .type "tuple", data := .seq #[.int i tk, y] } := (sb.2 _ (Nat.ne_of_gt hel)).trans hT
    have new : ObjOk X.prog X.w (upd H s.heap.objs.size (.tup [.int (i : Nat), x])) h'' s.heap.objs.size (.tup [.int (i : Nat), x]) :=
      ⟨by show 2 ≤ sizeLine; decide, [.int i tk, y], .cons ⟨_, rfl⟩ (.cons ru .nil), ⟨_, hT2, rfl, _, rfl⟩⟩
    have I1 : Inv X pins σ (upd H s.heap.objs.size (.tup [.int (i : Nat), x])) { s with heap := h'', toks := tk + 1 } :=
      I.turnedNew (ch := [e, it]) (fun b ob hb q => (sb.2 b (fun z => hb (by simp [z]))).trans (hk b ob (fun z => hb (by simp [z])) (fun z => hb (by simp [z])) q)) hf (Nat.le_refl _) new
    refine ⟨.ref s.heap.objs.size, _, I1, rfl, ⟨_, x, rfl, I.hok.fresh (Nat.le_refl _), rfl, fun ys hy => by rw [I.tuple_inj hy hq]; exact hx⟩, ⟨⟨y, ?_⟩, hit'.1.at fun o q => (sb.2 it (Ne.symm hne)).trans q, hne, hea, hai⟩, fun b hb => ?_⟩
    · have e1 : ((i + 1 : Nat) : Int) = (i : Int) + 1 := by omega
      rw [e1]; exact he'
    · have hb' : b < s.heap.objs.size := by
        have e' : b = e ∨ b = it := by simpa using hb
        rcases e' with z | z
        · rw [z]; exact hel
        · rw [z]; exact hil
      rw [upd_ne (Nat.ne_of_lt hb')]
      exact (hf b hb).1
  done := by
    intro X hP hw hK hc i pins s σ H E I hf st hg
    subst hP hw hK
    obtain ⟨⟨old, he⟩, hit, hne, hea, hai⟩ := st
    obtain ⟨xs, hq, hx⟩ := hg
    obtain ⟨its, rv, p, hz⟩ := I.tuple hq
    obtain ⟨f0, f1, f2, f3, f4, f5⟩ := hf it (by simp)
    have hl := rv.length
    exact sb_enum_end (I.ok.hd hc) he hit p (by simp; omega) fun h' eb => ⟨rfl, I.turned (t' := s.toks) (fun b o hb q => eb b o hb q) f0 f1 f3 f4 f5⟩
  self := fun A i s Q E st h => let ⟨⟨_, he⟩, _⟩ := st; wpAny_pyIter_enum he h
theorem pi_enumD {a : Expr} {ta : TA} {p pos tpos : Pos} {elts : List Expr} {kk : Nat} (hg : Gl X "enumerate") (hm : X.mg "enumerate" = none) (ha : PA X [a] ta) (hs : starEach [a] X.env = [(false, eval a X.env)]) :
    PI X (.Tuple elts kk tpos) (.Call (.Name "enumerate" p) [a] [] pos) (iD X.K .enum ta) := by
  refine ⟨fun pins s σ H R I h => ?_⟩
  refine Call_ (ld_blt I hg hm boot_enumerate (PyProof.Rows.callWith_type1 (thn (ha.run pos pins s σ H _ I h) fun us s1 ⟨vs, H1, I1, r1, q1⟩ => ?_) hs rfl))
  obtain ⟨G, ds, xs, sm, hv, hx, q⟩ := q1
  match ds, hv, hx with
  | [.list ys], hv, hx =>
    simp only [iterD, Option.some.injEq] at hx
    subst hx
    obtain ⟨w, rfl, a, ws, rfl, h1, h2⟩ := vwA1 hv
    rw [Vals.ref1 r1]
    obtain ⟨its, rv, p', hz⟩ := I1.list h1
    refine call_enumerate_list p'.isList fun h' he hit hsz hk => wpAny_pyIter_enum he ?_
    have I2 : Inv X pins σ H1 { s1 with heap := h' } := I1.kept (t' := s1.toks) hk
    refine ⟨s1.heap.objs.size + 1, [s1.heap.objs.size + 1, s1.heap.objs.size], _, _, H1, rfl, I2, turn_enum a (s1.heap.objs.size + 1) s1.heap.objs.size, ⟨⟨.none, he⟩, hit, Nat.succ_ne_self _⟩, fun b hb => ?_, q _ itD_enum (by rw [List.length_map, List.length_zipIdx, ← dpAll_length h2]; exact hz)⟩
    have e' : b = s1.heap.objs.size + 1 ∨ b = s1.heap.objs.size := by simpa using hb
    have hle : s1.heap.objs.size ≤ b := by
      rcases e' with z | z
      · rw [z]; exact Nat.le_add_right _ _
      · rw [z]; exact Nat.le_refl _
    exact I1.fpOk hle (I1.hok.fresh hle)
  | [.tuple ys], hv, hx =>
    simp only [iterD, Option.some.injEq] at hx
    subst hx
    obtain ⟨w, rfl, a, ws, rfl, h1, h2⟩ := vwA1 hv
    rw [Vals.ref1 r1]
    obtain ⟨its, rv, p', hz⟩ := I1.tuple (same_sqT sm h1)
    have hal : a < s1.heap.objs.size := p'.lt
    refine sb_enum1 (begins_tuple a its.toArray) p' fun h' he hit hsz hk => wpAny_pyIter_enum he ?_
    have I2 : Inv X pins σ H1 { s1 with heap := h' } := I1.kept (t' := s1.toks) hk
    refine ⟨s1.heap.objs.size + 1, [s1.heap.objs.size + 1, s1.heap.objs.size], _, _, H1, rfl, I2, turn_enumT a (s1.heap.objs.size + 1) s1.heap.objs.size, ⟨⟨.none, he⟩, ⟨_, hit, rfl, rfl⟩, Nat.succ_ne_self _, Nat.ne_of_gt (Nat.lt_succ_of_lt hal), Nat.ne_of_lt hal⟩, fun b hb => ?_, q _ itD_enumT (by rw [List.length_map, List.length_zipIdx, ← dpAll_length h2]; exact hz)⟩
    have e' : b = s1.heap.objs.size + 1 ∨ b = s1.heap.objs.size := by simpa using hb
    have hle : s1.heap.objs.size ≤ b := by
      rcases e' with z | z
      · rw [z]; exact Nat.le_add_right _ _
      · rw [z]; exact Nat.le_refl _
    exact I1.fpOk hle (I1.hok.fresh hle)
  | [.str _], _, hx => cases hx
  | [.none], _, hx => cases hx
  | [.bool _], _, hx => cases hx
  | [.int _], _, hx => cases hx
  | [.dict _], _, hx => cases hx
  | [], _, hx => cases hx
  | a :: b :: l, _, hx => cases a <;> cases hx
theorem pi_zipD {a b : Expr} {ta : TA} {p pos tpos : Pos} {elts : List Expr} {kk : Nat} (hg : Gl X "zip") (hm : X.mg "zip" = none) (ha : PA X [a, b] ta)
    (hs : starEach [a, b] X.env = (false, eval a X.env) :: starEach [b] X.env) (hpl : (backTo pos (starEach [b] X.env)).any (·.1) = false) :
    PI X (.Tuple elts kk tpos) (.Call (.Name "zip" p) [a, b] [] pos) (iD X.K .zip ta) := by
  refine ⟨fun pins s σ H R I h => ?_⟩
  refine Call_ (ld_blt I hg hm PyProof.Rows.boot_zip (PyProof.Rows.callWith_type1 (thn (ha.run pos pins s σ H _ I h) fun us s1 ⟨vs, H1, I1, r1, q1⟩ => ?_) hs hpl))
  obtain ⟨G, ds, xs, sm, hv, hx, q⟩ := q1
  have fresh5 : ∀ c, c ∈ [s1.heap.objs.size + 4, s1.heap.objs.size + 2, s1.heap.objs.size + 3, s1.heap.objs.size, s1.heap.objs.size + 1] → FpOk X pins H1 c := fun c hcm => by
    have e' : c = s1.heap.objs.size + 4 ∨ c = s1.heap.objs.size + 2 ∨ c = s1.heap.objs.size + 3 ∨ c = s1.heap.objs.size ∨ c = s1.heap.objs.size + 1 := by simpa using hcm
    have hle : s1.heap.objs.size ≤ c := by
      rcases e' with z | z | z | z | z
      · rw [z]; exact Nat.le_add_right _ _
      · rw [z]; exact Nat.le_add_right _ _
      · rw [z]; exact Nat.le_add_right _ _
      · rw [z]; exact Nat.le_refl _
      · rw [z]; exact Nat.le_add_right _ _
    exact I1.fpOk hle (I1.hok.fresh hle)
  match ds, hv, hx with
  | [d, e], hv, hx =>
    cases d <;> cases e <;> simp only [iterD, reduceCtorEq, Option.some.injEq] at hx
    · subst hx
      obtain ⟨w, w2, rfl, ⟨a, ws, rfl, h1, h2⟩, ⟨b, us2, rfl, h3, h4⟩⟩ := vwA2 hv
      obtain ⟨u, u2, rfl, r, r'⟩ := vals2 r1
      cases r; cases r'
      obtain ⟨its, rv, p1, hz1⟩ := I1.list h1
      obtain ⟨its2, rv2, p2, _⟩ := I1.list h3
      have hlz := dpAll_length h2
      refine call_zip_2 p1.isList p2.isList fun h' hz hTI hTO h1 h2 hsz hk => wpAny_pyIter_zip hz ?_
      have I2 : Inv X pins σ H1 { s1 with heap := h' } := I1.kept (t' := s1.toks) hk
      exact ⟨s1.heap.objs.size + 4, [s1.heap.objs.size + 4, s1.heap.objs.size + 2, s1.heap.objs.size + 3, s1.heap.objs.size, s1.heap.objs.size + 1], _, _, H1, rfl, I2, turn_zip (PySem.W.ktu_apart s1.heap.objs.size a b p1.lt p2.lt), ⟨hz, hTI, ⟨_, _, hTO⟩, h1, h2⟩, fresh5, q _ itD_zip (by rw [List.length_map, List.length_zip]; omega)⟩
    · subst hx
      obtain ⟨w, w2, rfl, ⟨a, ws, rfl, h1, h2⟩, ⟨b, us2, rfl, h3, h4⟩⟩ := vwA2 hv
      obtain ⟨u, u2, rfl, r, r'⟩ := vals2 r1
      cases r; cases r'
      obtain ⟨its, rv, p1, hz1⟩ := I1.tuple (same_sqT sm h1)
      obtain ⟨its2, rv2, p2, _⟩ := I1.tuple (same_sqT sm h3)
      obtain ⟨o1, ho1, _⟩ := id p1
      obtain ⟨o2, ho2, _⟩ := id p2
      have hlz := dpAll_length h2
      refine RZ.call_zipT (show s1.heap.IsTuple a its.toArray from p1) (show s1.heap.IsTuple b its2.toArray from p2) fun h' hz hTI hTO h1 h2 hsz hk => wpAny_pyIter_zip hz ?_
      have I2 : Inv X pins σ H1 { s1 with heap := h' } := I1.kept (t' := s1.toks) hk
      exact ⟨s1.heap.objs.size + 4, [s1.heap.objs.size + 4, s1.heap.objs.size + 2, s1.heap.objs.size + 3, s1.heap.objs.size, s1.heap.objs.size + 1], _, _, H1, rfl, I2, RZ.turn_zipT (PySem.W.ktu_apart s1.heap.objs.size a b (Heap.lt_size ho1) (Heap.lt_size ho2)), ⟨hz, hTI, ⟨_, _, hTO⟩, h1, h2⟩, fresh5, q _ itD_zipT (by rw [List.length_map, List.length_zip]; omega)⟩
  | [], _, hx => cases hx
  | [d], _, hx => cases d <;> cases hx
  | a :: b :: c :: l, _, hx => cases a <;> cases b <;> cases hx
end
end SB
/-! Expressions: each construct keeps what the small language says. -/
namespace SB
open PySem PySem.Spec PyProof.Rows L2

theorem RR.base {K : PySem.W.Frag} {S : Option Addr} {H H2 G' H' : Hp} {v : V} {r : Sl} (h : RR K S H2 G' H' v r) (d : ∀ b, H b ≠ none → H2 b ≠ none) : RR K S H G' H' v r := by
  cases r with
  | ow x =>
    obtain ⟨a, e, h0, r⟩ := h
    refine ⟨a, e, ?_, r⟩
    cases q : H a with
    | none => rfl
    | some o => exact absurd h0 (d a (by rw [q]; exact fun z => nomatch z))
  | _ => exact h
theorem Then.after {K : PySem.W.Frag} {S : Option Addr} {c c1 : Option Nat} {G H G1 H1 : Hp} {r : Sl} {Q : VK} (q : Then K S c G H r Q) (n : Nxt S c1 G H G1 H1) : Then K S c G1 H1 r Q :=
  fun v G' H' n' rr => q v G' H' (n.trans n') (rr.base n.kp.dm)

def tE (Φ : Tab) (K : PySem.W.Frag) (E : Ex) : TE := fun σ H Q => ∃ Se Ge He S c ρ G, SR K Se Ge He S c ρ σ G H ∧ ∃ r c', ev Φ E ρ c = some (r, c') ∧ Then K S c' G H r Q
def tstM (Φ : Tab) (E : Ex) (ρ : Rho) : M Bool := do let x ← ev Φ E ρ; let d ← x.rd; asB d
def tT (Φ : Tab) (K : PySem.W.Frag) (E : Ex) : TT := fun σ H Q => ∃ Se Ge He S c ρ G, SR K Se Ge He S c ρ σ G H ∧ ∃ b c', tstM Φ E ρ c = some (b, c') ∧ ∀ G' H', Nxt S c' G H G' H' → Q b H'
section
variable {X : Cx} {Φ : Tab} {a b e : Expr} {A B E : Ex} {pos : Pos}
theorem M.rd_some {x : Sl} {c c' : Option Nat} {d : D} (h : x.rd c = some (d, c')) : c' = c := by
  cases x with
  | st => cases h
  | _ => cases h; rfl
theorem M.asB_some {x : D} {c c' : Option Nat} {d : Bool} (h : asB x c = some (d, c')) : x = .bool d ∧ c' = c := by
  cases x with
  | bool b => cases h; exact ⟨rfl, rfl⟩
  | _ => cases h
theorem e_bin {op : Operator} (ha : PE X a (tE Φ X.K A)) (hb : PE X b (tE Φ X.K B)) : PE X (.BinOp a op b pos) (tE Φ X.K (.bin op A B)) := by
  refine ⟨fun pins s σ H Q I h => ?_⟩
  obtain ⟨Se, Ge, He, S, c, ρ, G, sr, r, c', hev, q⟩ := h
  simp only [ev] at hev
  replace hev := M.bind_some hev
  obtain ⟨x, c1, h1, hev⟩ := hev
  replace hev := M.bind_some hev
  obtain ⟨d, c2, h2, hev⟩ := hev
  replace hev := M.bind_some hev
  obtain ⟨y, c3, h3, hev⟩ := hev
  replace hev := M.bind_some hev
  obtain ⟨d2, c4, h4, hev⟩ := hev
  obtain rfl := M.rd_some h2
  obtain rfl := M.rd_some h4
  obtain ⟨h5, h6⟩ := ofO_run hev
  simp only at h5 h6
  subst h6
  refine (pe_op (opD_bin op) ha hb).run pins s σ H Q I ⟨Se, Ge, He, S, c, ρ, G, sr, x, _, h1, fun v1 G1 H1 n1 r1 => ⟨Se, Ge, He, S, _, ρ, G1, sr.step n1, y, _, h3, fun v2 G2 H2 n2 r2 => ?_⟩⟩
  exact ⟨S, G2, _, d, d2, r, n2.sub, n2.sta, ((r1.mono n2.kp).vw n2.sub h2).1, (r2.vw n2.sub h4).1, h5, q.after (n1.trans n2)⟩
theorem e_cmp {op : CmpOp} (hu : X.A.units + 65 < cLine) (ha : PE X a (tE Φ X.K A)) (hb : PE X b (tE Φ X.K B)) (hm : behindInMarks op b = false) : PE X (.Compare a [op] [b] pos) (tE Φ X.K (.cmp op A B)) := by
  refine ⟨fun pins s σ H Q I h => ?_⟩
  obtain ⟨Se, Ge, He, S, c, ρ, G, sr, r, c', hev, q⟩ := h
  simp only [ev] at hev
  replace hev := M.bind_some hev
  obtain ⟨x, c1, h1, hev⟩ := hev
  replace hev := M.bind_some hev
  obtain ⟨d, c2, h2, hev⟩ := hev
  replace hev := M.bind_some hev
  obtain ⟨y, c3, h3, hev⟩ := hev
  replace hev := M.bind_some hev
  obtain ⟨d2, c4, h4, hev⟩ := hev
  obtain rfl := M.rd_some h2
  obtain rfl := M.rd_some h4
  obtain ⟨h5, h6⟩ := ofO_run hev
  simp only at h5 h6
  subst h6
  refine (pe_cmpR (opD_cmp hu op) ha hb hm).run pins s σ H Q I ⟨Se, Ge, He, S, c, ρ, G, sr, x, _, h1, fun v1 G1 H1 n1 r1 => ⟨Se, Ge, He, S, _, ρ, G1, sr.step n1, y, _, h3, fun v2 G2 H2 n2 r2 => ?_⟩⟩
  exact ⟨S, G2, _, d, d2, r, n2.sub, n2.sta, ((r1.mono n2.kp).vw n2.sub h2).1, (r2.vw n2.sub h4).1, h5, q.after (n1.trans n2)⟩
/-- a test's value -/
theorem Then.test {K : PySem.W.Frag} {S : Option Addr} {c : Option Nat} {G H : Hp} {k : Bool} {Q : Bool → Hp → Prop} (q : ∀ G' H', Nxt S c G H G' H' → Q k H') : Then K S c G H (.fz (.bool k)) (fun v H' => ∃ k', v = .bl k' ∧ Q k' H') :=
  fun v G' H' n rr => by
    cases rr
    exact ⟨k, rfl, q G' H' n⟩
theorem tst_some {ρ : Rho} {c c' : Option Nat} {k : Bool} (h : tstM Φ E ρ c = some (k, c')) : ∃ x, ev Φ E ρ c = some (x, c') ∧ x.rd c' = some (.bool k, c') := by
  unfold tstM at h
  replace h := M.bind_some h
  obtain ⟨x, c1, h1, h⟩ := h
  replace h := M.bind_some h
  obtain ⟨d, c2, h2, h⟩ := h
  obtain ⟨h3, h4⟩ := M.asB_some h
  subst h3 h4
  obtain rfl := M.rd_some h2
  exact ⟨x, h1, h2⟩
theorem rd_bool {x : Sl} {c c' : Option Nat} {K : PySem.W.Frag} {S : Option Addr} {H0 G H : Hp} {v : V} {k : Bool} (sm : Same G H) (h : x.rd c = some (.bool k, c')) (r : RR K S H0 G H v x) : v = .bl k := by
  have := (r.vw sm h).1
  exact this
theorem t_cmp {op : CmpOp} (hu : X.A.units + 65 < cLine) (ha : PE X a (tE Φ X.K A)) (hb : PE X b (tE Φ X.K B)) (hm : behindInMarks op b = false) : PT X (.Compare a [op] [b] pos) (tT Φ X.K (.cmp op A B)) := by
  refine ⟨fun pins s σ H Q I h => ?_⟩
  obtain ⟨Se, Ge, He, S, c, ρ, G, sr, k, c', hev, q⟩ := h
  obtain ⟨z, hev, hz⟩ := tst_some hev
  simp only [ev] at hev
  replace hev := M.bind_some hev
  obtain ⟨x, c1, h1, hev⟩ := hev
  replace hev := M.bind_some hev
  obtain ⟨d, c2, h2, hev⟩ := hev
  replace hev := M.bind_some hev
  obtain ⟨y, c3, h3, hev⟩ := hev
  replace hev := M.bind_some hev
  obtain ⟨d2, c4, h4, hev⟩ := hev
  obtain rfl := M.rd_some h2
  obtain rfl := M.rd_some h4
  obtain ⟨h5, h6⟩ := ofO_run hev
  simp only at h5 h6
  subst h6
  refine (pt_cmpR (opD_cmp hu op) ha hb hm).run pins s σ H Q I ⟨Se, Ge, He, S, c, ρ, G, sr, x, _, h1, fun v1 G1 H1 n1 r1 => ⟨Se, Ge, He, S, _, ρ, G1, sr.step n1, y, _, h3, fun v2 G2 H2 n2 r2 => ?_⟩⟩
  refine ⟨S, G2, _, d, d2, z, n2.sub, n2.sta, ((r1.mono n2.kp).vw n2.sub h2).1, (r2.vw n2.sub h4).1, h5, fun v G' H' n rr => ?_⟩
  exact ⟨k, rd_bool n.sub hz rr, q _ _ (n1.trans (n2.trans n))⟩
theorem ch_body {op op' : CmpOp} {C : Ex} {ρ : Rho} {c c' : Option Nat} {z : Sl} (hev : ev Φ (.chain op op' A B C) ρ c = some (z, c')) :
    ∃ x d y d2 k c1 c3, ev Φ A ρ c = some (x, c1) ∧ x.rd c1 = some (d, c1) ∧ ev Φ B ρ c1 = some (y, c3) ∧ y.rd c3 = some (d2, c3) ∧ cmpD op d d2 = some k ∧
      ((k = false ∧ z = .fz (.bool false) ∧ c' = c3) ∨ (k = true ∧ ∃ w d3, ev Φ C ρ c3 = some (w, c') ∧ w.rd c' = some (d3, c') ∧ cmpS op' d2 d3 = some z)) := by
  simp only [ev] at hev
  replace hev := M.bind_some hev
  obtain ⟨x, c1, h1, hev⟩ := hev
  replace hev := M.bind_some hev
  obtain ⟨d, c2, h2, hev⟩ := hev
  replace hev := M.bind_some hev
  obtain ⟨y, c3, h3, hev⟩ := hev
  replace hev := M.bind_some hev
  obtain ⟨d2, c4, h4, hev⟩ := hev
  replace hev := M.bind_some hev
  obtain ⟨k, c5, h5, hev⟩ := hev
  obtain rfl := M.rd_some h2
  obtain rfl := M.rd_some h4
  replace h5 := ofO_run h5
  obtain ⟨h5, h6⟩ := h5
  simp only at h5 h6
  subst h6
  refine ⟨x, d, y, d2, k, _, _, h1, h2, h3, h4, h5, ?_⟩
  cases k with
  | false =>
    rw [if_neg Bool.false_ne_true] at hev
    cases hev
    exact .inl ⟨rfl, rfl, rfl⟩
  | true =>
    rw [if_pos rfl] at hev
    replace hev := M.bind_some hev
    obtain ⟨w, c6, h7, hev⟩ := hev
    replace hev := M.bind_some hev
    obtain ⟨d3, c7, h8, hev⟩ := hev
    obtain rfl := M.rd_some h8
    obtain ⟨h9, h10⟩ := ofO_run hev
    simp only at h9 h10
    subst h10
    exact .inr ⟨rfl, w, d3, h7, h8, h9⟩
theorem e_chain {op op' : CmpOp} {cx : Expr} {C : Ex} (hu : X.A.units + 65 < cLine) (ha : PE X a (tE Φ X.K A)) (hb : PE X b (tE Φ X.K B)) (hc : PE X cx (tE Φ X.K C)) (hm : lastMarks [op, op'] [b, cx] = false) : PE X (.Compare a [op, op'] [b, cx] pos) (tE Φ X.K (.chain op op' A B C)) := by
  refine ⟨fun pins s σ H Q I h => ?_⟩
  obtain ⟨Se, Ge, He, S, c, ρ, G, sr, r, c', hev, q⟩ := h
  obtain ⟨x, d, y, d2, k, c1, c3, h1, h2, h3, h4, h5, hk⟩ := ch_body hev
  refine (pe_chain (opD_cmp hu op) (opD_cmp hu op') ha hb hc hm).run pins s σ H Q I ⟨Se, Ge, He, S, c, ρ, G, sr, x, _, h1, fun v1 G1 H1 n1 r1 => ⟨Se, Ge, He, S, _, ρ, G1, sr.step n1, y, _, h3, fun v2 G2 H2 n2 r2 => ?_⟩⟩
  refine ⟨S, G2, _, d, d2, .fz (.bool k), n2.sub, n2.sta, ((r1.mono n2.kp).vw n2.sub h2).1, (r2.vw n2.sub h4).1, by simp [cmpS, h5], fun v3 G3 H3 n3 r3 => ?_⟩
  cases r3
  refine ⟨k, rfl, ?_⟩
  have n13 := n1.trans (n2.trans n3)
  rcases hk with ⟨rfl, rfl, rfl⟩ | ⟨rfl, w, d3, h7, h8, h9⟩
  · rw [if_neg Bool.false_ne_true]
    exact q _ _ _ n13 (.bl _)
  · rw [if_pos rfl]
    refine ⟨Se, Ge, He, S, _, ρ, G3, sr.step n13, w, _, h7, fun v4 G4 H4 n4 r4 => ?_⟩
    exact ⟨S, G4, _, d2, d3, r, n4.sub, n4.sta, (((r2.mono n3.kp).mono n4.kp).vw n4.sub h4).1, (r4.vw n4.sub h8).1, h9, q.after (n13.trans n4)⟩
theorem t_chain {op op' : CmpOp} {cx : Expr} {C : Ex} (hu : X.A.units + 65 < cLine) (ha : PE X a (tE Φ X.K A)) (hb : PE X b (tE Φ X.K B)) (hc : PE X cx (tE Φ X.K C)) (hm : lastMarks [op, op'] [b, cx] = false) : PT X (.Compare a [op, op'] [b, cx] pos) (tT Φ X.K (.chain op op' A B C)) := by
  refine ⟨fun pins s σ H Q I h => ?_⟩
  obtain ⟨Se, Ge, He, S, c, ρ, G, sr, t, c', hev, q⟩ := h
  obtain ⟨z, hev, hz⟩ := tst_some hev
  obtain ⟨x, d, y, d2, k, c1, c3, h1, h2, h3, h4, h5, hk⟩ := ch_body hev
  refine (pt_chain (opD_cmp hu op) (opD_cmp hu op') ha hb hc hm).run pins s σ H Q I ⟨Se, Ge, He, S, c, ρ, G, sr, x, _, h1, fun v1 G1 H1 n1 r1 => ⟨Se, Ge, He, S, _, ρ, G1, sr.step n1, y, _, h3, fun v2 G2 H2 n2 r2 => ?_⟩⟩
  refine ⟨S, G2, _, d, d2, .fz (.bool k), n2.sub, n2.sta, ((r1.mono n2.kp).vw n2.sub h2).1, (r2.vw n2.sub h4).1, by simp [cmpS, h5], fun v3 G3 H3 n3 r3 => ?_⟩
  cases r3
  refine ⟨k, rfl, ?_⟩
  have n13 := n1.trans (n2.trans n3)
  rcases hk with ⟨rfl, rfl, rfl⟩ | ⟨rfl, w, d3, h7, h8, h9⟩
  · rw [if_neg Bool.false_ne_true]
    cases hz
    exact ⟨false, rfl, q _ _ n13⟩
  · rw [if_pos rfl]
    refine ⟨Se, Ge, He, S, _, ρ, G3, sr.step n13, w, _, h7, fun v4 G4 H4 n4 r4 => ?_⟩
    refine ⟨S, G4, _, d2, d3, z, n4.sub, n4.sta, (((r2.mono n3.kp).mono n4.kp).vw n4.sub h4).1, (r4.vw n4.sub h8).1, h9, fun v5 G5 H5 n5 r5 => ?_⟩
    exact ⟨t, rd_bool n5.sub hz r5, q _ _ (n13.trans (n4.trans n5))⟩
/-- a value as a test -/
theorem t_val (he : PE X e (tE Φ X.K E)) (hp : ∀ whole, isTrue e X.env whole = (do let v ← whole; standAt e.pos; holding [v] (truthy v))) : PT X e (tT Φ X.K E) := by
  refine ⟨fun pins s σ H Q I h => ?_⟩
  obtain ⟨Se, Ge, He, S, c, ρ, G, sr, k, c', hev, q⟩ := h
  obtain ⟨z, hev, hz⟩ := tst_some hev
  refine (pt_val he hp).run pins s σ H Q I ⟨Se, Ge, He, S, c, ρ, G, sr, z, _, hev, fun v G' H' n rr => ?_⟩
  exact ⟨k, rd_bool n.sub hz rr, q _ _ n⟩
theorem e_not (ha : PE X a (tE Φ X.K A)) : PE X (.UnaryOp .Not a pos) (tE Φ X.K (.not A)) := by
  refine ⟨fun pins s σ H Q I h => ?_⟩
  obtain ⟨Se, Ge, He, S, c, ρ, G, sr, r, c', hev, q⟩ := h
  simp only [ev] at hev
  replace hev := M.bind_some hev
  obtain ⟨x, c1, h1, hev⟩ := hev
  replace hev := M.bind_some hev
  obtain ⟨d, c2, h2, hev⟩ := hev
  replace hev := M.bind_some hev
  obtain ⟨k, c3, h3, hev⟩ := hev
  obtain rfl := M.rd_some h2
  obtain ⟨rfl, rfl⟩ := M.asB_some h3
  cases hev
  refine (pe_not ha).run pins s σ H Q I ⟨Se, Ge, He, S, c, ρ, G, sr, x, _, h1, fun v G' H' n rr => ?_⟩
  exact ⟨k, rd_bool n.sub h2 rr, q _ _ _ n (.bl _)⟩
theorem t_not (ha : PT X a (tT Φ X.K A)) : PT X (.UnaryOp .Not a pos) (tT Φ X.K (.not A)) := by
  refine ⟨fun pins s σ H Q I h => ?_⟩
  obtain ⟨Se, Ge, He, S, c, ρ, G, sr, r, c', hev, q⟩ := h
  obtain ⟨z, hev, hz⟩ := tst_some hev
  simp only [ev] at hev
  replace hev := M.bind_some hev
  obtain ⟨x, c1, h1, hev⟩ := hev
  replace hev := M.bind_some hev
  obtain ⟨d, c2, h2, hev⟩ := hev
  replace hev := M.bind_some hev
  obtain ⟨k, c3, h3, hev⟩ := hev
  obtain rfl := M.rd_some h2
  obtain ⟨rfl, rfl⟩ := M.asB_some h3
  cases hev
  cases hz
  refine (pt_not ha).run pins s σ H Q I ⟨Se, Ge, He, S, c, ρ, G, sr, k, _, ?_, fun G' H' n => q _ _ n⟩
  unfold tstM
  rw [M.bind_run, h1]
  show (Sl.rd x >>= asB) _ = _
  rw [M.bind_run, h2]
  rfl
theorem intOf_some {d : D} {i : Int} (h : intOf d = some i) : d = .int i := by
  cases d <;> first | cases h | skip
  rfl
theorem strOf_some {d : D} {x : Str} (h : strOf d = some x) : d = .str x := by
  cases d <;> first | cases h | skip
  rfl
theorem lstOf_some {d : D} {x : List D} (h : lstOf d = some x) : d = .list x := by
  cases d <;> first | cases h | skip
  rfl
theorem slAt_some {ρ : Rho} {i : Nat} {s : Sl} (h : slAt ρ i = some s) : ρ[i]? = some (some s) := by
  unfold slAt at h
  cases q : ρ[i]? with
  | none => rw [q] at h; cases h
  | some o =>
    rw [q] at h
    exact congrArg some h
theorem ofO2 {α : Type} {o : Option α} {c c' : Option Nat} {a : α} (h : ofO o c = some (a, c')) : o = some a ∧ c' = c := ofO_run h
theorem e_neg (ha : PE X a (tE Φ X.K A)) : PE X (.UnaryOp .USub a pos) (tE Φ X.K (.neg A)) := by
  refine ⟨fun pins s σ H Q I h => ?_⟩
  obtain ⟨Se, Ge, He, S, c, ρ, G, sr, r, c', hev, q⟩ := h
  simp only [ev] at hev
  replace hev := M.bind_some hev
  obtain ⟨x, c1, h1, hev⟩ := hev
  replace hev := M.bind_some hev
  obtain ⟨d, c2, h2, hev⟩ := hev
  replace hev := M.bind_some hev
  obtain ⟨i, c3, h3, hev⟩ := hev
  have e2 := M.rd_some h2
  subst e2
  obtain ⟨h4, e4⟩ := ofO2 h3
  subst e4
  have e5 := intOf_some h4
  subst e5
  cases hev
  refine (pe_un un_neg ha).run pins s σ H Q I ⟨Se, Ge, He, S, c, ρ, G, sr, x, _, h1, fun v G' H' n rr => ?_⟩
  exact ⟨i, (rr.vw n.sub h2).1, q _ _ _ n (.int _)⟩
theorem t_run {ρ : Rho} {c c' : Option Nat} {x : Sl} {k : Bool} (h1 : ev Φ A ρ c = some (x, c')) (h2 : x.rd c' = some (.bool k, c')) : tstM Φ A ρ c = some (k, c') := by
  unfold tstM
  rw [M.bind_run, h1]
  show (Sl.rd x >>= asB) _ = _
  rw [M.bind_run, h2]
  rfl
theorem ao_body {ρ : Rho} {c c' : Option Nat} {z : Sl} {f g : M Sl} (hev : (do let x ← ev Φ A ρ; let d ← x.rd; let k ← asB d; if k then f else g) c = some (z, c')) :
    ∃ x k c1, ev Φ A ρ c = some (x, c1) ∧ x.rd c1 = some (.bool k, c1) ∧ (if k then f else g) c1 = some (z, c') := by
  replace hev := M.bind_some hev
  obtain ⟨x, c1, h1, hev⟩ := hev
  replace hev := M.bind_some hev
  obtain ⟨d, c2, h2, hev⟩ := hev
  replace hev := M.bind_some hev
  obtain ⟨k, c3, h3, hev⟩ := hev
  obtain rfl := M.rd_some h2
  obtain ⟨rfl, rfl⟩ := M.asB_some h3
  exact ⟨x, k, _, h1, h2, hev⟩
theorem e_and {rest : List Expr} (ha : PE X a (tE Φ X.K A)) (hb : PE X (.BoolOp .And (b :: rest) pos) (tE Φ X.K B)) : PE X (.BoolOp .And (a :: b :: rest) pos) (tE Φ X.K (.and A B)) := by
  refine ⟨fun pins s σ H Q I h => ?_⟩
  obtain ⟨Se, Ge, He, S, c, ρ, G, sr, r, c', hev, q⟩ := h
  simp only [ev] at hev
  obtain ⟨x, k, c1, h1, h2, hev⟩ := ao_body hev
  refine (pe_and ha hb).run pins s σ H Q I ⟨Se, Ge, He, S, c, ρ, G, sr, x, _, h1, fun v G1 H1 n rr => ?_⟩
  refine ⟨k, rd_bool n.sub h2 rr, ?_⟩
  cases k with
  | false =>
    rw [if_neg Bool.false_ne_true] at hev ⊢
    cases hev
    exact q _ _ _ n (.bl _)
  | true =>
    rw [if_pos rfl] at hev ⊢
    exact ⟨Se, Ge, He, S, _, ρ, G1, sr.step n, r, _, hev, q.after n⟩
theorem e_or {rest : List Expr} (ha : PE X a (tE Φ X.K A)) (hb : PE X (.BoolOp .Or (b :: rest) pos) (tE Φ X.K B)) : PE X (.BoolOp .Or (a :: b :: rest) pos) (tE Φ X.K (.or A B)) := by
  refine ⟨fun pins s σ H Q I h => ?_⟩
  obtain ⟨Se, Ge, He, S, c, ρ, G, sr, r, c', hev, q⟩ := h
  simp only [ev] at hev
  obtain ⟨x, k, c1, h1, h2, hev⟩ := ao_body hev
  refine (pe_or ha hb).run pins s σ H Q I ⟨Se, Ge, He, S, c, ρ, G, sr, x, _, h1, fun v G1 H1 n rr => ?_⟩
  refine ⟨k, rd_bool n.sub h2 rr, ?_⟩
  cases k with
  | true =>
    rw [if_pos rfl] at hev ⊢
    cases hev
    exact q _ _ _ n (.bl _)
  | false =>
    rw [if_neg Bool.false_ne_true] at hev ⊢
    exact ⟨Se, Ge, He, S, _, ρ, G1, sr.step n, r, _, hev, q.after n⟩
theorem t_and {rest : List Expr} (ha : PT X a (tT Φ X.K A)) (hb : PW X (.BoolOp .And (b :: rest) pos) (tT Φ X.K B)) : PW X (.BoolOp .And (a :: b :: rest) pos) (tT Φ X.K (.and A B)) := by
  refine ⟨fun wh pins s σ H Q I h => ?_⟩
  obtain ⟨Se, Ge, He, S, c, ρ, G, sr, r, c', hev, q⟩ := h
  obtain ⟨z, hev, hz⟩ := tst_some hev
  simp only [ev] at hev
  obtain ⟨x, k, c1, h1, h2, hev⟩ := ao_body hev
  refine (pw_and ha hb).run wh pins s σ H Q I ⟨Se, Ge, He, S, c, ρ, G, sr, k, _, t_run h1 h2, fun G1 H1 n => ?_⟩
  cases k with
  | false =>
    rw [if_neg Bool.false_ne_true] at hev ⊢
    cases hev
    cases hz
    exact q _ _ n
  | true =>
    rw [if_pos rfl] at hev ⊢
    exact ⟨Se, Ge, He, S, _, ρ, G1, sr.step n, r, _, t_run hev hz, fun G2 H2 n2 => q _ _ (n.trans n2)⟩
theorem t_or {rest : List Expr} (ha : PT X a (tT Φ X.K A)) (hb : PW X (.BoolOp .Or (b :: rest) pos) (tT Φ X.K B)) : PW X (.BoolOp .Or (a :: b :: rest) pos) (tT Φ X.K (.or A B)) := by
  refine ⟨fun wh pins s σ H Q I h => ?_⟩
  obtain ⟨Se, Ge, He, S, c, ρ, G, sr, r, c', hev, q⟩ := h
  obtain ⟨z, hev, hz⟩ := tst_some hev
  simp only [ev] at hev
  obtain ⟨x, k, c1, h1, h2, hev⟩ := ao_body hev
  refine (pw_or ha hb).run wh pins s σ H Q I ⟨Se, Ge, He, S, c, ρ, G, sr, k, _, t_run h1 h2, fun G1 H1 n => ?_⟩
  cases k with
  | true =>
    rw [if_pos rfl] at hev ⊢
    cases hev
    cases hz
    exact q _ _ n
  | false =>
    rw [if_neg Bool.false_ne_true] at hev ⊢
    exact ⟨Se, Ge, He, S, _, ρ, G1, sr.step n, r, _, t_run hev hz, fun G2 H2 n2 => q _ _ (n.trans n2)⟩
theorem e_ife {cx : Expr} {C : Ex} (hc : PT X cx (tT Φ X.K C)) (ha : PE X a (tE Φ X.K A)) (hb : PE X b (tE Φ X.K B)) : PE X (.IfExp cx a b pos) (tE Φ X.K (.ife C A B)) := by
  refine ⟨fun pins s σ H Q I h => ?_⟩
  obtain ⟨Se, Ge, He, S, c, ρ, G, sr, r, c', hev, q⟩ := h
  simp only [ev] at hev
  obtain ⟨x, k, c1, h1, h2, hev⟩ := ao_body hev
  refine (pe_ifExp hc ha hb).run pins s σ H Q I ⟨Se, Ge, He, S, c, ρ, G, sr, k, _, t_run h1 h2, fun G1 H1 n => ?_⟩
  cases k with
  | true =>
    rw [if_pos rfl] at hev ⊢
    exact ⟨Se, Ge, He, S, _, ρ, G1, sr.step n, r, _, hev, q.after n⟩
  | false =>
    rw [if_neg Bool.false_ne_true] at hev ⊢
    exact ⟨Se, Ge, He, S, _, ρ, G1, sr.step n, r, _, hev, q.after n⟩
/-! ### constants, names -/
theorem e_const {v : V} {d : D} (he : PE X e (tC v)) (hd : ∀ G, Dq X.K G v d) (hE : ∀ ρ, ev Φ E ρ = pure (.fz d)) : PE X e (tE Φ X.K E) := by
  refine ⟨fun pins s σ H Q I h => ?_⟩
  obtain ⟨Se, Ge, He, S, c, ρ, G, sr, r, c', hev, q⟩ := h
  rw [hE] at hev
  cases hev
  exact he.run pins s σ H Q I (q.plain sr.sub sr.sta (hd G))
theorem e_var {i : Nat} (he : PE X e (tVar i)) : PE X e (tE Φ X.K (.v i)) := by
  refine ⟨fun pins s σ H Q I h => ?_⟩
  obtain ⟨Se, Ge, He, S, c, ρ, G, sr, r, c', hev, q⟩ := h
  simp only [ev] at hev
  replace hev := M.bind_some hev
  obtain ⟨x, c1, h1, hev⟩ := hev
  obtain ⟨h2, e2⟩ := ofO2 h1
  subst e2
  have hi := slAt_some h2
  cases hev
  obtain ⟨v, e1, hv⟩ := sr.slot i x hi
  refine he.run pins s σ H Q I ⟨v, e1, q v G H (.refl sr.sub sr.sta) ?_⟩
  cases x with
  | fz d => exact hv
  | ow d => obtain ⟨a, rfl, h0, hg, hS, ho⟩ := hv; exact ⟨a, rfl, hS, ho⟩
  | bw d => obtain ⟨a, rfl, h0, hS, ho⟩ := hv; exact ⟨a, rfl, hS, ho⟩
  | st => exact hv
theorem e_ix {bx : Expr} (ha : PE X a (tE Φ X.K A)) (hb : PE X bx (tE Φ X.K B)) (hs : PlainIx bx) : PE X (.Subscript a bx pos) (tE Φ X.K (.ix A B)) := by
  refine ⟨fun pins s σ H Q I h => ?_⟩
  obtain ⟨Se, Ge, He, S, c, ρ, G, sr, r, c', hev, q⟩ := h
  simp only [ev] at hev
  replace hev := M.bind_some hev
  obtain ⟨x, c1, h1, hev⟩ := hev
  replace hev := M.bind_some hev
  obtain ⟨d, c2, h2, hev⟩ := hev
  replace hev := M.bind_some hev
  obtain ⟨y, c3, h3, hev⟩ := hev
  replace hev := M.bind_some hev
  obtain ⟨d2, c4, h4, hev⟩ := hev
  obtain rfl := M.rd_some h2
  obtain rfl := M.rd_some h4
  obtain ⟨h5, h6⟩ := ofO_run hev
  simp only at h5 h6
  subst h6
  refine (pe_ix ixD_ok ha hb hs).run pins s σ H Q I ⟨Se, Ge, He, S, c, ρ, G, sr, x, _, h1, fun v1 G1 H1 n1 r1 => ⟨Se, Ge, He, S, _, ρ, G1, sr.step n1, y, _, h3, fun v2 G2 H2 n2 r2 => ?_⟩⟩
  exact ⟨S, G2, _, d, d2, r, n2.sub, n2.sta, ((r1.mono n2.kp).vw n2.sub h2).1, (r2.vw n2.sub h4).1, h5, q.after (n1.trans n2)⟩
/-! ### several expressions -/
/-- values that are read: also later -/
def tAr (Φ : Tab) (K : PySem.W.Frag) (Es : List Ex) : TA := fun σ H Q => ∃ Se Ge He S c ρ G, SR K Se Ge He S c ρ σ G H ∧ ∃ ds c', evr Φ Es ρ c = some (ds, c') ∧
  ∀ vs G' H', Nxt S c' G H G' H' → (∀ G2 H2, Kp S G' H' G2 H2 → Same G2 H2 → VwA K G2 H2 vs ds) → Q vs H'
def tAk (Φ : Tab) (K : PySem.W.Frag) (Es : List Ex) : TA := fun σ H Q => ∃ Se Ge He S c ρ G, SR K Se Ge He S c ρ σ G H ∧ ∃ ds c', evk Φ Es ρ c = some (ds, c') ∧
  ∀ vs G' H', Nxt S c' G H G' H' → DqAll K G' vs ds → Q vs H'
abbrev RRs (K : PySem.W.Frag) (S : Option Addr) (H0 G H : Hp) : List V → List Sl → Prop := Paired (RR K S H0 G H)
def tAa (Φ : Tab) (K : PySem.W.Frag) (Es : List Ex) : TA := fun σ H Q => ∃ Se Ge He S c ρ G, SR K Se Ge He S c ρ σ G H ∧ ∃ rs c', eva Φ Es ρ c = some (rs, c') ∧
  ∀ vs G' H', Nxt S c' G H G' H' → (∀ G2 H2, Kp S G' H' G2 H2 → Same G2 H2 → RRs K S H G2 H2 vs rs) → rs.all argOk = true → Q vs H'
theorem Sl.fr_ok {x y : Sl} {c c' : Option Nat} (h : x.fr c = some (y, c')) : c' = c ∧ argOk y = true ∧ ((x = y) ∨ ∃ ds, x = .ow (.list ds) ∧ y = .fz (.list ds)) := by
  cases x with
  | fz d => cases h; exact ⟨rfl, rfl, .inl rfl⟩
  | bw d => cases h; exact ⟨rfl, rfl, .inl rfl⟩
  | st => cases h; exact ⟨rfl, rfl, .inl rfl⟩
  | ow d =>
    cases d with
    | list ds => cases h; exact ⟨rfl, rfl, .inr ⟨ds, rfl, rfl⟩⟩
    | _ => cases h
theorem Sl.kp_ok {x : Sl} {c c' : Option Nat} {d : D} (h : x.kp c = some (d, c')) : c' = c ∧ ((x = .fz d) ∨ ∃ ds, x = .ow (.list ds) ∧ d = .list ds) := by
  cases x with
  | fz d => cases h; exact ⟨rfl, .inl rfl⟩
  | bw d => cases h
  | st => cases h
  | ow d =>
    cases d with
    | list ds => cases h; exact ⟨rfl, .inr ⟨ds, rfl, rfl⟩⟩
    | _ => cases h
/-- a new list that is kept is frozen -/
theorem RR.freeze {K : PySem.W.Frag} {S : Option Addr} {c : Option Nat} {G H G1 H1 : Hp} {v : V} {ds : List D} (n : Nxt S c G H G1 H1) (r : RR K S H G1 H1 v (.ow (.list ds))) : ∃ G2, Nxt S c G H G2 H1 ∧ Dq K G2 v (.list ds) := by
  obtain ⟨a, rfl, h0, hg, hS, vs, ho, hd⟩ := r
  refine ⟨upd G1 a (.lst vs), n.freeze h0 hg hS ho, .lst (.inl (.inl upd_same)) ?_⟩
  exact dpAll_mono (fun b u e => by rw [upd_ne (ne_of_none e hg)]; exact e) _ hd
theorem RR.keep {K : PySem.W.Frag} {S : Option Addr} {c c' c2 : Option Nat} {G H G1 H1 : Hp} {v : V} {x : Sl} {d : D} (n : Nxt S c G H G1 H1) (r : RR K S H G1 H1 v x) (h : x.kp c' = some (d, c2)) : ∃ G2, Nxt S c G H G2 H1 ∧ Dq K G2 v d := by
  obtain ⟨_, rfl | ⟨ds, rfl, rfl⟩⟩ := Sl.kp_ok h
  · exact ⟨G1, n, r⟩
  · exact r.freeze n
theorem ar_nil : PA X [] (tAr Φ X.K []) := by
  refine ⟨fun p pins s σ H Q I h => ?_⟩
  obtain ⟨Se, Ge, He, S, c, ρ, G, sr, r, c', hev, q⟩ := h
  simp only [evr] at hev
  cases hev
  exact pa_nil.run p pins s σ H Q I (q _ _ _ (.refl sr.sub sr.sta) fun _ _ _ _ => .nil)
theorem ar_cons {es : List Expr} {Es : List Ex} (he : PE X e (tE Φ X.K E)) (hr : PA X es (tAr Φ X.K Es)) (hs : starEach (e :: es) X.env = (false, eval e X.env) :: starEach es X.env) : PA X (e :: es) (tAr Φ X.K (E :: Es)) := by
  refine ⟨fun p pins s σ H Q I h => ?_⟩
  obtain ⟨Se, Ge, He, S, c, ρ, G, sr, r, c', hev, q⟩ := h
  simp only [evr] at hev
  replace hev := M.bind_some hev
  obtain ⟨x, c1, h1, hev⟩ := hev
  replace hev := M.bind_some hev
  obtain ⟨d, c2, h2, hev⟩ := hev
  replace hev := M.bind_some hev
  obtain ⟨ds, c3, h3, hev⟩ := hev
  obtain rfl := M.rd_some h2
  cases hev
  refine (pa_cons he hr hs).run p pins s σ H Q I ⟨Se, Ge, He, S, c, ρ, G, sr, x, _, h1, fun v1 G1 H1 n1 r1 => ⟨Se, Ge, He, S, _, ρ, G1, sr.step n1, ds, _, h3, fun vs G2 H2 n2 hv => ?_⟩⟩
  exact q _ _ _ (n1.trans n2) fun G3 H3 k3 s3 => .cons (((r1.mono n2.kp).mono k3).vw s3 h2).1 (hv G3 H3 k3 s3)
theorem ak_nil : PA X [] (tAk Φ X.K []) := by
  refine ⟨fun p pins s σ H Q I h => ?_⟩
  obtain ⟨Se, Ge, He, S, c, ρ, G, sr, r, c', hev, q⟩ := h
  simp only [evk] at hev
  cases hev
  exact pa_nil.run p pins s σ H Q I (q _ _ _ (.refl sr.sub sr.sta) .nil)
theorem ak_cons {es : List Expr} {Es : List Ex} (he : PE X e (tE Φ X.K E)) (hr : PA X es (tAk Φ X.K Es)) (hs : starEach (e :: es) X.env = (false, eval e X.env) :: starEach es X.env) : PA X (e :: es) (tAk Φ X.K (E :: Es)) := by
  refine ⟨fun p pins s σ H Q I h => ?_⟩
  obtain ⟨Se, Ge, He, S, c, ρ, G, sr, r, c', hev, q⟩ := h
  simp only [evk] at hev
  replace hev := M.bind_some hev
  obtain ⟨x, c1, h1, hev⟩ := hev
  replace hev := M.bind_some hev
  obtain ⟨d, c2, h2, hev⟩ := hev
  replace hev := M.bind_some hev
  obtain ⟨ds, c3, h3, hev⟩ := hev
  obtain ⟨rfl, _⟩ := Sl.kp_ok h2
  cases hev
  refine (pa_cons he hr hs).run p pins s σ H Q I ⟨Se, Ge, He, S, c, ρ, G, sr, x, _, h1, fun v1 G1 H1 n1 r1 => ?_⟩
  obtain ⟨G1', n1', hd⟩ := r1.keep n1 h2
  refine ⟨Se, Ge, He, S, _, ρ, G1', sr.step n1', ds, _, h3, fun vs G2 H2 n2 hv => ?_⟩
  exact q _ _ _ (n1'.trans n2) (.cons (dp_mono n2.kp.kg _ hd) hv)
theorem aa_nil : PA X [] (tAa Φ X.K []) := by
  refine ⟨fun p pins s σ H Q I h => ?_⟩
  obtain ⟨Se, Ge, He, S, c, ρ, G, sr, r, c', hev, q⟩ := h
  simp only [eva] at hev
  cases hev
  exact pa_nil.run p pins s σ H Q I (q _ _ _ (.refl sr.sub sr.sta) (fun _ _ _ _ => .nil) rfl)
theorem RRs.base {K : PySem.W.Frag} {S : Option Addr} {H H2 G' H' : Hp} (d : ∀ b, H b ≠ none → H2 b ≠ none) : ∀ {vs : List V} {rs : List Sl}, RRs K S H2 G' H' vs rs → RRs K S H G' H' vs rs
  | _, _, .nil => .nil
  | _, _, .cons h t => .cons (h.base d) (RRs.base d t)
theorem aa_cons {es : List Expr} {Es : List Ex} (he : PE X e (tE Φ X.K E)) (hr : PA X es (tAa Φ X.K Es)) (hs : starEach (e :: es) X.env = (false, eval e X.env) :: starEach es X.env) : PA X (e :: es) (tAa Φ X.K (E :: Es)) := by
  refine ⟨fun p pins s σ H Q I h => ?_⟩
  obtain ⟨Se, Ge, He, S, c, ρ, G, sr, r, c', hev, q⟩ := h
  simp only [eva] at hev
  replace hev := M.bind_some hev
  obtain ⟨x, c1, h1, hev⟩ := hev
  replace hev := M.bind_some hev
  obtain ⟨y, c2, h2, hev⟩ := hev
  replace hev := M.bind_some hev
  obtain ⟨rs, c3, h3, hev⟩ := hev
  obtain ⟨e2, hok, hxy⟩ := Sl.fr_ok h2
  subst e2
  cases hev
  refine (pa_cons he hr hs).run p pins s σ H Q I ⟨Se, Ge, He, S, c, ρ, G, sr, x, _, h1, fun v1 G1 H1 n1 r1 => ?_⟩
  have fin : ∃ G1', Nxt S c2 G H G1' H1 ∧ RR X.K S H G1' H1 v1 y := by
    rcases hxy with rfl | ⟨ds, rfl, rfl⟩
    · exact ⟨G1, n1, r1⟩
    · exact r1.freeze n1
  obtain ⟨G1', n1', r1'⟩ := fin
  refine ⟨Se, Ge, He, S, _, ρ, G1', sr.step n1', rs, _, h3, fun vs G2 H2 n2 hv ha => ?_⟩
  refine q _ _ _ (n1'.trans n2) (fun G3 H3 k3 s3 => .cons ((r1'.mono n2.kp).mono k3) (RRs.base n1'.kp.dm (hv G3 H3 k3 s3))) ?_
  rw [List.all_cons, hok, Bool.true_and]
  exact ha
theorem e_tup {es : List Expr} {Es : List Ex} {k : Nat} (h : PA X es (tAk Φ X.K Es)) : PE X (.Tuple es k pos) (tE Φ X.K (.tup Es)) := by
  refine ⟨fun pins s σ H Q I hw => ?_⟩
  obtain ⟨Se, Ge, He, S, c, ρ, G, sr, r, c', hev, q⟩ := hw
  simp only [ev] at hev
  replace hev := M.bind_some hev
  obtain ⟨ds, c1, h1, hev⟩ := hev
  split at hev
  · rename_i hz
    cases hev
    refine (pe_tup h).run pins s σ H Q I ⟨Se, Ge, He, S, c, ρ, G, sr, ds, _, h1, fun vs G1 H1 n1 hd => ⟨by rw [dpAll_length hd]; exact hz, ?_⟩⟩
    exact (q.after n1).tup n1.sub n1.sta hd
  · cases hev
theorem e_lst {es : List Expr} {Es : List Ex} (h : PA X es (tAk Φ X.K Es)) : PE X (.List es pos) (tE Φ X.K (.lst Es)) := by
  refine ⟨fun pins s σ H Q I hw => ?_⟩
  obtain ⟨Se, Ge, He, S, c, ρ, G, sr, r, c', hev, q⟩ := hw
  simp only [ev] at hev
  replace hev := M.bind_some hev
  obtain ⟨ds, c1, h1, hev⟩ := hev
  split at hev
  · rename_i hz
    cases hev
    refine (pe_lst h).run pins s σ H Q I ⟨Se, Ge, He, S, c, ρ, G, sr, ds, _, h1, fun vs G1 H1 n1 hd => ⟨by rw [dpAll_length hd]; exact hz, ?_⟩⟩
    exact (q.after n1).lst n1.sub n1.sta hd
  · cases hev
end
end SB
/-! Calls, slices, comprehensions. -/
namespace SB
open PySem PySem.Spec PyProof.Rows L2

/-- a def's promise -/
def spF (K : PySem.W.Frag) (g : Fn) : Sp := fun vs H Q _ => ∃ S c G args r c', Same G H ∧ Sta S c G H ∧ RRs K S H G H vs args ∧ args.all argOk = true ∧ g args c = some (r, c') ∧ Then K S c' G H r Q
/-- the built-in names that the small language uses -/
def bltNames : List Str := ["len", "all", "any", "list", "tuple", "min", "max", "sum", "sorted", "str", "int", "bool", "isinstance", "range", "enumerate", "zip", "set"]
structure TabOk (P : Program) (w : World) (K : PySem.W.Frag) (mg : Str → Option Value) (base : Heap) (k : Nat) (Φ : Tab) : Prop where
  fn : ∀ x g, Φ.fn x = some g → ∃ f fd ps, mg x = some (.ref f) ∧ PySem.W.keepIn K (.ref f) = true ∧ Binds K fd ps [] ∧ FnOk P w K mg base CX0 k f fd ps (spF K g)
  gl : ∀ x d, Φ.gl x = some d → ∃ u v, mg x = some u ∧ RelV v u ∧ Dq K (fun _ => none) v d
  gd : ∀ x kvs, Φ.gd x = some kvs → ∃ d es n, mg x = some (.ref d) ∧ KDict K w d es n ∧ ∀ z, ∃ r, PySem.W.nsIn K d z = some r ∧ (match kvs.lookup z with | none => r = none | some i => ∃ t, r = some (.int i t))
  bl : ∀ x ∈ bltNames, mg x = none
theorem TabOk.mono {P : Program} {w : World} {K : PySem.W.Frag} {mg : Str → Option Value} {base : Heap} {j k : Nat} {Φ : Tab} (t : TabOk P w K mg base j Φ) (h : j ≤ k) : TabOk P w K mg base k Φ :=
  ⟨fun x g e => let ⟨f, fd, ps, h1, h2, h3, h4⟩ := t.fn x g e; ⟨f, fd, ps, h1, h2, h3, h4.mono h⟩, t.gl, t.gd, t.bl⟩
section
variable {X : Cx} {Φ : Tab} {a b e : Expr} {A B E : Ex} {pos p : Pos} {k : Nat}

theorem e_call {x : Str} {es : List Expr} {Es : List Ex} (T : TabOk X.prog X.w X.K X.mg X.base k Φ) (hr : Room k X.A) (hg : Gl X x) (hdb : (x == ("__debug__" : Str)) = false) (ha : PA X (e :: es) (tAa Φ X.K Es))
    (he : starEach (e :: es) X.env = (false, eval e X.env) :: starEach es X.env) (hpl : (backTo pos (starEach es X.env)).any (·.1) = false) : PE X (.Call (.Name x p) (e :: es) [] pos) (tE Φ X.K (.call x Es)) := by
  cases hf : Φ.fn x with
  | none =>
    refine ⟨fun pins s σ H Q I h => ?_⟩
    obtain ⟨Se, Ge, He, S, c, ρ, G, sr, r, c', hev, q⟩ := h
    simp only [ev] at hev
    replace hev := M.bind_some hev
    obtain ⟨rs, c1, h1, hev⟩ := hev
    replace hev := M.bind_some hev
    obtain ⟨g, c2, h2, hev⟩ := hev
    rw [hf] at h2
    cases h2
  | some g =>
    obtain ⟨f, fd, ps, h1, h2, h3, h4⟩ := T.fn x g hf
    refine ⟨fun pins s σ H Q I h => ?_⟩
    obtain ⟨Se, Ge, He, S, c, ρ, G, sr, r, c', hev, q⟩ := h
    simp only [ev] at hev
    replace hev := M.bind_some hev
    obtain ⟨rs, c1, h5, hev⟩ := hev
    rw [hf, ofO_some, pure_bind] at hev
    refine (pe_call h4 hr hg h1 h2 h3 .nil pass0 ha hdb he hpl).run pins s σ H Q I ⟨Se, Ge, He, S, c, ρ, G, sr, rs, c1, h5, fun vs G1 H1 n1 hv hok => ?_⟩
    show spF X.K g (vs ++ []) H1 Q E0
    rw [List.append_nil]
    refine ⟨S, c1, G1, rs, r, c', n1.sub, n1.sta, ?_, hok, hev, q.after n1⟩
    have q1 := hv G1 H1 .refl n1.sub
    -- no argument is owned: the base does not matter
    clear hv hev h5
    induction q1 with
    | nil => exact .nil
    | cons h t ih =>
      rw [List.all_cons, Bool.and_eq_true] at hok
      refine .cons ?_ (ih hok.2)
      rename_i y _ _
      cases y with
      | ow d => cases hok.1
      | _ => exact h

theorem e_blt {f : Bf} {es : List Expr} {Es : List Ex} (T : TabOk X.prog X.w X.K X.mg X.base k Φ) (hc : X.calm = true) (hu : X.A.units + 67 < cLine) (hg : Gl X f.nm) (ha : PA X (e :: es) (tAr Φ X.K Es))
    (he : starEach (e :: es) X.env = (false, eval e X.env) :: starEach es X.env) (hpl : (backTo pos (starEach es X.env)).any (·.1) = false) : PE X (.Call (.Name f.nm p) (e :: es) [] pos) (tE Φ X.K (.blt f Es)) := by
  have key : ∀ {r : List V → Hp → VK → Prop}, r = rC X.K (bltD f) → PE X (.Call (.Name f.nm p) (e :: es) [] pos) (tCB r (tAr Φ X.K Es)) → PE X (.Call (.Name f.nm p) (e :: es) [] pos) (tE Φ X.K (.blt f Es)) := by
    intro r er h
    subst er
    refine ⟨fun pins s σ H Q I hw => ?_⟩
    obtain ⟨Se, Ge, He, S, c, ρ, G, sr, z, c', hev, q⟩ := hw
    simp only [ev] at hev
    replace hev := M.bind_some hev
    obtain ⟨ds, c1, h1, hev⟩ := hev
    obtain ⟨h5, h6⟩ := ofO_run hev
    simp only at h5 h6
    subst h6
    refine h.run pins s σ H Q I ⟨Se, Ge, He, S, c, ρ, G, sr, ds, _, h1, fun vs G1 H1 n1 hv => ?_⟩
    exact ⟨S, G1, _, ds, z, n1.sub, n1.sta, hv G1 H1 .refl n1.sub, h5, q.after n1⟩
  have no : (∀ ds, bltD f ds = none) → PE X (.Call (.Name f.nm p) (e :: es) [] pos) (tE Φ X.K (.blt f Es)) := by
    intro hn
    refine ⟨fun pins s σ H Q I hw => ?_⟩
    obtain ⟨Se, Ge, He, S, c, ρ, G, sr, z, c', hev, q⟩ := hw
    simp only [ev] at hev
    replace hev := M.bind_some hev
    obtain ⟨ds, c1, h1, hev⟩ := hev
    rw [hn] at hev
    cases hev
  have m : ∀ x, x ∈ bltNames → X.mg x = none := T.bl
  cases f with
  | len => exact key rfl (pe_callB callD_len hg (m _ (by decide +kernel)) (by decide +kernel) ha (by decide) (by decide) he hpl)
  | all => exact key rfl (pe_callB (callD_all hc) hg (m _ (by decide +kernel)) (by decide +kernel) ha (by decide) (by decide) he hpl)
  | any => exact key rfl (pe_callB (callD_any hc) hg (m _ (by decide +kernel)) (by decide +kernel) ha (by decide) (by decide) he hpl)
  | sum => exact key rfl (pe_callB (callD_sum hc) hg (m _ (by decide +kernel)) (by decide +kernel) ha (by decide) (by decide) he hpl)
  | min => exact key rfl (pe_callB (callD_min hc) hg (m _ (by decide +kernel)) (by decide +kernel) ha (by decide) (by decide) he hpl)
  | sorted => exact key rfl (pe_callB (callD_sorted hu) hg (m _ (by decide +kernel)) (by decide +kernel) ha (by decide) (by decide) he hpl)
  | list => exact key rfl (pe_callTy callD_list hg (m _ (by decide +kernel)) (by decide +kernel) ha (by decide) (by decide) he hpl)
  | tuple => exact key rfl (pe_callTy callD_tuple hg (m _ (by decide +kernel)) (by decide +kernel) ha (by decide) (by decide) he hpl)
  | max => exact no fun ds => by cases ds <;> rfl
  | str => exact no fun ds => by cases ds <;> rfl
  | int => exact no fun ds => by cases ds <;> rfl
/-- len(state) -/
theorem e_lenS {i : Nat} (T : TabOk X.prog X.w X.K X.mg X.base k Φ) (hg : Gl X "len") (ha : PE X e (tVar i)) (hs : starEach [e] X.env = (false, eval e X.env) :: starEach [] X.env) : PE X (.Call (.Name "len" p) [e] [] pos) (tE Φ X.K (.lenS i)) := by
  have h := pe_callB (X := X) (p := p) (pos := pos) call_len_seq hg (T.bl _ (by decide +kernel)) (by decide +kernel) (pa_cons ha pa_nil hs) (by decide) (by decide) hs rfl
  refine ⟨fun pins s σ H Q I hw => ?_⟩
  obtain ⟨Se, Ge, He, S, c, ρ, G, sr, z, c', hev, q⟩ := hw
  simp only [ev] at hev
  replace hev := M.bind_some hev
  obtain ⟨sl, c1, h1, hev⟩ := hev
  replace h1 := ofO2 h1
  obtain ⟨h1, e1⟩ := h1
  subst e1
  replace hev := M.bind_some hev
  obtain ⟨u, c2, h2, hev⟩ := hev
  replace h2 := ofO2 h2
  obtain ⟨h2, e2⟩ := h2
  subst e2
  cases sl with
  | st =>
    obtain ⟨v, e3, a, e4, e5⟩ := sr.slot i _ (slAt_some h1)
    obtain ⟨hG, n, e6, hH⟩ := sr.sta.out e4
    subst e6
    cases hev
    subst e5
    refine h.run pins s σ H Q I ⟨.ref a, e3, a, _, rfl, .inl (.inl (.inl hH)), ?_⟩
    rw [List.length_replicate]
    exact q.plain sr.sub sr.sta (.int _)
  | _ => cases h2
/-! ### isinstance -/
def rIsa (K : PySem.W.Frag) (T : Ty) : List V → Hp → VK → Prop := fun vs H Q => ∃ G v d, vs = [v, .ty T.nm] ∧ Same G H ∧ Vw K G H v d ∧ Q (.bl (isaD T d)) H
theorem cr_isa (T : Ty) : CallR X (.builtin "isinstance") (rIsa X.K T) := by
  intro pins s σ H vs us Q I r h
  obtain ⟨G, v, d, rfl, sm, hv, q⟩ := h
  obtain ⟨u, u2, rfl, r1, r2⟩ := vals2 r
  cases r2
  exact callD_isa T I sm hv r1 q
theorem Ty.boot (T : Ty) : bootBuiltins (Str.ofString T.nm) = some (.type T.nm) := by cases T <;> decide +kernel
theorem Ty.mem (T : Ty) : Str.ofString T.nm ∈ bltNames := by cases T <;> decide +kernel
theorem Ty.ok (T : Ty) : Str.ofString T.nm ≠ "__name__" ∧ (Str.ofString T.nm == ("__debug__" : Str)) = false := by cases T <;> decide +kernel
theorem e_isa {T : Ty} {p1 p2 : Pos} (Tb : TabOk X.prog X.w X.K X.mg X.base k Φ) (hg : Gl X "isinstance") (hT : Gl X (Str.ofString T.nm)) (ha : PE X a (tE Φ X.K A)) (hs : starEach [a, .Name (Str.ofString T.nm) p1] X.env = (false, eval a X.env) :: starEach [.Name (Str.ofString T.nm) p1] X.env) :
    PE X (.Call (.Name "isinstance" p2) [a, .Name (Str.ofString T.nm) p1] [] pos) (tE Φ X.K (.isa A T)) := by
  have pt : PE X (.Name (Str.ofString T.nm) p1) (tC (.ty T.nm)) := pe_bltn (u := .type T.nm) hT (Tb.bl _ T.mem) T.boot rfl T.ok.1 T.ok.2
  have h := pe_callB (X := X) (p := p2) (pos := pos) (cr_isa T) hg (Tb.bl _ (by decide +kernel)) (by decide +kernel) (pa_cons ha (pa_cons pt pa_nil) hs) (by decide) (by decide) hs rfl
  refine ⟨fun pins s σ H Q I hw => ?_⟩
  obtain ⟨Se, Ge, He, S, c, ρ, G, sr, z, c', hev, q⟩ := hw
  simp only [ev] at hev
  replace hev := M.bind_some hev
  obtain ⟨x, c1, h1, hev⟩ := hev
  replace hev := M.bind_some hev
  obtain ⟨d, c2, h2, hev⟩ := hev
  have e2 := M.rd_some h2
  subst e2
  cases hev
  refine h.run pins s σ H Q I ⟨Se, Ge, He, S, c, ρ, G, sr, x, _, h1, fun v G1 H1 n1 r1 => ?_⟩
  exact ⟨G1, v, d, rfl, n1.sub, (r1.vw n1.sub h2).1, q _ _ _ n1 (.bl _)⟩
/-! ### globals -/
theorem e_gl {x : Str} (Tb : TabOk X.prog X.w X.K X.mg X.base k Φ) (hg : Gl X x) (hdb : (x == ("__debug__" : Str)) = false) : PE X (.Name x pos) (tE Φ X.K (.gl x)) := by
  cases hx : Φ.gl x with
  | none =>
    refine ⟨fun pins s σ H Q I hw => ?_⟩
    obtain ⟨Se, Ge, He, S, c, ρ, G, sr, z, c', hev, q⟩ := hw
    simp only [ev, hx] at hev
    cases hev
  | some d =>
    obtain ⟨u, v, hm, hr, hd⟩ := Tb.gl x d hx
    refine e_const (pe_glob hg hm hr hdb) (fun G => dp_mono (fun _ _ e => by cases e) _ hd) fun ρ => ?_
    simp only [ev, hx]
    rfl
theorem e_inG {x : Str} {ng : Bool} {p1 : Pos} (Tb : TabOk X.prog X.w X.K X.mg X.base k Φ) (hg : Gl X x) (hdb : (x == ("__debug__" : Str)) = false) (ha : PE X a (tE Φ X.K A)) :
    PE X (.Compare a [if ng then .NotIn else .In] [.Name x p1] pos) (tE Φ X.K (.inG ng A x)) ∧ PT X (.Compare a [if ng then .NotIn else .In] [.Name x p1] pos) (tT Φ X.K (.inG ng A x)) := by
  cases hx : Φ.gd x with
  | none =>
    constructor
    · refine ⟨fun pins s σ H Q I hw => ?_⟩
      obtain ⟨Se, Ge, He, S, c, ρ, G, sr, z, c', hev, q⟩ := hw
      simp only [ev] at hev
      replace hev := M.bind_some hev
      obtain ⟨y, c1, h1, hev⟩ := hev
      replace hev := M.bind_some hev
      obtain ⟨d, c2, h2, hev⟩ := hev
      replace hev := M.bind_some hev
      obtain ⟨w, c3, h3, hev⟩ := hev
      replace hev := M.bind_some hev
      obtain ⟨kv, c4, h4, hev⟩ := hev
      rw [hx] at h4
      cases h4
    · refine ⟨fun pins s σ H Q I hw => ?_⟩
      obtain ⟨Se, Ge, He, S, c, ρ, G, sr, z, c', hev, q⟩ := hw
      obtain ⟨z, hev, hz⟩ := tst_some hev
      simp only [ev] at hev
      replace hev := M.bind_some hev
      obtain ⟨y, c1, h1, hev⟩ := hev
      replace hev := M.bind_some hev
      obtain ⟨d, c2, h2, hev⟩ := hev
      replace hev := M.bind_some hev
      obtain ⟨w, c3, h3, hev⟩ := hev
      replace hev := M.bind_some hev
      obtain ⟨kv, c4, h4, hev⟩ := hev
      rw [hx] at h4
      cases h4
  | some kvs =>
    obtain ⟨d0, es, n, hm, D, hget⟩ := Tb.gd x kvs hx
    have pn : PE X (.Name x p1) (tC (.ref d0)) := pe_glob (u := .ref d0) hg hm rfl hdb
    have op : OpR X (compareOp (if ng then .NotIn else .In)) (fun x y H Q => ∃ (z : Str), x = .str z ∧ y = .ref d0 ∧ Q (.bl (ng != (kvs.lookup z).isSome)) H) := by
      intro pins s σ H x y v u Q I rx ry h
      obtain ⟨z, rfl, rfl, q⟩ := h
      obtain ⟨r, hr, hk⟩ := hget z
      have e1 : r.isSome = (kvs.lookup z).isSome := by
        cases hl : kvs.lookup z with
        | none => rw [hl] at hk; rw [hk]; rfl
        | some i => rw [hl] at hk; obtain ⟨t, rfl⟩ := hk; rfl
      cases ng with
      | false => exact op_in_kd D pins s σ H _ _ v u Q I rx ry ⟨z, r, rfl, rfl, hr, by rw [e1]; simpa using q⟩
      | true => exact op_notIn_kd D pins s σ H _ _ v u Q I rx ry ⟨z, r, rfl, rfl, hr, by rw [e1]; simpa using q⟩
    have bm : behindInMarks (if ng then CmpOp.NotIn else CmpOp.In) (.Name x p1) = false := by cases ng <;> rfl
    have inv : ∀ {ρ : Rho} {c c' : Option Nat} {z : Sl}, ev Φ (.inG ng A x) ρ c = some (z, c') → ∃ y w, ev Φ A ρ c = some (y, c') ∧ y.rd c' = some (.str w, c') ∧ z = .fz (.bool (ng != (kvs.lookup w).isSome)) := by
      intro ρ c c' z hev
      simp only [ev] at hev
      replace hev := M.bind_some hev
      obtain ⟨y, c1, h1, hev⟩ := hev
      replace hev := M.bind_some hev
      obtain ⟨d, c2, h2, hev⟩ := hev
      have e2 := M.rd_some h2
      subst e2
      replace hev := M.bind_some hev
      obtain ⟨w, c3, h3, hev⟩ := hev
      obtain ⟨h4, e4⟩ := ofO2 h3
      subst e4
      have e5 := strOf_some h4
      subst e5
      rw [hx, ofO_some, pure_bind] at hev
      cases hev
      exact ⟨y, w, h1, h2, rfl⟩
    constructor
    · refine ⟨fun pins s σ H Q I hw => ?_⟩
      obtain ⟨Se, Ge, He, S, c, ρ, G, sr, z, c', hev, q⟩ := hw
      obtain ⟨y, w, h1, h2, rfl⟩ := inv hev
      refine (pe_cmpR op ha pn bm).run pins s σ H Q I ⟨Se, Ge, He, S, c, ρ, G, sr, y, _, h1, fun v G1 H1 n1 r1 => ?_⟩
      exact ⟨w, (r1.vw n1.sub h2).1, rfl, q _ _ _ n1 (.bl _)⟩
    · refine ⟨fun pins s σ H Q I hw => ?_⟩
      obtain ⟨Se, Ge, He, S, c, ρ, G, sr, t, c', hev, q⟩ := hw
      obtain ⟨z, hev, hz⟩ := tst_some hev
      obtain ⟨y, w, h1, h2, rfl⟩ := inv hev
      cases hz
      refine (pt_cmpR op ha pn bm).run pins s σ H Q I ⟨Se, Ge, He, S, c, ρ, G, sr, y, _, h1, fun v G1 H1 n1 r1 => ?_⟩
      exact ⟨w, (r1.vw n1.sub h2).1, rfl, _, rfl, q _ _ n1⟩
theorem e_getG {x : Str} {p1 : Pos} (Tb : TabOk X.prog X.w X.K X.mg X.base k Φ) (hg : Gl X x) (hdb : (x == ("__debug__" : Str)) = false) (ha : PE X a (tE Φ X.K A)) (hs : PlainIx a) :
    PE X (.Subscript (.Name x p1) a pos) (tE Φ X.K (.getG x A)) := by
  refine ⟨fun pins s σ H Q I hw => ?_⟩
  obtain ⟨Se, Ge, He, S, c, ρ, G, sr, z, c', hev, q⟩ := hw
  simp only [ev] at hev
  replace hev := M.bind_some hev
  obtain ⟨y, c1, h1, hev⟩ := hev
  replace hev := M.bind_some hev
  obtain ⟨d, c2, h2, hev⟩ := hev
  have e2 := M.rd_some h2
  subst e2
  replace hev := M.bind_some hev
  obtain ⟨w, c3, h3, hev⟩ := hev
  obtain ⟨h4, e4⟩ := ofO2 h3
  subst e4
  have e5 := strOf_some h4
  subst e5
  replace hev := M.bind_some hev
  obtain ⟨kvs, c5, h5, hev⟩ := hev
  obtain ⟨hx, e6⟩ := ofO2 h5
  subst e6
  replace hev := M.bind_some hev
  obtain ⟨i, c7, h7, hev⟩ := hev
  obtain ⟨hi, e8⟩ := ofO2 h7
  subst e8
  cases hev
  obtain ⟨d0, es, n, hm, D, hget⟩ := Tb.gd x kvs hx
  obtain ⟨r, hr, hk⟩ := hget w
  rw [hi] at hk
  obtain ⟨t, rfl⟩ := hk
  have pn : PE X (.Name x p1) (tC (.ref d0)) := pe_glob (u := .ref d0) hg hm rfl hdb
  refine (pe_ix ix_kdict pn ha hs).run pins s σ H Q I ⟨Se, Ge, He, S, c, ρ, G, sr, y, _, h1, fun v G1 H1 n1 r1 => ?_⟩
  exact ⟨d0, w, .int i, rfl, (r1.vw n1.sub h2).1, ⟨es, n, .int i t, D.at_, D.lit, hr, ⟨t, rfl⟩⟩, q _ _ _ n1 (.int _)⟩
/-! ### slices -/
def tO (Φ : Tab) (K : PySem.W.Frag) (Es : List Ex) : TO := fun σ H Q => ∃ Se Ge He S c ρ G, SR K Se Ge He S c ρ σ G H ∧ ∃ o c', (do let l ← evr Φ Es ρ; optI l) c = some (o, c') ∧ ∀ G' H', Nxt S c' G H G' H' → Q o H'
theorem o_none : PO X none (tO Φ X.K []) := by
  refine ⟨fun pins s σ H Q I hw => ?_⟩
  obtain ⟨Se, Ge, He, S, c, ρ, G, sr, z, c', hev, q⟩ := hw
  simp only [evr] at hev
  cases hev
  exact po_none.run pins s σ H Q I (q _ _ (.refl sr.sub sr.sta))
theorem o_some (ha : PE X a (tE Φ X.K A)) : PO X (some a) (tO Φ X.K [A]) := by
  refine ⟨fun pins s σ H Q I hw => ?_⟩
  obtain ⟨Se, Ge, He, S, c, ρ, G, sr, z, c', hev, q⟩ := hw
  simp only [evr] at hev
  replace hev := M.bind_some hev
  obtain ⟨l, c1, h1, hev⟩ := hev
  replace h1 := M.bind_some h1
  obtain ⟨x, c2, h2, h1⟩ := h1
  replace h1 := M.bind_some h1
  obtain ⟨d, c3, h3, h1⟩ := h1
  have e3 := M.rd_some h3
  subst e3
  cases h1
  cases d with
  | int i =>
    cases hev
    refine (po_some ha).run pins s σ H Q I ⟨Se, Ge, He, S, c, ρ, G, sr, x, _, h2, fun v G1 H1 n1 r1 => ?_⟩
    exact ⟨i, (r1.vw n1.sub h3).1, q _ _ n1⟩
  | _ => cases hev
theorem e_sl {lo hi : Option Expr} {Lo Hi : List Ex} {p2 : Pos} (ha : PE X a (tE Φ X.K A)) (hl : PO X lo (tO Φ X.K Lo)) (hh : PO X hi (tO Φ X.K Hi)) : PE X (.Subscript a (.Slice lo hi none p2) pos) (tE Φ X.K (.sl A Lo Hi)) := by
  refine ⟨fun pins s σ H Q I hw => ?_⟩
  obtain ⟨Se, Ge, He, S, c, ρ, G, sr, z, c', hev, q⟩ := hw
  simp only [ev] at hev
  replace hev := M.bind_some hev
  obtain ⟨x, c1, h1, hev⟩ := hev
  replace hev := M.bind_some hev
  obtain ⟨d, c2, h2, hev⟩ := hev
  replace hev := M.bind_some hev
  obtain ⟨l, c3, h3, hev⟩ := hev
  replace hev := M.bind_some hev
  obtain ⟨lo', c4, h4, hev⟩ := hev
  replace hev := M.bind_some hev
  obtain ⟨u, c5, h5, hev⟩ := hev
  replace hev := M.bind_some hev
  obtain ⟨hi', c6, h6, hev⟩ := hev
  have e2 := M.rd_some h2
  subst e2
  obtain ⟨h7, h8⟩ := ofO_run hev
  simp only at h7 h8
  subst h8
  have k1 : (do let l ← evr Φ Lo ρ; optI l) c2 = some (lo', c4) := by rw [M.bind_run, h3]; exact h4
  have k2 : (do let l ← evr Φ Hi ρ; optI l) c4 = some (hi', c') := by rw [M.bind_run, h5]; exact h6
  refine (pe_slice slD_ok ha hl hh).run pins s σ H Q I ⟨Se, Ge, He, S, c, ρ, G, sr, x, _, h1, fun v G1 H1 n1 r1 => ⟨Se, Ge, He, S, _, ρ, G1, sr.step n1, lo', _, k1, fun G2 H2 n2 => ⟨Se, Ge, He, S, _, ρ, G2, (sr.step n1).step n2, hi', _, k2, fun G3 H3 n3 => ?_⟩⟩⟩
  exact ⟨S, G3, _, d, z, n3.sub, n3.sta, (((r1.mono n2.kp).mono n3.kp).vw n3.sub h2).1, h7, q.after (n1.trans (n2.trans n3))⟩
/-! ### list(range(..)), tuple(range(..)) -/

/-! ### {..}.get(a, b) -/
theorem lastOf_mergeK (x : Str) : ∀ (ks : List (Str × Int)) (acc : List (Key × V)) (o : Option Int), valV acc (.inr x) = o.map V.int →
    valV (mergeK acc (ks.map fun p => ((Sum.inr p.1 : Key), V.int p.2))) (.inr x) = (ks.foldl (fun o p => if x = p.1 then some p.2 else o) o).map V.int
  | [], acc, o, h => h
  | p :: ks, acc, o, h => by
    show valV (mergeK (putK acc (.inr p.1) (.int p.2)) (ks.map fun p => ((Sum.inr p.1 : Key), V.int p.2))) (.inr x) = _
    rw [List.foldl_cons]
    refine lastOf_mergeK x ks _ _ ?_
    rw [valV_put]
    by_cases hx : x = p.1
    · subst hx
      simp
    · have : ¬ ((Sum.inr x : Key) = .inr p.1) := fun e => hx (Sum.inr.inj e)
      rw [if_neg this, if_neg hx]
      exact h
end
end SB
/-! Ranges as lists, displays asked at once, targets, comprehensions. -/
namespace SB
open PySem PySem.Spec PyProof.Rows L2
section
variable {X : Cx} {Φ : Tab} {a b e : Expr} {A B E : Ex} {pos p : Pos} {k : Nat}
theorem dq_rng {K : PySem.W.Frag} {G : Hp} : ∀ (l : List Nat) (f : Nat → Int), DqAll K G (l.map fun i => V.int (f i)) (l.map fun i => .int (f i))
  | [], _ => .nil
  | i :: l, f => .cons (.int _) (dq_rng l f)
theorem rgV_dq {K : PySem.W.Frag} {G : Hp} (i j : Int) : DqAll K G (rgV i j) ((List.range (j - i).toNat).map fun k => .int (i + ((k : Nat) : Int))) := dq_rng _ _
theorem rng_body {Es : List Ex} {l : Bool} {ρ : Rho} {c c' : Option Nat} {z : Sl} (hev : ev Φ (.rng l Es) ρ c = some (z, c')) : ∃ ds xs, evr Φ Es ρ c = some (ds, c') ∧ iterD .range ds = some xs ∧ z = (if l then .ow (.list xs) else .fz (.tuple xs)) := by
  simp only [ev] at hev
  replace hev := M.bind_some hev
  obtain ⟨ds, c1, h1, hev⟩ := hev
  replace hev := M.bind_some hev
  obtain ⟨xs, c2, h2, hev⟩ := hev
  obtain ⟨h5, h6⟩ := ofO_run h2
  simp only at h5 h6
  subst h6
  cases l with
  | true => cases hev; exact ⟨ds, xs, h1, h5, rfl⟩
  | false => cases hev; exact ⟨ds, xs, h1, h5, rfl⟩
theorem e_rng1 {l : Bool} {p1 p2 : Pos} (T : TabOk X.prog X.w X.K X.mg X.base k Φ) (hc : X.calm = true) (hl : Gl X (if l then "list" else "tuple")) (hr : Gl X "range") (ha : PE X a (tE Φ X.K A)) (hs : starEach [a] X.env = (false, eval a X.env) :: starEach [] X.env) :
    PE X (.Call (.Name (if l then "list" else "tuple") p1) [.Call (.Name "range" p2) [a] [] p] [] pos) (tE Φ X.K (.rng l [A])) := by
  have rg : PRg X (.Call (.Name "range" p2) [a] [] p) (tRg1 (tE Φ X.K A)) := prg_1 hr (T.bl _ (by decide +kernel)) ha hs
  refine ⟨fun pins s σ H Q I hw => ?_⟩
  obtain ⟨Se, Ge, He, S, c, ρ, G, sr, z, c', hev, q⟩ := hw
  obtain ⟨ds, xs, h1, h2, hz⟩ := rng_body hev
  simp only [evr] at h1
  replace h1 := M.bind_some h1
  obtain ⟨x, c2, h3, h1⟩ := h1
  replace h1 := M.bind_some h1
  obtain ⟨d, c3, h4, h1⟩ := h1
  have e3 := M.rd_some h4
  subst e3
  cases h1
  cases d <;> simp only [iterD, reduceCtorEq] at h2
  rename_i j
  split at h2
  · rename_i hj
    cases h2
    have ok : RgOk 0 j := by
      have := hj.1
      rw [sizeLine_eq] at this
      exact ⟨by omega, by omega, by omega, by omega, by omega⟩
    have dq : ∀ G, DqAll X.K G (rgV 0 j) ((List.range j.toNat).map fun i => .int ((i : Nat) : Int)) := fun G => by
      have := rgV_dq (K := X.K) (G := G) 0 j
      simpa using this
    cases l with
    | true =>
      subst hz
      refine (pe_listRg hc hl (T.bl _ (by decide +kernel)) rg).run pins s σ H Q I ⟨Se, Ge, He, S, c, ρ, G, sr, x, _, h3, fun v G1 H1 n1 r1 => ?_⟩
      exact ⟨j, (r1.vw n1.sub h4).1, ok, (q.after n1).lst n1.sub n1.sta (dq _)⟩
    | false =>
      subst hz
      refine (pe_tupRg hc hl (T.bl _ (by decide +kernel)) rg).run pins s σ H Q I ⟨Se, Ge, He, S, c, ρ, G, sr, x, _, h3, fun v G1 H1 n1 r1 => ?_⟩
      exact ⟨j, (r1.vw n1.sub h4).1, ok, (q.after n1).tup n1.sub n1.sta (dq _)⟩
  · cases h2
theorem e_rng2 {l : Bool} {p1 p2 : Pos} (T : TabOk X.prog X.w X.K X.mg X.base k Φ) (hc : X.calm = true) (hl : Gl X (if l then "list" else "tuple")) (hr : Gl X "range") (ha : PE X a (tE Φ X.K A)) (hb : PE X b (tE Φ X.K B)) (hs : starEach [a, b] X.env = (false, eval a X.env) :: starEach [b] X.env)
    (hs2 : starEach [b] X.env = (false, eval b X.env) :: starEach [] X.env) (hp : (backTo p (starEach [b] X.env)).any (·.1) = false) :
    PE X (.Call (.Name (if l then "list" else "tuple") p1) [.Call (.Name "range" p2) [a, b] [] p] [] pos) (tE Φ X.K (.rng l [A, B])) := by
  have rg : PRg X (.Call (.Name "range" p2) [a, b] [] p) (tRg2 (tE Φ X.K A) (tE Φ X.K B)) := prg_2 hr (T.bl _ (by decide +kernel)) ha hb hs hs2 hp
  refine ⟨fun pins s σ H Q I hw => ?_⟩
  obtain ⟨Se, Ge, He, S, c, ρ, G, sr, z, c', hev, q⟩ := hw
  obtain ⟨ds, xs, h1, h2, hz⟩ := rng_body hev
  simp only [evr] at h1
  replace h1 := M.bind_some h1
  obtain ⟨x, c2, h3, h1⟩ := h1
  replace h1 := M.bind_some h1
  obtain ⟨d, c3, h4, h1⟩ := h1
  have e3 := M.rd_some h4
  subst e3
  replace h1 := M.bind_some h1
  obtain ⟨l2, c5, h5, h1⟩ := h1
  replace h5 := M.bind_some h5
  obtain ⟨y, c6, h6, h5⟩ := h5
  replace h5 := M.bind_some h5
  obtain ⟨d2, c7, h7, h5⟩ := h5
  have e7 := M.rd_some h7
  subst e7
  cases h5
  cases h1
  cases d <;> cases d2 <;> simp only [iterD, reduceCtorEq] at h2
  rename_i i j
  split at h2
  · rename_i hj
    cases h2
    have ok : RgOk i j := by
      have := hj.2.2.2.2
      rw [sizeLine_eq] at this
      exact ⟨by omega, by omega, by omega, by omega, by omega⟩
    cases l with
    | true =>
      subst hz
      refine (pe_listRg hc hl (T.bl _ (by decide +kernel)) rg).run pins s σ H Q I ⟨Se, Ge, He, S, c, ρ, G, sr, x, _, h3, fun v G1 H1 n1 r1 => ⟨Se, Ge, He, S, _, ρ, G1, sr.step n1, y, _, h6, fun v2 G2 H2 n2 r2 => ?_⟩⟩
      exact ⟨i, j, ((r1.mono n2.kp).vw n2.sub h4).1, (r2.vw n2.sub h7).1, ok, (q.after (n1.trans n2)).lst n2.sub n2.sta (rgV_dq _ _)⟩
    | false =>
      subst hz
      refine (pe_tupRg hc hl (T.bl _ (by decide +kernel)) rg).run pins s σ H Q I ⟨Se, Ge, He, S, c, ρ, G, sr, x, _, h3, fun v G1 H1 n1 r1 => ⟨Se, Ge, He, S, _, ρ, G1, sr.step n1, y, _, h6, fun v2 G2 H2 n2 r2 => ?_⟩⟩
      exact ⟨i, j, ((r1.mono n2.kp).vw n2.sub h4).1, (r2.vw n2.sub h7).1, ok, (q.after (n1.trans n2)).tup n2.sub n2.sta (rgV_dq _ _)⟩
  · cases h2
/-! ### {..}.get(a, b) -/
/-- written keys and values -/
inductive DispE : List (Option Expr) → List Expr → List (Str × Int) → Prop
  | nil : DispE [] [] []
  | cons {x : Str} {i : Int} {j1 j2 : Nat} {p1 p2 : Pos} {ks : List (Option Expr)} {vs : List Expr} {l : List (Str × Int)} : DispE ks vs l → DispE (some (.Constant (.str x) j1 p1) :: ks) (.Constant (.int i) j2 p2 :: vs) ((x, i) :: l)
def dispT (l : List (Str × Int)) : List (TE × TE) := l.map fun q => (tC (.str q.1), tC (.int q.2))
theorem DispE.pps {ks : List (Option Expr)} {vs : List Expr} {l : List (Str × Int)} (h : DispE ks vs l) : PPs X pos ks vs (dispT l) := by
  induction h with
  | nil => exact pps_nil
  | cons _ ih => exact pps_cons pe_str pe_int ih
theorem DispE.len {ks : List (Option Expr)} {vs : List Expr} {l : List (Str × Int)} (h : DispE ks vs l) : ks.length = l.length ∧ vs.length = l.length ∧ ks.all (·.isSome) = true := by
  induction h with
  | nil => exact ⟨rfl, rfl, rfl⟩
  | cons _ ih => exact ⟨congrArg (· + 1) ih.1, congrArg (· + 1) ih.2.1, by simpa using ih.2.2⟩
theorem disp_pairs {σ : L2.St} {H : Hp} {Q : List (V × V) → Hp → Prop} : ∀ (l : List (Str × Int)), Q (l.map fun q => (V.str q.1, V.int q.2)) H → tPairs (dispT l) σ H Q
  | [], q => q
  | p :: l, q => disp_pairs (Q := fun ps H3 => Q ((V.str p.1, V.int p.2) :: ps) H3) l q
theorem e_dget {ks : List (Option Expr)} {vs : List Expr} {l : List (Str × Int)} {p1 apos : Pos} (hu : X.A.units + 1 < cLine) (hd : DispE ks vs l) (h0 : l ≠ []) (h15 : l.length ≤ 15) (ha : PE X a (tE Φ X.K A)) (hb : PE X b (tE Φ X.K B)) (m : M2 X (.Dict ks vs p1) "get" apos a b pos) :
    PE X (.Call (.Attribute (.Dict ks vs p1) "get" apos) [a, b] [] pos) (tE Φ X.K (.dget l A B)) := by
  obtain ⟨l1, l2, l3⟩ := hd.len
  have pd : PE X (.Dict ks vs p1) (tDisp (dispT l)) := pe_disp hd.pps l3 (l1.trans l2.symm) (fun e => h0 (List.eq_nil_of_length_eq_zero (by rw [← l1, e]; rfl))) (by rw [l1]; exact h15)
  refine ⟨fun pins s σ H Q I hw => ?_⟩
  obtain ⟨Se, Ge, He, S, c, ρ, G, sr, z, c', hev, q⟩ := hw
  simp only [ev] at hev
  replace hev := M.bind_some hev
  obtain ⟨x, c1, h1, hev⟩ := hev
  replace hev := M.bind_some hev
  obtain ⟨d, c2, h2, hev⟩ := hev
  replace hev := M.bind_some hev
  obtain ⟨y, c3, h3, hev⟩ := hev
  replace hev := M.bind_some hev
  obtain ⟨d2, c4, h4, hev⟩ := hev
  have e2 := M.rd_some h2
  subst e2
  have e4 := M.rd_some h4
  subst e4
  replace hev := M.bind_some hev
  obtain ⟨w, c5, h5, hev⟩ := hev
  obtain ⟨h6, e6⟩ := ofO2 h5
  subst e6
  have e7 := strOf_some h6
  subst e7
  replace hev := M.bind_some hev
  obtain ⟨j, c8, h8, hev⟩ := hev
  obtain ⟨h9, e9⟩ := ofO2 h8
  subst e9
  have e10 := intOf_some h9
  subst e10
  cases hev
  refine (pe_dget2 hu pd ha hb m).run pins s σ H Q I ?_
  intro p0 hp0
  refine disp_pairs l ⟨upd_same, l.map fun q => ((Sum.inr q.1 : Key), V.int q.2), ?_, by rw [List.length_map]; exact h15, ?_⟩
  · rw [List.map_map]; rfl
  · rw [upd_upd]
    have n0 : Nxt S c G H G (upd H p0 (.dK (mergeK [] (l.map fun q => ((Sum.inr q.1 : Key), V.int q.2))))) := .newO sr.sub sr.sta hp0
    refine ⟨p0, rfl, .inl ⟨_, .inl upd_same⟩, Se, Ge, He, S, c, ρ, G, sr.step n0, x, _, h1, fun v1 G1 H1 n1 r1 => ⟨Se, Ge, He, S, _, ρ, G1, (sr.step n0).step n1, y, _, h3, fun v2 G2 H2 n2 r2 => ?_⟩⟩
    have hS0 : S ≠ some p0 := sne sr.sta hp0
    have at2 := n2.kp.kh _ _ hS0 (n1.kp.kh _ _ hS0 (upd_same (H := H) (a := p0) (o := .dK (mergeK [] (l.map fun q => ((Sum.inr q.1 : Key), V.int q.2))))))
    have ev1 : v1 = .str w := ((r1.mono n2.kp).vw n2.sub h2).1
    have ev2 : v2 = .int j := (r2.vw n2.sub h4).1
    subst ev1 ev2
    refine ⟨_, .inl ⟨_, .inr w, .inl at2, rfl, rfl⟩, ?_⟩
    rw [lastOf_mergeK w l [] none rfl]
    have en : ∀ o : Option Int, (o.map V.int).getD (V.int j) = V.int (o.getD j) := fun o => by cases o <;> rfl
    rw [en]
    exact q _ _ _ (n0.trans (n1.trans n2)) (.int _)

/-! ### targets -/
def setAllV : List Nat → List V → L2.St → L2.St
  | i :: is, v :: vs, σ => setAllV is vs (σ.set i (some v))
  | _, _, σ => σ
/-- names, and their places -/
inductive NamesE (X : Cx) : List Expr → List Nat → Prop
  | nil : NamesE X [] []
  | cons {x : Str} {p : Pos} {i : Nat} {es : List Expr} {is : List Nat} : X.N[i]? = some x → Loc X.env.scope x → (X.fn x = true ∨ X.env.scope.names.lookup x = some .local) → NamesE X es is → NamesE X (.Name x p :: es) (i :: is)
def gAll (is : List Nat) : TGs := fun vs σ H Q => vs.length = is.length ∧ Q (setAllV is vs σ) H
theorem NamesE.pgs (hN : X.N.Nodup) {es : List Expr} {is : List Nat} (h : NamesE X es is) : PGs X es (gAll is) := by
  induction h with
  | nil =>
    refine ⟨fun pins s σ H vs us Q I r h => ?_⟩
    obtain ⟨hl, h⟩ := h
    have e : vs = [] := List.eq_nil_of_length_eq_zero hl
    subst e
    exact pgs_nil.run pins s σ H [] us Q I r ⟨rfl, h⟩
  | cons h1 h2 h3 _ ih =>
    refine ⟨fun pins s σ H vs us Q I r h => ?_⟩
    obtain ⟨hl, h⟩ := h
    cases vs with
    | nil => cases hl
    | cons v vr => exact (pgs_cons (pg_name hN h1 h2 h3) ih).run pins s σ H _ us Q I r ⟨v, vr, rfl, Nat.succ.inj hl, h⟩
theorem NamesE.each {es : List Expr} {is : List Nat} (h : NamesE X es is) : (assignEach es X.env).length = is.length ∧ (assignEach es X.env).findIdx? (·.1) = none ∧ (assignEach es X.env).any (·.1) = false := by
  induction h with
  | nil => exact ⟨rfl, rfl, rfl⟩
  | cons h1 h2 h3 _ ih =>
    refine ⟨congrArg (· + 1) ih.1, ?_, ih.2.2⟩
    show List.findIdx? (·.1) ((false, _) :: assignEach _ X.env) = none
    rw [List.findIdx?_cons]
    simp [ih.2.1]
/-- one target of the small language -/
inductive TgE (X : Cx) : Expr → List Nat → Bool → Prop
  | one {x : Str} {p : Pos} {i : Nat} : X.N[i]? = some x → Loc X.env.scope x → (X.fn x = true ∨ X.env.scope.names.lookup x = some .local) → TgE X (.Name x p) [i] true
  | tup {es : List Expr} {is : List Nat} {k : Nat} {p : Pos} : NamesE X es is → TgE X (.Tuple es k p) is false
def gTg (K : PySem.W.Frag) (is : List Nat) : Bool → TG
  | true => fun v σ H Q => ∃ i, is = [i] ∧ Q (σ.set i (some v)) H
  | false => gTup K is.length (gAll is)
theorem TgE.pg (hc : X.calm = true) (hN : X.N.Nodup) {t : Expr} {is : List Nat} {one : Bool} (h : TgE X t is one) : PG X t (gTg X.K is one) := by
  cases h with
  | one h1 h2 h3 =>
    refine ⟨fun pins s σ H v u Q I r h => ?_⟩
    obtain ⟨i, e, h⟩ := h
    cases e
    exact (pg_name hN h1 h2 h3).run pins s σ H v u Q I r h
  | tup h => exact pg_tup hc (h.pgs hN) h.each.1 h.each.2.1
theorem SR.setAll {K : PySem.W.Frag} {Se S : Option Addr} {c : Option Nat} {Ge He G H : Hp} : ∀ {is : List Nat} {vs : List V} {ds : List D} {ρ : Rho} {σ : L2.St}, SR K Se Ge He S c ρ σ G H → DqAll K G vs ds → vs.length = is.length → SR K Se Ge He S c (setAll is ds ρ) (setAllV is vs σ) G H
  | [], vs, ds, ρ, σ, sr, h, hl => by
    have e : vs = [] := List.eq_nil_of_length_eq_zero hl
    subst e
    cases h
    exact sr
  | i :: is, vs, ds, ρ, σ, sr, h, hl => by
    cases vs with
    | nil => cases hl
    | cons v vr =>
      cases h with
      | cons h1 h2 =>
        exact SR.setAll (is := is) (sr.putF h1) h2 (Nat.succ.inj hl)
/-- a target is stored -/
theorem SR.target {K : PySem.W.Frag} {Se S : Option Addr} {c : Option Nat} {Ge He G H : Hp} {ρ ρ1 : Rho} {σ : L2.St} {is : List Nat} {one : Bool} {d : D} {v : V} {Q : L2.St → Hp → Prop} (sr : SR K Se Ge He S c ρ σ G H) (hd : Dq K G v d) (hb : bindT one is d ρ = some ρ1)
    (q : ∀ σ1, SR K Se Ge He S c ρ1 σ1 G H → (∃ vs, σ1 = setAllV is vs σ) → Q σ1 H) : gTg K is one v σ H Q := by
  unfold bindT at hb
  cases one with
  | true =>
    rw [if_pos rfl] at hb
    match is, hb, q with
    | [i], hb, q =>
      cases hb
      exact ⟨i, rfl, q _ (sr.putF hd) ⟨[v], rfl⟩⟩
    | [], hb, _ => cases hb
    | _ :: _ :: _, hb, _ => cases hb
  | false =>
    rw [if_neg Bool.false_ne_true] at hb
    cases d with
    | tuple ds =>
      simp only at hb
      split at hb
      · rename_i hl
        cases hb
        cases hd with
        | tup hs ha =>
          rename_i a xs
          have hlx : xs.length = is.length := (dpAll_length ha).trans hl
          exact ⟨a, xs, rfl, same_sqT sr.sub hs, hlx, hlx, q _ (sr.setAll ha hlx) ⟨xs, rfl⟩⟩
      · cases hb
    | _ => cases hb
/-! ### comprehensions -/
theorem wipe_set {σ : L2.St} {i : Nat} {o : Option V} : ∀ {vs : List Nat}, i ∈ vs → wipe (σ.set i o) vs = wipe σ vs
  | [], h => by cases h
  | v :: vs, h => by
    show (wipe (σ.set i o) vs).set v none = (wipe σ vs).set v none
    by_cases hi : i ∈ vs
    · rw [wipe_set hi]
    · rcases List.mem_cons.mp h with rfl | h
      · have key : ∀ (ws : List Nat) (τ : L2.St), i ∉ ws → wipe (τ.set i o) ws = (wipe τ ws).set i o := by
          intro ws
          induction ws with
          | nil => intro τ _; rfl
          | cons w ws ih =>
            intro τ hn
            rw [List.mem_cons, not_or] at hn
            show (wipe (τ.set i o) ws).set w none = ((wipe τ ws).set w none).set i o
            rw [ih τ hn.2, List.set_comm _ _ hn.1]
        rw [key vs σ hi, List.set_set]
      · exact absurd h hi
theorem wipe_setAll : ∀ {is : List Nat} {vs : List V} {σ : L2.St} {ow : List Nat}, (∀ i ∈ is, i ∈ ow) → wipe (setAllV is vs σ) ow = wipe σ ow
  | [], _, _, _, _ => rfl
  | _ :: _, [], _, _, _ => rfl
  | i :: is, v :: vs, σ, ow, h => by
    show wipe (setAllV is vs (σ.set i (some v))) ow = _
    rw [wipe_setAll fun j hj => h j (List.mem_cons_of_mem _ hj), wipe_set (h i List.mem_cons_self)]
theorem wipe_wipe (σ : L2.St) (ow : List Nat) : wipe (wipe σ ow) ow = wipe σ ow := by
  have key : ∀ (ws : List Nat), (∀ i ∈ ws, i ∈ ow) → wipe (wipe σ ws) ow = wipe σ ow := by
    intro ws
    induction ws with
    | nil => intro _; rfl
    | cons w ws ih =>
      intro h
      show wipe ((wipe σ ws).set w none) ow = _
      rw [wipe_set (h w List.mem_cons_self), ih fun i hi => h i (List.mem_cons_of_mem _ hi)]
  exact key ow fun _ h => h
theorem SR.wipe {K : PySem.W.Frag} {Se S : Option Addr} {c : Option Nat} {Ge He G H : Hp} {ρ : Rho} {σ : L2.St} (sr : SR K Se Ge He S c ρ σ G H) : ∀ ow : List Nat, SR K Se Ge He S c (wipeR ρ ow) (L2.wipe σ ow) G H
  | [] => sr
  | i :: ow => by
    have ih := sr.wipe ow
    refine ⟨ih.sub, ih.sta, ih.kp, ih.ss, by show ((L2.wipe σ ow).set i none).length = ((wipeR ρ ow).set i none).length; rw [List.length_set, List.length_set]; exact ih.len, fun j x e => ?_, fun j l d d' a h1 h2 h3 h4 => ?_⟩
    · obtain ⟨hj, e⟩ := set_none_cases e
      obtain ⟨v, e1, h⟩ := ih.slot j x e
      exact ⟨v, by show ((L2.wipe σ ow).set i none)[j]? = _; rw [List.getElem?_set_ne (Ne.symm hj)]; exact e1, h⟩
    · have h1' := set_none_cases h1
      have h2' := set_none_cases h2
      have e3 : (L2.wipe σ ow)[j]? = some (some (.ref a)) := by
        have : ((L2.wipe σ ow).set i none)[j]? = _ := h3
        rw [List.getElem?_set_ne (Ne.symm h1'.1)] at this
        exact this
      have e4 : (L2.wipe σ ow)[l]? = some (some (.ref a)) := by
        have : ((L2.wipe σ ow).set i none)[l]? = _ := h4
        rw [List.getElem?_set_ne (Ne.symm h2'.1)] at this
        exact this
      exact ih.inj j l d d' a h1'.2 h2'.2 e3 e4
def tTs (Φ : Tab) (K : PySem.W.Frag) (Es : List Ex) : TT := fun σ H Q => ∃ Se Ge He S c ρ G, SR K Se Ge He S c ρ σ G H ∧ ∃ b c', evc Φ Es ρ c = some (b, c') ∧ ∀ G' H', Nxt S c' G H G' H' → Q b H'
theorem ts_nil : PTs X [] (tTs Φ X.K []) := by
  refine ⟨fun pins s σ H Q I hw => ?_⟩
  obtain ⟨Se, Ge, He, S, c, ρ, G, sr, z, c', hev, q⟩ := hw
  simp only [evc] at hev
  cases hev
  exact pts_nil.run pins s σ H Q I (q _ _ (.refl sr.sub sr.sta))
theorem ts_one (ha : PT X a (tT Φ X.K A)) : PTs X [a] (tTs Φ X.K [A]) := by
  refine ⟨fun pins s σ H Q I hw => ?_⟩
  obtain ⟨Se, Ge, He, S, c, ρ, G, sr, z, c', hev, q⟩ := hw
  simp only [evc] at hev
  exact (pts_one ha).run pins s σ H Q I ⟨Se, Ge, He, S, c, ρ, G, sr, z, c', hev, q⟩
/-- a comprehension's turn -/
def turnM (Φ : Tab) (elt : Ex) (own tg : List Nat) (one : Bool) (cond : List Ex) (ρ : Rho) (d : D) : M (Option D) :=
  do
    let ρ1 ← ofO (bindT one tg d (wipeR ρ own))
    let t ← evc Φ cond ρ1
    if t then do let y ← ev Φ elt ρ1; let e ← y.kp; pure (some e) else pure none
theorem comp_ev {elt : Ex} {own tg : List Nat} {one : Bool} {ik : IK} {args cond : List Ex} {ρ : Rho} {c c' : Option Nat} {z : Sl} (h : ev Φ (.comp elt own tg one ik args cond) ρ c = some (z, c')) :
    ∃ ds c1 xs ys, evr Φ args ρ c = some (ds, c1) ∧ iterD ik ds = some xs ∧ turns (turnM Φ elt own tg one cond ρ) xs c1 = some (ys, c') ∧ z = .ow (.list ys) := by
  simp only [ev] at h
  replace h := M.bind_some h
  obtain ⟨ds, c1, h1, h⟩ := h
  replace h := M.bind_some h
  obtain ⟨xs, c2, h2, h⟩ := h
  obtain ⟨h3, h4⟩ := ofO_run h2
  simp only at h3 h4
  subst h4
  replace h := M.bind_some h
  obtain ⟨ys, c3, h5, h⟩ := h
  cases h
  exact ⟨ds, _, xs, ys, h1, h3, h5, rfl⟩
theorem turns_cons {f : D → M (Option D)} {d : D} {ds ys : List D} {c c' : Option Nat} (h : turns f (d :: ds) c = some (ys, c')) : ∃ o c1 r, f d c = some (o, c1) ∧ turns f ds c1 = some (r, c') ∧ ys = (match o with | some y => y :: r | none => r) := by
  simp only [turns] at h
  replace h := M.bind_some h
  obtain ⟨o, c1, h1, h⟩ := h
  replace h := M.bind_some h
  obtain ⟨r, c2, h2, h⟩ := h
  cases h
  exact ⟨o, c1, r, h1, h2, rfl⟩
/-- the state of a comprehension after i turns: its list at D -/
structure CS (K : PySem.W.Frag) (Φ : Tab) (S : Option Addr) (c' : Option Nat) (f : D → M (Option D)) (xs ys : List D) (G1 H1 : Hp) (D : Addr) (i : Nat) (H : Hp) : Prop where
  ex : ∃ G c acc ds rest, Same G H ∧ Sta S c G H ∧ Kp S G1 H1 G H ∧ H D = some (.lst acc) ∧ G D = none ∧ DqAll K G acc ds ∧ acc.length ≤ i ∧ i ≤ xs.length ∧ turns f (xs.drop i) c = some (rest, c') ∧ ys = ds ++ rest
theorem e_comp {elt : Ex} {own tg : List Nat} {one : Bool} {ik : IK} {args cond : List Ex} {ex tx ix : Expr} {ifs : List Expr} {scope : Scope} {ow : List (Str × Nat)} (hc : X.calm = true) (hN : X.N.Nodup) (how : ow.map (·.2) = own) (htg : ∀ i ∈ tg, i ∈ own)
    (hi : PI X tx ix (iD X.K ik (tAr Φ X.K args))) (ok : BlkOk X.N X.env.scope scope ow)
    (hg : ∀ (s : Shared) (H : Hp) (C : Addr) (cl : List (Str × Addr)) (fp : List Addr), PG (X.blk s H scope (compEnvC scope cl C X.env) fp) tx (gTg X.K tg one))
    (ht : ∀ (s : Shared) (H : Hp) (C : Addr) (cl : List (Str × Addr)) (fp : List Addr), PTs (X.blk s H scope (compEnvC scope cl C X.env) fp) ifs (tTs Φ X.K cond))
    (he : ∀ (s : Shared) (H : Hp) (C : Addr) (cl : List (Str × Addr)) (fp : List Addr), PE (X.blk s H scope (compEnvC scope cl C X.env) fp) ex (tE Φ X.K elt)) (hs : ∀ x, foldedSetIterable ix X.env x = pure x)
    {σ : L2.St} {H : Hp} {Q : VK} (hw : tE Φ X.K (.comp elt own tg one ik args cond) σ H Q) : tLc (iD X.K ik (tAr Φ X.K args)) (gTg X.K tg one) (tTs Φ X.K cond) (tE Φ X.K elt) (ow.map (·.2)) σ H Q := by
  obtain ⟨Se, Ge, He, S, c, ρ, G, sr, z, c', hev, q⟩ := hw
  obtain ⟨ds, c1, xs, ys, h1, h2, h3, rfl⟩ := comp_ev hev
  rw [how]
  refine ⟨Se, Ge, He, S, c, ρ, G, sr, ds, c1, h1, fun vs G1 H1 n1 hv => ⟨G1, ds, xs, n1.sub, hv G1 H1 .refl n1.sub, h2, fun J jd hsz D hD => ?_⟩⟩
  have hSD : S ≠ some D := sne n1.sta hD
  have sr1 := sr.step n1
  refine ⟨fun i m H => m = xs.length - i ∧ CS X.K Φ S c' (turnM Φ elt own tg one cond ρ) xs ys G1 H1 D i H, ⟨xs.length, rfl, ?_⟩, ?_⟩
  · have n0 : Nxt S c1 G1 H1 G1 (upd H1 D (.lst [])) := .newO n1.sub n1.sta hD
    exact ⟨G1, c1, [], [], ys, n0.sub, n0.sta, n0.kp, upd_same, gne n1.sub hD, .nil, Nat.zero_le _, Nat.zero_le _, h3, rfl⟩
  · rintro i m H2 ⟨rfl, ⟨G2, c2, acc, as, rest, sm2, st2, kp2, hacc, hGD, hdq, hai, hix, htr, hys⟩⟩
    have hvw : VwA X.K G2 H2 vs ds := hv G2 H2 kp2 sm2
    by_cases hlx : i < xs.length
    · refine .inr ⟨jd.go i G2 H2 sm2 hvw hlx, fun H' => CS X.K Φ S c' (turnM Φ elt own tg one cond ρ) xs ys G1 H1 D (i + 1) H', fun H' h' => ⟨xs.length - (i + 1), by omega, rfl, h'⟩, fun x H3 y => ?_⟩
      obtain ⟨d, G3, hd, hn3, hdx⟩ := jd.yld i G2 H2 x H3 sm2 hvw y hlx
      have n3 := hn3 S c2 st2
      have hdrop : xs.drop i = d :: xs.drop (i + 1) := by
        obtain ⟨hl, e⟩ := List.getElem?_eq_some_iff.mp hd
        rw [List.drop_eq_getElem_cons hl, e]
      rw [hdrop] at htr
      obtain ⟨o, c4, r, hf, htr2, hrest⟩ := turns_cons htr
      unfold turnM at hf
      replace hf := M.bind_some hf
      obtain ⟨ρ1, c3, hb, hf⟩ := hf
      replace hb := ofO2 hb
      obtain ⟨hb, e3⟩ := hb
      subst e3
      · replace hf := M.bind_some hf
        obtain ⟨t, c5, h5, hf⟩ := hf
        have sr3 : SR X.K Se Ge He S c3 (wipeR ρ own) (L2.wipe σ own) G3 H3 := by
          have s2 : SR X.K Se Ge He S c3 ρ σ G2 H2 := sr1.step ⟨sm2, st2, kp2⟩
          exact (s2.step n3).wipe own
        refine sr3.target hdx hb fun σ1 sr4 hσ1 => ?_
        obtain ⟨ws, rfl⟩ := hσ1
        refine ⟨by rw [wipe_setAll htg, wipe_wipe], Se, Ge, He, S, _, ρ1, G3, sr4, t, c5, h5, fun G4 H4 n4 => ?_⟩
        cases t with
        | false =>
          rw [if_neg Bool.false_ne_true] at hf ⊢
          cases hf
          have n24 := n3.trans n4
          refine ⟨G4, _, acc, as, r, n4.sub, n4.sta, kp2.trans n24.kp, n24.kp.kh _ _ hSD hacc, (n24.kp.kn D (by rw [hacc]; exact fun z => nomatch z)).trans hGD, dpAll_mono n24.kp.kg _ hdq, by omega, by omega, htr2, by rw [hys, hrest]⟩
        | true =>
          rw [if_pos rfl] at hf ⊢
          replace hf := M.bind_some hf
          obtain ⟨y1, c6, h6, hf⟩ := hf
          replace hf := M.bind_some hf
          obtain ⟨e1, c7, h7, hf⟩ := hf
          obtain ⟨e7, _⟩ := Sl.kp_ok h7
          subst e7
          cases hf
          refine ⟨Se, Ge, He, S, c5, ρ1, G4, sr4.step n4, y1, _, h6, fun v5 G5 H5 n5 r5 => ?_⟩
          obtain ⟨G5', n5', hd5⟩ := r5.keep n5 h7
          have n25 := n3.trans (n4.trans n5')
          have hD5 : H5 D = some (.lst acc) := n25.kp.kh _ _ hSD hacc
          have hG5 : G5' D = none := (n25.kp.kn D (by rw [hacc]; exact fun z => nomatch z)).trans hGD
          refine ⟨acc, hD5, by omega, G5', _, acc ++ [v5], as ++ [e1], r, ?_, ?_, ?_, upd_same, hG5, dpAll_append (dpAll_mono n25.kp.kg _ hdq) (.cons hd5 .nil), by rw [List.length_append, List.length_singleton]; omega, by omega, htr2, by rw [hys, hrest]; simp⟩
          · intro b u eb
            rw [upd_ne (ne_of_none eb hG5)]
            exact n25.sub b u eb
          · have t5 := n25.sta
            cases S with
            | none =>
              cases c4 with
              | none => trivial
              | some n => exact t5.elim
            | some a =>
              obtain ⟨g1, n, rfl, g2⟩ := t5.out rfl
              have hne : a ≠ D := fun e => hSD (by rw [e])
              exact ⟨g1, by rw [upd_ne hne]; exact g2⟩
          · have kk := kp2.trans n25.kp
            refine ⟨fun b u nb eb => ?_, kk.kg, kk.kn, fun b hb => ?_⟩
            · rw [upd_ne (ne_of_none eb hD)]
              exact kk.kh b u nb eb
            · by_cases hbD : b = D
              · subst hbD; rw [upd_same]; exact fun z => nomatch z
              · rw [upd_ne hbD]; exact kk.dm b hb
    · have ei : i = xs.length := by omega
      subst ei
      rw [List.drop_length] at htr
      cases htr
      rw [List.append_nil] at hys
      subst hys
      refine .inl ⟨jd.stop _ G2 H2 sm2 hvw (Nat.le_refl _), q _ G2 H2 ⟨sm2, st2, n1.kp.trans kp2⟩ ⟨D, rfl, ?_, hGD, hSD, acc, hacc, hdq⟩⟩
      cases hq : H D with
      | none => rfl
      | some o => exact absurd hD (n1.kp.dm D (by rw [hq]; exact fun z => nomatch z))
end
end SB
/-! Statements. -/
namespace SB
open PySem PySem.Spec PyProof.Rows L2

/-- what follows a statement -/
def Aft (K : PySem.W.Frag) (Se : Option Addr) (Ge He : Hp) (c : Option Nat) (Dn : Ends) (G0 : Hp) : Fl → Prop
  | .nx ρ => ∀ S σ G H, SR K Se Ge He S c ρ σ G H → Same G0 G → Dn.nx σ H
  | .rt r => ∀ S v G H, Same G H → Sta S c G H → Kp Se Ge He G H → (Se = S ∨ (Se = none ∧ ∃ p, S = some p ∧ He p = none)) → RR K S He G H v r → Dn.rt v H
def tS (Φ : Tab) (K : PySem.W.Frag) (st : SB.St) : TS := fun Dn σ H => ∃ Se Ge He S c ρ G, SR K Se Ge He S c ρ σ G H ∧ ∃ fl c', ex Φ st ρ c = some (fl, c') ∧ Aft K Se Ge He c' Dn G fl
def tSs (Φ : Tab) (K : PySem.W.Frag) (ss : List SB.St) : TS := fun Dn σ H => ∃ Se Ge He S c ρ G, SR K Se Ge He S c ρ σ G H ∧ ∃ fl c', exs Φ ss ρ c = some (fl, c') ∧ Aft K Se Ge He c' Dn G fl
theorem Aft.after {K : PySem.W.Frag} {Se : Option Addr} {Ge He : Hp} {c : Option Nat} {Dn : Ends} {G0 G1 : Hp} {fl : Fl} (q : Aft K Se Ge He c Dn G0 fl) (s : Same G0 G1) : Aft K Se Ge He c Dn G1 fl := by
  cases fl with
  | nx ρ => exact fun S σ G H sr h => q S σ G H sr (s.trans h)
  | rt r => exact q
section
variable {X : Cx} {Φ : Tab} {a b e : Expr} {A B E : Ex} {pos p : Pos} {k : Nat}
theorem slen {pins : List (Addr × Obj)} {σ : L2.St} {H : Hp} {s : Shared} (I : Inv X pins σ H s) {i : Nat} {x : Str} (hi : X.N[i]? = some x) : i < σ.length := by
  rw [I.len]
  exact (List.getElem?_eq_some_iff.mp hi).1
theorem SR.d0 {K : PySem.W.Frag} {Se S : Option Addr} {c : Option Nat} {Ge He G H : Hp} {ρ : Rho} {σ : L2.St} (s : SR K Se Ge He S c ρ σ G H) : ∀ b, He b ≠ none → H b ≠ none := s.kp.dm
theorem s_asg {i : Nat} {x : Str} {te : TE} {p' : Pos} (h : PS X (.Assign [.Name x p'] e pos) (tAsg te (gName i))) (hte : ∀ σ H Q, tE Φ X.K E σ H Q → te σ H Q) (hi : X.N[i]? = some x) : PS X (.Assign [.Name x p'] e pos) (tS Φ X.K (.asg i E)) := by
  refine ⟨fun pins s σ H Dn I hw => ?_⟩
  obtain ⟨Se, Ge, He, S, c, ρ, G, sr, fl, c', hev, q⟩ := hw
  have hiσ := slen I hi
  simp only [ex] at hev
  replace hev := M.bind_some hev
  obtain ⟨r, c1, h1, hev⟩ := hev
  replace hev := M.bind_some hev
  obtain ⟨y, c2, h2, hev⟩ := hev
  replace h2 := ofO2 h2
  obtain ⟨h2, e2⟩ := h2
  subst e2
  cases hev
  refine h.run pins s σ H Dn I (hte σ H _ ⟨Se, Ge, He, S, c, ρ, G, sr, r, _, h1, fun v G1 H1 n1 r1 => ?_⟩)
  show Dn.nx (σ.set i (some v)) H1
  cases r with
  | fz d =>
    cases h2
    exact q _ _ _ _ ((sr.step n1).putF r1) n1.kp.kg
  | ow d =>
    cases h2
    exact q _ _ _ _ ((sr.step n1).putO sr.d0 (fun j e a h1 h2 => sr.there h1 h2) r1) n1.kp.kg
  | bw d => cases h2
  | st => cases h2
theorem s_mv {i j : Nat} {x y : Str} {p' p2 : Pos} (hN : X.N.Nodup) (hi : X.N[i]? = some x) (hx : Loc X.env.scope x) (hf : X.fn x = true ∨ X.env.scope.names.lookup x = some .local) (he : PE X (.Name y p2) (tVar j)) : PS X (.Assign [.Name x p'] (.Name y p2) pos) (tS Φ X.K (.mv i j)) := by
  refine ⟨fun pins s σ H Dn I hw => ?_⟩
  obtain ⟨Se, Ge, He, S, c, ρ, G, sr, fl, c', hev, q⟩ := hw
  have hiσ := slen I hi
  simp only [ex] at hev
  replace hev := M.bind_some hev
  obtain ⟨z, c2, h2, hev⟩ := hev
  replace h2 := ofO2 h2
  obtain ⟨h2, e2⟩ := h2
  subst e2
  replace hev := M.bind_some hev
  obtain ⟨d, c3, h3, hev⟩ := hev
  replace h3 := ofO2 h3
  obtain ⟨h3, e3⟩ := h3
  subst e3
  cases hev
  have hj := slAt_some h2
  cases z with
  | ow d1 =>
    cases h3
    obtain ⟨v, e1, hv⟩ := sr.slot j _ hj
    refine (ps_set (i := i) hN hi hx he rfl hf).run pins s σ H Dn I ⟨v, e1, ?_⟩
    refine q _ _ _ _ ((sr.drop j).put hv fun d' _ l e b hl h1 h2 hvb => ?_) (Same.refl _)
    obtain ⟨hlj, h1⟩ := set_none_cases h1
    subst hvb
    exact hlj (sr.inj l j e d b h1 hj h2 e1)
  | _ => cases h3
theorem s_asgT {tg : Expr} {is : List Nat} (he : PE X e (tE Φ X.K E)) (hg : PG X tg (gTg X.K is false)) (hs : swapsWithSole [tg] e pos.line X.env = pure false) (hw : swappedStores [tg] e X.env = pure none)
    (h1 : (assignEach [tg] X.env).map (·.2) = [assign tg X.env]) : PS X (.Assign [tg] e pos) (tS Φ X.K (.asgT is E)) := by
  refine ⟨fun pins s σ H Dn I hw' => ?_⟩
  obtain ⟨Se, Ge, He, S, c, ρ, G, sr, fl, c', hev, q⟩ := hw'
  simp only [ex] at hev
  replace hev := M.bind_some hev
  obtain ⟨r, c1, h2, hev⟩ := hev
  replace hev := M.bind_some hev
  obtain ⟨d, c2, h3, hev⟩ := hev
  have e3 := M.rd_some h3
  subst e3
  replace hev := M.bind_some hev
  obtain ⟨ρ1, c4, hb, hev⟩ := hev
  replace hb := ofO2 hb
  obtain ⟨hb, e4⟩ := hb
  subst e4
  · cases hev
    refine (ps_asg he hg hs hw h1).run pins s σ H Dn I ⟨Se, Ge, He, S, c, ρ, G, sr, r, _, h2, fun v G1 H1 n1 r1 => ?_⟩
    have hd : Dq X.K G1 v d := by
      cases r with
      | fz x => cases h3; exact r1
      | ow x =>
        cases h3
        obtain ⟨a, _, _, _, _, ho⟩ := r1
        cases d with
        | list ds => simp [bindT] at hb
        | _ => exact ho.elim
      | bw x =>
        cases h3
        obtain ⟨a, _, _, ho⟩ := r1
        cases d with
        | list ds => simp [bindT] at hb
        | _ => exact ho.elim
      | st => cases h3
    exact (sr.step n1).target hd hb fun σ1 s1 _ => q _ _ _ _ s1 n1.kp.kg
theorem keepS_ok {x y : Sl} (h : keepS x = some y) : x = y ∧ ∃ d, y = .fz d ∨ y = .ow d := by
  cases x with
  | fz d => cases h; exact ⟨rfl, d, .inl rfl⟩
  | ow d => cases h; exact ⟨rfl, d, .inr rfl⟩
  | _ => cases h
theorem evo2 {ρ : Rho} {c c' : Option Nat} {rs : List Sl} (h : evo Φ [A, B] ρ c = some (rs, c')) : ∃ x y c1, ev Φ A ρ c = some (x, c1) ∧ ev Φ B ρ c1 = some (y, c') ∧ rs = [x, y] ∧ (∃ d, x = .fz d ∨ x = .ow d) ∧ ∃ d, y = .fz d ∨ y = .ow d := by
  have one : ∀ {E : Ex} {es : List Ex} {c c' : Option Nat} {rs : List Sl}, evo Φ (E :: es) ρ c = some (rs, c') → ∃ x r c1, ev Φ E ρ c = some (x, c1) ∧ evo Φ es ρ c1 = some (r, c') ∧ rs = x :: r ∧ ∃ d, x = .fz d ∨ x = .ow d := by
    intro E es c c' rs h
    simp only [evo] at h
    replace h := M.bind_some h
    obtain ⟨x, c1, h1, h⟩ := h
    replace h := M.bind_some h
    obtain ⟨y, c2, h2, h⟩ := h
    replace h2 := ofO2 h2
    obtain ⟨h2, e2⟩ := h2
    subst e2
    obtain ⟨e3, hk⟩ := keepS_ok h2
    subst e3
    replace h := M.bind_some h
    obtain ⟨r, c3, h3, h⟩ := h
    cases h
    exact ⟨_, _, _, h1, h3, rfl, hk⟩
  obtain ⟨x, r, c1, h1, h2, rfl, k1⟩ := one h
  obtain ⟨y, r, c2, h3, h4, rfl, k2⟩ := one h2
  simp only [evo] at h4
  cases h4
  exact ⟨x, y, c1, h1, h3, rfl, k1, k2⟩
/-- a value that an expression has just given, stored -/
theorem SR.putR {K : PySem.W.Frag} {Se S : Option Addr} {c : Option Nat} {Ge He G H H0 : Hp} {ρ : Rho} {σ : L2.St} {i : Nat} {v : V} {r : Sl} (s : SR K Se Ge He S c ρ σ G H) (hr : ∃ d, r = .fz d ∨ r = .ow d) (d0 : ∀ b, He b ≠ none → H0 b ≠ none)
    (d1 : ∀ (j : Nat) e a, ρ[j]? = some (some (.ow e)) → σ[j]? = some (some (.ref a)) → H0 a ≠ none) (h : RR K S H0 G H v r) : SR K Se Ge He S c (ρ.set i (some r)) (σ.set i (some v)) G H := by
  obtain ⟨d, rfl | rfl⟩ := hr
  · exact s.putF h
  · exact s.putO d0 d1 h
theorem s_par2 {i j : Nat} {x y : Str} {px py pt : Pos} {kt k2 : Nat} {pt2 : Pos} (hc : X.calm = true) (hN : X.N.Nodup) (hi : X.N[i]? = some x) (hj : X.N[j]? = some y) (hij : i ≠ j)
    (hx : X.env.scope.names.lookup x = some .local) (hy : X.env.scope.names.lookup y = some .local) (ha : PE X a (tE Φ X.K A)) (hb : PE X b (tE Φ X.K B)) (hs1 : starEach [a, b] X.env = (false, eval a X.env) :: starEach [b] X.env) (hs2 : starEach [b] X.env = (false, eval b X.env) :: starEach [] X.env)
    (hw : swappedStores [.Tuple [.Name x px, .Name y py] kt pt] (.Tuple [a, b] k2 pt2) X.env = pure (some [x, y])) :
    PS X (.Assign [.Tuple [.Name x px, .Name y py] kt pt] (.Tuple [a, b] k2 pt2) pos) (tS Φ X.K (.par [i, j] [A, B])) := by
  refine ⟨fun pins s σ H Dn I hw' => ?_⟩
  obtain ⟨Se, Ge, He, S, c, ρ, G, sr, fl, c', hev, q⟩ := hw'
  have hiσ := slen I hi
  have hjσ := slen I hj
  simp only [ex] at hev
  replace hev := M.bind_some hev
  obtain ⟨rs, c1, h1, hev⟩ := hev
  obtain ⟨u, w, c2, h2, h3, rfl, k1, k2⟩ := evo2 h1
  cases hev
  refine (ps_par (i := i) (j := j) hc hN hi hj hij hx hy (pa_cons ha (pa_cons hb pa_nil hs2) hs1) hw rfl).run pins s σ H Dn I ⟨Se, Ge, He, S, c, ρ, G, sr, u, c2, h2, fun v1 G1 H1 n1 r1 => ⟨Se, Ge, He, S, c2, ρ, G1, sr.step n1, w, _, h3, fun v2 G2 H2 n2 r2 => ?_⟩⟩
  refine ⟨v1, v2, rfl, ?_⟩
  have s2 := (sr.step n1).step n2
  have r1' := r1.mono n2.kp
  have s3 := s2.putR (i := i) k1 sr.d0 (fun l e a g1 g2 => sr.there g1 g2) r1'
  refine q _ _ _ _ (s3.putR (i := j) k2 (fun b hb => (n1.kp.dm b (sr.d0 b hb))) (fun l e a g1 g2 => ?_) r2) (n1.trans n2).kp.kg
  rcases set_cases g1 with ⟨rfl, g3⟩ | ⟨hl, g3⟩
  · rw [List.getElem?_set_self hiσ] at g2
    cases g2
    subst g3
    obtain ⟨a', ea, _, _, _, ho⟩ := r1
    cases ea
    exact own_there ho
  · rw [List.getElem?_set_ne (Ne.symm hl)] at g2
    exact n1.kp.dm a (sr.there g3 g2)
theorem s_init {i : Nat} {x : Str} {p' p2 : Pos} (hN : X.N.Nodup) (hi : X.N[i]? = some x) (hx : Loc X.env.scope x) (hf : X.fn x = true ∨ X.env.scope.names.lookup x = some .local) : PS X (.Assign [.Name x p'] (.List [] p2) pos) (tS Φ X.K (.init i)) := by
  refine ⟨fun pins s σ H Dn I hw => ?_⟩
  obtain ⟨Se, Ge, He, S, c, ρ, G, sr, fl, c', hev, q⟩ := hw
  have hiσ := slen I hi
  simp only [ex] at hev
  replace hev := M.bind_some hev
  obtain ⟨u, c1, h1, hev⟩ := hev
  cases c with
  | some n => cases h1
  | none =>
    cases h1
    cases hev
    have hS : S = none := by
      cases S with
      | none => rfl
      | some a => exact sr.sta.elim
    subst hS
    have hSe : Se = none := by
      rcases sr.ss with e | ⟨e, _⟩
      · exact e
      · exact e
    refine (ps_set (i := i) hN hi hx (pe_lst pa_nil) rfl hf).run pins s σ H Dn I ⟨Nat.zero_le _, fun p0 hp0 => ?_⟩
    have n0 : Nxt none none G H G (upd H p0 (.lst [])) := .newO sr.sub sr.sta hp0
    have hHe : He p0 = none := by
      cases hq : He p0 with
      | none => rfl
      | some o => exact absurd hp0 (sr.d0 p0 (by rw [hq]; exact fun z => nomatch z))
    have nep : ∀ {j : Nat} {e : D} {b : Addr}, ρ[j]? = some (some (.ow e)) → σ[j]? = some (some (.ref b)) → b ≠ p0 := fun {j e b} h1 h2 z => sr.there h1 h2 (by rw [z]; exact hp0)
    have s1 := sr.step n0
    refine q (some p0) _ G _ ⟨s1.sub, ⟨gne sr.sub hp0, upd_same⟩, s1.kp, .inr ⟨hSe, p0, rfl, hHe⟩, by rw [List.length_set, List.length_set]; exact s1.len, fun j z ez => ?_, fun j l d d' b g1 g2 g3 g4 => ?_⟩ (Same.refl _)
    · rcases set_cases ez with ⟨rfl, rfl⟩ | ⟨hj, ez⟩
      · exact ⟨_, List.getElem?_set_self hiσ, p0, rfl, rfl⟩
      · obtain ⟨v, e1, hv⟩ := s1.slot j z ez
        refine ⟨v, by rw [List.getElem?_set_ne (Ne.symm hj)]; exact e1, ?_⟩
        cases z with
        | fz d => exact hv
        | ow d =>
          obtain ⟨b, rfl, k0, kg, _, ko⟩ := hv
          exact ⟨b, rfl, k0, kg, fun z => nep ez e1 (Option.some.inj z).symm, ko⟩
        | bw d =>
          obtain ⟨b, rfl, k0, _, ko⟩ := hv
          exact ⟨b, rfl, k0, fun z => k0 (by rw [← Option.some.inj z]; exact hHe), ko⟩
        | st =>
          obtain ⟨b, e, _⟩ := hv
          cases e
    · rcases set_cases g1 with ⟨_, z⟩ | ⟨hj, g1⟩
      · cases z
      · rcases set_cases g2 with ⟨_, z⟩ | ⟨hl, g2⟩
        · cases z
        · rw [List.getElem?_set_ne (Ne.symm hj)] at g3
          rw [List.getElem?_set_ne (Ne.symm hl)] at g4
          exact s1.inj j l d d' b g1 g2 g3 g4
theorem s_aug {op : Operator} {i : Nat} {x : Str} {p' : Pos} (hop : op = .Add ∨ op = .Mult) (hN : X.N.Nodup) (hi : X.N[i]? = some x) (hx : Loc X.env.scope x) (hf : X.fn x = true ∨ X.env.scope.names.lookup x = some .local) (he : PE X e (tE Φ X.K E)) :
    PS X (.AugAssign (.Name x p') op e pos) (tS Φ X.K (.aug op i E)) := by
  refine ⟨fun pins s σ H Dn I hw => ?_⟩
  obtain ⟨Se, Ge, He, S, c, ρ, G, sr, fl, c', hev, q⟩ := hw
  have hiσ := slen I hi
  simp only [ex] at hev
  replace hev := M.bind_some hev
  obtain ⟨sl, c0, h0, hev⟩ := hev
  replace h0 := ofO2 h0
  obtain ⟨h0, e0⟩ := h0
  subst e0
  have hsl := slAt_some h0
  replace hev := M.bind_some hev
  obtain ⟨d, c1, h1, hev⟩ := hev
  replace hev := M.bind_some hev
  obtain ⟨y, c2, h2, hev⟩ := hev
  replace hev := M.bind_some hev
  obtain ⟨d2, c3, h3, hev⟩ := hev
  replace hev := M.bind_some hev
  obtain ⟨z, c4, h4, hev⟩ := hev
  have e1 := M.rd_some h1
  subst e1
  have e3 := M.rd_some h3
  subst e3
  obtain ⟨h5, h6⟩ := ofO2 h4
  subst h6
  cases hev
  have key : ∃ m n, d = .int m ∧ d2 = .int n ∧ binD op d d2 = some (.fz z) := by
    unfold augD at h5
    split at h5
    · rename_i m n w e3
      cases h5
      exact ⟨m, n, rfl, rfl, e3⟩
    · cases h5
  obtain ⟨m, n, rfl, rfl, h5⟩ := key
  obtain ⟨v, ev1, hv⟩ := sr.slot i sl hsl
  have hvi : v = .int m := by
    cases sl with
    | fz d => cases h1; cases hv; rfl
    | ow d => cases h1; obtain ⟨a, _, _, _, _, ho⟩ := hv; exact ho.elim
    | bw d => cases h1; obtain ⟨a, _, _, _, ho⟩ := hv; exact ho.elim
    | st => cases h1
  subst hvi
  rcases hop with rfl | rfl
  · simp only [binD, Option.some.injEq, Sl.fz.injEq] at h5
    subst h5
    refine (ps_aug (i := i) (op := .Add) hN hi hx he ip_add hf).run pins s σ H Dn I ⟨_, ev1, Se, Ge, He, S, _, ρ, G, sr, y, _, h2, fun v2 G2 H2 n2 r2 => ?_⟩
    exact ⟨m, n, rfl, (r2.vw n2.sub h3).1, q _ _ _ _ ((sr.step n2).putF (.int _)) n2.kp.kg⟩
  · simp only [binD] at h5
    split at h5
    · rename_i hz
      simp only [Option.some.injEq, Sl.fz.injEq] at h5
      subst h5
      refine (ps_aug (i := i) (op := .Mult) hN hi hx he (fun pins s σ H x y v u Q => iop_mul pins s σ H x y v u Q) hf).run pins s σ H Dn I ⟨_, ev1, Se, Ge, He, S, _, ρ, G, sr, y, _, h2, fun v2 G2 H2 n2 r2 => ?_⟩
      exact ⟨m, n, rfl, (r2.vw n2.sub h3).1, hz, q _ _ _ _ ((sr.step n2).putF (.int _)) n2.kp.kg⟩
    · cases h5
/-! ### the lists of a def -/
theorem own_lst {K : PySem.W.Frag} {Se S : Option Addr} {c : Option Nat} {Ge He G H : Hp} {ρ : Rho} {σ : L2.St} {i : Nat} {ds : List D} (s : SR K Se Ge He S c ρ σ G H) (h : ρ[i]? = some (some (.ow (.list ds)))) : ∃ a vs, σ[i]? = some (some (.ref a)) ∧ H a = some (.lst vs) ∧ DqAll K G vs ds := by
  obtain ⟨v, e1, a, rfl, _, _, _, vs, ho, hd⟩ := s.slot i _ h
  exact ⟨a, vs, e1, ho, hd⟩
/-- the object of a slot as it stands later -/
theorem lst_at {K : PySem.W.Frag} {Se S : Option Addr} {c : Option Nat} {Ge He G H : Hp} {ρ : Rho} {σ : L2.St} {i : Nat} {a : Addr} {ds : List D} (s : SR K Se Ge He S c ρ σ G H) (h : ρ[i]? = some (some (.ow (.list ds)))) (ha : σ[i]? = some (some (.ref a))) : ∃ vs, H a = some (.lst vs) ∧ DqAll K G vs ds := by
  obtain ⟨a', vs, e1, ho, hd⟩ := own_lst s h
  rw [ha] at e1
  cases e1
  exact ⟨vs, ho, hd⟩
theorem slot_st {K : PySem.W.Frag} {Se S : Option Addr} {c : Option Nat} {Ge He G H : Hp} {ρ : Rho} {σ : L2.St} {i : Nat} (s : SR K Se Ge He S c ρ σ G H) (h : ρ[i]? = some (some .st)) : ∃ a n, S = some a ∧ σ[i]? = some (some (.ref a)) ∧ c = some n ∧ H a = some (.lst (List.replicate n (.int 0))) := by
  obtain ⟨v, e1, a, rfl, rfl⟩ := s.slot i _ h
  obtain ⟨_, n, rfl, h2⟩ := s.sta.out rfl
  exact ⟨a, n, rfl, e1, rfl, h2⟩
theorem replicate_snoc (n : Nat) : List.replicate n (V.int 0) ++ [V.int 0] = List.replicate (n + 1) (V.int 0) := by
  rw [List.replicate_succ']
/-- one draw more -/
theorem SR.tick {K : PySem.W.Frag} {Se : Option Addr} {a : Addr} {n : Nat} {Ge He G H : Hp} {ρ : Rho} {σ : L2.St} (s : SR K Se Ge He (some a) (some n) ρ σ G H) : SR K Se Ge He (some a) (some (n + 1)) ρ σ G (upd H a (.lst (List.replicate (n + 1) (.int 0)))) := by
  obtain ⟨ga, ha⟩ : G a = none ∧ H a = some (.lst (List.replicate n (.int 0))) := s.sta
  have nx : Nxt (some a) (some (n + 1)) G H G (upd H a (.lst (List.replicate (n + 1) (.int 0)))) := by
    refine ⟨fun b u e => ?_, ⟨ga, upd_same⟩, fun b u nb e => ?_, Same.refl _, fun _ _ => rfl, fun b hb => ?_⟩
    · rw [upd_ne (ne_of_none e ga)]; exact s.sub b u e
    · have : b ≠ a := fun z => nb (by rw [z])
      rw [upd_ne this]; exact e
    · by_cases hba : b = a
      · subst hba; rw [upd_same]; exact fun z => nomatch z
      · rw [upd_ne hba]; exact hb
  exact s.step nx
theorem owL_some {ρ : Rho} {i : Nat} {ds : List D} (h : owL ρ i = some ds) : ρ[i]? = some (some (.ow (.list ds))) := by
  unfold owL at h
  cases q : slAt ρ i with
  | none => rw [q] at h; cases h
  | some s =>
    rw [q] at h
    cases s with
    | ow d =>
      have e := lstOf_some (show lstOf d = some ds from h)
      subst e
      exact slAt_some q
    | _ => cases h
theorem s_app {i : Nat} {o : Expr} {apos p2 : Pos} (hN : X.N.Nodup) (ho : PE X o (tVar i)) (he : PE X e (tE Φ X.K E)) (hbase : attributeBase o "append" X.env (eval o X.env) = eval o X.env) (hline : (apos.endLine == p2.line) = true) (hs : starEach [e] X.env = (false, eval e X.env) :: starEach [] X.env) :
    PS X (.Expr (.Call (.Attribute o "append" apos) [e] [] p2) pos) (tS Φ X.K (.app i E)) := by
  have hfew : ((backTo p2 (starEach [e] X.env)).all (fun x => !x.1) && (backToKw p2 (keywordEach [] X.env)).all (fun x => x.1.isSome) && decide ([e].length + ([] : List Keyword).length + (if ([] : List Keyword).isEmpty then 0 else 1) < 30)) = true := by
    rw [hs]; rfl
  have pe := pe_bm (X := X) (apos := apos) (cpos := p2) PySem.F.plainAttrs_list PySem.F.slot_list_append PySem.F.type_list_append mt_append ho (pa_cons he pa_nil hs) hbase hfew hline hs rfl
  refine ⟨fun pins s σ H Dn I hw => ?_⟩
  obtain ⟨Se, Ge, He, S, c, ρ, G, sr, fl, c', hev, q⟩ := hw
  simp only [ex] at hev
  replace hev := M.bind_some hev
  obtain ⟨x, c1, h1, hev⟩ := hev
  replace hev := M.bind_some hev
  obtain ⟨d, c2, h2, hev⟩ := hev
  obtain ⟨e2, _⟩ := Sl.kp_ok h2
  subst e2
  replace hev := M.bind_some hev
  obtain ⟨sl, c0, h0, hev⟩ := hev
  replace h0 := ofO2 h0
  obtain ⟨h0, e0⟩ := h0
  subst e0
  have hi := slAt_some h0
  replace hev := M.bind_some hev
  obtain ⟨kk, c3, h3, hev⟩ := hev
  replace h3 := ofO2 h3
  obtain ⟨h3, e3⟩ := h3
  subst e3
  replace hev := M.bind_some hev
  obtain ⟨ρ', c4, h4, hev⟩ := hev
  cases hev
  cases kk with
  | some ds =>
    have e5 : sl = .ow (.list ds) := by
      cases sl with
      | ow d =>
        cases d with
        | list xs => cases h3; rfl
        | _ => cases h3
      | _ => cases h3
    subst e5
    unfold appTo at h4
    simp only at h4
    split at h4
    · rename_i hz
      cases h4
      obtain ⟨a, vs, ea, ha, hd⟩ := own_lst sr hi
      refine (ps_expr pe rfl).run pins s σ H Dn I ⟨.ref a, ea, .inl ⟨rfl, vs, .inl (.inl ha)⟩, Se, Ge, He, S, c, ρ, G, sr, x, _, h1, fun v G1 H1 n1 r1 => ?_⟩
      obtain ⟨G1', n1', hd1⟩ := r1.keep n1 h2
      have s1 := sr.step n1'
      obtain ⟨vs1, ha1, hdq1⟩ := lst_at s1 hi ea
      refine ⟨a, vs1, v, rfl, rfl, ha1, by rw [dpAll_length hdq1]; exact hz, ?_⟩
      exact q _ _ _ _ (s1.chg hi ea ⟨_, upd_same, dpAll_append hdq1 (.cons hd1 .nil)⟩) n1'.kp.kg
    · cases h4
  | none =>
    have e5 : sl = .st := by
      cases sl with
      | st => rfl
      | ow d =>
        cases d with
        | list xs => cases h3
        | _ => cases h3
      | _ => cases h3
    subst e5
    unfold appTo at h4
    replace h4 := M.bind_some h4
    obtain ⟨j, c5, h5, h4⟩ := h4
    replace h5 := ofO2 h5
    obtain ⟨h5, e6⟩ := h5
    subst e6
    have e7 := intOf_some h5
    subst e7
    split at h4
    · rename_i hj0
      subst hj0
      replace h4 := M.bind_some h4
      obtain ⟨t, c3, h3, h4⟩ := h4
      cases h4
      obtain ⟨a, n, rfl, ea, hc, ha⟩ := slot_st sr hi
      refine (ps_expr pe rfl).run pins s σ H Dn I ⟨.ref a, ea, .inl ⟨rfl, _, .inl (.inl ha)⟩, Se, Ge, He, some a, c, ρ, G, sr, x, _, h1, fun v G1 H1 n1 r1 => ?_⟩
      obtain ⟨G1', n1', hd1⟩ := r1.keep n1 h2
      have s1 := sr.step n1'
      obtain ⟨_, n2, hc2, ha2⟩ := n1'.sta.out rfl
      subst hc2
      unfold tickM at h3
      simp only at h3
      split at h3
      · rename_i hlt
        cases h3
        cases hd1
        refine ⟨a, _, .int 0, rfl, rfl, ha2, ?_, ?_⟩
        · rw [List.length_replicate, sizeLine_eq]; omega
        · rw [replicate_snoc]
          exact q _ _ _ _ s1.tick n1'.kp.kg
      · cases h3
    · cases h4
/-- list.extend of any list -/
def rExtR : V → List V → Hp → VK → Prop := fun x vs H Q => ∃ l b xs zs, x = .ref l ∧ vs = [.ref b] ∧ H l = some (.lst xs) ∧ Rd H b (.lst zs) ∧ xs.length + zs.length ≤ sizeLine ∧ Q .non (upd H l (.lst (xs ++ zs)))
theorem mt_extR : MtR X "list.extend" rExtR := by
  intro pins s σ H x vs v us Q I rx rv h
  obtain ⟨l, b, xs, zs, rfl, rfl, hH, hB, hz, q⟩ := h
  cases rx
  obtain ⟨u, rfl, ru⟩ := rv.one
  cases ru
  obtain ⟨z, its, n, r, hl, e⟩ := I.lstM hH
  obtain ⟨z2, its2, n2, r2, hl2, e2⟩ := rd_lst I hB
  have hsz : its.toArray.size + its2.toArray.size ≤ sizeLine := by rw [List.size_toArray, List.size_toArray]; omega
  have hlong : ¬ (!its.toArray.isEmpty && Builtin.List.listTooLong (its.toArray.size + its2.toArray.size)) = true := by
    rw [notLongL hsz, Bool.and_false]
    exact Bool.false_ne_true
  refine call_meets F.slot_list_extend ⟨_, e, rfl⟩ F.entry_list_extend (F.args_list_extend_2 _ _)
    (AutoSeq1.list_extend_list_list_0 l its.toArray n b its2.toArray n2 hlong (by rw [List.size_toArray]; omega) (by omega)) ⟨e, e2, ?_⟩
  refine ⟨.non, _, I.lset (its' := its ++ its2) hH e (by simp) (r.append r2) ?_, rfl, q⟩
  rw [List.length_append]
  omega
theorem owOf_some {x : Sl} {d : D} (h : owOf x = some d) : x = .ow d := by
  cases x with
  | ow e => cases h; rfl
  | _ => cases h
theorem s_ext {i : Nat} {o : Expr} {apos p2 : Pos} (hN : X.N.Nodup) (ho : PE X o (tVar i)) (he : PE X e (tE Φ X.K E)) (hbase : attributeBase o "extend" X.env (eval o X.env) = eval o X.env) (hline : (apos.endLine == p2.line) = true) (hs : starEach [e] X.env = (false, eval e X.env) :: starEach [] X.env) :
    PS X (.Expr (.Call (.Attribute o "extend" apos) [e] [] p2) pos) (tS Φ X.K (.ext i E)) := by
  have hfew : ((backTo p2 (starEach [e] X.env)).all (fun x => !x.1) && (backToKw p2 (keywordEach [] X.env)).all (fun x => x.1.isSome) && decide ([e].length + ([] : List Keyword).length + (if ([] : List Keyword).isEmpty then 0 else 1) < 30)) = true := by
    rw [hs]; rfl
  have pe := pe_bm (X := X) (apos := apos) (cpos := p2) PySem.F.plainAttrs_list PySem.F.slot_list_extend PySem.F.type_list_extend mt_extR ho (pa_cons he pa_nil hs) hbase hfew hline hs rfl
  refine ⟨fun pins s σ H Dn I hw => ?_⟩
  obtain ⟨Se, Ge, He, S, c, ρ, G, sr, fl, c', hev, q⟩ := hw
  simp only [ex] at hev
  replace hev := M.bind_some hev
  obtain ⟨x, c1, h1, hev⟩ := hev
  replace hev := M.bind_some hev
  obtain ⟨d, c2, h2, hev⟩ := hev
  replace h2 := ofO2 h2
  obtain ⟨h2, e2⟩ := h2
  subst e2
  have ex := owOf_some h2
  subst ex
  replace hev := M.bind_some hev
  obtain ⟨es, c3, h3, hev⟩ := hev
  replace h3 := ofO2 h3
  obtain ⟨h3, e3⟩ := h3
  subst e3
  have e4 := lstOf_some h3
  subst e4
  replace hev := M.bind_some hev
  obtain ⟨ds, c5, h5, hev⟩ := hev
  replace h5 := ofO2 h5
  obtain ⟨h5, e5⟩ := h5
  subst e5
  have hi := owL_some h5
  · split at hev
    · rename_i hz
      cases hev
      obtain ⟨a, vs, ea, ha, hd⟩ := own_lst sr hi
      refine (ps_expr pe rfl).run pins s σ H Dn I ⟨.ref a, ea, .inl ⟨rfl, vs, .inl (.inl ha)⟩, Se, Ge, He, S, c, ρ, G, sr, _, _, h1, fun v G1 H1 n1 r1 => ?_⟩
      have s1 := sr.step n1
      obtain ⟨vs1, ha1, hdq1⟩ := lst_at s1 hi ea
      obtain ⟨b, rfl, _, _, _, ws, hb, hdb⟩ := r1
      refine ⟨a, b, vs1, ws, rfl, rfl, ha1, .inl hb, by rw [dpAll_length hdq1, dpAll_length hdb]; exact hz, ?_⟩
      exact q _ _ _ _ (s1.chg hi ea ⟨_, upd_same, dpAll_append hdq1 hdb⟩) n1.kp.kg
    · cases hev
theorem s_popA {i j : Nat} {x : Str} {o : Expr} {apos p2 p' : Pos} (hN : X.N.Nodup) (hi : X.N[i]? = some x) (hx : Loc X.env.scope x) (hf : X.fn x = true ∨ X.env.scope.names.lookup x = some .local) (ho : PE X o (tVar j)) (hbase : attributeBase o "pop" X.env (eval o X.env) = eval o X.env) (hline : (apos.endLine == p2.line) = true) (hij : i ≠ j) :
    PS X (.Assign [.Name x p'] (.Call (.Attribute o "pop" apos) [] [] p2) pos) (tS Φ X.K (.popA i j)) := by
  have pe := pe_bm0 (X := X) (apos := apos) (cpos := p2) PySem.F.plainAttrs_list PySem.F.slot_list_pop PySem.F.type_list_pop mt_pop ho hbase hline
  refine ⟨fun pins s σ H Dn I hw => ?_⟩
  obtain ⟨Se, Ge, He, S, c, ρ, G, sr, fl, c', hev, q⟩ := hw
  have hiσ := slen I hi
  simp only [ex] at hev
  replace hev := M.bind_some hev
  obtain ⟨ds, c3, h3, hev⟩ := hev
  replace h3 := ofO2 h3
  obtain ⟨h3, e3⟩ := h3
  subst e3
  have hj := owL_some h3
  replace hev := M.bind_some hev
  obtain ⟨d, c4, hd0, hev⟩ := hev
  replace hd0 := ofO2 hd0
  obtain ⟨hd0, e4⟩ := hd0
  subst e4
  · · cases hev
      obtain ⟨a, vs, ea, ha, hd⟩ := own_lst sr hj
      have hlast : ds[ds.length - 1]? = some d := by rw [← List.getLast?_eq_getElem?]; exact hd0
      obtain ⟨v, hv, hdv⟩ := dpAll_get hd hlast
      refine (ps_set (i := i) hN hi hx pe rfl hf).run pins s σ H Dn I ⟨.ref a, ea, .inl ⟨rfl, vs, .inl (.inl ha)⟩, a, vs, v, rfl, rfl, ha, by rw [dpAll_length hd]; exact hv, ?_⟩
      have s1 := sr.chg (o := .lst vs.dropLast) (d' := .list ds.dropLast) hj ea ⟨_, upd_same, dpAll_dropLast hd⟩
      exact q _ _ _ _ (s1.putF hdv) (Same.refl _)
theorem s_appPop {i j : Nat} {o o2 : Expr} {apos p2 apos2 p3 : Pos} (hN : X.N.Nodup) (ho : PE X o (tVar i)) (ho2 : PE X o2 (tVar j)) (he : PE X e (tE Φ X.K E)) (hb1 : attributeBase o "append" X.env (eval o X.env) = eval o X.env) (hl1 : (apos.endLine == p2.line) = true)
    (hb2 : attributeBase o2 "pop" X.env (eval o2 X.env) = eval o2 X.env) (hl2 : (apos2.endLine == p3.line) = true) (hs : starEach [e] X.env = (false, eval e X.env) :: starEach [] X.env) :
    PS X (.Expr (.Call (.Attribute o "append" apos) [.Call (.Attribute o2 "pop" apos2) [e] [] p3] [] p2) pos) (tS Φ X.K (.appPop i j E)) := by
  have hfew : ((backTo p3 (starEach [e] X.env)).all (fun x => !x.1) && (backToKw p3 (keywordEach [] X.env)).all (fun x => x.1.isSome) && decide ([e].length + ([] : List Keyword).length + (if ([] : List Keyword).isEmpty then 0 else 1) < 30)) = true := by
    rw [hs]; rfl
  have pop := pe_bm (X := X) (apos := apos2) (cpos := p3) PySem.F.plainAttrs_list PySem.F.slot_list_pop PySem.F.type_list_pop mt_popAt ho2 (pa_cons he pa_nil hs) hb2 hfew hl2 hs rfl
  have pe := pe_bm (X := X) (apos := apos) (cpos := p2) PySem.F.plainAttrs_list PySem.F.slot_list_append PySem.F.type_list_append mt_append ho (pa_cons pop pa_nil rfl) hb1 rfl hl1 rfl rfl
  refine ⟨fun pins s σ H Dn I hw => ?_⟩
  obtain ⟨Se, Ge, He, S, c, ρ, G, sr, fl, c', hev, q⟩ := hw
  simp only [ex] at hev
  replace hev := M.bind_some hev
  obtain ⟨x, c1, h1, hev⟩ := hev
  replace hev := M.bind_some hev
  obtain ⟨d, c2, h2, hev⟩ := hev
  have e2 := M.rd_some h2
  subst e2
  replace hev := M.bind_some hev
  obtain ⟨kk, c3, h3, hev⟩ := hev
  replace h3 := ofO2 h3
  obtain ⟨h3, e3⟩ := h3
  subst e3
  have e4 := intOf_some h3
  subst e4
  replace hev := M.bind_some hev
  obtain ⟨xs, c5, h5, hev⟩ := hev
  replace h5 := ofO2 h5
  obtain ⟨h5, e5⟩ := h5
  subst e5
  have hi := owL_some h5
  replace hev := M.bind_some hev
  obtain ⟨ys, c6, h6, hev⟩ := hev
  replace h6 := ofO2 h6
  obtain ⟨h6, e6⟩ := h6
  subst e6
  have hj := owL_some h6
  replace hev := M.bind_some hev
  obtain ⟨y, c7, hy, hev⟩ := hev
  replace hy := ofO2 hy
  obtain ⟨hy, e7⟩ := hy
  subst e7
  · · split at hev
      · rename_i hz
        obtain ⟨z1, z2, z3, z4⟩ := hz
        cases hev
        obtain ⟨a, vs, ea, ha, hd⟩ := own_lst sr hi
        obtain ⟨b, ws, eb, hb, hdb⟩ := own_lst sr hj
        refine (ps_expr pe rfl).run pins s σ H Dn I ⟨.ref a, ea, .inl ⟨rfl, vs, .inl (.inl ha)⟩, ?_⟩
        show tBM X.K "list" rPopAt (tVar j) (tCons (tE Φ X.K E) tNil) σ H _
        refine ⟨.ref b, eb, .inl ⟨rfl, ws, .inl (.inl hb)⟩, Se, Ge, He, S, c, ρ, G, sr, x, _, h1, fun v G1 H1 n1 r1 => ?_⟩
        have s1 := sr.step n1
        obtain ⟨vs1, ha1, hdq1⟩ := lst_at s1 hi ea
        obtain ⟨ws1, hb1', hdb1⟩ := lst_at s1 hj eb
        have ev1 : v = .int kk := (r1.vw n1.sub h2).1
        subst ev1
        obtain ⟨w, hw, hdw⟩ := dpAll_get hdb1 hy
        have hkl : kk.toNat < ws1.length := (List.getElem?_eq_some_iff.mp hw).1
        refine ⟨b, ws1, kk, kk.toNat, w, rfl, rfl, hb1', by omega, by omega, seqIndex_of z1 (by omega), hw, ?_⟩
        have hab : a ≠ b := fun q => z3 (s1.inj i j _ _ a hi hj ea (by rw [eb, q]))
        have s2 := s1.chg (o := .lst (ws1.eraseIdx kk.toNat)) (d' := .list (ys.eraseIdx kk.toNat)) hj eb ⟨_, upd_same, dpAll_erase _ hdb1⟩
        have hi2 : (ρ.set j (some (.ow (.list (ys.eraseIdx kk.toNat)))))[i]? = some (some (.ow (.list xs))) := by
          rw [List.getElem?_set_ne (Ne.symm z3)]; exact hi
        refine ⟨a, vs1, w, rfl, rfl, by rw [upd_ne hab]; exact ha1, by rw [dpAll_length hdq1]; exact z4, ?_⟩
        exact q _ _ _ _ (s2.chg hi2 ea ⟨_, upd_same, dpAll_append hdq1 (.cons hdw .nil)⟩) n1.kp.kg
      · cases hev
theorem s_expr (he : PE X e (tE Φ X.K E)) (hs : swapsWith e none pos.line X.env = pure false) : PS X (.Expr e pos) (tS Φ X.K (.expr E)) := by
  refine ⟨fun pins s σ H Dn I hw => ?_⟩
  obtain ⟨Se, Ge, He, S, c, ρ, G, sr, fl, c', hev, q⟩ := hw
  simp only [ex] at hev
  replace hev := M.bind_some hev
  obtain ⟨x, c1, h1, hev⟩ := hev
  cases hev
  exact (ps_expr he hs).run pins s σ H Dn I ⟨Se, Ge, He, S, c, ρ, G, sr, x, _, h1, fun v G1 H1 n1 r1 => q _ _ _ _ (sr.step n1) n1.kp.kg⟩
theorem s_ret (he : PE X e (tE Φ X.K E)) : PS X (.Return (some e) pos) (tS Φ X.K (.ret E)) := by
  refine ⟨fun pins s σ H Dn I hw => ?_⟩
  obtain ⟨Se, Ge, He, S, c, ρ, G, sr, fl, c', hev, q⟩ := hw
  simp only [ex] at hev
  replace hev := M.bind_some hev
  obtain ⟨x, c1, h1, hev⟩ := hev
  replace hev := M.bind_some hev
  obtain ⟨y, c2, h2, hev⟩ := hev
  replace h2 := ofO2 h2
  obtain ⟨h2, e2⟩ := h2
  subst e2
  obtain ⟨e3, _⟩ := keepS_ok h2
  subst e3
  cases hev
  refine (ps_ret he).run pins s σ H Dn I ⟨Se, Ge, He, S, c, ρ, G, sr, x, _, h1, fun v G1 H1 n1 r1 => ?_⟩
  have s1 := sr.step n1
  exact q S v G1 H1 s1.sub s1.sta s1.kp s1.ss (r1.base sr.d0)
theorem s_retv {i : Nat} (he : PE X e (tVar i)) : PS X (.Return (some e) pos) (tS Φ X.K (.retv i)) := by
  refine ⟨fun pins s σ H Dn I hw => ?_⟩
  obtain ⟨Se, Ge, He, S, c, ρ, G, sr, fl, c', hev, q⟩ := hw
  simp only [ex] at hev
  replace hev := M.bind_some hev
  obtain ⟨x, c1, h1, hev⟩ := hev
  replace h1 := ofO2 h1
  obtain ⟨h1, e1⟩ := h1
  subst e1
  replace hev := M.bind_some hev
  obtain ⟨y, c2, h2, hev⟩ := hev
  replace h2 := ofO2 h2
  obtain ⟨h2, e2⟩ := h2
  subst e2
  obtain ⟨e3, hk⟩ := keepS_ok h2
  subst e3
  cases hev
  obtain ⟨v, e1, hv⟩ := sr.slot i _ (slAt_some h1)
  refine (ps_ret he).run pins s σ H Dn I ⟨v, e1, q S v G H sr.sub sr.sta sr.kp sr.ss ?_⟩
  obtain ⟨d, rfl | rfl⟩ := hk
  · exact hv
  · exact hv
theorem s_pass : PS X (.Pass pos) (tS Φ X.K .pass) := by
  refine ⟨fun pins s σ H Dn I hw => ?_⟩
  obtain ⟨Se, Ge, He, S, c, ρ, G, sr, fl, c', hev, q⟩ := hw
  simp only [ex] at hev
  cases hev
  exact ps_pass.run pins s σ H Dn I (q _ _ _ _ sr (Same.refl _))
theorem s_never {st : Stmt} : PS X st (tS Φ X.K .never) := by
  refine ⟨fun pins s σ H Dn I hw => ?_⟩
  obtain ⟨Se, Ge, He, S, c, ρ, G, sr, fl, c', hev, q⟩ := hw
  simp only [ex] at hev
  cases hev
theorem s_if {cx : Expr} {C : Ex} {sa sb : List Stmt} {As Bs : List SB.St} (hc : PT X cx (tT Φ X.K C)) (ha : PSs X sa (tSs Φ X.K As)) (hb : PSs X sb (tSs Φ X.K Bs)) : PS X (.If cx sa sb pos) (tS Φ X.K (.ifs C As Bs)) := by
  refine ⟨fun pins s σ H Dn I hw => ?_⟩
  obtain ⟨Se, Ge, He, S, c, ρ, G, sr, fl, c', hev, q⟩ := hw
  simp only [ex] at hev
  replace hev := M.bind_some hev
  obtain ⟨x, c1, h1, hev⟩ := hev
  replace hev := M.bind_some hev
  obtain ⟨d, c2, h2, hev⟩ := hev
  replace hev := M.bind_some hev
  obtain ⟨t, c3, h3, hev⟩ := hev
  have e2 := M.rd_some h2
  subst e2
  obtain ⟨rfl, e3⟩ := M.asB_some h3
  subst e3
  refine (ps_if hc ha hb).run pins s σ H Dn I ⟨Se, Ge, He, S, c, ρ, G, sr, t, _, t_run h1 h2, fun G1 H1 n1 => ?_⟩
  cases t with
  | true =>
    rw [if_pos rfl] at hev ⊢
    exact ⟨Se, Ge, He, S, _, ρ, G1, sr.step n1, fl, _, hev, q.after n1.kp.kg⟩
  | false =>
    rw [if_neg Bool.false_ne_true] at hev ⊢
    exact ⟨Se, Ge, He, S, _, ρ, G1, sr.step n1, fl, _, hev, q.after n1.kp.kg⟩
theorem ss_nil : PSs X [] (tSs Φ X.K []) := by
  refine ⟨fun pins s σ H Dn I hw => ?_⟩
  obtain ⟨Se, Ge, He, S, c, ρ, G, sr, fl, c', hev, q⟩ := hw
  simp only [exs] at hev
  cases hev
  exact pss_nil.run pins s σ H Dn I (q _ _ _ _ sr (Same.refl _))
theorem ss_cons {st : Stmt} {rest : List Stmt} {s0 : SB.St} {ss : List SB.St} (h1 : PS X st (tS Φ X.K s0)) (h2 : PSs X rest (tSs Φ X.K ss)) : PSs X (st :: rest) (tSs Φ X.K (s0 :: ss)) := by
  refine ⟨fun pins s σ H Dn I hw => ?_⟩
  obtain ⟨Se, Ge, He, S, c, ρ, G, sr, fl, c', hev, q⟩ := hw
  simp only [exs] at hev
  replace hev := M.bind_some hev
  obtain ⟨f1, c1, h3, hev⟩ := hev
  refine (pss_cons h1 h2).run pins s σ H Dn I ⟨Se, Ge, He, S, c, ρ, G, sr, f1, c1, h3, ?_⟩
  cases f1 with
  | nx ρ1 => exact fun S1 σ1 G1 H1 sr1 g1 => ⟨Se, Ge, He, S1, c1, ρ1, G1, sr1, fl, c', hev, q.after g1⟩
  | rt v =>
    cases hev
    exact q
theorem frz_one {K : PySem.W.Frag} {Se S : Option Addr} {c : Option Nat} {Ge He H : Hp} {σ : L2.St} : ∀ (is : List Nat) {ρ : Rho} {G : Hp}, SR K Se Ge He S c ρ σ G H → ∃ G', SR K Se Ge He S c (frzR is ρ) σ G' H ∧ Same G G'
  | [], ρ, G, sr => ⟨G, sr, Same.refl _⟩
  | i :: is, ρ, G, sr => by
    unfold frzR
    split
    · rename_i ds hi
      obtain ⟨a, vs, g1, s1⟩ := sr.frz hi
      obtain ⟨G', s2, g2⟩ := frz_one is s1
      exact ⟨G', s2, g1.trans g2⟩
    · exact frz_one is sr
theorem ss_frz {rest : List Stmt} {is : List Nat} {ss : List SB.St} (h2 : PSs X rest (tSs Φ X.K ss)) : PSs X rest (tSs Φ X.K (.frz is :: ss)) := by
  refine ⟨fun pins s σ H Dn I hw => ?_⟩
  obtain ⟨Se, Ge, He, S, c, ρ, G, sr, fl, c', hev, q⟩ := hw
  simp only [exs, ex] at hev
  rw [pure_bind] at hev
  obtain ⟨G', sr', g'⟩ := frz_one is sr
  exact h2.run pins s σ H Dn I ⟨Se, Ge, He, S, c, _, G', sr', fl, c', hev, q.after g'⟩
/-! ### loops -/
def tK (Φ : Tab) (K : PySem.W.Frag) (E : Ex) : TE := fun σ H Q => ∃ Se Ge He S c ρ G, SR K Se Ge He S c ρ σ G H ∧ ∃ d c', (do let x ← ev Φ E ρ; x.kp) c = some (d, c') ∧ ∀ v G' H', Nxt S c' G H G' H' → Dq K G' v d → Q v H'
def tR1 (Φ : Tab) (K : PySem.W.Frag) (E : Ex) : TE := fun σ H Q => ∃ Se Ge He S c ρ G, SR K Se Ge He S c ρ σ G H ∧ ∃ d c', (do let x ← ev Φ E ρ; x.rd) c = some (d, c') ∧
  ∀ v G' H', Nxt S c' G H G' H' → (∀ G2 H2, Kp S G' H' G2 H2 → Same G2 H2 → Vw K G2 H2 v d) → Q v H'
theorem e_keep (he : PE X e (tE Φ X.K E)) : PE X e (tK Φ X.K E) := by
  refine ⟨fun pins s σ H Q I hw => ?_⟩
  obtain ⟨Se, Ge, He, S, c, ρ, G, sr, d, c', hev, q⟩ := hw
  replace hev := M.bind_some hev
  obtain ⟨x, c1, h1, h2⟩ := hev
  obtain ⟨e2, _⟩ := Sl.kp_ok h2
  subst e2
  refine he.run pins s σ H Q I ⟨Se, Ge, He, S, c, ρ, G, sr, x, _, h1, fun v G1 H1 n1 r1 => ?_⟩
  obtain ⟨G2, n2, hd⟩ := r1.keep n1 h2
  exact q _ _ _ n2 hd
theorem e_read (he : PE X e (tE Φ X.K E)) : PE X e (tR1 Φ X.K E) := by
  refine ⟨fun pins s σ H Q I hw => ?_⟩
  obtain ⟨Se, Ge, He, S, c, ρ, G, sr, d, c', hev, q⟩ := hw
  replace hev := M.bind_some hev
  obtain ⟨x, c1, h1, h2⟩ := hev
  have e2 := M.rd_some h2
  subst e2
  refine he.run pins s σ H Q I ⟨Se, Ge, He, S, c, ρ, G, sr, x, _, h1, fun v G1 H1 n1 r1 => ?_⟩
  exact q _ _ _ n1 fun G2 H2 k2 s2 => ((r1.mono k2).vw s2 h2).1
theorem PI.imp {tg it : Expr} {wi wi' : TI} (h : PI X tg it wi) (f : ∀ σ H R, wi' σ H R → wi σ H R) : PI X tg it wi' := ⟨fun pins s σ H R I hw => h.run pins s σ H R I (f σ H R hw)⟩
theorem pi_seqK {tg : Expr} (he : PE X e (tE Φ X.K E)) : PI X tg e (iD X.K .seq (tAk Φ X.K [E])) := by
  refine PI.imp (pi_seqD (e_keep he)) fun σ H R hw => ?_
  obtain ⟨Se, Ge, He, S, c, ρ, G, sr, ds, c', hev, q⟩ := hw
  simp only [evk] at hev
  replace hev := M.bind_some hev
  obtain ⟨x, c1, h1, hev⟩ := hev
  replace hev := M.bind_some hev
  obtain ⟨d, c2, h2, hev⟩ := hev
  rw [pure_bind] at hev
  cases hev
  refine ⟨Se, Ge, He, S, c, ρ, G, sr, d, c', by rw [M.bind_run, h1]; exact h2, fun v G1 H1 n1 hd => ?_⟩
  exact q _ _ _ n1 (.cons hd .nil)
theorem pi_seqR {tg : Expr} (he : PE X e (tE Φ X.K E)) : PI X tg e (iD X.K .seq (tAr Φ X.K [E])) := by
  refine PI.imp (pi_seqD (e_read he)) fun σ H R hw => ?_
  obtain ⟨Se, Ge, He, S, c, ρ, G, sr, ds, c', hev, q⟩ := hw
  simp only [evr] at hev
  replace hev := M.bind_some hev
  obtain ⟨x, c1, h1, hev⟩ := hev
  replace hev := M.bind_some hev
  obtain ⟨d, c2, h2, hev⟩ := hev
  rw [pure_bind] at hev
  cases hev
  refine ⟨Se, Ge, He, S, c, ρ, G, sr, d, c', by rw [M.bind_run, h1]; exact h2, fun v G1 H1 n1 hv => ?_⟩
  exact q _ _ _ n1 fun G2 H2 k2 s2 => .cons (hv G2 H2 k2 s2) .nil
theorem dq_vwA {K : PySem.W.Frag} {G H : Hp} (sm : Same G H) : ∀ {vs : List V} {ds : List D}, DqAll K G vs ds → VwA K G H vs ds
  | _, [], h => by cases h; exact .nil
  | _, d :: ds, h => by
    cases h with
    | cons h1 h2 => exact .cons (.of_dp sm h1) (dq_vwA sm h2)
theorem loop_cons {f : D → Rho → M Fl} {d : D} {ds : List D} {ρ : Rho} {c c' : Option Nat} {fl : Fl} (h : loop f (d :: ds) ρ c = some (fl, c')) : ∃ r c1, f d ρ c = some (r, c1) ∧ (match r with | .nx ρ' => loop f ds ρ' | .rt v => pure (.rt v)) c1 = some (fl, c') := by
  simp only [loop] at h
  exact M.bind_some h
theorem s_for {tg it : Expr} {is : List Nat} {one : Bool} {ik : IK} {args : List Ex} {body : List Stmt} {Bs : List SB.St} (hp : PassesOwn (model X.prog X.w) X.A X.env X.xe) (hc : X.calm = true) (hi : PI X tg it (iD X.K ik (tAk Φ X.K args))) (hg : PG X tg (gTg X.K is one)) (hb : PSs X body (tSs Φ X.K Bs))
    (hs : ∀ x, foldedSetIterable it X.env x = pure x) : PS X (.For tg it body [] pos) (tS Φ X.K (.for is one ik args Bs)) := by
  refine ⟨fun pins s σ H Dn I hw => ?_⟩
  obtain ⟨Se, Ge, He, S, c, ρ, G, sr, fl, c', hev, q⟩ := hw
  simp only [ex] at hev
  replace hev := M.bind_some hev
  obtain ⟨ds, c1, h1, hev⟩ := hev
  replace hev := M.bind_some hev
  obtain ⟨xs, c2, h2, hev⟩ := hev
  replace h2 := ofO2 h2
  obtain ⟨h2, e2⟩ := h2
  subst e2
  refine (ps_for hp hc hi hg hb hs).run pins s σ H Dn I ⟨Se, Ge, He, S, c, ρ, G, sr, ds, _, h1, fun vs G1 H1 n1 hd => ⟨G1, ds, xs, n1.sub, dq_vwA n1.sub hd, h2, fun J jd hsz => ?_⟩⟩
  refine ⟨fun i m σ1 H2 => m = xs.length - i ∧ i ≤ xs.length ∧ ∃ S1 c3 ρ1 G2, SR X.K Se Ge He S1 c3 ρ1 σ1 G2 H2 ∧ Same G1 G2 ∧ loop (fun d ρ => do
      let ρ1 ← ofO (bindT one is d ρ)
      exs Φ Bs ρ1) (xs.drop i) ρ1 c3 = some (fl, c'), ⟨xs.length, rfl, Nat.zero_le _, S, _, ρ, G1, sr.step n1, Same.refl _, hev⟩, ?_⟩
  rintro i m σ1 H2 ⟨rfl, hix, S1, c3, ρ1, G2, sr2, g2, hlp⟩
  have hvw : VwA X.K G2 H2 vs ds := dq_vwA sr2.sub (dpAll_mono g2 _ hd)
  by_cases hlx : i < xs.length
  · have hd0 : xs[i]? = some xs[i] := List.getElem?_eq_getElem hlx
    rw [List.drop_eq_getElem_cons hlx] at hlp
    obtain ⟨r, c4, hf, hlp⟩ := loop_cons hlp
    replace hf := M.bind_some hf
    obtain ⟨ρ2, c5, hb0, hf⟩ := hf
    replace hb0 := ofO2 hb0
    obtain ⟨hb0, e5⟩ := hb0
    subst e5
    refine .inr ⟨jd.go i G2 H2 sr2.sub hvw hlx, fun σ' H' => ∃ S' ρ' G', r = .nx ρ' ∧ SR X.K Se Ge He S' c4 ρ' σ' G' H' ∧ Same G1 G', fun σ' H' h' => ?_, fun x H3 y => ?_⟩
    · obtain ⟨S', ρ', G', rfl, sr', g'⟩ := h'
      exact ⟨xs.length - (i + 1), by omega, rfl, by omega, S', c4, ρ', G', sr', g', hlp⟩
    · obtain ⟨d, G3, hd1, hn3, hdx⟩ := jd.yld i G2 H2 x H3 sr2.sub hvw y hlx
      rw [hd0] at hd1
      cases hd1
      have n3 := hn3 S1 _ sr2.sta
      refine (sr2.step n3).target hdx hb0 fun σ2 sr3 hσ2 => ?_
      refine ⟨Se, Ge, He, S1, _, ρ2, G3, sr3, r, c4, hf, ?_⟩
      cases r with
      | nx ρ' => exact fun S' σ' G' H' sr' g' => ⟨S', ρ', G', rfl, sr', g2.trans (n3.kp.kg.trans g')⟩
      | rt v =>
        cases hlp
        exact q
  · have ei : i = xs.length := by omega
    subst ei
    rw [List.drop_length] at hlp
    cases hlp
    exact .inl ⟨jd.stop _ G2 H2 sr2.sub hvw (Nat.le_refl _), q _ _ _ _ sr2 (n1.kp.kg.trans g2)⟩
end
end SB
/-! The text of a def is that of the small language: a check by evaluation, and what follows from it. -/
namespace SB
open PySem PySem.Spec PyProof.Rows L2

abbrev Sc := List (Str × NameKind)
def visB (sc : Sc) (x : Str) : Bool := match sc.lookup x with
  | some .local => true
  | some .cell => true
  | some .free => true
  | _ => false
def locB (sc : Sc) (x : Str) : Bool := match sc.lookup x with
  | some .local => true
  | some .cell => true
  | _ => false
def glB (sc : Sc) (x : Str) : Bool := match sc.lookup x with
  | some .globalImplicit => true
  | _ => false
def nmB (x : Str) : Bool := !(x == ("__debug__" : Str)) && !(x == ("__classdict__" : Str))
def varB (N : List Str) (sc : Sc) (i : Nat) (x : Str) : Bool := decide (N[i]? = some x) && visB sc x && nmB x
def tgB (N : List Str) (sc : Sc) (i : Nat) (x : Str) : Bool := decide (N[i]? = some x) && locB sc x
def namesB (N : List Str) (sc : Sc) : List Nat → List Expr → Bool
  | [], [] => true
  | i :: is, .Name x _ :: es => tgB N sc i x && namesB N sc is es
  | _, _ => false
def targetB (N : List Str) (sc : Sc) (is : List Nat) (one : Bool) : Expr → Bool
  | .Name x _ => one && (match is with
    | [i] => tgB N sc i x
    | _ => false)
  | .Tuple es _ _ => !one && namesB N sc is es
  | _ => false
def dispB : List (Str × Int) → List (Option Expr) → List Expr → Bool
  | [], [], [] => true
  | (x, i) :: l, some (.Constant (.str y) _ _) :: ks, .Constant (.int j) _ _ :: vs => decide (x = y) && decide (i = j) && dispB l ks vs
  | _, _, _ => false
def ownN (N : List Str) (own : List Nat) : List (Str × Nat) := own.map fun i => (N.getD i default, i)
/-- the names of a comprehension's block -/
def blkB (N : List Str) (sc : Sc) (scope : Scope) (own : List (Str × Nat)) : Bool :=
  decide (scope.kind = .function) && (scope.names.all fun y => decide (scope.names.lookup y.1 = some y.2)) && (own.all fun p => decide (N[p.2]? = some p.1)) &&
    (scope.names.all fun y => match y.2 with
      | .free => (match sc.lookup y.1 with | some .cell => true | some .free => true | _ => false)
      | .local => decide (y.1 ∈ own.map (·.1)) || decide (y.1 ∉ N)
      | .cell => decide (y.1 ∈ own.map (·.1)) || decide (y.1 ∉ N)
      | _ => true)
/-- what a loop walks: the expressions that are evaluated -/
def itArgs (sc : Sc) : IK → Bool → Expr → Option (List Expr)
  | .seq, _, x => some [x]
  | .range, _, .Call (.Name x _) (y :: ys) [] _ => if decide (x = "range") && glB sc x then some (y :: ys) else none
  | .enum, one, .Call (.Name x _) [y] [] _ => if !one && decide (x = "enumerate") && glB sc x then some [y] else none
  | .zip, one, .Call (.Name x _) [y, z] [] _ => if !one && decide (x = "zip") && glB sc x then some [y, z] else none
  | _, _, _ => none
/-- may stand as a test -/
def tOk : Ex → Bool
  | .ife _ _ _ => false
  | .and a b => tOk a && tOk b
  | .or a b => tOk a && tOk b
  | .not a => tOk a
  | _ => true
mutual
def mE (N : List Str) (sc : Sc) : Ex → Expr → Bool
  | .non, .Constant .none _ _ => true
  | .bl b, .Constant (.bool c) _ _ => decide (b = c)
  | .int i, .Constant (.int j) _ _ => decide (i = j)
  | .str x, .Constant (.str y) _ _ => decide (x = y)
  | .v i, .Name x _ => varB N sc i x
  | .lenS i, .Call (.Name x _) [.Name y _] [] _ => decide (x = "len") && glB sc x && varB N sc i y
  | .gl x, .Name y _ => decide (x = y) && glB sc x && nmB x
  | .tup es, .Tuple fs _ _ => mEs N sc es fs
  | .lst es, .List fs _ => mEs N sc es fs
  | .bin o a b, .BinOp l op r _ => decide (o = op) && mE N sc a l && mE N sc b r
  | .not a, .UnaryOp .Not x _ => mE N sc a x
  | .neg a, .UnaryOp .USub x _ => mE N sc a x
  | .and a b, .BoolOp .And (x :: y :: rest) pos => mE N sc a x && (match rest with
    | [] => mE N sc b y
    | z :: r => mE N sc b (.BoolOp .And (y :: z :: r) pos))
  | .or a b, .BoolOp .Or (x :: y :: rest) pos => mE N sc a x && (match rest with
    | [] => mE N sc b y
    | z :: r => mE N sc b (.BoolOp .Or (y :: z :: r) pos))
  | .cmp o a b, .Compare l [op] [r] _ => decide (o = op) && mE N sc a l && mE N sc b r && !behindInMarks op r
  | .chain o o' a b c, .Compare l [op, op'] [m, r] _ => decide (o = op) && decide (o' = op') && mE N sc a l && mE N sc b m && mE N sc c r && !lastMarks [op, op'] [m, r]
  | .ife c a b, .IfExp t x y _ => mE N sc c t && tOk c && mE N sc a x && mE N sc b y
  | .call f es, .Call (.Name x _) (y :: ys) [] _ => decide (f = x) && glB sc x && nmB x && mEs N sc es (y :: ys)
  | .blt f es, .Call (.Name x _) (y :: ys) [] _ => decide (f.nm = x) && glB sc x && mEs N sc es (y :: ys)
  | .isa a T, .Call (.Name x _) [y, .Name t _] [] _ => decide (x = "isinstance") && glB sc x && decide (t = Str.ofString T.nm) && glB sc t && mE N sc a y
  | .inG ng a x, .Compare l [op] [.Name y _] _ => decide (op = if ng then CmpOp.NotIn else CmpOp.In) && decide (x = y) && glB sc x && nmB x && mE N sc a l
  | .getG x a, .Subscript (.Name y _) s _ => decide (x = y) && glB sc x && nmB x && mE N sc a s
  | .dget l a b, .Call (.Attribute (.Dict ks vs _) m apos) [x, y] [] pos => decide (m = "get") && dispB l ks vs && decide (l ≠ []) && decide (l.length ≤ 15) && mE N sc a x && mE N sc b y && (apos.endLine == pos.line)
  | .rng l es, .Call (.Name x _) [.Call (.Name y _) fs [] _] [] _ => decide (x = (if l then ("list" : Str) else ("tuple" : Str))) && glB sc x && decide (y = "range") && glB sc y && mEs N sc es fs && decide (fs.length = 1 ∨ fs.length = 2)
  | .ix a i, .Subscript v s _ => mE N sc a v && mE N sc i s
  | .sl a lo hi, .Subscript v (.Slice l h none _) _ => mE N sc a v && mEs N sc lo l.toList && mEs N sc hi h.toList
  | .comp elt own tg one k args cond, .ListComp e [⟨t, it, ifs, as⟩] scope _ => decide (as = 0) && blkB N sc scope (ownN N own) && tg.all (fun i => decide (i ∈ own)) && targetB N scope.names tg one t && (match itArgs sc k one it with | some xs => mEs N sc args xs | none => false) && mEs N scope.names cond ifs && cond.all tOk && decide (cond.length ≤ 1) && mE N scope.names elt e
  | _, _ => false
def mEs (N : List Str) (sc : Sc) : List Ex → List Expr → Bool
  | [], [] => true
  | a :: as, x :: xs => mE N sc a x && mEs N sc as xs
  | _, _ => false
end
structure XOk (X : Cx) (Φ : Tab) (sc : Sc) (k : Nat) : Prop where
  calm : X.calm = true
  nd : X.N.Nodup
  room : Room k X.A
  tab : TabOk X.prog X.w X.K X.mg X.base k Φ
  vis : ∀ x, visB sc x = true → Vis X.env.scope x
  loc : ∀ x, locB sc x = true → Loc X.env.scope x ∧ (X.fn x = true ∨ X.env.scope.names.lookup x = some .local)
  gl : ∀ x, glB sc x = true → Gl X x
  fre : ∀ x, (sc.lookup x = some .cell ∨ sc.lookup x = some .free) → (X.env.scope.names.lookup x = some .cell ∨ X.env.scope.names.lookup x = some .free)
theorem XOk.hu {X : Cx} {Φ : Tab} {sc : Sc} {k : Nat} (x : XOk X Φ sc k) : X.A.units + 67 < cLine := by
  have := x.room.un
  omega
theorem relabel_lookup {env : Env} {x : Str} : ∀ names : Sc,
    (names.map fun (n, k) => if (k == NameKind.free && env.scope.kind == .function && env.kindOf n == some .cell) then (n, NameKind.cell) else (n, k)).lookup x =
      (names.lookup x).map fun k => if (k == NameKind.free && env.scope.kind == .function && env.kindOf x == some .cell) then NameKind.cell else k
  | [] => rfl
  | (n, k) :: r => by
    have ih := relabel_lookup (env := env) (x := x) r
    rw [List.map_cons]
    cases hx : x == n with
    | true =>
      have e : x = n := eq_of_beq hx
      subst e
      by_cases hc : (k == NameKind.free && env.scope.kind == .function && env.kindOf x == some .cell) = true
      · simp only [hc, if_true, List.lookup_cons, beq_self_eq_true, Option.map_some]
      · simp only [hc, if_false, List.lookup_cons, beq_self_eq_true, Option.map_some]
        simp
    | false =>
      by_cases hc : (k == NameKind.free && env.scope.kind == .function && env.kindOf n == some .cell) = true
      · simp only [hc, if_true, List.lookup_cons, hx]
        exact ih
      · simp only [hc, if_false, List.lookup_cons, hx]
        simpa [List.lookup_cons, hx] using ih
theorem XOk.blk {X : Cx} {Φ : Tab} {sc : Sc} {k : Nat} (x : XOk X Φ sc k) (s : Shared) (H : Hp) (scope : Scope) (C : Addr) (cl : List (Str × Addr)) (fp : List Addr) :
    XOk (X.blk s H scope (compEnvC scope cl C X.env) fp) Φ scope.names k := by
  have lk : ∀ y, (compEnvC scope cl C X.env).scope.names.lookup y = (scope.names.lookup y).map fun k => if (k == NameKind.free && X.env.scope.kind == .function && X.env.kindOf y == some .cell) then NameKind.cell else k := fun y => relabel_lookup scope.names
  refine ⟨x.calm, x.nd, x.room, x.tab, fun y h => ?_, fun y h => ?_, fun y h => ?_, fun y h => ?_⟩
  · unfold visB at h
    show Vis (compEnvC scope cl C X.env).scope y
    unfold Vis
    rw [lk y]
    split at h
    · rename_i e; rw [e]; exact .inl rfl
    · rename_i e; rw [e]; exact .inr (.inl rfl)
    · rename_i e
      rw [e, Option.map_some]
      by_cases hc : (NameKind.free == NameKind.free && X.env.scope.kind == .function && X.env.kindOf y == some .cell) = true
      · rw [if_pos hc]; exact .inr (.inl rfl)
      · rw [if_neg hc]; exact .inr (.inr rfl)
    · cases h
  · unfold locB at h
    show Loc (compEnvC scope cl C X.env).scope y ∧ ((scope.names.lookup y == some .cell) = true ∨ (compEnvC scope cl C X.env).scope.names.lookup y = some .local)
    unfold L2.Loc
    rw [lk y]
    split at h
    · rename_i e; rw [e]; exact ⟨.inl rfl, .inr rfl⟩
    · rename_i e; rw [e]; exact ⟨.inr rfl, .inl rfl⟩
    · cases h
  · unfold glB at h
    show (compEnvC scope cl C X.env).scope.names.lookup y = some .globalImplicit
    rw [lk y]
    split at h
    · rename_i e; rw [e]; rfl
    · cases h
  · show (compEnvC scope cl C X.env).scope.names.lookup y = some .cell ∨ (compEnvC scope cl C X.env).scope.names.lookup y = some .free
    rw [lk y]
    rcases h with e | e
    · rw [e]; exact .inl rfl
    · rw [e, Option.map_some]
      by_cases hc : (NameKind.free == NameKind.free && X.env.scope.kind == .function && X.env.kindOf y == some .cell) = true
      · rw [if_pos hc]; exact .inl rfl
      · rw [if_neg hc]; exact .inr rfl
theorem blkB_ok {X : Cx} {Φ : Tab} {sc : Sc} {k : Nat} {scope : Scope} {own : List (Str × Nat)} (x : XOk X Φ sc k) (h : blkB X.N sc scope own = true) : BlkOk X.N X.env.scope scope own := by
  unfold blkB at h
  simp only [Bool.and_eq_true, List.all_eq_true, decide_eq_true_eq] at h
  obtain ⟨⟨⟨h1, h2⟩, h3⟩, h4⟩ := h
  refine ⟨h1, h2, h3, fun y hy e => ?_, fun y hy e => ?_⟩
  · have q := h4 y hy
    simp only [e] at q
    split at q
    · exact x.fre _ (.inl (by assumption))
    · exact x.fre _ (.inr (by assumption))
    · cases q
  · have q := h4 y hy
    rcases e with e | e <;> (simp only [e, Bool.or_eq_true, decide_eq_true_eq] at q; exact q)
section
variable {X : Cx} {Φ : Tab} {sc : Sc} {k : Nat}
theorem tgB_ok (x : XOk X Φ sc k) {i : Nat} {y : Str} (h : tgB X.N sc i y = true) : X.N[i]? = some y ∧ Loc X.env.scope y ∧ (X.fn y = true ∨ X.env.scope.names.lookup y = some .local) := by
  unfold tgB at h
  rw [Bool.and_eq_true, decide_eq_true_eq] at h
  exact ⟨h.1, x.loc y h.2⟩
theorem namesB_ok (x : XOk X Φ sc k) : ∀ {is : List Nat} {es : List Expr}, namesB X.N sc is es = true → NamesE X es is
  | [], [], _ => .nil
  | i :: is, .Name y _ :: es, h => by
    unfold namesB at h
    rw [Bool.and_eq_true] at h
    obtain ⟨h1, h2, h3⟩ := tgB_ok x h.1
    exact .cons h1 h2 h3 (namesB_ok x h.2)
  | [], _ :: _, h => by simp [namesB] at h
  | _ :: _, [], h => by simp [namesB] at h
  | i :: is, e :: es, h => by
    cases e <;> first | (simp [namesB] at h; done) | skip
    rename_i y p
    unfold namesB at h
    rw [Bool.and_eq_true] at h
    obtain ⟨h1, h2, h3⟩ := tgB_ok x h.1
    exact .cons h1 h2 h3 (namesB_ok x h.2)
theorem targetB_ok (x : XOk X Φ sc k) {is : List Nat} {one : Bool} {t : Expr} (h : targetB X.N sc is one t = true) : TgE X t is one := by
  unfold targetB at h
  split at h
  · rw [Bool.and_eq_true] at h
    obtain ⟨h0, h⟩ := h
    subst h0
    split at h
    · obtain ⟨h1, h2, h3⟩ := tgB_ok x h
      exact .one h1 h2 h3
    · cases h
  · rw [Bool.and_eq_true, Bool.not_eq_true'] at h
    obtain ⟨h0, h⟩ := h
    subst h0
    exact .tup (namesB_ok x h)
  · cases h
theorem dispB_ok : ∀ {l : List (Str × Int)} {ks : List (Option Expr)} {vs : List Expr}, dispB l ks vs = true → DispE ks vs l := by
  intro l
  induction l with
  | nil =>
    intro ks vs h
    cases ks with
    | nil => cases vs with
      | nil => exact .nil
      | cons _ _ => simp [dispB] at h
    | cons _ _ => simp [dispB] at h
  | cons p l ih =>
    intro ks vs h
    obtain ⟨x, i⟩ := p
    unfold dispB at h
    split at h
    · rename_i e3; cases e3
    · rename_i x' i' l' y k1 p1 ks' j k2 p2 vs' e1
      cases e1
      simp only [Bool.and_eq_true, decide_eq_true_eq] at h
      obtain ⟨⟨rfl, rfl⟩, h⟩ := h
      exact .cons (ih h)
    · cases h
/-- what is known of an expression that was checked -/
structure SndE (Φ : Tab) (X : Cx) (E : Ex) (e : Expr) : Prop where
  pe : PE X e (tE Φ X.K E)
  pt : tOk E = true → PT X e (tT Φ X.K E)
  pw : tOk E = true → ∀ op vs p, e = .BoolOp op vs p → PW X e (tT Φ X.K E)
  st : ∀ es, starEach (e :: es) X.env = (false, eval e X.env) :: starEach es X.env
  px : PlainIx e
  fs : ∀ x, foldedSetIterable e X.env x = pure x
theorem SndE.val {E : Ex} {e : Expr} (h : PE X e (tE Φ X.K E)) (hp : ∀ whole, isTrue e X.env whole = (do let v ← whole; standAt e.pos; holding [v] (truthy v))) (hb : ∀ op vs p, e ≠ .BoolOp op vs p)
    (st : ∀ es, starEach (e :: es) X.env = (false, eval e X.env) :: starEach es X.env) (px : PlainIx e) (fs : ∀ x, foldedSetIterable e X.env x = pure x) : SndE Φ X E e :=
  ⟨h, fun _ => t_val h hp, fun _ op vs p z => absurd z (hb op vs p), st, px, fs⟩
/-- a list of expressions -/
inductive SndL (Φ : Tab) (X : Cx) : List Ex → List Expr → Prop
  | nil : SndL Φ X [] []
  | cons {E : Ex} {e : Expr} {Es : List Ex} {es : List Expr} : SndE Φ X E e → SndL Φ X Es es → SndL Φ X (E :: Es) (e :: es)
theorem SndL.ar {Es : List Ex} {es : List Expr} (h : SndL Φ X Es es) : PA X es (tAr Φ X.K Es) := by
  induction h with
  | nil => exact ar_nil
  | cons h _ ih => exact ar_cons h.pe ih (h.st _)
theorem SndL.ak {Es : List Ex} {es : List Expr} (h : SndL Φ X Es es) : PA X es (tAk Φ X.K Es) := by
  induction h with
  | nil => exact ak_nil
  | cons h _ ih => exact ak_cons h.pe ih (h.st _)
theorem SndL.aa {Es : List Ex} {es : List Expr} (h : SndL Φ X Es es) : PA X es (tAa Φ X.K Es) := by
  induction h with
  | nil => exact aa_nil
  | cons h _ ih => exact aa_cons h.pe ih (h.st _)
theorem SndL.plain {Es : List Ex} {es : List Expr} (h : SndL Φ X Es es) (pos : Pos) : (backTo pos (starEach es X.env)).any (·.1) = false := by
  induction h with
  | nil => rfl
  | cons h _ ih =>
    rw [h.st]
    show (false || (backTo pos (starEach _ X.env)).any (·.1)) = false
    rw [Bool.false_or]
    exact ih
theorem SndL.hst {Es : List Ex} {y : Expr} {ys : List Expr} (h : SndL Φ X Es (y :: ys)) : starEach (y :: ys) X.env = (false, eval y X.env) :: starEach ys X.env := by
  cases h with
  | cons h1 _ => exact h1.st _
theorem SndL.hpl {Es : List Ex} {y : Expr} {ys : List Expr} (h : SndL Φ X Es (y :: ys)) (p : Pos) : (backTo p (starEach ys X.env)).any (·.1) = false := by
  cases h with
  | cons _ h2 => exact h2.plain p
end
theorem andT {a b : Bool} (h : (a && b) = true) : a = true ∧ b = true := by
  rw [Bool.and_eq_true] at h
  exact h
theorem notF {a : Bool} (h : (!a) = true) : a = false := by
  cases a with
  | true => cases h
  | false => rfl
theorem SndE.one {Φ : Tab} {X : Cx} {E : Ex} {e : Expr} {op : BoolOp} {pos : Pos} (h : SndE Φ X E e) : PE X (.BoolOp op [e] pos) (tE Φ X.K E) := pe_one h.pe
theorem pi_ok {Φ : Tab} {X : Cx} {sc : Sc} {k : Nat} {ik : IK} {one : Bool} {it tx : Expr} {xs : List Expr} {args : List Ex} {tg : List Nat} (x : XOk X Φ sc k) (h : itArgs sc ik one it = some xs) (hl : SndL Φ X args xs) (ht : one = false → ∃ es kk p, tx = .Tuple es kk p) :
    PI X tx it (iD X.K ik (tAr Φ X.K args)) ∧ PI X tx it (iD X.K ik (tAk Φ X.K args)) ∧ ∀ y, foldedSetIterable it X.env y = pure y := by
  have m : ∀ y, y ∈ bltNames → X.mg y = none := x.tab.bl
  unfold itArgs at h
  split at h
  · cases h
    cases hl with
    | cons h1 h2 =>
      cases h2
      exact ⟨pi_seqR h1.pe, pi_seqK h1.pe, h1.fs⟩
  · split at h
    · rename_i hz
      obtain ⟨h1, h2⟩ := andT hz
      have e1 := of_decide_eq_true h1
      subst e1
      cases h
      exact ⟨pi_rngD (x.gl _ h2) (m _ (by decide +kernel)) hl.ar hl.hst (hl.hpl _), pi_rngD (x.gl _ h2) (m _ (by decide +kernel)) hl.ak hl.hst (hl.hpl _), fun _ => rfl⟩
    · cases h
  · split at h
    · rename_i hz
      obtain ⟨h1, h2⟩ := andT hz
      obtain ⟨h0, h1⟩ := andT h1
      obtain ⟨es, kk, p, rfl⟩ := ht (notF h0)
      have e1 := of_decide_eq_true h1
      subst e1
      cases h
      exact ⟨pi_enumD (x.gl _ h2) (m _ (by decide +kernel)) hl.ar hl.hst, pi_enumD (x.gl _ h2) (m _ (by decide +kernel)) hl.ak hl.hst, fun _ => rfl⟩
    · cases h
  · split at h
    · rename_i hz
      obtain ⟨h1, h2⟩ := andT hz
      obtain ⟨h0, h1⟩ := andT h1
      obtain ⟨es, kk, p, rfl⟩ := ht (notF h0)
      have e1 := of_decide_eq_true h1
      subst e1
      cases h
      exact ⟨pi_zipD (x.gl _ h2) (m _ (by decide +kernel)) hl.ar hl.hst (hl.hpl _), pi_zipD (x.gl _ h2) (m _ (by decide +kernel)) hl.ak hl.hst (hl.hpl _), fun _ => rfl⟩
    · cases h
  · cases h
theorem target_tup {N : List Str} {sc : Sc} {is : List Nat} {one : Bool} {t : Expr} (h : targetB N sc is one t = true) : one = false → ∃ es kk p, t = .Tuple es kk p := by
  intro e
  subst e
  unfold targetB at h
  split at h
  · cases h
  · exact ⟨_, _, _, rfl⟩
  · cases h
theorem nmB_ok {x : Str} (h : nmB x = true) : (x == ("__debug__" : Str)) = false ∧ (x == ("__classdict__" : Str)) = false := by
  obtain ⟨h1, h2⟩ := andT h
  exact ⟨notF h1, notF h2⟩
set_option maxHeartbeats 4000000 in
mutual
theorem sndE (Φ : Tab) (k : Nat) : ∀ (E : Ex) (X : Cx) (sc : Sc) (e : Expr), XOk X Φ sc k → mE X.N sc E e = true → SndE Φ X E e
  | .non, X, sc, e, x, h => by
    cases e with
    | Constant c j p =>
      cases c with
      | none => exact .val (e_const pe_non (fun _ => .non) fun _ => by simp only [ev]) (fun _ => rfl) (fun _ _ _ z => nomatch z) (fun _ => rfl) (fun _ _ => rfl) (fun _ => rfl)
      | _ => simp [mE] at h
    | _ => simp [mE] at h
  | .bl b, X, sc, e, x, h => by
    cases e with
    | Constant c j p =>
      cases c with
      | bool b' =>
        simp only [mE, decide_eq_true_eq] at h
        subst h
        exact .val (e_const pe_bl (fun _ => .bl _) fun _ => by simp only [ev]) (fun _ => rfl) (fun _ _ _ z => nomatch z) (fun _ => rfl) (fun _ _ => rfl) (fun _ => rfl)
      | _ => simp [mE] at h
    | _ => simp [mE] at h
  | .int i, X, sc, e, x, h => by
    cases e with
    | Constant c j p =>
      cases c with
      | int i' =>
        simp only [mE, decide_eq_true_eq] at h
        subst h
        exact .val (e_const pe_int (fun _ => .int _) fun _ => by simp only [ev]) (fun _ => rfl) (fun _ _ _ z => nomatch z) (fun _ => rfl) (fun _ _ => rfl) (fun _ => rfl)
      | _ => simp [mE] at h
    | _ => simp [mE] at h
  | .str y, X, sc, e, x, h => by
    cases e with
    | Constant c j p =>
      cases c with
      | str z =>
        simp only [mE, decide_eq_true_eq] at h
        subst h
        exact .val (e_const pe_str (fun _ => .str _) fun _ => by simp only [ev]) (fun _ => rfl) (fun _ _ _ z => nomatch z) (fun _ => rfl) (fun _ _ => rfl) (fun _ => rfl)
      | _ => simp [mE] at h
    | _ => simp [mE] at h
  | .v i, X, sc, e, x, h => by
    cases e with
    | Name y p =>
      simp only [mE, varB] at h
      obtain ⟨h1, h2⟩ := andT h
      obtain ⟨h1, h3⟩ := andT h1
      obtain ⟨h4, h5⟩ := nmB_ok h2
      exact .val (e_var (pe_var (of_decide_eq_true h1) (x.vis _ h3) h4 h5)) (fun _ => rfl) (fun _ _ _ z => nomatch z) (fun _ => rfl) (fun _ _ => rfl) (fun _ => rfl)
    | _ => simp [mE] at h
  | .gl y, X, sc, e, x, h => by
    cases e with
    | Name z p =>
      simp only [mE] at h
      obtain ⟨h1, h2⟩ := andT h
      obtain ⟨h1, h3⟩ := andT h1
      have e1 := of_decide_eq_true h1
      subst e1
      exact .val (e_gl x.tab (x.gl _ h3) (nmB_ok h2).1) (fun _ => rfl) (fun _ _ _ z => nomatch z) (fun _ => rfl) (fun _ _ => rfl) (fun _ => rfl)
    | _ => simp [mE] at h
  | .tup es, X, sc, e, x, h => by
    cases e with
    | Tuple fs j p =>
      simp only [mE] at h
      exact .val (e_tup (sndL Φ k es X sc fs x h).ak) (fun _ => rfl) (fun _ _ _ z => nomatch z) (fun _ => rfl) (fun _ _ => rfl) (fun _ => rfl)
    | _ => simp [mE] at h
  | .lst es, X, sc, e, x, h => by
    cases e with
    | List fs p =>
      simp only [mE] at h
      exact .val (e_lst (sndL Φ k es X sc fs x h).ak) (fun _ => rfl) (fun _ _ _ z => nomatch z) (fun _ => rfl) (fun _ _ => rfl) (fun _ => rfl)
    | _ => simp [mE] at h
  | .bin o a b, X, sc, e, x, h => by
    cases e with
    | BinOp l op r p =>
      simp only [mE] at h
      obtain ⟨h1, h2⟩ := andT h
      obtain ⟨h1, h3⟩ := andT h1
      have e1 := of_decide_eq_true h1
      subst e1
      exact .val (e_bin (sndE Φ k a X sc l x h3).pe (sndE Φ k b X sc r x h2).pe) (fun _ => rfl) (fun _ _ _ z => nomatch z) (fun _ => rfl) (fun _ _ => rfl) (fun _ => rfl)
    | _ => simp [mE] at h
  | .not a, X, sc, e, x, h => by
    cases e with
    | UnaryOp op y p =>
      cases op with
      | Not =>
        simp only [mE] at h
        have h1 := sndE Φ k a X sc y x h
        exact ⟨e_not h1.pe, fun t => t_not (h1.pt t), fun _ _ _ _ z => (nomatch z), fun _ => rfl, fun _ _ => rfl, fun _ => rfl⟩
      | _ => simp [mE] at h
    | _ => simp [mE] at h
  | .neg a, X, sc, e, x, h => by
    cases e with
    | UnaryOp op y p =>
      cases op with
      | USub =>
        simp only [mE] at h
        exact .val (e_neg (sndE Φ k a X sc y x h).pe) (fun _ => rfl) (fun _ _ _ z => nomatch z) (fun _ => rfl) (fun _ _ => rfl) (fun _ => rfl)
      | _ => simp [mE] at h
    | _ => simp [mE] at h
  | .and a b, X, sc, e, x, h => by
    cases e with
    | BoolOp op vs p =>
      cases op with
      | And =>
        match vs, h with
        | [y, z], h =>
          simp only [mE] at h
          obtain ⟨h1, h2⟩ := andT h
          have s1 := sndE Φ k a X sc y x h1
          have s2 := sndE Φ k b X sc z x h2
          have pw : tOk (.and a b) = true → PW X (.BoolOp .And [y, z] p) (tT Φ X.K (.and a b)) := fun t => by
            obtain ⟨t1, t2⟩ := andT (show (tOk a && tOk b) = true from t)
            exact t_and (s1.pt t1) (pw_and1 (s2.pt t2))
          exact ⟨e_and s1.pe (pe_one s2.pe), fun t => (pw t).pt, fun t _ _ _ _ => pw t, fun _ => rfl, fun _ _ => rfl, fun _ => rfl⟩
        | y :: z :: w :: r, h =>
          simp only [mE] at h
          obtain ⟨h1, h2⟩ := andT h
          have s1 := sndE Φ k a X sc y x h1
          have s2 := sndE Φ k b X sc (.BoolOp .And (z :: w :: r) p) x h2
          have pw : tOk (.and a b) = true → PW X (.BoolOp .And (y :: z :: w :: r) p) (tT Φ X.K (.and a b)) := fun t => by
            obtain ⟨t1, t2⟩ := andT (show (tOk a && tOk b) = true from t)
            exact t_and (s1.pt t1) (s2.pw t2 _ _ _ rfl)
          exact ⟨e_and s1.pe s2.pe, fun t => (pw t).pt, fun t _ _ _ _ => pw t, fun _ => rfl, fun _ _ => rfl, fun _ => rfl⟩
        | [], h => simp [mE] at h
        | [_], h => simp [mE] at h
      | Or => simp [mE] at h
    | _ => simp [mE] at h
  | .or a b, X, sc, e, x, h => by
    cases e with
    | BoolOp op vs p =>
      cases op with
      | Or =>
        match vs, h with
        | [y, z], h =>
          simp only [mE] at h
          obtain ⟨h1, h2⟩ := andT h
          have s1 := sndE Φ k a X sc y x h1
          have s2 := sndE Φ k b X sc z x h2
          have pw : tOk (.or a b) = true → PW X (.BoolOp .Or [y, z] p) (tT Φ X.K (.or a b)) := fun t => by
            obtain ⟨t1, t2⟩ := andT (show (tOk a && tOk b) = true from t)
            exact t_or (s1.pt t1) (pw_or1 (s2.pt t2))
          exact ⟨e_or s1.pe (pe_one s2.pe), fun t => (pw t).pt, fun t _ _ _ _ => pw t, fun _ => rfl, fun _ _ => rfl, fun _ => rfl⟩
        | y :: z :: w :: r, h =>
          simp only [mE] at h
          obtain ⟨h1, h2⟩ := andT h
          have s1 := sndE Φ k a X sc y x h1
          have s2 := sndE Φ k b X sc (.BoolOp .Or (z :: w :: r) p) x h2
          have pw : tOk (.or a b) = true → PW X (.BoolOp .Or (y :: z :: w :: r) p) (tT Φ X.K (.or a b)) := fun t => by
            obtain ⟨t1, t2⟩ := andT (show (tOk a && tOk b) = true from t)
            exact t_or (s1.pt t1) (s2.pw t2 _ _ _ rfl)
          exact ⟨e_or s1.pe s2.pe, fun t => (pw t).pt, fun t _ _ _ _ => pw t, fun _ => rfl, fun _ _ => rfl, fun _ => rfl⟩
        | [], h => simp [mE] at h
        | [_], h => simp [mE] at h
      | And => simp [mE] at h
    | _ => simp [mE] at h
  | .cmp o a b, X, sc, e, x, h => by
    cases e with
    | Compare l ops cs p =>
      match ops, cs, h with
      | [op], [r], h =>
        simp only [mE] at h
        obtain ⟨h1, h2⟩ := andT h
        obtain ⟨h1, h3⟩ := andT h1
        obtain ⟨h1, h4⟩ := andT h1
        have e1 := of_decide_eq_true h1
        subst e1
        have s1 := sndE Φ k a X sc l x h4
        have s2 := sndE Φ k b X sc r x h3
        have hu := x.hu
        exact ⟨e_cmp (by omega) s1.pe s2.pe (notF h2), fun _ => t_cmp (by omega) s1.pe s2.pe (notF h2), fun _ _ _ _ z => (nomatch z), fun _ => rfl, fun _ _ => rfl, fun _ => rfl⟩
      | [], _, h => simp [mE] at h
      | [_], [], h => simp [mE] at h
      | [_], _ :: _ :: _, h => simp [mE] at h
      | _ :: _ :: _, _, h => simp [mE] at h
    | _ => simp [mE] at h
  | .chain o o' a b c, X, sc, e, x, h => by
    cases e with
    | Compare l ops cs p =>
      match ops, cs, h with
      | [op, op'], [m, r], h =>
        simp only [mE] at h
        obtain ⟨h1, h2⟩ := andT h
        obtain ⟨h1, h3⟩ := andT h1
        obtain ⟨h1, h4⟩ := andT h1
        obtain ⟨h1, h5⟩ := andT h1
        obtain ⟨h1, h6⟩ := andT h1
        have e1 := of_decide_eq_true h1
        subst e1
        have e2 := of_decide_eq_true h6
        subst e2
        have s1 := sndE Φ k a X sc l x h5
        have s2 := sndE Φ k b X sc m x h4
        have s3 := sndE Φ k c X sc r x h3
        have hu := x.hu
        exact ⟨e_chain (by omega) s1.pe s2.pe s3.pe (notF h2), fun _ => t_chain (by omega) s1.pe s2.pe s3.pe (notF h2), fun _ _ _ _ z => (nomatch z), fun _ => rfl, fun _ _ => rfl, fun _ => rfl⟩
      | [], _, h => simp [mE] at h
      | [_], _, h => simp [mE] at h
      | [_, _], [], h => simp [mE] at h
      | [_, _], [_], h => simp [mE] at h
      | [_, _], _ :: _ :: _ :: _, h => simp [mE] at h
      | _ :: _ :: _ :: _, _, h => simp [mE] at h
    | _ => simp [mE] at h
  | .ife c a b, X, sc, e, x, h => by
    cases e with
    | IfExp t y z p =>
      simp only [mE] at h
      obtain ⟨h1, h2⟩ := andT h
      obtain ⟨h1, h3⟩ := andT h1
      obtain ⟨h1, h4⟩ := andT h1
      have s1 := sndE Φ k c X sc t x h1
      exact ⟨e_ife (s1.pt h4) (sndE Φ k a X sc y x h3).pe (sndE Φ k b X sc z x h2).pe, fun t => by simp [tOk] at t, fun t => by simp [tOk] at t, fun _ => rfl, fun _ _ => rfl, fun _ => rfl⟩
    | _ => simp [mE] at h
  | .call f es, X, sc, e, x, h => by
    cases e with
    | Call fn as kws p =>
      cases fn with
      | Name y p2 =>
        match as, kws, h with
        | z :: zs, [], h =>
          simp only [mE] at h
          obtain ⟨h1, h2⟩ := andT h
          obtain ⟨h1, h3⟩ := andT h1
          obtain ⟨h1, h4⟩ := andT h1
          have e1 := of_decide_eq_true h1
          subst e1
          have hl := sndL Φ k es X sc (z :: zs) x h2
          exact .val (e_call x.tab x.room (x.gl _ h4) (nmB_ok h3).1 hl.aa hl.hst (hl.hpl _)) (fun _ => rfl) (fun _ _ _ z => nomatch z) (fun _ => rfl) (fun _ _ => rfl) (fun _ => rfl)
        | [], _, h => simp [mE] at h
        | _ :: _, _ :: _, h => simp [mE] at h
      | _ => simp [mE] at h
    | _ => simp [mE] at h
  | .blt f es, X, sc, e, x, h => by
    cases e with
    | Call fn as kws p =>
      cases fn with
      | Name y p2 =>
        match as, kws, h with
        | z :: zs, [], h =>
          simp only [mE] at h
          obtain ⟨h1, h2⟩ := andT h
          obtain ⟨h1, h3⟩ := andT h1
          have e1 := of_decide_eq_true h1
          subst e1
          have hl := sndL Φ k es X sc (z :: zs) x h2
          exact .val (e_blt x.tab x.calm x.hu (x.gl _ h3) hl.ar hl.hst (hl.hpl _)) (fun _ => rfl) (fun _ _ _ z => nomatch z) (fun _ => rfl) (fun _ _ => rfl) (fun _ => rfl)
        | [], _, h => simp [mE] at h
        | _ :: _, _ :: _, h => simp [mE] at h
      | _ => simp [mE] at h
    | _ => simp [mE] at h
  | .lenS i, X, sc, e, x, h => by
    cases e with
    | Call fn as kws p =>
      cases fn with
      | Name y p2 =>
        match as, kws, h with
        | [w], [], h =>
          cases w with
          | Name z p3 =>
            simp only [mE] at h
            obtain ⟨h1, h2⟩ := andT h
            obtain ⟨h1, h3⟩ := andT h1
            have e1 := of_decide_eq_true h1
            subst e1
            have pv : PE X (.Name z p3) (tVar i) := by
              unfold varB at h2
              obtain ⟨g1, g3⟩ := andT h2
              obtain ⟨g1, g2⟩ := andT g1
              obtain ⟨g4, g5⟩ := nmB_ok g3
              exact pe_var (of_decide_eq_true g1) (x.vis _ g2) g4 g5
            exact .val (e_lenS x.tab (x.gl _ h3) pv rfl) (fun _ => rfl) (fun _ _ _ z => nomatch z) (fun _ => rfl) (fun _ _ => rfl) (fun _ => rfl)
          | _ => simp [mE] at h
        | [], _, h => simp [mE] at h
        | w :: _ :: _, _, h => cases w <;> simp [mE] at h
        | [w], _ :: _, h => cases w <;> simp [mE] at h
      | _ => simp [mE] at h
    | _ => simp [mE] at h
  | .isa a T, X, sc, e, x, h => by
    cases e with
    | Call fn as kws p =>
      cases fn with
      | Name y p2 =>
        match as, kws, h with
        | [z, w], [], h =>
          cases w with
          | Name t p3 =>
            simp only [mE] at h
            obtain ⟨h1, h2⟩ := andT h
            obtain ⟨h1, h3⟩ := andT h1
            obtain ⟨h1, h4⟩ := andT h1
            obtain ⟨h1, h5⟩ := andT h1
            have e1 := of_decide_eq_true h1
            subst e1
            have e2 := of_decide_eq_true h4
            subst e2
            have s1 := sndE Φ k a X sc z x h2
            exact .val (e_isa x.tab (x.gl _ h5) (x.gl _ h3) s1.pe (s1.st _)) (fun _ => rfl) (fun _ _ _ z => nomatch z) (fun _ => rfl) (fun _ _ => rfl) (fun _ => rfl)
          | _ => simp [mE] at h
        | [], _, h => simp [mE] at h
        | [_], _, h => simp [mE] at h
        | _ :: _ :: _ :: _, _, h => simp [mE] at h
        | [_, w], _ :: _, h => cases w <;> simp [mE] at h
      | _ => simp [mE] at h
    | _ => simp [mE] at h
  | .inG ng a y, X, sc, e, x, h => by
    cases e with
    | Compare l ops cs p =>
      match ops, cs, h with
      | [op], [w], h =>
        cases w with
        | Name z p2 =>
          simp only [mE] at h
          obtain ⟨h1, h2⟩ := andT h
          obtain ⟨h1, h3⟩ := andT h1
          obtain ⟨h1, h4⟩ := andT h1
          obtain ⟨h1, h5⟩ := andT h1
          have e1 := of_decide_eq_true h1
          subst e1
          have e2 := of_decide_eq_true h5
          subst e2
          have s1 := sndE Φ k a X sc l x h2
          obtain ⟨g1, g2⟩ := e_inG (ng := ng) (pos := p) (p1 := p2) x.tab (x.gl _ h4) (nmB_ok h3).1 s1.pe
          exact ⟨g1, fun _ => g2, fun _ _ _ _ z => (nomatch z), fun _ => rfl, fun _ _ => rfl, fun _ => rfl⟩
        | _ => simp [mE] at h
      | [], _, h => simp [mE] at h
      | [_], [], h => simp [mE] at h
      | [_], _ :: _ :: _, h => simp [mE] at h
      | _ :: _ :: _, _, h => simp [mE] at h
    | _ => simp [mE] at h
  | .getG y a, X, sc, e, x, h => by
    cases e with
    | Subscript v s p =>
      cases v with
      | Name z p2 =>
        simp only [mE] at h
        obtain ⟨h1, h2⟩ := andT h
        obtain ⟨h1, h3⟩ := andT h1
        obtain ⟨h1, h4⟩ := andT h1
        have e1 := of_decide_eq_true h1
        subst e1
        have s1 := sndE Φ k a X sc s x h2
        exact .val (e_getG x.tab (x.gl _ h4) (nmB_ok h3).1 s1.pe s1.px) (fun _ => rfl) (fun _ _ _ z => nomatch z) (fun _ => rfl) (fun _ _ => rfl) (fun _ => rfl)
      | _ => simp [mE] at h
    | _ => simp [mE] at h
  | .dget l a b, X, sc, e, x, h => by
    cases e with
    | Call fn as kws p =>
      cases fn with
      | Attribute o m ap =>
        cases o with
        | Dict ks vs p2 =>
          match as, kws, h with
          | [y, z], [], h =>
            simp only [mE] at h
            obtain ⟨h1, h2⟩ := andT h
            obtain ⟨h1, h3⟩ := andT h1
            obtain ⟨h1, h4⟩ := andT h1
            obtain ⟨h1, h5⟩ := andT h1
            obtain ⟨h1, h6⟩ := andT h1
            obtain ⟨h1, h7⟩ := andT h1
            have e1 := of_decide_eq_true h1
            subst e1
            have s1 := sndE Φ k a X sc y x h4
            have s2 := sndE Φ k b X sc z x h3
            have hu := x.hu
            have hst : starEach [y, z] X.env = [(false, eval y X.env), (false, eval z X.env)] := by
              rw [s1.st, s2.st]; rfl
            refine .val (e_dget (by omega) (dispB_ok h7) (of_decide_eq_true h6) (of_decide_eq_true h5) s1.pe s2.pe ⟨rfl, ?_, h2, ?_⟩) (fun _ => rfl) (fun _ _ _ z => nomatch z) (fun _ => rfl) (fun _ _ => rfl) (fun _ => rfl)
            · rw [hst]; rfl
            · rw [hst]; rfl
          | [], _, h => simp [mE] at h
          | [_], _, h => simp [mE] at h
          | _ :: _ :: _ :: _, _, h => simp [mE] at h
          | [_, _], _ :: _, h => simp [mE] at h
        | _ => simp [mE] at h
      | _ => simp [mE] at h
    | _ => simp [mE] at h
  | .rng l es, X, sc, e, x, h => by
    cases e with
    | Call fn as kws p =>
      cases fn with
      | Name y p2 =>
        match as, kws, h with
        | [w], [], h =>
          cases w with
          | Call fn2 fs kws2 p4 =>
            cases fn2 with
            | Name z p3 =>
              cases kws2 with
              | nil =>
                simp only [mE] at h
                obtain ⟨h1, h2⟩ := andT h
                obtain ⟨h1, h3⟩ := andT h1
                obtain ⟨h1, h4⟩ := andT h1
                obtain ⟨h1, h5⟩ := andT h1
                obtain ⟨h1, h6⟩ := andT h1
                have e1 := of_decide_eq_true h1
                subst e1
                have e2 := of_decide_eq_true h5
                subst e2
                have hl := sndL Φ k es X sc fs x h3
                have h2' := of_decide_eq_true h2
                match fs, es, hl, h2' with
                | [a], [A], hl, _ =>
                  cases hl with
                  | cons s1 _ => exact .val (e_rng1 x.tab x.calm (x.gl _ h6) (x.gl _ h4) s1.pe (s1.st _)) (fun _ => rfl) (fun _ _ _ z => nomatch z) (fun _ => rfl) (fun _ _ => rfl) (fun _ => rfl)
                | [a, b], [A, B], hl, _ =>
                  cases hl with
                  | cons s1 hl2 => cases hl2 with
                    | cons s2 hl3 =>
                      have hpl : ∀ q, (backTo q (starEach [b] X.env)).any (·.1) = false := fun q => by rw [s2.st]; rfl
                      exact .val (e_rng2 x.tab x.calm (x.gl _ h6) (x.gl _ h4) s1.pe s2.pe (s1.st _) (s2.st _) (hpl _)) (fun _ => rfl) (fun _ _ _ z => nomatch z) (fun _ => rfl) (fun _ _ => rfl) (fun _ => rfl)
                | [], _, _, h2' => simp at h2'
                | _ :: _ :: _ :: _, _, _, h2' => simp at h2'
                | [_], [], hl, _ => cases hl
                | [_], _ :: _ :: _, hl, _ => cases hl with | cons _ hl => cases hl
                | [_, _], [], hl, _ => cases hl
                | [_, _], [_], hl, _ => cases hl with | cons _ hl => cases hl
                | [_, _], _ :: _ :: _ :: _, hl, _ => cases hl with | cons _ hl => cases hl with | cons _ hl => cases hl
              | cons _ _ => simp [mE] at h
            | _ => simp [mE] at h
          | _ => simp [mE] at h
        | [], _, h => simp [mE] at h
        | _ :: _ :: _, _, h => simp [mE] at h
        | [_], _ :: _, h => simp [mE] at h
      | _ => simp [mE] at h
    | _ => simp [mE] at h
  | .sset _, X, sc, e, x, h => by
    cases e <;> simp [mE] at h
  | .meth _ _ _, X, sc, e, x, h => by
    cases e <;> simp [mE] at h
  | .ix a i, X, sc, e, x, h => by
    cases e with
    | Subscript v s p =>
      simp only [mE] at h
      obtain ⟨h1, h2⟩ := andT h
      have s1 := sndE Φ k a X sc v x h1
      have s2 := sndE Φ k i X sc s x h2
      exact .val (e_ix s1.pe s2.pe s2.px) (fun _ => rfl) (fun _ _ _ z => nomatch z) (fun _ => rfl) (fun _ _ => rfl) (fun _ => rfl)
    | _ => simp [mE] at h
  | .sl a lo hi, X, sc, e, x, h => by
    cases e with
    | Subscript v s p =>
      cases s with
      | Slice l u st p2 =>
        cases st with
        | none =>
          simp only [mE] at h
          obtain ⟨h1, h2⟩ := andT h
          obtain ⟨h1, h3⟩ := andT h1
          have s1 := sndE Φ k a X sc v x h1
          have sl := sndL Φ k lo X sc l.toList x h3
          have su := sndL Φ k hi X sc u.toList x h2
          have po : ∀ {L : List Ex} {o : Option Expr}, SndL Φ X L o.toList → PO X o (tO Φ X.K L) := by
            intro L o hL
            cases o with
            | none => cases hL; exact o_none
            | some y =>
              cases hL with
              | cons g1 g2 => cases g2; exact o_some g1.pe
          exact .val (e_sl s1.pe (po sl) (po su)) (fun _ => rfl) (fun _ _ _ z => nomatch z) (fun _ => rfl) (fun _ _ => rfl) (fun _ => rfl)
        | some _ => simp [mE] at h
      | _ => simp [mE] at h
    | _ => simp [mE] at h
  | .rev _, X, sc, e, x, h => by
    cases e <;> simp [mE] at h
  | .comp elt own tg one ik args cond, X, sc, e, x, h => by
    cases e with
    | ListComp y gs scope p =>
      match gs, h with
      | [⟨t, it, ifs, as⟩], h =>
        simp only [mE] at h
        obtain ⟨h1, h2⟩ := andT h
        obtain ⟨h1, h3⟩ := andT h1
        obtain ⟨h1, h4⟩ := andT h1
        obtain ⟨h1, h5⟩ := andT h1
        obtain ⟨h1, h6⟩ := andT h1
        obtain ⟨h1, h7⟩ := andT h1
        obtain ⟨h1, h8⟩ := andT h1
        obtain ⟨h1, h9⟩ := andT h1
        have e1 := of_decide_eq_true h1
        subst e1
        cases hit : itArgs sc ik one it with
        | none => rw [hit] at h6; cases h6
        | some xs =>
          rw [hit] at h6
          have hl := sndL Φ k args X sc xs x h6
          obtain ⟨pr, _, hfs⟩ := pi_ok (tg := tg) (tx := t) x hit hl (target_tup h7)
          have xb := fun (s : Shared) (H : Hp) (C : Addr) (cl : List (Str × Addr)) (fp : List Addr) => x.blk s H scope C cl fp
          have hg : ∀ (s : Shared) (H : Hp) (C : Addr) (cl : List (Str × Addr)) (fp : List Addr), PG (X.blk s H scope (compEnvC scope cl C X.env) fp) t (gTg X.K tg one) := fun s H C cl fp => (targetB_ok (xb s H C cl fp) h7).pg (xb s H C cl fp).calm (xb s H C cl fp).nd
          have hel : ∀ (s : Shared) (H : Hp) (C : Addr) (cl : List (Str × Addr)) (fp : List Addr), PE (X.blk s H scope (compEnvC scope cl C X.env) fp) y (tE Φ X.K elt) := fun s H C cl fp => (sndE Φ k elt _ scope.names y (xb s H C cl fp) h2).pe
          have hts : ∀ (s : Shared) (H : Hp) (C : Addr) (cl : List (Str × Addr)) (fp : List Addr), PTs (X.blk s H scope (compEnvC scope cl C X.env) fp) ifs (tTs Φ X.K cond) := fun s H C cl fp => by
            have hc := sndL Φ k cond _ scope.names ifs (xb s H C cl fp) h5
            have hlen := of_decide_eq_true h3
            cases hc with
            | nil => exact ts_nil
            | cons g1 g2 =>
              cases g2 with
              | nil =>
                have tk := List.all_eq_true.mp h4 _ List.mem_cons_self
                exact ts_one (g1.pt tk)
              | cons _ _ => simp at hlen
          have hown : (ownN X.N own).map (·.2) = own := by
            unfold ownN
            rw [List.map_map]
            exact List.map_id' own
          have htg : ∀ i ∈ tg, i ∈ own := fun i hi => of_decide_eq_true (List.all_eq_true.mp h8 i hi)
          have pl := pe_lc (pos := p) x.calm x.nd pr (blkB_ok x h9) hg hts hel hfs
          refine .val ⟨fun pins s σ H Q I hw => pl.run pins s σ H Q I (e_comp x.calm x.nd hown htg pr (blkB_ok x h9) hg hts hel hfs hw)⟩ (fun _ => rfl) (fun _ _ _ z => nomatch z) (fun _ => rfl) (fun _ _ => rfl) (fun _ => rfl)
      | [], h => simp [mE] at h
      | _ :: _ :: _, h => simp [mE] at h
    | _ => simp [mE] at h
theorem sndL (Φ : Tab) (k : Nat) : ∀ (Es : List Ex) (X : Cx) (sc : Sc) (es : List Expr), XOk X Φ sc k → mEs X.N sc Es es = true → SndL Φ X Es es
  | [], X, sc, es, x, h => by
    cases es with
    | nil => exact .nil
    | cons _ _ => simp [mEs] at h
  | E :: Es, X, sc, es, x, h => by
    cases es with
    | nil => simp [mEs] at h
    | cons e es =>
      simp only [mEs] at h
      obtain ⟨h1, h2⟩ := andT h
      exact .cons (sndE Φ k E X sc e x h1) (sndL Φ k Es X sc es x h2)
end
end SB
/-! while; several names at once; the check of a statement. -/
namespace SB
open PySem PySem.Spec PyProof.Rows L2

section
variable {X : Cx} {Φ : Tab} {a b e : Expr} {A B E : Ex} {pos p : Pos} {k : Nat}
theorem wloop_step {cc : Rho → M Bool} {f : Rho → M Fl} {n : Nat} {ρ : Rho} {c c' : Option Nat} {fl : Fl} (h : wloop cc f n ρ c = some (fl, c')) : ∃ m, n = m + 1 ∧ ∃ t c1, cc ρ c = some (t, c1) ∧
    (if t = true then ∃ r c2, f ρ c1 = some (r, c2) ∧ (match r with | .nx ρ' => wloop cc f m ρ' | .rt v => pure (.rt v)) c2 = some (fl, c') else fl = .nx ρ ∧ c' = c1) := by
  cases n with
  | zero => cases h
  | succ m =>
    simp only [wloop] at h
    replace h := M.bind_some h
    obtain ⟨t, c1, h1, h⟩ := h
    refine ⟨m, rfl, t, c1, h1, ?_⟩
    cases t with
    | true =>
      rw [if_pos rfl] at h ⊢
      exact M.bind_some h
    | false =>
      rw [if_neg Bool.false_ne_true] at h ⊢
      cases h
      exact ⟨rfl, rfl⟩
theorem s_while {cx : Expr} {C : Ex} {body : List Stmt} {Bs : List SB.St} (hp : PassesOwn (model X.prog X.w) X.A X.env X.xe) (hc : PT X cx (tT Φ X.K C)) (hb : PSs X body (tSs Φ X.K Bs)) : PS X (.While cx body [] pos) (tS Φ X.K (.while C Bs)) := by
  refine ⟨fun pins s σ H Dn I hw => ?_⟩
  obtain ⟨Se, Ge, He, S, c, ρ, G, sr, fl, c', hev, q⟩ := hw
  simp only [ex] at hev
  refine (ps_while hp hc hb).run pins s σ H Dn I ⟨fun m σ1 H1 => ∃ S1 c1 ρ1 G1, SR X.K Se Ge He S1 c1 ρ1 σ1 G1 H1 ∧ Same G G1 ∧ wloop (fun ρ => do let x ← ev Φ C ρ; let d ← x.rd; asB d) (fun ρ => exs Φ Bs ρ) m ρ1 c1 = some (fl, c'), ⟨fuel, S, c, ρ, G, sr, Same.refl _, hev⟩, ?_⟩
  rintro m σ1 H1 ⟨S1, c1, ρ1, G1, sr1, g1, h1⟩
  obtain ⟨m', rfl, t, c2, h2, h3⟩ := wloop_step h1
  refine ⟨Se, Ge, He, S1, c1, ρ1, G1, sr1, t, c2, h2, fun G2 H2 n2 => ?_⟩
  cases t with
  | true =>
    rw [if_pos rfl] at h3 ⊢
    obtain ⟨r, c3, h4, h5⟩ := h3
    refine ⟨fun σ' H' => ∃ S' ρ' G', r = .nx ρ' ∧ SR X.K Se Ge He S' c3 ρ' σ' G' H' ∧ Same G G', fun σ' H' h' => ?_, ?_⟩
    · obtain ⟨S', ρ', G', rfl, sr', g'⟩ := h'
      exact ⟨m', Nat.lt_succ_self _, S', c3, ρ', G', sr', g', h5⟩
    · refine ⟨Se, Ge, He, S1, c2, ρ1, G2, sr1.step n2, r, c3, h4, ?_⟩
      cases r with
      | nx ρ' => exact fun S' σ' G' H' sr' g' => ⟨S', ρ', G', rfl, sr', g1.trans (n2.kp.kg.trans g')⟩
      | rt v =>
        cases h5
        exact q
  | false =>
    rw [if_neg Bool.false_ne_true] at h3 ⊢
    obtain ⟨rfl, rfl⟩ := h3
    exact q _ _ _ _ (sr1.step n2) (g1.trans n2.kp.kg)
theorem evo_cons {ρ : Rho} {es : List Ex} {c c' : Option Nat} {rs : List Sl} (h : evo Φ (E :: es) ρ c = some (rs, c')) : ∃ x r c1, ev Φ E ρ c = some (x, c1) ∧ evo Φ es ρ c1 = some (r, c') ∧ rs = x :: r ∧ ∃ d, x = .fz d ∨ x = .ow d := by
  simp only [evo] at h
  replace h := M.bind_some h
  obtain ⟨x, c1, h1, h⟩ := h
  replace h := M.bind_some h
  obtain ⟨y, c2, h2, h⟩ := h
  replace h2 := ofO2 h2
  obtain ⟨h2, e2⟩ := h2
  subst e2
  obtain ⟨e3, hk⟩ := keepS_ok h2
  subst e3
  replace h := M.bind_some h
  obtain ⟨r, c3, h3, h⟩ := h
  cases h
  exact ⟨_, _, _, h1, h3, rfl, hk⟩
/-- the address of an owned value stands -/
theorem RR.there {K : PySem.W.Frag} {S : Option Addr} {H0 G H : Hp} {r : Sl} {e : D} {a : Addr} (h : RR K S H0 G H (.ref a) r) (er : r = .ow e) : H a ≠ none := by
  subst er
  obtain ⟨a', ea, _, _, _, ho⟩ := h
  cases ea
  exact own_there ho
theorem s_par3 {i j l : Nat} {x y z : Str} {cx : Expr} {C : Ex} {px py pz pt : Pos} {kt k2 : Nat} {pt2 : Pos} (hc : X.calm = true) (hN : X.N.Nodup) (hi : X.N[i]? = some x) (hj : X.N[j]? = some y) (hl : X.N[l]? = some z) (hij : i ≠ j) (hil : i ≠ l) (hjl : j ≠ l)
    (hx : X.env.scope.names.lookup x = some .local) (hy : X.env.scope.names.lookup y = some .local) (hz : X.env.scope.names.lookup z = some .local) (ha : PE X a (tE Φ X.K A)) (hb : PE X b (tE Φ X.K B)) (hcx : PE X cx (tE Φ X.K C))
    (hs1 : starEach [a, b, cx] X.env = (false, eval a X.env) :: starEach [b, cx] X.env) (hs2 : starEach [b, cx] X.env = (false, eval b X.env) :: starEach [cx] X.env) (hs3 : starEach [cx] X.env = (false, eval cx X.env) :: starEach [] X.env)
    (hw : swappedStores [.Tuple [.Name x px, .Name y py, .Name z pz] kt pt] (.Tuple [a, b, cx] k2 pt2) X.env = pure (some [x, y, z])) :
    PS X (.Assign [.Tuple [.Name x px, .Name y py, .Name z pz] kt pt] (.Tuple [a, b, cx] k2 pt2) pos) (tS Φ X.K (.par [i, j, l] [A, B, C])) := by
  refine ⟨fun pins s σ H Dn I hw' => ?_⟩
  obtain ⟨Se, Ge, He, S, c, ρ, G, sr, fl, c', hev, q⟩ := hw'
  have hiσ := slen I hi
  have hjσ := slen I hj
  have hlσ := slen I hl
  simp only [ex] at hev
  replace hev := M.bind_some hev
  obtain ⟨rs, c1, h1, hev⟩ := hev
  obtain ⟨u1, rs1, c2, g1, h2, e1, k1⟩ := evo_cons h1
  obtain ⟨u2, rs2, c3, g2, h3, e2, k2⟩ := evo_cons h2
  obtain ⟨u3, rs3, c4, g3, h4, e3, k3⟩ := evo_cons h3
  subst e1
  subst e2
  subst e3
  simp only [evo] at h4
  cases h4
  cases hev
  refine (ps_par3 (i := i) (j := j) (l := l) hc hN hi hj hl hij hil hjl hx hy hz (pa_cons ha (pa_cons hb (pa_cons hcx pa_nil hs3) hs2) hs1) hw rfl).run pins s σ H Dn I
    ⟨Se, Ge, He, S, c, ρ, G, sr, u1, c2, g1, fun v1 G1 H1 n1 r1 => ⟨Se, Ge, He, S, c2, ρ, G1, sr.step n1, u2, c3, g2, fun v2 G2 H2 n2 r2 => ⟨Se, Ge, He, S, c3, ρ, G2, (sr.step n1).step n2, u3, _, g3, fun v3 G3 H3 n3 r3 => ?_⟩⟩⟩
  refine ⟨v1, v2, v3, rfl, ?_⟩
  have s3 := ((sr.step n1).step n2).step n3
  have p1 := (r1.mono n2.kp).mono n3.kp
  have p2 := r2.mono n3.kp
  have t1 := s3.putR (i := i) k1 sr.d0 (fun l e a g1 g2 => sr.there g1 g2) p1
  have t2 := t1.putR (i := j) k2 (fun b hb => n1.kp.dm b (sr.d0 b hb)) (fun m e a g1 g2 => ?_) p2
  · refine q _ _ _ _ (t2.putR (i := l) k3 (fun b hb => n2.kp.dm b (n1.kp.dm b (sr.d0 b hb))) (fun m e a g1 g2 => ?_) r3) ((n1.trans n2).trans n3).kp.kg
    rcases set_cases g1 with ⟨rfl, g3⟩ | ⟨hm, g3⟩
    · rw [List.getElem?_set_self (by rw [List.length_set]; exact hjσ)] at g2
      cases g2
      exact r2.there g3
    · rw [List.getElem?_set_ne (Ne.symm hm)] at g2
      rcases set_cases g3 with ⟨rfl, g4⟩ | ⟨hm, g4⟩
      · rw [List.getElem?_set_self hiσ] at g2
        cases g2
        exact n2.kp.dm a (r1.there g4)
      · rw [List.getElem?_set_ne (Ne.symm hm)] at g2
        exact n2.kp.dm a (n1.kp.dm a (sr.there g4 g2))
  · rcases set_cases g1 with ⟨rfl, g3⟩ | ⟨hm, g3⟩
    · rw [List.getElem?_set_self hiσ] at g2
      cases g2
      exact r1.there g3
    · rw [List.getElem?_set_ne (Ne.symm hm)] at g2
      exact n1.kp.dm a (sr.there g3 g2)
end
end SB
/-! The check of statements. -/
namespace SB
open PySem PySem.Spec PyProof.Rows L2

structure SOk (X : Cx) (Φ : Tab) (sc : Sc) (k : Nat) : Prop where
  ok : XOk X Φ sc k
  kind : X.env.scope.kind = .function
  nm : X.env.scope.names = sc
  po : PassesOwn (model X.prog X.w) X.A X.env X.xe

def isStar : Expr → Bool
  | .Starred .. => true
  | _ => false
def isLcB : Expr → Bool
  | .ListComp .. => true
  | .SetComp .. => true
  | .DictComp .. => true
  | _ => false
def lcOkB : Expr → Bool
  | .SetComp .. => false
  | .DictComp .. => false
  | _ => true
def locOnly (sc : Sc) (x : Str) : Bool := match sc.lookup x with
  | some .local => true
  | _ => false
/-- several names, several values: stored at once -/
def parB (sc : Sc) (vs : List Expr) : Bool := !(vs.any isStar) && !(vs.all (foldedForSure 8)) && !(vs.all (constantsAlone 8))
/-- no swapped stores -/
def noSwap (n : Nat) : Expr → Bool
  | .Tuple vs _ _ => !(n == 2 || n == 3) || (decide (vs.length = n) && !(vs.any isStar) && vs.all (foldedForSure 8))
  | _ => true
def popB (N : List Str) (sc : Sc) (j : Nat) (e : Ex) : Expr → Bool
  | .Call (.Attribute (.Name z _) m2 apos2) [v] [] p3 => decide (m2 = "pop") && varB N sc j z && (apos2.endLine == p3.line) && mE N sc e v
  | _ => false
def appPopB (N : List Str) (sc : Sc) (i j : Nat) (e : Ex) : Expr → Bool
  | .Call (.Attribute (.Name y _) m apos) [q] [] p2 => decide (m = "append") && varB N sc i y && (apos.endLine == p2.line) && popB N sc j e q
  | _ => false
mutual
def mS (N : List Str) (sc : Sc) : SB.St → Stmt → Bool
  | .asg i e, .Assign [.Name x _] v _ => tgB N sc i x && mE N sc e v && lcOkB v
  | .mv i j, .Assign [.Name x _] (.Name y _) _ => tgB N sc i x && varB N sc j y
  | .asgT is e, .Assign [.Tuple ts _ _] v _ => namesB N sc is ts && mE N sc e v && noSwap ts.length v && !isLcB v
  | .par is es, .Assign [.Tuple ts _ _] (.Tuple vs _ _) _ => (match is, es, ts, vs with
    | [i, j], [a, b], [.Name x px, .Name y py], [u, v] => decide (N[i]? = some x) && decide (N[j]? = some y) && decide (x ≠ y) && locOnly sc x && locOnly sc y && (py.line == px.line) && parB sc [u, v] && mE N sc a u && mE N sc b v
    | [i, j, l], [a, b, c], [.Name x px, .Name y py, .Name z pz], [u, v, w] => decide (N[i]? = some x) && decide (N[j]? = some y) && decide (N[l]? = some z) && decide (x ≠ y) && decide (x ≠ z) && decide (y ≠ z) && locOnly sc x && locOnly sc y && locOnly sc z && (py.line == px.line) && (pz.line == px.line) && parB sc [u, v, w] && mE N sc a u && mE N sc b v && mE N sc c w
    | _, _, _, _ => false)
  | .init i, .Assign [.Name x _] (.List [] _) _ => tgB N sc i x
  | .aug o i e, .AugAssign (.Name x _) op v _ => decide (o = op) && (decide (op = .Add) || decide (op = .Mult)) && tgB N sc i x && mE N sc e v
  | .app i e, .Expr (.Call (.Attribute (.Name y _) m apos) [v] [] p2) _ => decide (m = "append") && varB N sc i y && (apos.endLine == p2.line) && mE N sc e v
  | .ext i e, .Expr (.Call (.Attribute (.Name y _) m apos) [v] [] p2) _ => decide (m = "extend") && varB N sc i y && (apos.endLine == p2.line) && mE N sc e v
  | .popA i j, .Assign [.Name x _] (.Call (.Attribute (.Name y _) m apos) [] [] p2) _ => decide (m = "pop") && tgB N sc i x && varB N sc j y && (apos.endLine == p2.line) && decide (i ≠ j)
  | .appPop i j e, .Expr z _ => appPopB N sc i j e z
  | .expr e, .Expr v _ => mE N sc e v && !isLcB v
  | .ifs c a b, .If t x y _ => mE N sc c t && tOk c && mSs N sc a x && mSs N sc b y
  | .for is one ik args body, .For t it b [] _ => targetB N sc is one t && (match itArgs sc ik one it with | some xs => mEs N sc args xs | none => false) && mSs N sc body b
  | .while c body, .While t b [] _ => mE N sc c t && tOk c && mSs N sc body b
  | .ret e, .Return (some v) _ => mE N sc e v
  | .retv i, .Return (some (.Name y _)) _ => varB N sc i y
  | .pass, .Pass _ => true
  | .never, _ => true
  | _, _ => false
def mSs (N : List Str) (sc : Sc) : List SB.St → List Stmt → Bool
  | [], [] => true
  | .frz _ :: ss, xs => mSs N sc ss xs
  | s :: ss, x :: xs => mS N sc s x && mSs N sc ss xs
  | _, _ => false
end
section
variable {X : Cx} {Φ : Tab} {sc : Sc} {k : Nat}
theorem varB_ok (x : XOk X Φ sc k) {i : Nat} {y : Str} {p : Pos} (h : varB X.N sc i y = true) : PE X (.Name y p) (tVar i) := by
  unfold varB at h
  obtain ⟨h1, h3⟩ := andT h
  obtain ⟨h1, h2⟩ := andT h1
  obtain ⟨h4, h5⟩ := nmB_ok h3
  exact pe_var (of_decide_eq_true h1) (x.vis _ h2) h4 h5
theorem locOnly_ok {x : Str} (h : locOnly sc x = true) : sc.lookup x = some .local := by
  unfold locOnly at h
  split at h
  · assumption
  · cases h
theorem swNone {e t : Expr} {l : Nat} {env : Env} (h : isLcB e = false) (hx : lcOkB e = true := by rfl) : swapsWith e (some t) l env = pure false := by
  cases e <;> first | rfl | (simp [isLcB] at h)
theorem swNo {e : Expr} {o : Option Expr} {l : Nat} {env : Env} (h : isLcB e = false) : swapsWith e o l env = pure false := by
  cases e <;> first | rfl | (simp [isLcB] at h)
theorem any_star (vs : List Expr) : (vs.any fun | .Starred .. => true | _ => false) = vs.any isStar := by
  refine congrArg (fun f => vs.any f) (funext fun e => ?_)
  cases e <;> rfl
theorem blockKind_fn {env : Env} (h : env.scope.kind = .function) : env.blockKind = .function := by
  unfold Env.blockKind
  rw [h]
  rfl
theorem swap_none {ts : List Expr} {kt : Nat} {pt : Pos} {v : Expr} {env : Env} (h : noSwap ts.length v = true) (hk : env.scope.kind = .function) (hc : ∀ e ∈ ts, ∃ x p, e = .Name x p) : swappedStores [.Tuple ts kt pt] v env = pure none := by
  cases v with
  | Tuple vs k2 p2 =>
    unfold swappedStores
    simp only [noSwap, Bool.or_eq_true, Bool.and_eq_true, Bool.not_eq_true', decide_eq_true_eq] at h
    rcases h with h | ⟨⟨h1, h2⟩, h3⟩
    · simp only [h, Bool.not_false, Bool.true_or, pure_bind]
      rfl
    · by_cases h4 : (ts.length == 2 || ts.length == 3) = true
      · have h5 : (vs.length != ts.length) = false := by rw [h1]; simp
        have h6 : (vs.any fun | .Starred .. => true | _ => false) = false := (any_star vs).trans h2
        simp only [h4, h5, blockKind_fn hk, h6, h3, pure_bind]
        simp
      · have h4 : (ts.length == 2 || ts.length == 3) = false := by simpa using h4
        simp only [h4, Bool.not_false, Bool.true_or, pure_bind]
        rfl
  | _ => rfl
theorem swap_par2 {x y : Str} {px py : Pos} {kt k2 : Nat} {pt p2 : Pos} {a b : Expr} {env : Env} (hk : env.scope.kind = .function) (hx : env.scope.names.lookup x = some .local) (hy : env.scope.names.lookup y = some .local) (hxy : x ≠ y) (hl : (py.line == px.line) = true) (hp : parB sc [a, b] = true) :
    swappedStores [.Tuple [.Name x px, .Name y py] kt pt] (.Tuple [a, b] k2 p2) env = pure (some [x, y]) := by
  have kx : env.kindOf x = some .local := hx
  have ky : env.kindOf y = some .local := hy
  unfold parB at hp
  obtain ⟨h1, h2⟩ := andT hp
  obtain ⟨h1, h3⟩ := andT h1
  have h1 := notF h1
  have h2 := notF h2
  have h3 := notF h3
  have h6 : ∀ f : Expr → Bool, (∀ e, f e = isStar e) → [a, b].any f = false := fun f hf => (congrArg (fun g => [a, b].any g) (funext hf)).trans h1
  have hn : (x == y) = false := by simpa using hxy
  have hn2 : (y == x) = false := by simpa using Ne.symm hxy
  have ed : [x, y].eraseDups = [x, y] := by simp [List.eraseDups_cons, hn, hn2]
  unfold swappedStores
  simp only [blockKind_fn hk, h2, h3, pure_bind, List.filterMap_cons, kx, ky, Expr.pos, hl, List.filterMap_nil, List.head?_cons, Option.map_some, Option.getD_some, beq_self_eq_true, Bool.and_self, if_true, ed, List.length_cons, List.length_nil]
  rw [if_neg (by decide), if_neg (by rw [h6 _ (fun e => by cases e <;> rfl)]; decide)]
  rfl
theorem swap_par3 {x y z : Str} {px py pz : Pos} {kt k2 : Nat} {pt p2 : Pos} {a b c : Expr} {env : Env} (hk : env.scope.kind = .function) (hx : env.scope.names.lookup x = some .local) (hy : env.scope.names.lookup y = some .local) (hz : env.scope.names.lookup z = some .local) (hxy : x ≠ y) (hxz : x ≠ z) (hyz : y ≠ z)
    (hl : (py.line == px.line) = true) (hl2 : (pz.line == px.line) = true) (hp : parB sc [a, b, c] = true) :
    swappedStores [.Tuple [.Name x px, .Name y py, .Name z pz] kt pt] (.Tuple [a, b, c] k2 p2) env = pure (some [x, y, z]) := by
  have kx : env.kindOf x = some .local := hx
  have ky : env.kindOf y = some .local := hy
  have kz : env.kindOf z = some .local := hz
  unfold parB at hp
  obtain ⟨h1, h2⟩ := andT hp
  obtain ⟨h1, h3⟩ := andT h1
  have h1 := notF h1
  have h2 := notF h2
  have h3 := notF h3
  have h6 : ∀ f : Expr → Bool, (∀ e, f e = isStar e) → [a, b, c].any f = false := fun f hf => (congrArg (fun g => [a, b, c].any g) (funext hf)).trans h1
  have n1 : (y == x) = false := by simpa using Ne.symm hxy
  have n2 : (z == x) = false := by simpa using Ne.symm hxz
  have n3 : (z == y) = false := by simpa using Ne.symm hyz
  have m1 : (x == y) = false := by simpa using hxy
  have m2 : (x == z) = false := by simpa using hxz
  have m3 : (y == z) = false := by simpa using hyz
  have ed : [x, y, z].eraseDups = [x, y, z] := by simp [List.eraseDups_cons, n1, n2, n3, m1, m2, m3]
  unfold swappedStores
  simp only [blockKind_fn hk, h2, h3, pure_bind, List.filterMap_cons, kx, ky, kz, Expr.pos, hl, hl2, List.filterMap_nil, List.head?_cons, Option.map_some, Option.getD_some, beq_self_eq_true, Bool.and_self, if_true, ed, List.length_cons, List.length_nil]
  rw [if_neg (by decide), if_neg (by rw [h6 _ (fun e => by cases e <;> rfl)]; decide)]
  rfl
end
end SB
/-! Statements that were checked. -/
namespace SB
open PySem PySem.Spec PyProof.Rows L2

theorem swLc {elt : Expr} {gs : List Comprehension} {scope : Scope} {pos py : Pos} {y : Str} {l : Nat} {env : Env} (hk : env.scope.kind = .function) :
    swapsWith (.ListComp elt gs scope pos) (some (.Name y py)) l env = pure true ∧ env.scope.names.lookup y = some .local ∨ swapsWith (.ListComp elt gs scope pos) (some (.Name y py)) l env = pure false := by
  have hb : env.blockKind = .function := blockKind_fn hk
  have e : swapsWith (.ListComp elt gs scope pos) (some (.Name y py)) l env = pure (env.blockKind == .function && env.kindOf y == some .local && py.line == pos.line && !(scope.names.any fun (n, k) => n == y && (k == .local || k == .cell))) := rfl
  cases hc : (env.blockKind == .function && env.kindOf y == some .local && py.line == pos.line && !(scope.names.any fun (n, k) => n == y && (k == .local || k == .cell))) with
  | false =>
    rw [hc] at e
    exact .inr e
  | true =>
    rw [hc] at e
    refine .inl ⟨e, ?_⟩
    simp only [Bool.and_eq_true] at hc
    have := hc.1.1.2
    exact eq_of_beq this
/-- name = [..] -/
theorem set_comp {X : Cx} {Φ : Tab} {sc : Sc} {k : Nat} {elt : Ex} {own tg : List Nat} {one : Bool} {ik : IK} {args cond : List Ex} {y : Expr} {gs : List Comprehension} {scope : Scope} {p p' pos : Pos} {i : Nat} {n : Str} (S : SOk X Φ sc k) (ht : tgB X.N sc i n = true)
    (h : mE X.N sc (.comp elt own tg one ik args cond) (.ListComp y gs scope p) = true) : PS X (.Assign [.Name n p'] (.ListComp y gs scope p) pos) (tS Φ X.K (.asg i (.comp elt own tg one ik args cond))) := by
  have x := S.ok
  obtain ⟨t1, t2, t3⟩ := tgB_ok x ht
  have whole := h
  match gs, h with
  | [⟨t, it, ifs, as⟩], h =>
    simp only [mE] at h
    obtain ⟨h1, h2⟩ := andT h
    obtain ⟨h1, h3⟩ := andT h1
    obtain ⟨h1, h4⟩ := andT h1
    obtain ⟨h1, h5⟩ := andT h1
    obtain ⟨h1, h6⟩ := andT h1
    obtain ⟨h1, h7⟩ := andT h1
    obtain ⟨h1, h8⟩ := andT h1
    obtain ⟨h1, h9⟩ := andT h1
    have e1 := of_decide_eq_true h1
    subst e1
    rcases swLc (elt := y) (gs := [⟨t, it, ifs, 0⟩]) (scope := scope) (pos := p) (py := p') (y := n) (l := pos.line) S.kind with ⟨sw, hl⟩ | sw
    · cases hit : itArgs sc ik one it with
      | none => rw [hit] at h6; cases h6
      | some xs =>
        rw [hit] at h6
        have hL := sndL Φ k args X sc xs x h6
        obtain ⟨pr, _, hfs⟩ := pi_ok (tg := tg) (tx := t) x hit hL (target_tup h7)
        have xb := fun (s : Shared) (H : Hp) (C : Addr) (cl : List (Str × Addr)) (fp : List Addr) => x.blk s H scope C cl fp
        have hg : ∀ (s : Shared) (H : Hp) (C : Addr) (cl : List (Str × Addr)) (fp : List Addr), PG (X.blk s H scope (compEnvC scope cl C X.env) fp) t (gTg X.K tg one) := fun s H C cl fp => (targetB_ok (xb s H C cl fp) h7).pg (xb s H C cl fp).calm (xb s H C cl fp).nd
        have hel : ∀ (s : Shared) (H : Hp) (C : Addr) (cl : List (Str × Addr)) (fp : List Addr), PE (X.blk s H scope (compEnvC scope cl C X.env) fp) y (tE Φ X.K elt) := fun s H C cl fp => (sndE Φ k elt _ scope.names y (xb s H C cl fp) h2).pe
        have hts : ∀ (s : Shared) (H : Hp) (C : Addr) (cl : List (Str × Addr)) (fp : List Addr), PTs (X.blk s H scope (compEnvC scope cl C X.env) fp) ifs (tTs Φ X.K cond) := fun s H C cl fp => by
          have hc := sndL Φ k cond _ scope.names ifs (xb s H C cl fp) h5
          have hlen := of_decide_eq_true h3
          cases hc with
          | nil => exact ts_nil
          | cons g1 g2 =>
            cases g2 with
            | nil =>
              have tk := List.all_eq_true.mp h4 _ List.mem_cons_self
              exact ts_one (g1.pt tk)
            | cons _ _ => simp at hlen
        have hown : (ownN X.N own).map (·.2) = own := by
          unfold ownN
          rw [List.map_map]
          exact List.map_id' own
        have htg : ∀ i ∈ tg, i ∈ own := fun i hi => of_decide_eq_true (List.all_eq_true.mp h8 i hi)
        exact s_asg (ps_setLc (pos := p) (spos := pos) x.calm x.nd t1 hl sw pr (blkB_ok x h9) hg hts hel hfs) (fun σ H Q hw => e_comp x.calm x.nd hown htg pr (blkB_ok x h9) hg hts hel hfs hw) t1
    · exact s_asg (ps_set x.nd t1 t2 (sndE Φ k _ X sc _ x whole).pe sw t3) (fun _ _ _ hw => hw) t1
  | [], h => simp [mE] at h
  | _ :: _ :: _, h => simp [mE] at h
theorem namesB_all {N : List Str} {sc : Sc} : ∀ {is : List Nat} {ts : List Expr}, namesB N sc is ts = true → ∀ e ∈ ts, ∃ x p, e = .Name x p
  | [], [], _ => fun e he => absurd he (by simp)
  | i :: is, t :: ts, h => by
    cases t with
    | Name y p =>
      simp only [namesB] at h
      obtain ⟨h1, h2⟩ := andT h
      intro e he
      rcases List.mem_cons.mp he with rfl | he
      · exact ⟨_, _, rfl⟩
      · exact namesB_all h2 e he
    | _ => simp [namesB] at h
  | [], _ :: _, h => by simp [namesB] at h
  | _ :: _, [], h => by simp [namesB] at h
theorem snd_asg {Φ : Tab} {k : Nat} {X : Cx} {sc : Sc} (S : SOk X Φ sc k) (i : Nat) (e : Ex) (st : Stmt) (h : mS X.N sc (.asg i e) st = true) : PS X st (tS Φ X.K (.asg i e)) := by
  cases st with
  | Assign ts v p =>
    match ts, h with
    | [t], h =>
      cases t with
      | Name x px =>
        simp only [mS] at h
        obtain ⟨h0, h3⟩ := andT h
        obtain ⟨h1, h2⟩ := andT h0
        clear h0
        obtain ⟨t1, t2, t3⟩ := tgB_ok S.ok h1
        by_cases hl : isLcB v = false
        · exact s_asg (ps_set S.ok.nd t1 t2 (sndE Φ k e X sc v S.ok h2).pe (swNo hl) t3) (fun _ _ _ hw => hw) t1
        · cases v with
          | ListComp y gs scope p2 =>
            cases e with
            | comp elt own tg one ik args cond => exact set_comp S h1 h2
            | _ => simp [mE] at h2
          | SetComp _ _ _ _ => simp [lcOkB] at h3
          | DictComp _ _ _ _ _ => simp [lcOkB] at h3
          | _ => exact absurd rfl hl
      | _ => exact (Bool.false_ne_true h).elim
    | [], h => exact (Bool.false_ne_true h).elim
    | t :: _ :: _, h => cases t <;> first | exact (Bool.false_ne_true h).elim | (cases v <;> exact (Bool.false_ne_true h).elim)
  | _ => exact (Bool.false_ne_true h).elim
theorem snd_mv {Φ : Tab} {k : Nat} {X : Cx} {sc : Sc} (S : SOk X Φ sc k) (i j : Nat) (st : Stmt) (h : mS X.N sc (.mv i j) st = true) : PS X st (tS Φ X.K (.mv i j)) := by
  cases st with
  | Assign ts v p =>
    match ts, h with
    | [t], h =>
      cases t with
      | Name x px =>
        cases v with
        | Name y py =>
          simp only [mS] at h
          obtain ⟨h1, h2⟩ := andT h
          obtain ⟨t1, t2, t3⟩ := tgB_ok S.ok h1
          exact s_mv S.ok.nd t1 t2 t3 (varB_ok S.ok h2)
        | _ => exact (Bool.false_ne_true h).elim
      | _ => exact (Bool.false_ne_true h).elim
    | [], h => exact (Bool.false_ne_true h).elim
    | t :: _ :: _, h => cases t <;> first | exact (Bool.false_ne_true h).elim | (cases v <;> exact (Bool.false_ne_true h).elim)
  | _ => exact (Bool.false_ne_true h).elim
theorem snd_asgT {Φ : Tab} {k : Nat} {X : Cx} {sc : Sc} (S : SOk X Φ sc k) (is : List Nat) (e : Ex) (st : Stmt) (h : mS X.N sc (.asgT is e) st = true) : PS X st (tS Φ X.K (.asgT is e)) := by
  cases st with
  | Assign ts v p =>
    match ts, h with
    | [t], h =>
      cases t with
      | Tuple es kt pt =>
        simp only [mS] at h
        obtain ⟨h1, h4⟩ := andT h
        obtain ⟨h1, h3⟩ := andT h1
        obtain ⟨h1, h2⟩ := andT h1
        have hg := (TgE.tup (p := pt) (k := kt) (namesB_ok S.ok h1)).pg S.ok.calm S.ok.nd
        exact s_asgT (sndE Φ k e X sc v S.ok h2).pe hg (by unfold swapsWithSole; exact swNo (notF h4)) (swap_none h3 S.kind (namesB_all h1)) rfl
      | _ => exact (Bool.false_ne_true h).elim
    | [], h => exact (Bool.false_ne_true h).elim
    | t :: _ :: _, h => cases t <;> first | exact (Bool.false_ne_true h).elim | (cases v <;> exact (Bool.false_ne_true h).elim)
  | _ => exact (Bool.false_ne_true h).elim
theorem snd_par {Φ : Tab} {k : Nat} {X : Cx} {sc : Sc} (S : SOk X Φ sc k) (is : List Nat) (es : List Ex) (st : Stmt) (h : mS X.N sc (.par is es) st = true) : PS X st (tS Φ X.K (.par is es)) := by
  cases st with
  | Assign ts v p =>
    match ts, h with
    | [t], h =>
      cases t with
      | Tuple ts kt pt =>
        cases v with
        | Tuple vs k2 p2 =>
          simp only [mS] at h
          split at h
          · rename_i i j a b x px y py u v _
            obtain ⟨h, g9⟩ := andT h
            obtain ⟨h, g8⟩ := andT h
            obtain ⟨h, g7⟩ := andT h
            obtain ⟨h, g6⟩ := andT h
            obtain ⟨h, g5⟩ := andT h
            obtain ⟨h, g4⟩ := andT h
            obtain ⟨h, g3⟩ := andT h
            obtain ⟨g1, g2⟩ := andT h
            have g1 := of_decide_eq_true g1
            have g2 := of_decide_eq_true g2
            have g3 := of_decide_eq_true g3
            have lx : X.env.scope.names.lookup x = some .local := by rw [S.nm]; exact locOnly_ok g4
            have ly : X.env.scope.names.lookup y = some .local := by rw [S.nm]; exact locOnly_ok g5
            have s1 := sndE Φ k a X sc u S.ok g8
            have s2 := sndE Φ k b X sc v S.ok g9
            exact s_par2 S.ok.calm S.ok.nd g1 g2 (fun z => g3 (by subst z; rw [g1] at g2; exact Option.some.inj g2)) lx ly s1.pe s2.pe (s1.st _) (s2.st _) (swap_par2 (sc := sc) S.kind lx ly g3 g6 g7)
          · rename_i i j l a b c x px y py z pz u v w _
            obtain ⟨h, f9⟩ := andT h
            obtain ⟨h, f8⟩ := andT h
            obtain ⟨h, f7⟩ := andT h
            obtain ⟨h, f6⟩ := andT h
            obtain ⟨h, f5⟩ := andT h
            obtain ⟨h, f4⟩ := andT h
            obtain ⟨h, g9⟩ := andT h
            obtain ⟨h, g8⟩ := andT h
            obtain ⟨h, g7⟩ := andT h
            obtain ⟨h, g6⟩ := andT h
            obtain ⟨h, g5⟩ := andT h
            obtain ⟨h, g4⟩ := andT h
            obtain ⟨h, g3⟩ := andT h
            obtain ⟨g1, g2⟩ := andT h
            have g1 := of_decide_eq_true g1
            have g2 := of_decide_eq_true g2
            have g3 := of_decide_eq_true g3
            have g4 := of_decide_eq_true g4
            have g5 := of_decide_eq_true g5
            have g6 := of_decide_eq_true g6
            have lx : X.env.scope.names.lookup x = some .local := by rw [S.nm]; exact locOnly_ok g7
            have ly : X.env.scope.names.lookup y = some .local := by rw [S.nm]; exact locOnly_ok g8
            have lz : X.env.scope.names.lookup z = some .local := by rw [S.nm]; exact locOnly_ok g9
            have s1 := sndE Φ k a X sc u S.ok f7
            have s2 := sndE Φ k b X sc v S.ok f8
            have s3 := sndE Φ k c X sc w S.ok f9
            have ne : ∀ {i j : Nat} {x y : Str}, X.N[i]? = some x → X.N[j]? = some y → x ≠ y → i ≠ j := fun a b c z => c (by subst z; rw [a] at b; exact Option.some.inj b)
            exact s_par3 S.ok.calm S.ok.nd g1 g2 g3 (ne g1 g2 g4) (ne g1 g3 g5) (ne g2 g3 g6) lx ly lz s1.pe s2.pe s3.pe (s1.st _) (s2.st _) (s3.st _) (swap_par3 (sc := sc) S.kind lx ly lz g4 g5 g6 f4 f5 f6)
          · cases h
        | _ => exact (Bool.false_ne_true h).elim
      | _ => exact (Bool.false_ne_true h).elim
    | [], h => exact (Bool.false_ne_true h).elim
    | t :: _ :: _, h => cases t <;> first | exact (Bool.false_ne_true h).elim | (cases v <;> exact (Bool.false_ne_true h).elim)
  | _ => exact (Bool.false_ne_true h).elim
theorem snd_init {Φ : Tab} {k : Nat} {X : Cx} {sc : Sc} (S : SOk X Φ sc k) (i : Nat) (st : Stmt) (h : mS X.N sc (.init i) st = true) : PS X st (tS Φ X.K (.init i)) := by
  cases st with
  | Assign ts v p =>
    match ts, h with
    | [t], h =>
      cases t with
      | Name x px =>
        cases v with
        | List es p2 =>
          cases es with
          | nil =>
            simp only [mS] at h
            obtain ⟨t1, t2, t3⟩ := tgB_ok S.ok h
            exact s_init S.ok.nd t1 t2 t3
          | cons _ _ => exact (Bool.false_ne_true h).elim
        | _ => exact (Bool.false_ne_true h).elim
      | _ => exact (Bool.false_ne_true h).elim
    | [], h => exact (Bool.false_ne_true h).elim
    | t :: _ :: _, h => cases t <;> first | exact (Bool.false_ne_true h).elim | (cases v <;> exact (Bool.false_ne_true h).elim)
  | _ => exact (Bool.false_ne_true h).elim
theorem snd_aug {Φ : Tab} {k : Nat} {X : Cx} {sc : Sc} (S : SOk X Φ sc k) (o : Operator) (i : Nat) (e : Ex) (st : Stmt) (h : mS X.N sc (.aug o i e) st = true) : PS X st (tS Φ X.K (.aug o i e)) := by
  cases st with
  | AugAssign t op v p =>
    cases t with
    | Name x px =>
      simp only [mS] at h
      obtain ⟨h, h4⟩ := andT h
      obtain ⟨h, h3⟩ := andT h
      obtain ⟨h1, h2⟩ := andT h
      have e1 := of_decide_eq_true h1
      subst e1
      obtain ⟨t1, t2, t3⟩ := tgB_ok S.ok h3
      have hop : o = .Add ∨ o = .Mult := by
        rw [Bool.or_eq_true, decide_eq_true_eq, decide_eq_true_eq] at h2
        exact h2
      exact s_aug hop S.ok.nd t1 t2 t3 (sndE Φ k e X sc v S.ok h4).pe
    | _ => exact (Bool.false_ne_true h).elim
  | _ => exact (Bool.false_ne_true h).elim
theorem snd_app {Φ : Tab} {k : Nat} {X : Cx} {sc : Sc} (S : SOk X Φ sc k) (i : Nat) (e : Ex) (st : Stmt) (h : mS X.N sc (.app i e) st = true) : PS X st (tS Φ X.K (.app i e)) := by
  cases st with
  | Expr z p =>
    cases z with
    | Call fn as kws p2 =>
      cases fn with
      | Attribute o m ap =>
        cases o with
        | Name y py =>
          match as, kws, h with
          | [v], [], h =>
            simp only [mS] at h
            obtain ⟨h, h4⟩ := andT h
            obtain ⟨h, h3⟩ := andT h
            obtain ⟨h1, h2⟩ := andT h
            have e1 := of_decide_eq_true h1
            subst e1
            have s1 := sndE Φ k e X sc v S.ok h4
            exact s_app S.ok.nd (varB_ok S.ok h2) s1.pe rfl h3 (s1.st _)
          | [], _, h => exact (Bool.false_ne_true h).elim
          | _ :: _ :: _, _, h => exact (Bool.false_ne_true h).elim
          | [_], _ :: _, h => exact (Bool.false_ne_true h).elim
        | _ => exact (Bool.false_ne_true h).elim
      | _ => exact (Bool.false_ne_true h).elim
    | _ => exact (Bool.false_ne_true h).elim
  | _ => exact (Bool.false_ne_true h).elim
theorem snd_ext {Φ : Tab} {k : Nat} {X : Cx} {sc : Sc} (S : SOk X Φ sc k) (i : Nat) (e : Ex) (st : Stmt) (h : mS X.N sc (.ext i e) st = true) : PS X st (tS Φ X.K (.ext i e)) := by
  cases st with
  | Expr z p =>
    cases z with
    | Call fn as kws p2 =>
      cases fn with
      | Attribute o m ap =>
        cases o with
        | Name y py =>
          match as, kws, h with
          | [v], [], h =>
            simp only [mS] at h
            obtain ⟨h, h4⟩ := andT h
            obtain ⟨h, h3⟩ := andT h
            obtain ⟨h1, h2⟩ := andT h
            have e1 := of_decide_eq_true h1
            subst e1
            have s1 := sndE Φ k e X sc v S.ok h4
            exact s_ext S.ok.nd (varB_ok S.ok h2) s1.pe rfl h3 (s1.st _)
          | [], _, h => exact (Bool.false_ne_true h).elim
          | _ :: _ :: _, _, h => exact (Bool.false_ne_true h).elim
          | [_], _ :: _, h => exact (Bool.false_ne_true h).elim
        | _ => exact (Bool.false_ne_true h).elim
      | _ => exact (Bool.false_ne_true h).elim
    | _ => exact (Bool.false_ne_true h).elim
  | _ => exact (Bool.false_ne_true h).elim
theorem snd_popA {Φ : Tab} {k : Nat} {X : Cx} {sc : Sc} (S : SOk X Φ sc k) (i j : Nat) (st : Stmt) (h : mS X.N sc (.popA i j) st = true) : PS X st (tS Φ X.K (.popA i j)) := by
  cases st with
  | Assign ts v p =>
    match ts, h with
    | [t], h =>
      cases t with
      | Name x px =>
        cases v with
        | Call fn as kws p2 =>
          cases fn with
          | Attribute o m ap =>
            cases o with
            | Name y py =>
              match as, kws, h with
              | [], [], h =>
                simp only [mS] at h
                obtain ⟨h, h5⟩ := andT h
                obtain ⟨h, h4⟩ := andT h
                obtain ⟨h, h3⟩ := andT h
                obtain ⟨h1, h2⟩ := andT h
                have e1 := of_decide_eq_true h1
                subst e1
                obtain ⟨t1, t2, t3⟩ := tgB_ok S.ok h2
                exact s_popA S.ok.nd t1 t2 t3 (varB_ok S.ok h3) rfl h4 (of_decide_eq_true h5)
              | _ :: _, _, h => exact (Bool.false_ne_true h).elim
              | [], _ :: _, h => exact (Bool.false_ne_true h).elim
            | _ => exact (Bool.false_ne_true h).elim
          | _ => exact (Bool.false_ne_true h).elim
        | _ => exact (Bool.false_ne_true h).elim
      | _ => exact (Bool.false_ne_true h).elim
    | [], h => exact (Bool.false_ne_true h).elim
    | t :: _ :: _, h => cases t <;> first | exact (Bool.false_ne_true h).elim | (cases v <;> exact (Bool.false_ne_true h).elim)
  | _ => exact (Bool.false_ne_true h).elim
theorem snd_appPop {Φ : Tab} {k : Nat} {X : Cx} {sc : Sc} (S : SOk X Φ sc k) (i j : Nat) (e : Ex) (st : Stmt) (h : mS X.N sc (.appPop i j e) st = true) : PS X st (tS Φ X.K (.appPop i j e)) := by
  cases st with
  | Expr z p =>
    have h : appPopB X.N sc i j e z = true := h
    unfold appPopB at h
    split at h
    · rename_i y py m ap q p2
      obtain ⟨h, h4⟩ := andT h
      obtain ⟨h, h3⟩ := andT h
      obtain ⟨h1, h2⟩ := andT h
      have e1 := of_decide_eq_true h1
      subst e1
      unfold popB at h4
      split at h4
      · rename_i z pz m2 ap2 v p3
        obtain ⟨h4, h8⟩ := andT h4
        obtain ⟨h4, h7⟩ := andT h4
        obtain ⟨h5, h6⟩ := andT h4
        have e2 := of_decide_eq_true h5
        subst e2
        have s1 := sndE Φ k e X sc v S.ok h8
        exact s_appPop S.ok.nd (varB_ok S.ok h2) (varB_ok S.ok h6) s1.pe rfl h3 rfl h7 (s1.st _)
      · cases h4
    · cases h
  | _ => exact (Bool.false_ne_true h).elim
theorem snd_put {Φ : Tab} {k : Nat} {X : Cx} {sc : Sc} (S : SOk X Φ sc k) (a0 : Nat) (a1 a2 : Ex) (st : Stmt) (h : mS X.N sc (.put a0 a1 a2) st = true) : PS X st (tS Φ X.K (.put a0 a1 a2)) := by cases st <;> exact (Bool.false_ne_true h).elim

theorem snd_expr {Φ : Tab} {k : Nat} {X : Cx} {sc : Sc} (S : SOk X Φ sc k) (e : Ex) (st : Stmt) (h : mS X.N sc (.expr e) st = true) : PS X st (tS Φ X.K (.expr e)) := by
  cases st with
  | Expr v p =>
    simp only [mS] at h
    obtain ⟨h1, h2⟩ := andT h
    exact s_expr (sndE Φ k e X sc v S.ok h1).pe (swNo (notF h2))
  | _ => exact (Bool.false_ne_true h).elim
theorem snd_frz {Φ : Tab} {k : Nat} {X : Cx} {sc : Sc} (S : SOk X Φ sc k) (a0 : List Nat) (st : Stmt) (h : mS X.N sc (.frz a0) st = true) : PS X st (tS Φ X.K (.frz a0)) := by cases st <;> exact (Bool.false_ne_true h).elim

theorem snd_ret {Φ : Tab} {k : Nat} {X : Cx} {sc : Sc} (S : SOk X Φ sc k) (e : Ex) (st : Stmt) (h : mS X.N sc (.ret e) st = true) : PS X st (tS Φ X.K (.ret e)) := by
  cases st with
  | Return o p =>
    cases o with
    | none => exact (Bool.false_ne_true h).elim
    | some v =>
      simp only [mS] at h
      exact s_ret (sndE Φ k e X sc v S.ok h).pe
  | _ => exact (Bool.false_ne_true h).elim
theorem snd_retv {Φ : Tab} {k : Nat} {X : Cx} {sc : Sc} (S : SOk X Φ sc k) (i : Nat) (st : Stmt) (h : mS X.N sc (.retv i) st = true) : PS X st (tS Φ X.K (.retv i)) := by
  cases st with
  | Return o p =>
    cases o with
    | none => exact (Bool.false_ne_true h).elim
    | some v =>
      cases v with
      | Name y py =>
        simp only [mS] at h
        exact s_retv (varB_ok S.ok h)
      | _ => exact (Bool.false_ne_true h).elim
  | _ => exact (Bool.false_ne_true h).elim
theorem snd_pass {Φ : Tab} {k : Nat} {X : Cx} {sc : Sc} (S : SOk X Φ sc k)  (st : Stmt) (h : mS X.N sc (.pass) st = true) : PS X st (tS Φ X.K (.pass)) := by
  cases st with
  | Pass p => exact s_pass
  | _ => exact (Bool.false_ne_true h).elim
theorem snd_never {Φ : Tab} {k : Nat} {X : Cx} {sc : Sc} (S : SOk X Φ sc k)  (st : Stmt) (h : mS X.N sc (.never) st = true) : PS X st (tS Φ X.K (.never)) := s_never

theorem inv_ifs {N : List Str} {sc : Sc} {c : Ex} {a b : List SB.St} {st : Stmt} (h : mS N sc (.ifs c a b) st = true) : ∃ t x y p, st = .If t x y p ∧ mE N sc c t = true ∧ tOk c = true ∧ mSs N sc a x = true ∧ mSs N sc b y = true := by
  cases st with
  | If t x y p =>
    simp only [mS] at h
    obtain ⟨h, h4⟩ := andT h
    obtain ⟨h, h3⟩ := andT h
    obtain ⟨h1, h2⟩ := andT h
    exact ⟨_, _, _, _, rfl, h1, h2, h3, h4⟩
  | _ => exact (Bool.false_ne_true h).elim
theorem inv_for {N : List Str} {sc : Sc} {is : List Nat} {one : Bool} {ik : IK} {args : List Ex} {body : List SB.St} {st : Stmt} (h : mS N sc (.for is one ik args body) st = true) : ∃ t it b p xs, st = .For t it b [] p ∧ targetB N sc is one t = true ∧ itArgs sc ik one it = some xs ∧ mEs N sc args xs = true ∧ mSs N sc body b = true := by
  cases st with
  | For t it b orelse p =>
    cases orelse with
    | nil =>
      simp only [mS] at h
      obtain ⟨h, h3⟩ := andT h
      obtain ⟨h1, h2⟩ := andT h
      cases hit : itArgs sc ik one it with
      | none => rw [hit] at h2; cases h2
      | some xs =>
        rw [hit] at h2
        exact ⟨_, _, _, _, _, rfl, h1, hit, h2, h3⟩
    | cons _ _ => exact (Bool.false_ne_true h).elim
  | _ => exact (Bool.false_ne_true h).elim
theorem inv_while {N : List Str} {sc : Sc} {c : Ex} {body : List SB.St} {st : Stmt} (h : mS N sc (.while c body) st = true) : ∃ t b p, st = .While t b [] p ∧ mE N sc c t = true ∧ tOk c = true ∧ mSs N sc body b = true := by
  cases st with
  | While t b orelse p =>
    cases orelse with
    | nil =>
      simp only [mS] at h
      obtain ⟨h, h3⟩ := andT h
      obtain ⟨h1, h2⟩ := andT h
      exact ⟨_, _, _, rfl, h1, h2, h3⟩
    | cons _ _ => exact (Bool.false_ne_true h).elim
  | _ => exact (Bool.false_ne_true h).elim
theorem inv_cons {N : List Str} {sc : Sc} {s : SB.St} {ss : List SB.St} {xs : List Stmt} (h : mSs N sc (s :: ss) xs = true) : (∃ is, s = .frz is ∧ mSs N sc ss xs = true) ∨ ∃ x ys, xs = x :: ys ∧ mS N sc s x = true ∧ mSs N sc ss ys = true := by
  by_cases hf : ∃ is, s = .frz is
  · obtain ⟨is, rfl⟩ := hf
    simp only [mSs] at h
    exact .inl ⟨is, rfl, h⟩
  · cases xs with
    | nil =>
      cases s with
      | frz is => exact absurd ⟨_, rfl⟩ hf
      | _ => exact (Bool.false_ne_true h).elim
    | cons x xs =>
      have h' : (mS N sc s x && mSs N sc ss xs) = true := by
        cases s with
        | frz is => exact absurd ⟨_, rfl⟩ hf
        | _ => simpa only [mSs] using h
      obtain ⟨h1, h2⟩ := andT h'
      exact .inr ⟨_, _, rfl, h1, h2⟩
theorem inv_nil {N : List Str} {sc : Sc} {xs : List Stmt} (h : mSs N sc [] xs = true) : xs = [] := by
  cases xs with
  | nil => rfl
  | cons _ _ => exact (Bool.false_ne_true h).elim
mutual
theorem sndS (Φ : Tab) (k : Nat) (X : Cx) (sc : Sc) (S : SOk X Φ sc k) : ∀ (s : SB.St) (st : Stmt), mS X.N sc s st = true → PS X st (tS Φ X.K s)
  | .asg i e, st, h => snd_asg S i e st h
  | .mv i j, st, h => snd_mv S i j st h
  | .asgT is e, st, h => snd_asgT S is e st h
  | .par is es, st, h => snd_par S is es st h
  | .init i, st, h => snd_init S i st h
  | .aug o i e, st, h => snd_aug S o i e st h
  | .app i e, st, h => snd_app S i e st h
  | .ext i e, st, h => snd_ext S i e st h
  | .popA i j, st, h => snd_popA S i j st h
  | .appPop i j e, st, h => snd_appPop S i j e st h
  | .put a0 a1 a2, st, h => snd_put S a0 a1 a2 st h
  | .expr e, st, h => snd_expr S e st h
  | .frz a0, st, h => snd_frz S a0 st h
  | .ret e, st, h => snd_ret S e st h
  | .retv i, st, h => snd_retv S i st h
  | .pass, st, h => snd_pass S st h
  | .never, st, h => snd_never S st h
  | .ifs c a b, st, h => by
    obtain ⟨t, x, y, p, e, h1, h2, h3, h4⟩ := inv_ifs h
    rw [e]
    exact s_if ((sndE Φ k c X sc t S.ok h1).pt h2) (sndSs Φ k X sc S a x h3) (sndSs Φ k X sc S b y h4)
  | .for is one ik args body, st, h => by
    obtain ⟨t, it, b, p, xs, e, h1, hit, h2, h3⟩ := inv_for h
    rw [e]
    have hL := sndL Φ k args X sc xs S.ok h2
    obtain ⟨_, pk, hfs⟩ := pi_ok (tg := is) (tx := t) S.ok hit hL (target_tup h1)
    exact s_for S.po S.ok.calm pk ((targetB_ok S.ok h1).pg S.ok.calm S.ok.nd) (sndSs Φ k X sc S body b h3) hfs
  | .while c body, st, h => by
    obtain ⟨t, b, p, e, h1, h2, h3⟩ := inv_while h
    rw [e]
    exact s_while S.po ((sndE Φ k c X sc t S.ok h1).pt h2) (sndSs Φ k X sc S body b h3)
theorem sndSs (Φ : Tab) (k : Nat) (X : Cx) (sc : Sc) (S : SOk X Φ sc k) : ∀ (ss : List SB.St) (xs : List Stmt), mSs X.N sc ss xs = true → PSs X xs (tSs Φ X.K ss)
  | [], xs, h => by
    rw [inv_nil h]
    exact ss_nil
  | s :: ss, xs, h => by
    rcases inv_cons h with ⟨is, e, h1⟩ | ⟨x, ys, e, h1, h2⟩
    · rw [e]
      exact ss_frz (sndSs Φ k X sc S ss xs h1)
    · rw [e]
      exact ss_cons (sndS Φ k X sc S s x h1) (sndSs Φ k X sc S ss ys h2)
end
end SB
/-! A def keeps its promise. -/
namespace SB
open PySem PySem.Spec PyProof.Rows L2

/-- the draws are begun neither here nor ended -/
def guardF (g : Fn) : Fn := fun args c => match g args c with
  | some (r, c') => if c.isSome = c'.isSome then some (r, c') else none
  | none => none
theorem guardF_some {g : Fn} {args : List Sl} {c c' : Option Nat} {r : Sl} (h : guardF g args c = some (r, c')) : g args c = some (r, c') ∧ c.isSome = c'.isSome := by
  unfold guardF at h
  split at h
  · rename_i r1 c1 e
    split at h
    · rename_i hc
      cases h
      exact ⟨e, hc⟩
    · cases h
  · cases h
theorem guardF_pure {g : Fn} {args : List Sl} {r : Sl} (h : g args = pure r) : guardF g args = pure r := by
  funext c
  unfold guardF
  rw [h]
  show (if c.isSome = c.isSome then some (r, c) else none) = some (r, c)
  rw [if_pos rfl]
theorem guardF_draw {g : Fn} {args : List Sl} {r : Sl} {n m : Nat} (h : g args (some n) = some (r, some m)) : guardF g args (some n) = some (r, some m) := by
  unfold guardF
  rw [h]
  rfl
section
variable {P : Program} {w : World} {K : PySem.W.Frag} {mg : Str → Option Value} {base : Heap}
theorem sv_of_rr {S : Option Addr} {G H : Hp} {v : V} {r : Sl} (h : RR K S H G H v r) (ha : argOk r = true) : SV K S H G H v r := by
  cases r with
  | fz d => exact h
  | ow d => cases ha
  | bw d =>
    obtain ⟨a, e, hS, ho⟩ := h
    exact ⟨a, e, own_there ho, hS, ho⟩
  | st => exact h
theorem rrs_get {S : Option Addr} {G H : Hp} : ∀ {vs : List V} {args : List Sl}, RRs K S H G H vs args → args.all argOk = true → ∀ (i : Nat) s, args[i]? = some s → ∃ v, vs[i]? = some v ∧ SV K S H G H v s
  | _, _, .nil, _, i, s, h => by simp at h
  | _, _, .cons h t, ha, 0, s, e => by
    rw [List.all_cons, Bool.and_eq_true] at ha
    cases e
    exact ⟨_, rfl, sv_of_rr h ha.1⟩
  | _, _, .cons h t, ha, i + 1, s, e => by
    rw [List.all_cons, Bool.and_eq_true] at ha
    exact rrs_get t ha.2 i s e
theorem rrs_len {S : Option Addr} {H0 G H : Hp} : ∀ {vs : List V} {args : List Sl}, RRs K S H0 G H vs args → vs.length = args.length
  | _, _, .nil => rfl
  | _, _, .cons _ t => congrArg (· + 1) (rrs_len t)
theorem args_get {args : List Sl} {n : Nat} {i : Nat} {s : Sl} (h : (args.map some ++ List.replicate n none)[i]? = some (some s)) : args[i]? = some s := by
  by_cases hi : i < args.length
  · rw [List.getElem?_append_left (by simpa using hi), List.getElem?_map] at h
    cases e : args[i]? with
    | none => rw [e] at h; cases h
    | some x => rw [e] at h; cases h; rfl
  · rw [List.getElem?_append_right (by simpa using hi), List.getElem?_replicate] at h
    split at h <;> cases h
theorem sr_start {S : Option Addr} {c : Option Nat} {G H : Hp} {vs : List V} {args : List Sl} {N : List Str} (sm : Same G H) (st : Sta S c G H) (hr : RRs K S H G H vs args) (ha : args.all argOk = true) :
    SR K S G H S c (args.map some ++ List.replicate (N.length - args.length) none) (L2.start N vs) G H := by
  have hl := rrs_len hr
  refine ⟨sm, st, .refl, .inl rfl, ?_, fun i s h => ?_, fun i j d d' a h1 => ?_⟩
  · unfold L2.start
    rw [List.length_append, List.length_append, List.length_map, List.length_map, List.length_replicate, List.length_replicate, hl]
  · obtain ⟨v, e, hv⟩ := rrs_get hr ha i s (args_get h)
    refine ⟨v, ?_, hv⟩
    have hi := (List.getElem?_eq_some_iff.mp e).1
    unfold L2.start
    rw [List.getElem?_append_left (by simpa using hi), List.getElem?_map, e]
    rfl
  · have e := args_get h1
    have := List.all_eq_true.mp ha _ (List.mem_of_getElem? e)
    cases this
/-- the context of a def's body -/
theorem sok_of {x qual : Str} {sc : Scope} {N ps : List Str} {k : Nat} {f : Addr} {cdv : Value} {A : Around} {outer : List Env} {s : Shared} {H : Hp} {E : XK} {Φ : Tab} (S : FnScope N ps sc) (T : TabOk P w K mg base k Φ) (hr : Room k (A.deeper (envOfC qual sc s.heap.objs.size f cdv))) :
    SOk (cxOf CX0 P w K mg base N qual sc f cdv A outer s H E).nox Φ sc.names k := by
  refine ⟨⟨rfl, S.nd, hr, T, fun y h => ?_, fun y h => ?_, fun y h => ?_, fun y h => h⟩, S.kind, rfl, PassesOwn.never⟩
  · show Vis sc y
    unfold visB at h
    unfold Vis
    split at h
    · exact .inl (by assumption)
    · exact .inr (.inl (by assumption))
    · exact .inr (.inr (by assumption))
    · cases h
  · refine ⟨?_, .inl rfl⟩
    show L2.Loc sc y
    unfold locB at h
    unfold L2.Loc
    split at h
    · exact .inl (by assumption)
    · exact .inr (by assumption)
    · cases h
  · show sc.names.lookup y = some .globalImplicit
    unfold glB at h
    split at h
    · assumption
    · cases h
theorem runD_some {Φ : Tab} {d : Df} {args : List Sl} {c c' : Option Nat} {r : Sl} (h : runD Φ d args c = some (r, c')) : args.length = d.np ∧ ∃ fl, exs Φ d.body (args.map some ++ List.replicate (d.N.length - d.np) none) c = some (fl, c') ∧ r = (match fl with | .nx _ => .fz .none | .rt v => v) := by
  unfold runD at h
  split at h
  · rename_i hl
    replace h := M.bind_some h
    obtain ⟨fl, c1, h1, h⟩ := h
    refine ⟨hl.1, fl, ?_⟩
    cases fl with
    | nx ρ => cases h; exact ⟨h1, rfl⟩
    | rt v => cases h; exact ⟨h1, rfl⟩
  · cases h
theorem def_ok {x qual : Str} {st : Stmt} {f : Addr} {fd : FuncData} {ps : List Str} {k : Nat} {Φ : Tab} {d : Df} (F : Fun K x qual st f fd) (S : FnScope d.N ps (defScope st)) (hn : d.np = ps.length) (T : TabOk P w K mg base k Φ) (hm : mSs d.N (defScope st).names d.body (defBody st) = true) :
    FnOk P w K mg base CX0 (k + 1) f fd ps (spF K (guardF (runD Φ d))) := by
  refine F.ok S (fun vs H Q E h => ?_) (fun cdv A outer s H vs Q E hr h => ?_)
  · obtain ⟨S1, c, G, args, r, c', sm, st1, hv, ha, hg, q⟩ := h
    obtain ⟨hg, _⟩ := guardF_some hg
    rw [rrs_len hv, (runD_some hg).1, hn]
  · obtain ⟨S1, c, G, args, r, c', sm, st1, hv, ha, hg, q⟩ := h
    obtain ⟨hg, hc⟩ := guardF_some hg
    obtain ⟨hl, fl, hx, hfl⟩ := runD_some hg
    have so := sok_of (x := x) (A := A) (outer := outer) (s := s) (H := H) (E := E) (cdv := cdv) (qual := qual) (f := f) S T hr
    refine ⟨_, sndSs Φ k _ _ so d.body (defBody st) hm, S1, G, H, S1, c, _, G, sr_start (N := d.N) sm st1 hv ha, fl, c', ?_, ?_⟩
    · rw [hl]
      exact hx
    · have same : ∀ {S2 : Option Addr} {G2 H2 : Hp}, Sta S2 c' G2 H2 → (S1 = S2 ∨ (S1 = none ∧ ∃ p, S2 = some p ∧ H p = none)) → S1 = S2 := by
        intro S2 G2 H2 h1 h2
        rcases h2 with h2 | ⟨e1, p, e2, _⟩
        · exact h2
        · exfalso
          obtain ⟨_, n, e3, _⟩ := h1.out e2
          subst e1
          subst e3
          cases c with
          | none => cases hc
          | some m => exact st1.elim
      cases fl with
      | nx ρ =>
        subst hfl
        intro S2 σ G2 H2 sr g
        have e := same sr.sta sr.ss
        subst e
        exact q _ _ _ ⟨sr.sub, sr.sta, sr.kp⟩ .non
      | rt v =>
        subst hfl
        intro S2 u G2 H2 sm2 st2 kp2 ss2 rr
        have e := same st2 ss2
        subst e
        exact q _ _ _ ⟨sm2, st2, kp2⟩ rr
/-- the law's own def: it is given the script, it says True -/
def spL (K : PySem.W.Frag) (g : Fn) : Sp := fun vs H Q _ => ∃ (a : Addr) (ns : List Int) (c' : Option Nat), vs = [.ref a] ∧ SqL K H a (ns.map V.int) ∧ g [.fz (.list (ns.map .int))] none = some (.fz (.bool true), c') ∧ ∀ H', Q (.bl true) H'
theorem dq_ints {G : Hp} : ∀ ns : List Int, DqAll K G (ns.map V.int) (ns.map .int)
  | [] => .nil
  | n :: ns => .cons (.int n) (dq_ints ns)
theorem law_ok {x qual : Str} {st : Stmt} {f : Addr} {fd : FuncData} {p : Str} {k : Nat} {Φ : Tab} {d : Df} (F : Fun K x qual st f fd) (S : FnScope d.N [p] (defScope st)) (hn : d.np = 1) (T : TabOk P w K mg base k Φ) (hm : mSs d.N (defScope st).names d.body (defBody st) = true) :
    FnOk P w K mg base CX0 (k + 1) f fd [p] (spL K (runD Φ d)) := by
  refine F.ok S (fun vs H Q E h => ?_) (fun cdv A outer s H vs Q E hr h => ?_)
  · obtain ⟨a, ns, c', rfl, _⟩ := h
    rfl
  · obtain ⟨a, ns, c', rfl, hS, hg, q⟩ := h
    obtain ⟨hl, fl, hx, hfl⟩ := runD_some hg
    have so := sok_of (x := x) (A := A) (outer := outer) (s := s) (H := H) (E := E) (cdv := cdv) (qual := qual) (f := f) S T hr
    refine ⟨_, sndSs Φ k _ _ so d.body (defBody st) hm, none, H, H, none, none, _, H, sr_start (K := K) (S := none) (c := none) (G := H) (args := [.fz (.list (ns.map .int))]) (N := d.N) (Same.refl _) trivial (.cons (.lst hS (dq_ints ns)) .nil) rfl, fl, c', ?_, ?_⟩
    · rw [hl]
      exact hx
    · cases fl with
      | nx ρ => cases hfl
      | rt v =>
        subst hfl
        intro S2 u G2 H2 sm2 st2 kp2 ss2 rr
        cases rr
        exact q _
/-! ### the table grows -/
def Tab.add (Φ : Tab) (x : Str) (g : Fn) : Tab := { Φ with fn := fun y => if y = x then some g else Φ.fn y }
theorem tab_add {x qual : Str} {st : Stmt} {f : Addr} {fd : FuncData} {ps : List Str} {k : Nat} {Φ : Tab} {d : Df} (T : TabOk P w K mg base k Φ) (hx : mg x = some (.ref f)) (F : Fun K x qual st f fd) (B : Binds K fd ps []) (S : FnScope d.N ps (defScope st)) (hn : d.np = ps.length)
    (hm : mSs d.N (defScope st).names d.body (defBody st) = true) : TabOk P w K mg base (k + 1) (Φ.add x (guardF (runD Φ d))) := by
  have G := def_ok (base := base) F S hn T hm
  refine ⟨fun y g e => ?_, T.gl, T.gd, T.bl⟩
  unfold Tab.add at e
  by_cases hy : y = x
  · subst hy
    simp only [if_true] at e
    cases e
    exact ⟨f, fd, ps, hx, F.kp, B, G⟩
  · simp only [hy, if_false] at e
    exact (T.mono (Nat.le_succ k)).fn y g e
end
end SB
/-! The table of a law: what each def computes, given what its callees compute. -/
namespace SB
open PySem PySem.Spec PyProof.Rows L2

def lettersT : Str := "abcdefghijklmnopqrstuvwxyz"
def readsL : List (Str × Int) := [("join", 2), ("sort", 1), ("turn", 1), ("first", 1), ("rest", 1), ("less", 2), ("same", 2), ("pick", 3)]
def tabOf (l : List (Str × Fn)) : Tab where
  fn x := l.lookup x
  gl x := if x = "LETTERS" then some (.str lettersT) else none
  gd x := if x = "READS" then some readsL else none
section
variable {P : Program} {w : World} {K : PySem.W.Frag} {mg : Str → Option Value} {base : Heap}
def At (P : Program) (w : World) (K : PySem.W.Frag) (mg : Str → Option Value) (base : Heap) (k : Nat) (x : Str) (S : Fn) : Prop := ∃ f fd ps, mg x = some (.ref f) ∧ PySem.W.keepIn K (.ref f) = true ∧ Binds K fd ps [] ∧ FnOk P w K mg base CX0 k f fd ps (spF K S)
theorem At.mono {j k : Nat} {x : Str} {S : Fn} (h : At P w K mg base j x S) (l : j ≤ k) : At P w K mg base k x S := let ⟨f, fd, ps, h1, h2, h3, h4⟩ := h; ⟨f, fd, ps, h1, h2, h3, h4.mono l⟩
/-- the entries of a dict of the module -/
inductive Ents (P : Params) : List DictEntry → List (Str × Int) → Prop
  | nil : Ents P [] []
  | cons {e : DictEntry} {x : Str} {i : Int} {t t' : Nat} {l : List DictEntry} {kvs : List (Str × Int)} : e.key = .str x t → e.val = .int i t' → e.hash = PyData.keyHash P x → Ents P l kvs → Ents P (e :: l) ((x, i) :: kvs)
theorem Ents.lit {P : Params} {l : List DictEntry} {kvs : List (Str × Int)} (h : Ents P l kvs) : PySem.W.KeysLit P l := by
  induction h with
  | nil => trivial
  | cons h1 _ h3 _ ih => exact ⟨⟨_, _, h1, h3⟩, ih⟩
theorem Ents.refk {P : Params} {l : List DictEntry} {kvs : List (Str × Int)} (h : Ents P l kvs) : l.any (·.refKey) = false := by
  induction h with
  | nil => rfl
  | cons h1 _ _ _ ih =>
    rw [List.any_cons, ih, Bool.or_false]
    unfold DictEntry.refKey
    rw [h1]
theorem Ents.find {P : Params} {l : List DictEntry} {kvs : List (Str × Int)} (h : Ents P l kvs) (z : Str) : (match kvs.lookup z with
    | none => l.find? (·.key.isStr z) = none
    | some i => ∃ e t, l.find? (·.key.isStr z) = some e ∧ e.val = .int i t) := by
  induction h with
  | nil => rfl
  | cons h1 h2 _ _ ih =>
    rename_i e x i t t' l kvs _ _
    rw [List.lookup_cons, List.find?_cons, h1]
    by_cases q : z = x
    · subst q
      have e1 : (Value.str z t).isStr z = true := by
        show (z == z) = true
        exact beq_self_eq_true z
      rw [e1, beq_self_eq_true z]
      exact ⟨e, t', rfl, h2⟩
    · have e1 : (Value.str x t).isStr z = false := by
        show (x == z) = false
        exact beq_false_of_ne (Ne.symm q)
      have e2 : (z == x) = false := beq_false_of_ne q
      rw [e1, e2]
      exact ih
theorem tab_nil {tL : Nat} {dR : Addr} {es : Array DictEntry} {n : Nat} {k : Nat} (hL : mg "LETTERS" = some (.str lettersT tL)) (hR : mg "READS" = some (.ref dR)) (hD : K.lookup dR = some ⟨.type "dict", none, .dict es n, #[]⟩) (hE : Ents w.params es.toList readsL) (hs : (dR == sysModules) = false) (bl : ∀ x ∈ bltNames, mg x = none) :
    TabOk P w K mg base k (tabOf []) := by
  refine ⟨fun x g e => ?_, fun x d e => ?_, fun x kvs e => ?_, bl⟩
  · cases e
  · have e : (if x = "LETTERS" then some (PyData.str lettersT) else none) = some d := e
    split at e
    · rename_i q
      cases e
      subst q
      exact ⟨_, .str lettersT, hL, ⟨_, rfl⟩, .str _⟩
    · cases e
  · have e : (if x = "READS" then some readsL else none) = some kvs := e
    split at e
    · rename_i q
      cases e
      subst q
      refine ⟨dR, es, n, hR, ⟨hD, hE.lit, hs⟩, fun z => ?_⟩
      have f := hE.find z
      unfold PySem.W.nsIn
      rw [hD]
      simp only
      cases q : readsL.lookup z with
      | none =>
        rw [q] at f
        simp only at f
        rw [f]
        simp only [hE.refk, Bool.false_eq_true, if_false]
        exact ⟨none, rfl, rfl⟩
      | some i =>
        rw [q] at f
        obtain ⟨e, t, f1, f2⟩ := f
        rw [f1]
        exact ⟨some e.val, rfl, t, by rw [f2]⟩
    · cases e
theorem tab_cons {x : Str} {S : Fn} {k : Nat} {l : List (Str × Fn)} (a : At P w K mg base k x S) (T : TabOk P w K mg base k (tabOf l)) : TabOk P w K mg base k (tabOf ((x, S) :: l)) := by
  refine ⟨fun y g e => ?_, T.gl, T.gd, T.bl⟩
  have e : ((x, S) :: l).lookup y = some g := e
  rw [List.lookup_cons] at e
  by_cases q : y = x
  · subst q
    rw [beq_self_eq_true y] at e
    cases e
    exact a
  · rw [beq_false_of_ne q] at e
    exact T.fn y g e
theorem at_def {x : Str} {st : Stmt} {f : Addr} {fd : FuncData} {ps : List Str} {k : Nat} {l : List (Str × Fn)} {d : Df} (T : TabOk P w K mg base k (tabOf l)) (hx : mg x = some (.ref f)) (F : Fun K x x st f fd) (B : Binds K fd ps []) (S : FnScope d.N ps (defScope st)) (hn : d.np = ps.length)
    (hm : mSs d.N (defScope st).names d.body (defBody st) = true) : At P w K mg base (k + 1) x (guardF (runD (tabOf l) d)) := ⟨f, fd, ps, hx, F.kp, B, def_ok F S hn T hm⟩
end
/-- where a def of the text stands behind the top -/
def DefAt (K : PySem.W.Frag) (x : Str) (st : Stmt) : Prop := ∃ (f : Addr) (oc kV dc pm cd ct : Value) (od an : Option Addr) (sl : Array (Option Value)), PySem.W.nsIn K mainGlobals x = some (some (.ref f)) ∧
  K.lookup f = some ⟨oc, od, .func (PySem.W.fnOf x x (defArgs st) (defBody st) (defScope st) .none kV dc pm an cd ct), sl⟩ ∧ PySem.W.codeIn K cd x = true ∧ PySem.W.keepIn K (.ref f) = true
theorem DefAt.of {K : PySem.W.Frag} {x : Str} {st : Stmt} {f : Addr} {oc kV dc pm cd ct : Value} {od an : Option Addr} {sl : Array (Option Value)} (a : PySem.W.nsIn K mainGlobals x = some (some (.ref f)))
    (l : K.lookup f = some ⟨oc, od, .func (PySem.W.fnOf x x (defArgs st) (defBody st) (defScope st) .none kV dc pm an cd ct), sl⟩) (c : PySem.W.codeIn K cd x = true) (k : PySem.W.keepIn K (.ref f) = true) : DefAt K x st := ⟨f, oc, kV, dc, pm, cd, ct, od, an, sl, a, l, c, k⟩
theorem bl_of {K : PySem.W.Frag} (z0 : PySem.W.nsIn K mainGlobals "len" = some none) (z1 : PySem.W.nsIn K mainGlobals "all" = some none) (z2 : PySem.W.nsIn K mainGlobals "any" = some none) (z3 : PySem.W.nsIn K mainGlobals "list" = some none) (z4 : PySem.W.nsIn K mainGlobals "tuple" = some none) (z5 : PySem.W.nsIn K mainGlobals "min" = some none) (z6 : PySem.W.nsIn K mainGlobals "max" = some none) (z7 : PySem.W.nsIn K mainGlobals "sum" = some none) (z8 : PySem.W.nsIn K mainGlobals "sorted" = some none) (z9 : PySem.W.nsIn K mainGlobals "str" = some none) (z10 : PySem.W.nsIn K mainGlobals "int" = some none) (z11 : PySem.W.nsIn K mainGlobals "bool" = some none) (z12 : PySem.W.nsIn K mainGlobals "isinstance" = some none) (z13 : PySem.W.nsIn K mainGlobals "range" = some none) (z14 : PySem.W.nsIn K mainGlobals "enumerate" = some none) (z15 : PySem.W.nsIn K mainGlobals "zip" = some none) (z16 : PySem.W.nsIn K mainGlobals "set" = some none) : ∀ x ∈ bltNames, PySem.W.nsIn K mainGlobals x = some none := by
  intro x hx
  simp only [bltNames, List.mem_cons, List.not_mem_nil, or_false] at hx
  rcases hx with rfl | rfl | rfl | rfl | rfl | rfl | rfl | rfl | rfl | rfl | rfl | rfl | rfl | rfl | rfl | rfl | rfl
  · exact z0
  · exact z1
  · exact z2
  · exact z3
  · exact z4
  · exact z5
  · exact z6
  · exact z7
  · exact z8
  · exact z9
  · exact z10
  · exact z11
  · exact z12
  · exact z13
  · exact z14
  · exact z15
  · exact z16
end SB
namespace SB
open PySem
def d__law_cell_at : Df where
  N := ["script", "k", "spare", "again"]
  np := 2
  body := [
    .ifs (.cmp .Lt (.v 1) (.blt .len [.v 0])) [.ret (.ix (.v 0) (.v 1))] [],
    .ifs (.cmp .Eq (.v 0) (.lst [])) [.ret (.int 0)] [],
    .asg 2 (.ix (.v 0) (.bin .Mod (.v 1) (.blt .len [.v 0]))),
    .for [3] true .range [.blt .min [.bin .FloorDiv (.v 1) (.blt .len [.v 0]), .int 60]] [.asg 2 (.bin .FloorDiv (.v 2) (.int 1000003))],
    .ret (.bin .Add (.bin .Add (.bin .Mult (.ix (.v 0) (.bin .Mod (.v 1) (.blt .len [.v 0]))) (.int 31)) (.v 1)) (.bin .Mult (.v 2) (.int 101)))]
def T__law_cell_at : Tab := tabOf []
def S__law_cell_at : Fn := guardF (runD T__law_cell_at d__law_cell_at)
def d__law_mixed : Df where
  N := ["script", "k", "many", "spun"]
  np := 3
  body := [
    .asg 3 (.bin .Mod (.bin .Add (.bin .Add (.bin .Mult (.call "_law_cell_at" [.v 0, .v 1]) (.int 1103515245)) (.bin .Mult (.int 7919) (.v 1))) (.int 12345)) (.int 2147483647)),
    .ret (.bin .Mod (.bin .Mod (.bin .Mod (.bin .Pow (.v 3) (.int 5)) (.int 2147483647)) (.int 999983)) (.v 2))]
def T__law_mixed : Tab := tabOf [("_law_cell_at", S__law_cell_at)]
theorem T__law_mixed__law_cell_at : T__law_mixed.fn "_law_cell_at" = some S__law_cell_at := by rfl
def S__law_mixed : Fn := guardF (runD T__law_mixed d__law_mixed)
def d__law_draw : Df where
  N := ["script", "state", "many"]
  np := 3
  body := [
    .app 1 (.int 0),
    .ret (.call "_law_mixed" [.v 0, .lenS 1, .v 2])]
def T__law_draw : Tab := tabOf [("_law_mixed", S__law_mixed)]
theorem T__law_draw__law_mixed : T__law_draw.fn "_law_mixed" = some S__law_mixed := by rfl
def S__law_draw : Fn := guardF (runD T__law_draw d__law_draw)
def d__law_some_of : Df where
  N := ["script", "state", "some", "count", "left", "found"]
  np := 4
  body := [
    .par [4, 5] [.blt .list [.v 2], .lst []],
    .while (.and (.cmp .NotEq (.v 4) (.lst [])) (.cmp .Lt (.blt .len [.v 5]) (.v 3))) [.appPop 5 4 (.call "_law_draw" [.v 0, .v 1, .blt .len [.v 4]])],
    .frz [4, 5],
    .ret (.blt .tuple [.blt .sorted [.v 5]])]
def T__law_some_of : Tab := tabOf [("_law_draw", S__law_draw)]
theorem T__law_some_of__law_draw : T__law_some_of.fn "_law_draw" = some S__law_draw := by rfl
def S__law_some_of : Fn := guardF (runD T__law_some_of d__law_some_of)
def d__law_pick : Df where
  N := ["script", "state", "some"]
  np := 3
  body := [
    .ret (.ix (.v 2) (.call "_law_draw" [.v 0, .v 1, .blt .len [.v 2]]))]
def T__law_pick : Tab := tabOf [("_law_draw", S__law_draw)]
theorem T__law_pick__law_draw : T__law_pick.fn "_law_draw" = some S__law_draw := by rfl
def S__law_pick : Fn := guardF (runD T__law_pick d__law_pick)
def d__law_some_step : Df where
  N := ["script", "state", "things", "count", "names", "name", "reads", "again"]
  np := 4
  body := [
    .asg 4 (.tup [.str "join", .str "join", .str "less", .str "same", .str "pick", .str "sort", .str "turn", .str "first", .str "rest"]),
    .par [5, 6] [.call "_law_pick" [.v 0, .v 1, .v 4], .lst []],
    .for [7] true .range [.dget [("join", 2), ("less", 2), ("same", 2), ("pick", 3)] (.v 5) (.int 1)] [.ifs (.or (.cmp .Eq (.v 3) (.int 0)) (.cmp .Lt (.call "_law_draw" [.v 0, .v 1, .int 5]) (.int 3))) [.app 6 (.tup [.str "thing", .call "_law_draw" [.v 0, .v 1, .v 2]])] [.app 6 (.tup [.str "step", .call "_law_draw" [.v 0, .v 1, .v 3]])]],
    .frz [6],
    .ret (.tup [.v 5, .blt .tuple [.v 6]])]
def T__law_some_step : Tab := tabOf [("_law_pick", S__law_pick), ("_law_draw", S__law_draw)]
theorem T__law_some_step__law_pick : T__law_some_step.fn "_law_pick" = some S__law_pick := by rfl
theorem T__law_some_step__law_draw : T__law_some_step.fn "_law_draw" = some S__law_draw := by rfl
def S__law_some_step : Fn := guardF (runD T__law_some_step d__law_some_step)
def d_rises : Df where
  N := ["some", "one", "other"]
  np := 1
  body := [
    .ret (.blt .all [.comp (.cmp .Lt (.v 1) (.v 2)) [1, 2] [1, 2] false .zip [.v 0, .sl (.v 0) [.int 1] []] []])]
def T_rises : Tab := tabOf []
def S_rises : Fn := guardF (runD T_rises d_rises)
def d_is_integer : Df where
  N := ["value", "low", "high"]
  np := 3
  body := [
    .ret (.and (.isa (.v 0) .int) (.and (.not (.isa (.v 0) .bool)) (.chain .LtE .LtE (.v 1) (.v 0) (.v 2))))]
def T_is_integer : Tab := tabOf []
def S_is_integer : Fn := guardF (runD T_is_integer d_is_integer)
def d_are_numbers : Df where
  N := ["value", "low", "high", "one"]
  np := 3
  body := [
    .ret (.and (.isa (.v 0) .tuple) (.and (.blt .all [.comp (.call "is_integer" [.v 3, .v 1, .v 2]) [3] [3] true .seq [.v 0] []]) (.call "rises" [.v 0])))]
def T_are_numbers : Tab := tabOf [("is_integer", S_is_integer), ("rises", S_rises)]
theorem T_are_numbers_is_integer : T_are_numbers.fn "is_integer" = some S_is_integer := by rfl
theorem T_are_numbers_rises : T_are_numbers.fn "rises" = some S_rises := by rfl
def S_are_numbers : Fn := guardF (runD T_are_numbers d_are_numbers)
def d_is_text : Df where
  N := ["value", "most", "sign"]
  np := 2
  body := [
    .ret (.and (.isa (.v 0) .str) (.and (.cmp .LtE (.blt .len [.v 0]) (.v 1)) (.blt .all [.comp (.cmp .In (.v 2) (.gl "LETTERS")) [2] [2] true .seq [.v 0] []])))]
def T_is_text : Tab := tabOf []
def S_is_text : Fn := guardF (runD T_is_text d_is_text)
def d_is_thing : Df where
  N := ["value", "one"]
  np := 1
  body := [
    .ifs (.or (.not (.isa (.v 0) .tuple)) (.or (.not (.chain .LtE .LtE (.int 1) (.blt .len [.v 0]) (.int 4))) (.not (.blt .all [.comp (.call "is_text" [.v 1, .int 4]) [1] [1] true .seq [.v 0] []])))) [.ret (.bl false)] [],
    .ret (.call "rises" [.v 0])]
def T_is_thing : Tab := tabOf [("is_text", S_is_text), ("rises", S_rises)]
theorem T_is_thing_is_text : T_is_thing.fn "is_text" = some S_is_text := by rfl
theorem T_is_thing_rises : T_is_thing.fn "rises" = some S_rises := by rfl
def S_is_thing : Fn := guardF (runD T_is_thing d_is_thing)
def d_are_things : Df where
  N := ["value", "count", "thing", "one"]
  np := 1
  body := [
    .ifs (.or (.not (.isa (.v 0) .tuple)) (.or (.not (.chain .LtE .LtE (.int 1) (.blt .len [.v 0]) (.int 5))) (.not (.blt .all [.comp (.call "is_thing" [.v 3]) [3] [3] true .seq [.v 0] []])))) [.ret (.bl false)] [],
    .asg 1 (.int 1),
    .for [2] true .seq [.v 0] [.aug .Mult 1 (.blt .len [.v 2])],
    .ret (.cmp .LtE (.v 1) (.int 256))]
def T_are_things : Tab := tabOf [("is_thing", S_is_thing)]
theorem T_are_things_is_thing : T_are_things.fn "is_thing" = some S_is_thing := by rfl
def S_are_things : Fn := guardF (runD T_are_things d_are_things)
def d_is_reading : Df where
  N := ["things", "steps", "value"]
  np := 3
  body := [
    .ifs (.or (.not (.isa (.v 2) .tuple)) (.or (.cmp .NotEq (.blt .len [.v 2]) (.int 2)) (.not (.isa (.ix (.v 2) (.int 0)) .str)))) [.ret (.bl false)] [],
    .ifs (.cmp .Eq (.ix (.v 2) (.int 0)) (.str "thing")) [.ret (.call "is_integer" [.ix (.v 2) (.int 1), .int 0, .bin .Sub (.v 0) (.int 1)])] [],
    .ret (.and (.cmp .Eq (.ix (.v 2) (.int 0)) (.str "step")) (.call "is_integer" [.ix (.v 2) (.int 1), .int 0, .bin .Sub (.v 1) (.int 1)]))]
def T_is_reading : Tab := tabOf [("is_integer", S_is_integer)]
theorem T_is_reading_is_integer : T_is_reading.fn "is_integer" = some S_is_integer := by rfl
def S_is_reading : Fn := guardF (runD T_is_reading d_is_reading)
def d_is_step : Df where
  N := ["things", "steps", "value", "one"]
  np := 3
  body := [
    .ifs (.or (.not (.isa (.v 2) .tuple)) (.or (.cmp .NotEq (.blt .len [.v 2]) (.int 2)) (.or (.not (.isa (.ix (.v 2) (.int 0)) .str)) (.inG true (.ix (.v 2) (.int 0)) "READS")))) [.ret (.bl false)] [],
    .ifs (.or (.not (.isa (.ix (.v 2) (.int 1)) .tuple)) (.cmp .NotEq (.blt .len [.ix (.v 2) (.int 1)]) (.getG "READS" (.ix (.v 2) (.int 0))))) [.ret (.bl false)] [],
    .ret (.blt .all [.comp (.call "is_reading" [.v 0, .v 1, .v 3]) [3] [3] true .seq [.ix (.v 2) (.int 1)] []])]
def T_is_step : Tab := tabOf [("is_reading", S_is_reading)]
theorem T_is_step_is_reading : T_is_step.fn "is_reading" = some S_is_reading := by rfl
def S_is_step : Fn := guardF (runD T_is_step d_is_step)
def d_stands : Df where
  N := ["value", "things", "steps", "made", "number", "step"]
  np := 1
  body := [
    .ifs (.or (.not (.isa (.v 0) .tuple)) (.or (.cmp .NotEq (.blt .len [.v 0]) (.int 3)) (.not (.call "are_things" [.ix (.v 0) (.int 0)])))) [.ret (.bl false)] [],
    .asgT [1, 2, 3] (.v 0),
    .ifs (.or (.not (.isa (.v 2) .tuple)) (.not (.chain .LtE .LtE (.int 1) (.blt .len [.v 2]) (.int 8)))) [.ret (.bl false)] [],
    .ifs (.not (.blt .all [.comp (.call "is_step" [.blt .len [.v 1], .v 4, .v 5]) [4, 5] [4, 5] false .enum [.v 2] []])) [.ret (.bl false)] [],
    .ret (.and (.call "are_numbers" [.v 3, .int 0, .bin .Sub (.blt .len [.v 2]) (.int 1)]) (.chain .LtE .LtE (.int 1) (.blt .len [.v 3]) (.int 3)))]
def T_stands : Tab := tabOf [("are_things", S_are_things), ("is_step", S_is_step), ("are_numbers", S_are_numbers)]
theorem T_stands_are_things : T_stands.fn "are_things" = some S_are_things := by rfl
theorem T_stands_is_step : T_stands.fn "is_step" = some S_is_step := by rfl
theorem T_stands_are_numbers : T_stands.fn "are_numbers" = some S_are_numbers := by rfl
def S_stands : Fn := guardF (runD T_stands d_stands)
def d_is_recipe : Df where
  N := ["value"]
  np := 1
  body := [
    .ret (.call "stands" [.v 0])]
def T_is_recipe : Tab := tabOf [("stands", S_stands)]
theorem T_is_recipe_stands : T_is_recipe.fn "stands" = some S_stands := by rfl
def S_is_recipe : Fn := guardF (runD T_is_recipe d_is_recipe)
def d_law_k02 : Df where
  N := ["script", "state", "four", "two", "steps", "again", "made", "good", "bad", "one"]
  np := 1
  body := [
    .init 1,
    .asgT [2, 3] (.tup [.tup [.str "a", .str "ab", .str "abcd", .str "b"], .tup [.str "", .str "zzzz"]]),
    .asg 4 (.lst [.tup [.str "sort", .tup [.tup [.str "thing", .int 0]]]]),
    .for [5] true .range [.int 7] [.app 4 (.call "_law_some_step" [.v 0, .v 1, .int 1, .blt .len [.v 4]])],
    .frz [4],
    .par [4, 6] [.blt .tuple [.v 4], .call "_law_some_of" [.v 0, .v 1, .rng true [.int 8], .int 3]],
    .frz [4],
    .asg 7 (.lst [.tup [.bin .Mult (.tup [.v 2]) (.int 4), .v 4, .v 6], .tup [.bin .Add (.bin .Mult (.tup [.v 2]) (.int 3)) (.bin .Mult (.tup [.v 3]) (.int 2)), .v 4, .v 6], .tup [.bin .Mult (.tup [.v 3]) (.int 5), .sl (.v 4) [] [.int 1], .tup [.int 0]]]),
    .app 7 (.tup [.bin .Mult (.tup [.tup [.str ""]]) (.int 5), .v 4, .v 6]),
    .frz [7],
    .asg 8 (.lst [.tup [.bin .Add (.bin .Mult (.tup [.v 2]) (.int 4)) (.tup [.v 3]), .v 4, .v 6], .tup [.bin .Mult (.tup [.v 2]) (.int 5), .v 4, .v 6], .tup [.bin .Mult (.tup [.tup [.str "a"]]) (.int 6), .v 4, .v 6]]),
    .app 8 (.tup [.tup [.v 3], .bin .Add (.v 4) (.sl (.v 4) [] [.int 1]), .v 6]),
    .ext 8 (.lst [.tup [.tup [.tup [.str "a", .str "b", .str "c", .str "d", .str "e"]], .v 4, .v 6], .tup [.tup [.v 3], .v 4, .tup [.int 0, .int 1, .int 2, .int 3]], .tup [.tup [.v 3], .tup [], .tup [.int 0]]]),
    .frz [8],
    .ret (.and (.blt .all [.comp (.cmp .Is (.call "is_recipe" [.v 9]) (.bl true)) [9] [9] true .seq [.v 7] []]) (.not (.blt .any [.comp (.call "is_recipe" [.v 9]) [9] [9] true .seq [.v 8] []])))]
def T_law_k02 : Tab := tabOf [("_law_some_step", S__law_some_step), ("_law_some_of", S__law_some_of), ("is_recipe", S_is_recipe)]
theorem T_law_k02__law_some_step : T_law_k02.fn "_law_some_step" = some S__law_some_step := by rfl
theorem T_law_k02__law_some_of : T_law_k02.fn "_law_some_of" = some S__law_some_of := by rfl
theorem T_law_k02_is_recipe : T_law_k02.fn "is_recipe" = some S_is_recipe := by rfl
end SB
/-! What the defs compute: numbers, texts, things, steps, recipes. -/
namespace SB
open PySem

def finD : Fl → M Sl
  | .nx _ => pure (.fz .none)
  | .rt v => pure v
theorem runD_eq {Φ : Tab} {d : Df} {args : List Sl} (h : args.length = d.np) (ha : args.all argOk = true) : runD Φ d args = exs Φ d.body (args.map some ++ List.replicate (d.N.length - d.np) none) >>= finD := by
  unfold runD
  rw [if_pos ⟨h, ha⟩]
  rfl
section
variable {Φ : Tab} {ρ : Rho}
@[simp] theorem finD_rt (v : Sl) : finD (.rt v) = pure v := rfl
@[simp] theorem finD_nx (ρ : Rho) : finD (.nx ρ) = pure (.fz .none) := rfl
@[simp] theorem slAt_nil (i : Nat) : slAt [] i = none := rfl
@[simp] theorem slAt_zero (x : Option Sl) (r : Rho) : slAt (x :: r) 0 = x := by cases x <;> rfl
@[simp] theorem slAt_succ (x : Option Sl) (r : Rho) (i : Nat) : slAt (x :: r) (i + 1) = slAt r i := rfl
@[simp] theorem rd_fz (d : D) : (Sl.fz d).rd = pure d := rfl
@[simp] theorem rd_ow (d : D) : (Sl.ow d).rd = pure d := rfl
@[simp] theorem rd_bw (d : D) : (Sl.bw d).rd = pure d := rfl
@[simp] theorem kp_fz (d : D) : (Sl.fz d).kp = pure d := rfl
@[simp] theorem kp_ow (ds : List D) : (Sl.ow (.list ds)).kp = pure (.list ds) := rfl
@[simp] theorem fr_fz (d : D) : (Sl.fz d).fr = pure (.fz d) := rfl
@[simp] theorem fr_ow (ds : List D) : (Sl.ow (.list ds)).fr = pure (.fz (.list ds)) := rfl
@[simp] theorem fr_bw (d : D) : (Sl.bw d).fr = pure (.bw d) := rfl
@[simp] theorem fr_st : Sl.st.fr = pure .st := rfl
@[simp] theorem seen_fz (d : D) : (Sl.fz d).seen = .fz d := rfl
@[simp] theorem seen_ow (d : D) : (Sl.ow d).seen = .bw d := rfl
@[simp] theorem seen_bw (d : D) : (Sl.bw d).seen = .bw d := rfl
@[simp] theorem seen_st : Sl.st.seen = .st := rfl
@[simp] theorem asB_bool (b : Bool) : asB (.bool b) = pure b := rfl
@[simp] theorem keepS_fz (d : D) : keepS (.fz d) = some (.fz d) := rfl
@[simp] theorem keepS_ow (d : D) : keepS (.ow d) = some (.ow d) := rfl
@[simp] theorem intOf_int (i : Int) : intOf (.int i) = some i := rfl
@[simp] theorem strOf_str (x : Str) : strOf (.str x) = some x := rfl
@[simp] theorem lstOf_list (x : List D) : lstOf (.list x) = some x := rfl
@[simp] theorem owOf_ow (d : D) : owOf (.ow d) = some d := rfl
@[simp] theorem ev_non : ev Φ .non ρ = pure (.fz .none) := by rw [ev]
@[simp] theorem ev_bl (b : Bool) : ev Φ (.bl b) ρ = pure (.fz (.bool b)) := by rw [ev]
@[simp] theorem ev_int (i : Int) : ev Φ (.int i) ρ = pure (.fz (.int i)) := by rw [ev]
@[simp] theorem ev_str (x : Str) : ev Φ (.str x) ρ = pure (.fz (.str x)) := by rw [ev]
@[simp] theorem ev_v (i : Nat) : ev Φ (.v i) ρ = (do let s ← ofO (slAt ρ i); pure s.seen) := by rw [ev]
@[simp] theorem ev_lenS (i : Nat) : ev Φ (.lenS i) ρ = (do let s ← ofO (slAt ρ i); let _ ← ofO (isSt s); let n ← getM; pure (.fz (.int n))) := by rw [ev]
@[simp] theorem ev_gl (x : Str) : ev Φ (.gl x) ρ = ofO ((Φ.gl x).map .fz) := by rw [ev]
@[simp] theorem ev_tup (es : List Ex) : ev Φ (.tup es) ρ = (do let ds ← evk Φ es ρ; if ds.length ≤ sizeLine then pure (.fz (.tuple ds)) else M.fail) := by rw [ev]
@[simp] theorem ev_lst (es : List Ex) : ev Φ (.lst es) ρ = (do let ds ← evk Φ es ρ; if ds.length ≤ sizeLine then pure (.ow (.list ds)) else M.fail) := by rw [ev]
@[simp] theorem ev_bin (o : Operator) (a b : Ex) : ev Φ (.bin o a b) ρ = (do let x ← ev Φ a ρ; let d ← x.rd; let y ← ev Φ b ρ; let e ← y.rd; ofO (binD o d e)) := by rw [ev]
@[simp] theorem ev_not (a : Ex) : ev Φ (.not a) ρ = (do let x ← ev Φ a ρ; let d ← x.rd; let b ← asB d; pure (.fz (.bool (!b)))) := by rw [ev]
@[simp] theorem ev_neg (a : Ex) : ev Φ (.neg a) ρ = (do let x ← ev Φ a ρ; let d ← x.rd; let i ← ofO (intOf d); pure (.fz (.int (-i)))) := by rw [ev]
@[simp] theorem ev_and (a b : Ex) : ev Φ (.and a b) ρ = (do let x ← ev Φ a ρ; let d ← x.rd; let k ← asB d; if k then ev Φ b ρ else pure (.fz (.bool false))) := by rw [ev]
@[simp] theorem ev_or (a b : Ex) : ev Φ (.or a b) ρ = (do let x ← ev Φ a ρ; let d ← x.rd; let k ← asB d; if k then pure (.fz (.bool true)) else ev Φ b ρ) := by rw [ev]
@[simp] theorem ev_cmp (o : CmpOp) (a b : Ex) : ev Φ (.cmp o a b) ρ = (do let x ← ev Φ a ρ; let d ← x.rd; let y ← ev Φ b ρ; let e ← y.rd; ofO ((cmpD o d e).map fun k => .fz (.bool k))) := by rw [ev]
@[simp] theorem ev_chain (o o' : CmpOp) (a b c : Ex) : ev Φ (.chain o o' a b c) ρ = (do let x ← ev Φ a ρ; let d ← x.rd; let y ← ev Φ b ρ; let e ← y.rd; let k ← ofO (cmpD o d e); if k then do let z ← ev Φ c ρ; let f ← z.rd; ofO ((cmpD o' e f).map fun k => .fz (.bool k)) else pure (.fz (.bool false))) := by rw [ev]
@[simp] theorem ev_ife (c a b : Ex) : ev Φ (.ife c a b) ρ = (do let x ← ev Φ c ρ; let d ← x.rd; let k ← asB d; if k then ev Φ a ρ else ev Φ b ρ) := by rw [ev]
@[simp] theorem ev_call (f : Str) (es : List Ex) : ev Φ (.call f es) ρ = (do let rs ← eva Φ es ρ; let g ← ofO (Φ.fn f); g rs) := by rw [ev]
@[simp] theorem ev_blt (f : Bf) (es : List Ex) : ev Φ (.blt f es) ρ = (do let ds ← evr Φ es ρ; ofO (bltD f ds)) := by rw [ev]
@[simp] theorem ev_isa (a : Ex) (T : Ty) : ev Φ (.isa a T) ρ = (do let x ← ev Φ a ρ; let d ← x.rd; pure (.fz (.bool (isaD T d)))) := by rw [ev]
@[simp] theorem ev_inG (ng : Bool) (a : Ex) (x : Str) : ev Φ (.inG ng a x) ρ = (do let y ← ev Φ a ρ; let d ← y.rd; let z ← ofO (strOf d); let kvs ← ofO (Φ.gd x); pure (.fz (.bool (ng != (kvs.lookup z).isSome)))) := by rw [ev]
@[simp] theorem ev_getG (a : Ex) (x : Str) : ev Φ (.getG x a) ρ = (do let y ← ev Φ a ρ; let d ← y.rd; let z ← ofO (strOf d); let kvs ← ofO (Φ.gd x); let i ← ofO (kvs.lookup z); pure (.fz (.int i))) := by rw [ev]
@[simp] theorem ev_dget (ks : List (Str × Int)) (a b : Ex) : ev Φ (.dget ks a b) ρ = (do let y ← ev Φ a ρ; let d ← y.rd; let z ← ev Φ b ρ; let e ← z.rd; let x ← ofO (strOf d); let j ← ofO (intOf e); pure (.fz (.int ((lastOf x ks).getD j)))) := by rw [ev]
@[simp] theorem ev_rng (l : Bool) (es : List Ex) : ev Φ (.rng l es) ρ = (do let ds ← evr Φ es ρ; let xs ← ofO (iterD .range ds); if l then pure (.ow (.list xs)) else pure (.fz (.tuple xs))) := by rw [ev]
@[simp] theorem ev_ix (a i : Ex) : ev Φ (.ix a i) ρ = (do let x ← ev Φ a ρ; let d ← x.rd; let y ← ev Φ i ρ; let e ← y.rd; ofO (ixD d e)) := by rw [ev]
@[simp] theorem ev_sl (a : Ex) (lo hi : List Ex) : ev Φ (.sl a lo hi) ρ = (do let x ← ev Φ a ρ; let d ← x.rd; let l ← evr Φ lo ρ; let lo ← optI l; let h ← evr Φ hi ρ; let hi ← optI h; ofO (slD d lo hi)) := by rw [ev]
@[simp] theorem eva_nil : eva Φ [] ρ = pure [] := by rw [eva]
@[simp] theorem eva_cons (e : Ex) (es : List Ex) : eva Φ (e :: es) ρ = (do let x ← ev Φ e ρ; let y ← x.fr; let r ← eva Φ es ρ; pure (y :: r)) := by rw [eva]
@[simp] theorem evk_nil : evk Φ [] ρ = pure [] := by rw [evk]
@[simp] theorem evk_cons (e : Ex) (es : List Ex) : evk Φ (e :: es) ρ = (do let x ← ev Φ e ρ; let y ← x.kp; let r ← evk Φ es ρ; pure (y :: r)) := by rw [evk]
@[simp] theorem evr_nil : evr Φ [] ρ = pure [] := by rw [evr]
@[simp] theorem evr_cons (e : Ex) (es : List Ex) : evr Φ (e :: es) ρ = (do let x ← ev Φ e ρ; let y ← x.rd; let r ← evr Φ es ρ; pure (y :: r)) := by rw [evr]
@[simp] theorem evc_nil : evc Φ [] ρ = pure true := by rw [evc]
@[simp] theorem evc_one (e : Ex) : evc Φ [e] ρ = (do let x ← ev Φ e ρ; let d ← x.rd; asB d) := by rw [evc]
@[simp] theorem optI_nil : optI [] = pure none := rfl
@[simp] theorem optI_one (i : Int) : optI [.int i] = pure (some i) := rfl
/-- what follows a statement in a block -/
def nextS (Φ : Tab) (ss : List SB.St) : Fl → M Fl
  | .nx ρ => exs Φ ss ρ
  | .rt v => pure (.rt v)
@[simp] theorem nextS_nx (ss : List SB.St) (ρ : Rho) : nextS Φ ss (.nx ρ) = exs Φ ss ρ := rfl
@[simp] theorem nextS_rt (ss : List SB.St) (v : Sl) : nextS Φ ss (.rt v) = pure (.rt v) := rfl
@[simp] theorem exs_nil : exs Φ [] ρ = pure (.nx ρ) := by rw [exs]
@[simp] theorem exs_cons (s : SB.St) (ss : List SB.St) : exs Φ (s :: ss) ρ = ex Φ s ρ >>= nextS Φ ss := by
  rw [exs]
  rfl
@[simp] theorem ex_asg (i : Nat) (e : Ex) : ex Φ (.asg i e) ρ = (do let x ← ev Φ e ρ; let y ← ofO (keepS x); pure (.nx (ρ.set i (some y)))) := by rw [ex]
@[simp] theorem ex_asgT (is : List Nat) (e : Ex) : ex Φ (.asgT is e) ρ = (do let x ← ev Φ e ρ; let d ← x.rd; let ρ' ← ofO (bindT false is d ρ); pure (.nx ρ')) := by rw [ex]
@[simp] theorem ex_ret (e : Ex) : ex Φ (.ret e) ρ = (do let x ← ev Φ e ρ; let y ← ofO (keepS x); pure (.rt y)) := by rw [ex]
@[simp] theorem ex_retv (i : Nat) : ex Φ (.retv i) ρ = (do let s ← ofO (slAt ρ i); let y ← ofO (keepS s); pure (.rt y)) := by rw [ex]
@[simp] theorem ex_ifs (c : Ex) (a b : List SB.St) : ex Φ (.ifs c a b) ρ = (do let x ← ev Φ c ρ; let d ← x.rd; let k ← asB d; if k then exs Φ a ρ else exs Φ b ρ) := by rw [ex]
@[simp] theorem ex_aug (o : Operator) (i : Nat) (e : Ex) : ex Φ (.aug o i e) ρ = (do let s ← ofO (slAt ρ i); let d ← s.rd; let y ← ev Φ e ρ; let f ← y.rd; let z ← ofO (augD o d f); pure (.nx (ρ.set i (some (.fz z))))) := by rw [ex]
@[simp] theorem ex_frz (is : List Nat) : ex Φ (.frz is) ρ = pure (.nx (frzR is ρ)) := by rw [ex]
@[simp] theorem ex_mv (i j : Nat) : ex Φ (.mv i j) ρ = (do let s ← ofO (slAt ρ j); let d ← ofO (owOf s); pure (.nx ((ρ.set j none).set i (some (.ow d))))) := by rw [ex]
@[simp] theorem ex_init (i : Nat) : ex Φ (.init i) ρ = (do let _ ← initM; pure (.nx (ρ.set i (some .st)))) := by rw [ex]
@[simp] theorem ex_app (i : Nat) (e : Ex) : ex Φ (.app i e) ρ = (do let x ← ev Φ e ρ; let d ← x.kp; let s ← ofO (slAt ρ i); let k ← ofO (appK s); let ρ' ← appTo ρ i d k; pure (.nx ρ')) := by rw [ex]
@[simp] theorem ex_ext (i : Nat) (e : Ex) : ex Φ (.ext i e) ρ = (do let x ← ev Φ e ρ; let d ← ofO (owOf x); let es ← ofO (lstOf d); let ds ← ofO (owL ρ i); if ds.length + es.length ≤ sizeLine then pure (.nx (ρ.set i (some (.ow (.list (ds ++ es)))))) else M.fail) := by rw [ex]
@[simp] theorem evo_nil : evo Φ [] ρ = pure [] := by rw [evo]
@[simp] theorem evo_cons' (e : Ex) (es : List Ex) : evo Φ (e :: es) ρ = (do let x ← ev Φ e ρ; let y ← ofO (keepS x); let r ← evo Φ es ρ; pure (y :: r)) := by rw [evo]
theorem ex_par2 (i j : Nat) (a b : Ex) : ex Φ (.par [i, j] [a, b]) ρ = (do let x ← ev Φ a ρ; let x ← ofO (keepS x); let y ← ev Φ b ρ; let y ← ofO (keepS y); pure (.nx ((ρ.set i (some x)).set j (some y)))) := by
  rw [ex]
  simp only [evo, bind_assoc, pure_bind]
@[simp] theorem appTo_some (i : Nat) (d : D) (ds : List D) : appTo ρ i d (some ds) = (if ds.length < sizeLine then pure (ρ.set i (some (.ow (.list (ds ++ [d]))))) else M.fail) := rfl
@[simp] theorem appK_ow (ds : List D) : appK (.ow (.list ds)) = some (some ds) := rfl
/-! ### comprehensions -/
theorem turns_map {f : D → M (Option D)} {g : D → D} : ∀ {xs : List D}, (∀ d ∈ xs, f d = pure (some (g d))) → turns f xs = pure (xs.map g)
  | [], _ => rfl
  | x :: xs, h => by
    have ih := turns_map (f := f) (g := g) (xs := xs) fun d hd => h d (List.mem_cons_of_mem _ hd)
    rw [turns, h x List.mem_cons_self, pure_bind, ih, pure_bind]
    rfl
theorem turns_some {f : D → M (Option D)} {g : D → Option D} : ∀ {xs : List D}, (∀ d ∈ xs, f d = pure (g d)) → turns f xs = pure (xs.filterMap g)
  | [], _ => rfl
  | x :: xs, h => by
    have ih := turns_some (f := f) (g := g) (xs := xs) fun d hd => h d (List.mem_cons_of_mem _ hd)
    rw [turns, h x List.mem_cons_self, pure_bind, ih, pure_bind, List.filterMap_cons]
    cases g x <;> rfl
theorem comp_map {elt : Ex} {own tg : List Nat} {one : Bool} {k : IK} {args : List Ex} {ds xs : List D} (g : D → D) (h1 : evr Φ args ρ = pure ds) (h2 : iterD k ds = some xs)
    (h3 : ∀ d ∈ xs, (do let ρ1 ← ofO (bindT one tg d (wipeR ρ own)); let y ← ev Φ elt ρ1; y.kp) = pure (g d)) : ev Φ (.comp elt own tg one k args []) ρ = pure (.ow (.list (xs.map g))) := by
  rw [ev, h1, pure_bind, h2, ofO_some, pure_bind]
  rw [turns_map (g := g) fun d hd => ?_, pure_bind]
  have h := h3 d hd
  cases hb : bindT one tg d (wipeR ρ own) with
  | none =>
    rw [hb] at h
    exact absurd (congrFun h none) (by simp [M.pure_run])
  | some ρ1 =>
    rw [hb, ofO_some, pure_bind] at h
    rw [ofO_some, pure_bind, evc_nil, pure_bind, if_pos rfl, ← bind_assoc, h, pure_bind]
theorem turns_over {α : Type} {f : D → M (Option D)} {a : α → D} {g : α → D} : ∀ {l : List α}, (∀ x ∈ l, f (a x) = pure (some (g x))) → turns f (l.map a) = pure (l.map g)
  | [], _ => rfl
  | x :: xs, h => by
    have ih := turns_over (f := f) (a := a) (g := g) (l := xs) fun d hd => h d (List.mem_cons_of_mem _ hd)
    rw [List.map_cons, turns, h x List.mem_cons_self, pure_bind, ih, pure_bind]
    rfl
theorem turn_one {elt : Ex} {own tg : List Nat} {one : Bool} {d e : D} (h : (do let ρ1 ← ofO (bindT one tg d (wipeR ρ own)); let y ← ev Φ elt ρ1; y.kp) = pure e) :
    (do let ρ1 ← ofO (bindT one tg d (wipeR ρ own)); let t ← evc Φ [] ρ1; if t then do let y ← ev Φ elt ρ1; let e ← y.kp; pure (some e) else pure none) = (pure (some e) : M (Option D)) := by
  cases hb : bindT one tg d (wipeR ρ own) with
  | none =>
    rw [hb] at h
    exact absurd (congrFun h none) (by simp [M.pure_run])
  | some ρ1 =>
    rw [hb, ofO_some, pure_bind] at h
    rw [ofO_some, pure_bind, evc_nil, pure_bind, if_pos rfl, ← bind_assoc, h, pure_bind]
/-- a comprehension over what comes of a list -/
theorem comp_over {α : Type} {elt : Ex} {own tg : List Nat} {one : Bool} {k : IK} {args : List Ex} {ds : List D} (l : List α) (f g : α → D) (h1 : evr Φ args ρ = pure ds) (h2 : iterD k ds = some (l.map f))
    (h3 : ∀ x ∈ l, (do let ρ1 ← ofO (bindT one tg (f x) (wipeR ρ own)); let y ← ev Φ elt ρ1; y.kp) = pure (g x)) : ev Φ (.comp elt own tg one k args []) ρ = pure (.ow (.list (l.map g))) := by
  rw [ev, h1, pure_bind, h2, ofO_some, pure_bind]
  rw [turns_over (g := g) fun x hx => turn_one (h3 x hx), pure_bind]
theorem boolsOf_map {α : Type} (f : α → Bool) : ∀ xs : List α, boolsOf (xs.map fun d => .bool (f d)) = some (xs.map f)
  | [] => rfl
  | x :: xs => by
    rw [List.map_cons, boolsOf, boolsOf_map f xs]
    rfl
theorem intsOf_map {α : Type} (f : α → Int) : ∀ xs : List α, intsOf (xs.map fun d => .int (f d)) = some (xs.map f)
  | [] => rfl
  | x :: xs => by
    rw [List.map_cons, intsOf, intsOf_map f xs]
    rfl
theorem all_bools {α : Type} (f : α → Bool) (xs : List α) : bltD .all [.list (xs.map fun d => .bool (f d))] = some (.fz (.bool (xs.all f))) := by
  simp [bltD, boolsOf_map]
theorem any_bools {α : Type} (f : α → Bool) (xs : List α) : bltD .any [.list (xs.map fun d => .bool (f d))] = some (.fz (.bool (xs.any f))) := by
  simp [bltD, boolsOf_map]
/-! ### loops -/
theorem loop_fold {σ α : Type} {f : D → Rho → M Fl} (a : α → D) (R : σ → Rho) (step : σ → α → σ) : ∀ (l : List α) (s : σ), (∀ s, ∀ x ∈ l, f (a x) (R s) = pure (.nx (R (step s x)))) → loop f (l.map a) (R s) = pure (.nx (R (l.foldl step s)))
  | [], s, _ => rfl
  | x :: l, s, h => by
    have ih := loop_fold (f := f) a R step l (step s x) fun s y hy => h s y (List.mem_cons_of_mem _ hy)
    rw [List.map_cons, loop, h s x List.mem_cons_self, pure_bind]
    exact ih
@[simp] theorem ex_for (tg : List Nat) (one : Bool) (k : IK) (args : List Ex) (body : List SB.St) : ex Φ (.for tg one k args body) ρ = (do let ds ← evk Φ args ρ; let xs ← ofO (iterD k ds); loop (fun d ρ => ofO (bindT one tg d ρ) >>= exs Φ body) xs ρ) := by rw [ex]
end
end SB
/-! What the defs compute: numbers, texts, things, steps, recipes. -/
namespace SB
open PySem

theorem cut_one {α : Type} (xs : List α) : cutL xs (some 1) none = xs.drop 1 := by
  have e1 : HT.sIx xs.length 0 (some 1) = min 1 xs.length := HT.sIx_nat xs.length 0 1
  unfold cutL
  rw [e1, HT.sIx_none]
  cases xs with
  | nil => rfl
  | cons x r =>
    have e2 : min 1 (x :: r).length = 1 := by simp
    rw [e2]
    simp
theorem cut_to {α : Type} (xs : List α) (n : Nat) : cutL xs none (some (n : Int)) = xs.take n := by
  have e1 : HT.sIx xs.length xs.length (some (n : Int)) = min n xs.length := HT.sIx_nat xs.length xs.length n
  unfold cutL
  rw [e1, HT.sIx_none]
  simp [List.take_eq_take_iff]
/-! ### data that every operation takes -/
mutual
def fit : D → Bool
  | .none | .bool _ | .int _ => true
  | .str x => PyData.strOk x && decide (x.length ≤ sizeLine)
  | .list xs => fitAll xs
  | .tuple xs => fitAll xs
  | .dict _ => false
def fitAll : List D → Bool
  | [] => true
  | x :: xs => fit x && fitAll xs
end
@[simp] theorem fit_none : fit .none = true := by rw [fit]
@[simp] theorem fit_bool (b : Bool) : fit (.bool b) = true := by rw [fit]
@[simp] theorem fit_int (i : Int) : fit (.int i) = true := by rw [fit]
@[simp] theorem fit_list (xs : List D) : fit (.list xs) = fitAll xs := by rw [fit]
@[simp] theorem fit_tuple (xs : List D) : fit (.tuple xs) = fitAll xs := by rw [fit]
@[simp] theorem fitAll_nil : fitAll [] = true := by rw [fitAll]
@[simp] theorem fitAll_cons (x : D) (xs : List D) : fitAll (x :: xs) = (fit x && fitAll xs) := by rw [fitAll]
theorem fitAll_iff : ∀ {xs : List D}, fitAll xs = true ↔ ∀ x ∈ xs, fit x = true
  | [] => by simp
  | x :: xs => by
    rw [fitAll_cons, Bool.and_eq_true, fitAll_iff]
    simp
theorem fit_mem {xs : List D} {x : D} (h : fit (.tuple xs) = true) (hx : x ∈ xs) : fit x = true := fitAll_iff.mp (by simpa using h) x hx
theorem fit_str {x : Str} (h : fit (.str x) = true) : PyData.strOk x = true ∧ x.length ≤ sizeLine := by
  rw [fit, Bool.and_eq_true, decide_eq_true_eq] at h
  exact h
mutual
theorem fit_lay : ∀ d : D, fit d = true → d.canLay0 = true
  | .none, _ => rfl
  | .bool _, _ => rfl
  | .int _, _ => rfl
  | .str x, h => (fit_str h).1
  | .list xs, h => by
    rw [PyData.canLay0]
    exact fitAll_lay xs (by simpa using h)
  | .tuple xs, h => by
    rw [PyData.canLay0]
    exact fitAll_lay xs (by simpa using h)
  | .dict _, h => by
    rw [fit] at h
    cases h
theorem fitAll_lay : ∀ xs : List D, fitAll xs = true → PyData.canLayAll0 xs = true
  | [], _ => rfl
  | x :: xs, h => by
    rw [fitAll_cons, Bool.and_eq_true] at h
    rw [PyData.canLayAll0, fit_lay x h.1, fitAll_lay xs h.2]
    rfl
end
theorem ok_fit {d : D} (h : fit d = true) (hd : d.depth ≤ 64) : okD d = true := by
  show (d.canLay0 && decide (d.depth ≤ 64)) = true
  rw [fit_lay d h, decide_eq_true hd]
  rfl
theorem ok_str {x : Str} (h : fit (.str x) = true) : okD (.str x) = true := ok_fit h (by rw [PyData.depth]; omega)
theorem ok_int (i : Int) : okD (.int i) = true := by rfl
theorem ok_thing : okD (.str "thing") = true := by decide +kernel
theorem ok_step : okD (.str "step") = true := by decide +kernel
theorem thing_step : (("thing" : Str) = "step") = False := by
  rw [eq_iff_iff]
  exact ⟨fun h => absurd h (by decide +kernel), fun h => h.elim⟩
theorem step_thing : (("step" : Str) = "thing") = False := by
  rw [eq_iff_iff]
  exact ⟨fun h => absurd h (by decide +kernel), fun h => h.elim⟩
/-! ### numbers -/
def isIntD (d : D) (lo hi : Int) : Bool := match d with
  | .int i => decide (lo ≤ i) && decide (i ≤ hi)
  | _ => false
theorem run_is_integer (d : D) (lo hi : Int) : S_is_integer [.fz d, .fz (.int lo), .fz (.int hi)] = pure (.fz (.bool (isIntD d lo hi))) := by
  refine guardF_pure ?_
  rw [runD_eq rfl rfl]
  cases d with
  | int i => by_cases h : lo ≤ i <;> simp [d_is_integer, isaD, PyData.isInt, PyData.isBool, isIntD, cmpD, h]
  | _ => simp [d_is_integer, isaD, PyData.isInt, PyData.isBool, isIntD, cmpD]
/-! ### texts -/
def okText (x : Str) (most : Int) : Bool := decide ((x.length : Int) ≤ most) && x.cps.toList.all fun c => decide (c ∈ lettersT.cps.toList)
def isTextD (d : D) (most : Int) : Bool := match d with
  | .str x => okText x most
  | _ => false
theorem run_is_text (d : D) (most : Int) (h : fit d = true) : S_is_text [.fz d, .fz (.int most)] = pure (.fz (.bool (isTextD d most))) := by
  refine guardF_pure ?_
  rw [runD_eq rfl rfl]
  cases d with
  | str x =>
    have hx := (fit_str h).2
    have hc : ev T_is_text (.comp (.cmp .In (.v 2) (.gl "LETTERS")) [2] [2] true .seq [.v 0] []) [some (.fz (.str x)), some (.fz (.int most)), none] = pure (.ow (.list (x.cps.toList.map fun c => .bool (decide (c ∈ lettersT.cps.toList))))) := by
      refine comp_over (ds := [.str x]) x.cps.toList (fun c => .str ⟨#[c]⟩) _ (by simp) (by simp [iterD, hx]) fun c _ => ?_
      simp [bindT, wipeR, T_is_text, tabOf, cmpD]
    by_cases hl : (x.length : Int) ≤ most
    · simp [d_is_text, isaD, PyData.isStr, isTextD, okText, cmpD, bltD, hx, hl, hc, boolsOf_map]
    · simp [d_is_text, isaD, PyData.isStr, isTextD, okText, cmpD, bltD, hx, hl]
  | _ => simp [d_is_text, isaD, PyData.isStr, isTextD]
/-! ### what rises -/
def lesD : D → D → Bool
  | .int i, .int j => decide (i < j)
  | .str x, .str y => decide (x.cps.toList < y.cps.toList)
  | _, _ => false
def risesB {α : Type} (lt : α → α → Bool) : List α → Bool
  | x :: y :: r => lt x y && risesB lt (y :: r)
  | _ => true
theorem rises_zip {α : Type} (lt : α → α → Bool) : ∀ l : List α, ((l.zip (l.drop 1)).all fun p => lt p.1 p.2) = risesB lt l
  | [] => rfl
  | [_] => rfl
  | x :: y :: r => by
    have ih := rises_zip lt (y :: r)
    show (lt x y && _) = (lt x y && _)
    exact congrArg _ ih
theorem run_rises (xs : List D) (hlt : ∀ x ∈ xs, ∀ y ∈ xs, cmpD .Lt x y = some (lesD x y)) : S_rises [.fz (.tuple xs)] = pure (.fz (.bool (risesB lesD xs))) := by
  refine guardF_pure ?_
  rw [runD_eq rfl rfl]
  have hc : ev T_rises (.comp (.cmp .Lt (.v 1) (.v 2)) [1, 2] [1, 2] false .zip [.v 0, .sl (.v 0) [.int 1] []] []) [some (.fz (.tuple xs)), none, none] = pure (.ow (.list ((xs.zip (xs.drop 1)).map fun p => .bool (lesD p.1 p.2)))) := by
    refine comp_over (ds := [.tuple xs, .tuple (xs.drop 1)]) (xs.zip (xs.drop 1)) (fun p => .tuple [p.1, p.2]) _ ?_ ?_ fun p hp => ?_
    · simp [slD, cut_one]
    · simp only [iterD]
    · have hp' := List.of_mem_zip (a := p.1) (b := p.2) hp
      have hl := hlt _ hp'.1 _ (List.mem_of_mem_drop hp'.2)
      simp [bindT, wipeR, setAll, hl]
  rw [← rises_zip]
  simp [d_rises, hc, all_bools]
theorem lt_str {xs : List D} {n : Int} (h : xs.all (isTextD · n) = true) : ∀ x ∈ xs, ∀ y ∈ xs, cmpD .Lt x y = some (lesD x y) := by
  intro x hx y hy
  have h1 := List.all_eq_true.mp h x hx
  have h2 := List.all_eq_true.mp h y hy
  cases x <;> simp [isTextD] at h1
  cases y <;> simp [isTextD] at h2
  simp [cmpD, lesD]
theorem lt_int {xs : List D} {lo hi : Int} (h : xs.all (isIntD · lo hi) = true) : ∀ x ∈ xs, ∀ y ∈ xs, cmpD .Lt x y = some (lesD x y) := by
  intro x hx y hy
  have h1 := List.all_eq_true.mp h x hx
  have h2 := List.all_eq_true.mp h y hy
  cases x <;> simp [isIntD] at h1
  cases y <;> simp [isIntD] at h2
  simp [cmpD, lesD]
/-! ### things -/
def isThingD : D → Bool
  | .tuple xs => decide (1 ≤ xs.length) && (decide (xs.length ≤ 4) && (xs.all (isTextD · 4) && risesB lesD xs))
  | _ => false
theorem run_is_thing (d : D) (h : fit d = true) : S_is_thing [.fz d] = pure (.fz (.bool (isThingD d))) := by
  refine guardF_pure ?_
  rw [runD_eq rfl rfl]
  cases d with
  | tuple xs =>
    have hc : ev T_is_thing (.comp (.call "is_text" [.v 1, .int 4]) [1] [1] true .seq [.v 0] []) [some (.fz (.tuple xs)), none] = pure (.ow (.list (xs.map fun d => .bool (isTextD d 4)))) := by
      refine comp_map _ (ds := [.tuple xs]) (by simp) (by simp [iterD]) fun d hd => ?_
      have ht := run_is_text d 4 (fit_mem h hd)
      simp [bindT, wipeR, T_is_thing_is_text, ht]
    have hi : ((xs.length : Int) ≤ 4) = (xs.length ≤ 4) := by simp only [eq_iff_iff]; omega
    have hj : ((1 : Int) ≤ xs.length) = (1 ≤ xs.length) := by simp only [eq_iff_iff]; omega
    by_cases h1 : 1 ≤ xs.length
    · by_cases h2 : xs.length ≤ 4
      · cases h3 : xs.all (isTextD · 4) with
        | false => simp [d_is_thing, isaD, PyData.isTuple, isThingD, cmpD, bltD, hi, hj, h1, h2, hc, boolsOf_map, h3]
        | true =>
          have hr := run_rises xs (lt_str h3)
          simp [d_is_thing, isaD, PyData.isTuple, isThingD, cmpD, bltD, hi, hj, h1, h2, hc, boolsOf_map, h3, T_is_thing_rises, hr]
      · simp [d_is_thing, isaD, PyData.isTuple, isThingD, cmpD, bltD, hi, hj, h1, h2]
    · simp [d_is_thing, isaD, PyData.isTuple, isThingD, cmpD, bltD, hi, hj, h1]
  | _ => simp [d_is_thing, isaD, PyData.isTuple, isThingD]
def lenD : D → Nat
  | .tuple xs => xs.length
  | _ => 0
def prodD (xs : List D) : Int := xs.foldl (fun c t => c * (lenD t : Int)) 1
def areThingsD : D → Bool
  | .tuple xs => decide (1 ≤ xs.length) && (decide (xs.length ≤ 5) && (xs.all isThingD && decide (prodD xs ≤ 256)))
  | _ => false
theorem run_are_things (d : D) (h : fit d = true) : S_are_things [.fz d] = pure (.fz (.bool (areThingsD d))) := by
  refine guardF_pure ?_
  rw [runD_eq rfl rfl]
  cases d with
  | tuple xs =>
    have hc : ev T_are_things (.comp (.call "is_thing" [.v 3]) [3] [3] true .seq [.v 0] []) [some (.fz (.tuple xs)), none, none, none] = pure (.ow (.list (xs.map fun d => .bool (isThingD d)))) := by
      refine comp_map _ (ds := [.tuple xs]) (by simp) (by simp [iterD]) fun d hd => ?_
      have ht := run_is_thing d (fit_mem h hd)
      simp [bindT, wipeR, T_are_things_is_thing, ht]
    have hi : ((xs.length : Int) ≤ 5) = (xs.length ≤ 5) := by simp only [eq_iff_iff]; omega
    have hj : ((1 : Int) ≤ xs.length) = (1 ≤ xs.length) := by simp only [eq_iff_iff]; omega
    by_cases h1 : 1 ≤ xs.length
    · by_cases h2 : xs.length ≤ 5
      · cases h3 : xs.all isThingD with
        | false => simp [d_are_things, isaD, PyData.isTuple, areThingsD, cmpD, bltD, hi, hj, h1, h2, hc, boolsOf_map, h3]
        | true =>
          have hb : ∀ t ∈ xs, ∃ ys, t = .tuple ys ∧ ys.length ≤ 4 := fun t ht => by
            have q := List.all_eq_true.mp h3 t ht
            cases t <;> simp [isThingD] at q
            exact ⟨_, rfl, q.2.1⟩
          have hl : loop (fun d ρ => ofO (bindT true [2] d ρ) >>= exs T_are_things [.aug .Mult 1 (.blt .len [.v 2])]) xs [some (.fz (.tuple xs)), some (.fz (.int 1)), none, none] = pure (.nx [some (.fz (.tuple xs)), some (.fz (.int (prodD xs))), xs.foldl (fun _ t => some (.fz t)) none, none]) := by
            have q := loop_fold (f := fun d ρ => ofO (bindT true [2] d ρ) >>= exs T_are_things [.aug .Mult 1 (.blt .len [.v 2])]) (fun x => x) (fun s : Int × Option Sl => [some (.fz (.tuple xs)), some (.fz (.int s.1)), s.2, none]) (fun s t => (s.1 * (lenD t : Int), some (.fz t))) xs (1, none) fun s t ht => ?_
            · rw [List.map_id'] at q
              rw [q]
              have e : ∀ (l : List D) (c : Int) (o : Option Sl), l.foldl (fun (s : Int × Option Sl) t => (s.1 * (lenD t : Int), some (.fz t))) (c, o) = (l.foldl (fun c t => c * (lenD t : Int)) c, l.foldl (fun _ t => some (.fz t)) o) := by
                intro l
                induction l with
                | nil => intros; rfl
                | cons x l ih => intro c o; exact ih _ _
              rw [e]
              rfl
            · obtain ⟨ys, rfl, hy⟩ := hb t ht
              have hy2 : (-(18446744073709551616 : Int) < ys.length ∧ (ys.length : Int) < 18446744073709551616) := by omega
              simp [bindT, bltD, augD, binD, lenD, hy2]
          simp [d_are_things, isaD, PyData.isTuple, areThingsD, cmpD, bltD, hi, hj, h1, h2, hc, boolsOf_map, h3, iterD]
          rw [hl]
          simp [cmpD]
      · simp [d_are_things, isaD, PyData.isTuple, areThingsD, cmpD, bltD, hi, hj, h1, h2]
    · simp [d_are_things, isaD, PyData.isTuple, areThingsD, cmpD, bltD, hi, hj, h1]
  | _ => simp [d_are_things, isaD, PyData.isTuple, areThingsD]
/-! ### steps -/
def isReadingD (things steps : Int) : D → Bool
  | .tuple [.str x, y] => if x = "thing" then isIntD y 0 (things - 1) else decide (x = "step") && isIntD y 0 (steps - 1)
  | _ => false
theorem run_is_reading (things steps : Int) (d : D) (h : fit d = true) : S_is_reading [.fz (.int things), .fz (.int steps), .fz d] = pure (.fz (.bool (isReadingD things steps d))) := by
  refine guardF_pure ?_
  rw [runD_eq rfl rfl]
  cases d with
  | tuple xs =>
    match xs with
    | [] => simp [d_is_reading, isaD, PyData.isTuple, isReadingD, cmpD, bltD, ok_int, PyData.eqv]
    | [a] => simp [d_is_reading, isaD, PyData.isTuple, isReadingD, cmpD, bltD, ok_int, PyData.eqv]
    | a :: b :: c :: r =>
      have e : ¬ ((r.length : Int) + 1 + 1 + 1 = 2) := by omega
      simp [d_is_reading, isaD, PyData.isTuple, isReadingD, cmpD, bltD, ok_int, PyData.eqv, e]
    | [a, b] =>
      have r1 := run_is_integer b 0 (things - 1)
      have r2 := run_is_integer b 0 (steps - 1)
      cases a with
      | str x =>
        have ox : okD (.str x) = true := ok_str (fit_mem h List.mem_cons_self)
        by_cases h1 : x = "thing"
        · subst h1
          simp [d_is_reading, isaD, PyData.isTuple, PyData.isStr, isReadingD, cmpD, bltD, ok_int, ok_thing, ok_step, PyData.eqv, ixD, L2.atI, L2.ixN, binD, T_is_reading_is_integer, r1]
        · by_cases h2 : x = "step"
          · subst h2
            simp [d_is_reading, isaD, PyData.isTuple, PyData.isStr, isReadingD, cmpD, bltD, ok_int, ok_thing, ok_step, PyData.eqv, ixD, L2.atI, L2.ixN, step_thing, binD, T_is_reading_is_integer, r2]
          · simp [d_is_reading, isaD, PyData.isTuple, PyData.isStr, isReadingD, cmpD, bltD, ok_int, ok_thing, ok_step, ox, PyData.eqv, ixD, L2.atI, L2.ixN, h1, h2, binD]
      | _ => simp [d_is_reading, isaD, PyData.isTuple, PyData.isStr, isReadingD, cmpD, bltD, ok_int, PyData.eqv, ixD, L2.atI, L2.ixN]
  | _ => simp [d_is_reading, isaD, PyData.isTuple, isReadingD]
def isStepD (things steps : Int) : D → Bool
  | .tuple [.str x, .tuple rs] => (match readsL.lookup x with
    | some n => decide ((rs.length : Int) = n) && rs.all (isReadingD things steps)
    | none => false)
  | _ => false
theorem run_is_step (things steps : Int) (d : D) (h : fit d = true) : S_is_step [.fz (.int things), .fz (.int steps), .fz d] = pure (.fz (.bool (isStepD things steps d))) := by
  refine guardF_pure ?_
  rw [runD_eq rfl rfl]
  have gd : T_is_step.gd "READS" = some readsL := rfl
  cases d with
  | tuple xs =>
    match xs with
    | [] => simp [d_is_step, isaD, PyData.isTuple, isStepD, cmpD, bltD, ok_int, PyData.eqv]
    | [a] => simp [d_is_step, isaD, PyData.isTuple, isStepD, cmpD, bltD, ok_int, PyData.eqv]
    | a :: b :: c :: r =>
      have e : ¬ ((r.length : Int) + 1 + 1 + 1 = 2) := by omega
      simp [d_is_step, isaD, PyData.isTuple, isStepD, cmpD, bltD, ok_int, PyData.eqv, e]
    | [a, b] =>
      cases a with
      | str x =>
        cases hr : readsL.lookup x with
        | none =>
          have e : isStepD things steps (.tuple [.str x, b]) = false := by cases b <;> simp [isStepD, hr]
          simp [d_is_step, isaD, PyData.isTuple, PyData.isStr, cmpD, bltD, ok_int, PyData.eqv, ixD, L2.atI, L2.ixN, gd, hr, e]
        | some n =>
          cases b with
          | tuple rs =>
            have hc : ev T_is_step (.comp (.call "is_reading" [.v 0, .v 1, .v 3]) [3] [3] true .seq [.ix (.v 2) (.int 1)] []) [some (.fz (.int things)), some (.fz (.int steps)), some (.fz (.tuple [.str x, .tuple rs])), none] = pure (.ow (.list (rs.map fun d => .bool (isReadingD things steps d)))) := by
              refine comp_map _ (ds := [.tuple rs]) (by simp [ixD, L2.atI, L2.ixN]) (by simp [iterD]) fun d hd => ?_
              have ht := run_is_reading things steps d (fit_mem (fit_mem h (by simp)) hd)
              simp [bindT, wipeR, T_is_step_is_reading, ht]
            by_cases hn : (rs.length : Int) = n
            · simp [d_is_step, isaD, PyData.isTuple, PyData.isStr, isStepD, cmpD, bltD, ok_int, PyData.eqv, ixD, L2.atI, L2.ixN, gd, hr, hn, hc, boolsOf_map]
            · simp [d_is_step, isaD, PyData.isTuple, PyData.isStr, isStepD, cmpD, bltD, ok_int, PyData.eqv, ixD, L2.atI, L2.ixN, gd, hr, hn]
          | _ => simp [d_is_step, isaD, PyData.isTuple, PyData.isStr, isStepD, cmpD, bltD, ok_int, PyData.eqv, ixD, L2.atI, L2.ixN, gd, hr]
      | _ => simp [d_is_step, isaD, PyData.isTuple, PyData.isStr, isStepD, cmpD, bltD, ok_int, PyData.eqv, ixD, L2.atI, L2.ixN]
  | _ => simp [d_is_step, isaD, PyData.isTuple, isStepD]
/-! ### recipes -/
def areNumbersD (d : D) (lo hi : Int) : Bool := match d with
  | .tuple xs => xs.all (isIntD · lo hi) && risesB lesD xs
  | _ => false
theorem run_are_numbers (d : D) (lo hi : Int) : S_are_numbers [.fz d, .fz (.int lo), .fz (.int hi)] = pure (.fz (.bool (areNumbersD d lo hi))) := by
  refine guardF_pure ?_
  rw [runD_eq rfl rfl]
  cases d with
  | tuple xs =>
    have hc : ev T_are_numbers (.comp (.call "is_integer" [.v 3, .v 1, .v 2]) [3] [3] true .seq [.v 0] []) [some (.fz (.tuple xs)), some (.fz (.int lo)), some (.fz (.int hi)), none] = pure (.ow (.list (xs.map fun d => .bool (isIntD d lo hi)))) := by
      refine comp_map _ (ds := [.tuple xs]) (by simp) (by simp [iterD]) fun d hd => ?_
      simp [bindT, wipeR, T_are_numbers_is_integer, run_is_integer]
    cases h3 : xs.all (isIntD · lo hi) with
    | false => simp [d_are_numbers, isaD, PyData.isTuple, areNumbersD, bltD, hc, boolsOf_map, h3]
    | true =>
      have hr := run_rises xs (lt_int h3)
      simp [d_are_numbers, isaD, PyData.isTuple, areNumbersD, bltD, hc, boolsOf_map, h3, T_are_numbers_rises, hr]
  | _ => simp [d_are_numbers, isaD, PyData.isTuple, areNumbersD]
def standsD : D → Bool
  | .tuple [th, .tuple st, made] => areThingsD th && (decide (1 ≤ st.length) && (decide (st.length ≤ 8) && ((st.zipIdx.all fun p => isStepD (lenD th) p.2 p.1) && (areNumbersD made 0 (st.length - 1) && (decide (1 ≤ lenD made) && decide (lenD made ≤ 3))))))
  | _ => false
end SB
/-! Recipes; the draws. -/
namespace SB
open PySem

theorem three (a b c : D) (r : List D) : ¬ (((a :: b :: c :: r).length : Int) = 3) ↔ r ≠ [] := by
  cases r with
  | nil => simp
  | cons x r => simp; omega
theorem things_tuple {d : D} (h : areThingsD d = true) : ∃ xs, d = .tuple xs := by
  cases d <;> simp [areThingsD] at h
  exact ⟨_, rfl⟩
theorem numbers_tuple {d : D} {lo hi : Int} (h : areNumbersD d lo hi = true) : ∃ xs, d = .tuple xs := by
  cases d <;> simp [areNumbersD] at h
  exact ⟨_, rfl⟩
theorem run_stands (d : D) (h : fit d = true) : S_stands [.fz d] = pure (.fz (.bool (standsD d))) := by
  refine guardF_pure ?_
  rw [runD_eq rfl rfl]
  cases d with
  | tuple xs =>
    match xs with
    | [] => simp [d_stands, isaD, PyData.isTuple, standsD, cmpD, bltD, ok_int, PyData.eqv]
    | [a] => simp [d_stands, isaD, PyData.isTuple, standsD, cmpD, bltD, ok_int, PyData.eqv]
    | [a, b] => simp [d_stands, isaD, PyData.isTuple, standsD, cmpD, bltD, ok_int, PyData.eqv]
    | a :: b :: c :: z :: r =>
      have e : ¬ ((r.length : Int) + 1 + 1 + 1 + 1 = 3) := by omega
      simp [d_stands, isaD, PyData.isTuple, standsD, cmpD, bltD, ok_int, PyData.eqv, e]
    | [th, st, made] =>
      have r1 := run_are_things th (fit_mem h (by simp))
      cases h1 : areThingsD th with
      | false =>
        have e : standsD (.tuple [th, st, made]) = false := by cases st <;> simp [standsD, h1]
        simp [d_stands, isaD, PyData.isTuple, cmpD, bltD, ok_int, PyData.eqv, ixD, L2.atI, L2.ixN, T_stands_are_things, r1, h1, e]
      | true =>
        obtain ⟨ths, rfl⟩ := things_tuple h1
        cases st with
        | tuple ss =>
          have hi : ((ss.length : Int) ≤ 8) = (ss.length ≤ 8) := by simp only [eq_iff_iff]; omega
          have hj : ((1 : Int) ≤ ss.length) = (1 ≤ ss.length) := by simp only [eq_iff_iff]; omega
          by_cases h2 : 1 ≤ ss.length
          · by_cases h3 : ss.length ≤ 8
            · have hc : ev T_stands (.comp (.call "is_step" [.blt .len [.v 1], .v 4, .v 5]) [4, 5] [4, 5] false .enum [.v 2] []) [some (.fz (.tuple [.tuple ths, .tuple ss, made])), some (.fz (.tuple ths)), some (.fz (.tuple ss)), some (.fz made), none, none] = pure (.ow (.list (ss.zipIdx.map fun p => .bool (isStepD ths.length p.2 p.1)))) := by
                refine comp_over (ds := [.tuple ss]) ss.zipIdx (fun p => .tuple [.int ((p.2 : Nat) : Int), p.1]) _ (by simp) (by simp [iterD]) fun p hp => ?_
                have hm : p.1 ∈ ss := by
                  obtain ⟨_, _, e⟩ := List.mem_zipIdx (x := p.1) (i := p.2) (k := 0) hp
                  rw [e]
                  exact List.getElem_mem _
                have ht := run_is_step ths.length p.2 p.1 (fit_mem (fit_mem h (by simp)) hm)
                simp [bindT, wipeR, setAll, bltD, T_stands_is_step, ht]
              cases h4 : ss.zipIdx.all (fun p => isStepD ths.length p.2 p.1) with
              | false =>
                simp [d_stands, isaD, PyData.isTuple, cmpD, bltD, ok_int, PyData.eqv, ixD, L2.atI, L2.ixN, T_stands_are_things, r1, h1, bindT, setAll, hi, hj, h2, h3, hc, boolsOf_map, h4, standsD, lenD]
              | true =>
                have r2 := run_are_numbers made 0 (ss.length - 1)
                cases h5 : areNumbersD made 0 (ss.length - 1) with
                | false => simp [d_stands, isaD, PyData.isTuple, cmpD, bltD, ok_int, PyData.eqv, ixD, L2.atI, L2.ixN, T_stands_are_things, r1, h1, bindT, setAll, hi, hj, h2, h3, hc, boolsOf_map, h4, standsD, lenD, binD, T_stands_are_numbers, r2, h5]
                | true =>
                  obtain ⟨ms, rfl⟩ := numbers_tuple h5
                  have mi : ((ms.length : Int) ≤ 3) = (ms.length ≤ 3) := by simp only [eq_iff_iff]; omega
                  have mj : ((1 : Int) ≤ ms.length) = (1 ≤ ms.length) := by simp only [eq_iff_iff]; omega
                  by_cases h6 : 1 ≤ ms.length <;> by_cases h7 : ms.length ≤ 3 <;> simp [d_stands, isaD, PyData.isTuple, cmpD, bltD, ok_int, PyData.eqv, ixD, L2.atI, L2.ixN, T_stands_are_things, r1, h1, bindT, setAll, hi, hj, h2, h3, hc, boolsOf_map, h4, standsD, lenD, binD, T_stands_are_numbers, r2, h5, mi, mj, h6, h7]
            · simp [d_stands, isaD, PyData.isTuple, standsD, cmpD, bltD, ok_int, PyData.eqv, ixD, L2.atI, L2.ixN, T_stands_are_things, r1, h1, bindT, setAll, hi, hj, h2, h3]
          · simp [d_stands, isaD, PyData.isTuple, standsD, cmpD, bltD, ok_int, PyData.eqv, ixD, L2.atI, L2.ixN, T_stands_are_things, r1, h1, bindT, setAll, hi, hj, h2]
        | _ => simp [d_stands, isaD, PyData.isTuple, standsD, cmpD, bltD, ok_int, PyData.eqv, ixD, L2.atI, L2.ixN, T_stands_are_things, r1, h1, bindT, setAll]
  | _ => simp [d_stands, isaD, PyData.isTuple, standsD]
theorem run_is_recipe (d : D) (h : fit d = true) : S_is_recipe [.fz d] = pure (.fz (.bool (standsD d))) := by
  refine guardF_pure ?_
  rw [runD_eq rfl rfl]
  simp [d_is_recipe, T_is_recipe_stands, run_stands d h]
end SB
/-! The draws. -/
namespace SB
open PySem

/-- m runs at n draws, and Q holds of what it gives -/
def Wp {α : Type} (m : M α) (n : Nat) (Q : α → Nat → Prop) : Prop := ∃ a n', m (some n) = some (a, some n') ∧ Q a n'
theorem Wp.pure {α : Type} {a : α} {n : Nat} {Q : α → Nat → Prop} (h : Q a n) : Wp (Pure.pure a) n Q := ⟨a, n, rfl, h⟩
theorem Wp.bind {α β : Type} {m : M α} {f : α → M β} {n : Nat} {Q : β → Nat → Prop} (h : Wp m n fun a n' => Wp (f a) n' Q) : Wp (m >>= f) n Q := by
  obtain ⟨a, n1, h1, b, n2, h2, q⟩ := h
  refine ⟨b, n2, ?_, q⟩
  rw [M.bind_run, h1]
  exact h2
theorem Wp.mono {α : Type} {m : M α} {n : Nat} {Q R : α → Nat → Prop} (h : Wp m n Q) (f : ∀ a n', Q a n' → R a n') : Wp m n R := let ⟨a, n', h1, q⟩ := h; ⟨a, n', h1, f a n' q⟩
theorem Wp.guard {g : Fn} {args : List Sl} {n : Nat} {Q : Sl → Nat → Prop} (h : Wp (g args) n Q) : Wp (guardF g args) n Q := by
  obtain ⟨r, n', h1, q⟩ := h
  exact ⟨r, n', guardF_draw h1, q⟩
theorem Wp.tick {n : Nat} {Q : Nat → Nat → Prop} (h : n < 1000000) (q : Q (n + 1) (n + 1)) : Wp tickM n Q := ⟨n + 1, n + 1, by show (if n < 1000000 then _ else _) = _; rw [if_pos h], q⟩
theorem Wp.get {n : Nat} {Q : Nat → Nat → Prop} (q : Q n n) : Wp getM n Q := ⟨n, n, rfl, q⟩
/-- a loop: an invariant by the number of turns -/
theorem Wp.loop {f : D → Rho → M Fl} {Q : Fl → Nat → Prop} (Inv : Nat → Rho → Nat → Prop) (xs : List D) : ∀ (i : Nat) (ρ : Rho) (n : Nat), Inv i ρ n → (∀ j d ρ n, i ≤ j → xs[j - i]? = some d → Inv j ρ n → Wp (f d ρ) n fun fl n' => ∃ ρ', fl = .nx ρ' ∧ Inv (j + 1) ρ' n') →
    (∀ ρ n, Inv (i + xs.length) ρ n → Q (.nx ρ) n) → Wp (SB.loop f xs ρ) n Q := by
  induction xs with
  | nil => intro i ρ n hi _ hq; exact Wp.pure (hq ρ n hi)
  | cons d xs ih =>
    intro i ρ n hi hs hq
    rw [SB.loop]
    refine Wp.bind (Wp.mono (hs i d ρ n (Nat.le_refl _) (by simp) hi) fun fl n' h => ?_)
    obtain ⟨ρ', rfl, hi'⟩ := h
    refine ih (i + 1) ρ' n' hi' (fun j e ρ n hj he hI => hs j e ρ n (by omega) ?_ hI) fun ρ n h => hq ρ n (by rw [List.length_cons]; rw [show i + (xs.length + 1) = i + 1 + xs.length by omega]; exact h)
    have : j - i = (j - (i + 1)) + 1 := by omega
    rw [this, List.getElem?_cons_succ]
    exact he
@[simp] theorem cmp_lt_int (i j : Int) : cmpD .Lt (.int i) (.int j) = some (decide (i < j)) := rfl
@[simp] theorem cmp_le_int (i j : Int) : cmpD .LtE (.int i) (.int j) = some (decide (i ≤ j)) := rfl
@[simp] theorem cmp_gt_int (i j : Int) : cmpD .Gt (.int i) (.int j) = some (decide (j < i)) := rfl
@[simp] theorem cmp_ge_int (i j : Int) : cmpD .GtE (.int i) (.int j) = some (decide (j ≤ i)) := rfl
@[simp] theorem cmp_eq_int (i j : Int) : cmpD .Eq (.int i) (.int j) = some (i == j) := rfl
@[simp] theorem cmp_ne_int (i j : Int) : cmpD .NotEq (.int i) (.int j) = some (!(i == j)) := rfl
@[simp] theorem cmp_is_bool (a b : Bool) : cmpD .Is (.bool a) (.bool b) = some (decide (a = b)) := rfl
@[simp] theorem len_list (xs : List D) : bltD .len [.list xs] = some (.fz (.int xs.length)) := rfl
@[simp] theorem len_tuple (xs : List D) : bltD .len [.tuple xs] = some (.fz (.int xs.length)) := rfl
@[simp] theorem add_int (i j : Int) : binD .Add (.int i) (.int j) = some (.fz (.int (i + j))) := rfl
@[simp] theorem sub_int (i j : Int) : binD .Sub (.int i) (.int j) = some (.fz (.int (i - j))) := rfl
theorem mul_int {i j : Int} (h : -(2 ^ 64) < j ∧ j < 2 ^ 64) : binD .Mult (.int i) (.int j) = some (.fz (.int (i * j))) := by
  show (if _ then _ else _) = _
  rw [if_pos (.inr h)]
theorem mul_int' {i j : Int} (h : -(2 ^ 64) < i ∧ i < 2 ^ 64) : binD .Mult (.int i) (.int j) = some (.fz (.int (i * j))) := by
  show (if _ then _ else _) = _
  rw [if_pos (.inl h)]
theorem mod_int {i j : Int} (h : 0 < j) : binD .Mod (.int i) (.int j) = some (.fz (.int (i % j))) := by
  show (if _ then _ else _) = _
  rw [if_pos h]
theorem div_int {i j : Int} (h : 0 < j ∧ j < 1073741824) : binD .FloorDiv (.int i) (.int j) = some (.fz (.int (i / j))) := by
  show (if _ then _ else _) = _
  rw [if_pos h]
theorem pow_int {i j : Int} (h : 0 ≤ j ∧ j ≤ 1000000 ∧ i.natAbs < 2 ^ 64) : binD .Pow (.int i) (.int j) = some (.fz (.int (i ^ j.toNat))) := by
  show (if _ then _ else _) = _
  rw [if_pos h]
abbrev scr (ns : List Int) : Sl := .fz (.list (ns.map .int))
theorem atI_ints {ns : List Int} {k : Nat} (h : k < ns.length) : L2.atI (ns.map PyData.int) (k : Int) = some (.int ns[k]) := by
  unfold L2.atI L2.ixN
  rw [if_pos (by omega), if_pos (by rw [List.length_map]; omega)]
  simp [h]
theorem run_cell (ns : List Int) (hn : ns.length ≤ 63) (k : Nat) : ∃ v : Int, S__law_cell_at [scr ns, .fz (.int k)] = pure (.fz (.int v)) := by
  by_cases h : k < ns.length
  · refine ⟨ns[k], guardF_pure ?_⟩
    rw [runD_eq rfl rfl]
    simp [d__law_cell_at, h, ixD, atI_ints h]
  · cases ns with
    | nil =>
      refine ⟨0, guardF_pure ?_⟩
      rw [runD_eq rfl rfl]
      have hk : ¬ ((k : Int) < 0) := by omega
      have e : cmpD .Eq (.list []) (.list []) = some true := rfl
      simp [d__law_cell_at, hk, e]
    | cons x r =>
      generalize hns : x :: r = ns at *
      have hl : 0 < ns.length := by rw [← hns]; simp
      have hk : k % ns.length < ns.length := Nat.mod_lt _ hl
      have e : cmpD .Eq (.list (ns.map .int)) (.list []) = some false := by
        have o1 : okD (.list (ns.map .int)) = true := PySem.W.shaped_ints _
        have o2 : okD (.list []) = true := rfl
        simp only [cmpD, o1, o2, Bool.and_self, if_true]
        rw [← hns]
        simp [PyData.eqv, PyData.eqvAll]
      have h1 : ¬ ((k : Int) < ns.length) := by omega
      obtain ⟨i, hi, m1⟩ : ∃ i : Nat, i < ns.length ∧ binD .Mod (.int k) (.int ns.length) = some (.fz (.int (i : Int))) := ⟨k % ns.length, hk, by rw [mod_int (by omega)]; simp⟩
      obtain ⟨u, m2⟩ : ∃ u : Nat, binD .FloorDiv (.int k) (.int ns.length) = some (.fz (.int (u : Int))) := ⟨k / ns.length, by rw [div_int (by omega)]; simp⟩
      have a1 := atI_ints hi
      obtain ⟨j, hj, mn⟩ : ∃ j : Nat, j ≤ 60 ∧ bltD .min [.int (u : Int), .int 60] = some (.fz (.int (j : Int))) := by
        refine ⟨min u 60, Nat.min_le_right _ _, ?_⟩
        show some (Sl.fz (.int (if (60 : Int) < (u : Int) then 60 else (u : Int)))) = _
        congr 3
        split <;> omega
      have it : ∀ j : Nat, j ≤ 60 → iterD .range [.int (j : Int)] = some ((List.range j).map fun i => .int ((i : Nat) : Int)) := fun j hj => by
        show (if _ then _ else _) = _
        rw [if_pos ⟨by have : (60 : Int) ≤ (sizeLine : Nat) := by decide +kernel
                       omega, by omega⟩]
        simp
      have lp : ∀ (j : Nat) (s : Int), ∃ (t : Int) (o : Option Sl), loop (fun d ρ => ofO (bindT true [3] d ρ) >>= exs T__law_cell_at [.asg 2 (.bin .FloorDiv (.v 2) (.int 1000003))]) ((List.range j).map fun i => .int ((i : Nat) : Int)) [some (scr ns), some (.fz (.int k)), some (.fz (.int s)), none] = pure (.nx [some (scr ns), some (.fz (.int k)), some (.fz (.int t)), o]) := fun j s => by
        refine ⟨_, _, loop_fold (f := fun d ρ => ofO (bindT true [3] d ρ) >>= exs T__law_cell_at [.asg 2 (.bin .FloorDiv (.v 2) (.int 1000003))]) (fun i : Nat => .int ((i : Nat) : Int)) (fun s : Int × Option Sl => [some (scr ns), some (.fz (.int k)), some (.fz (.int s.1)), s.2]) (fun s i => (s.1 / 1000003, some (.fz (.int (i : Int))))) (List.range j) (s, none) fun s x _ => ?_⟩
        simp [bindT, div_int (i := s.1) (j := 1000003) (by decide)]
      obtain ⟨t, o, lp⟩ := lp j ns[i]
      refine ⟨ns[i] * 31 + k + t * 101, guardF_pure ?_⟩
      rw [runD_eq rfl rfl]
      simp [d__law_cell_at, h1, e, m1, m2, ixD, a1, mn, it j hj]
      rw [lp]
      simp [m1, a1, ixD, mul_int (i := ns[i]) (j := 31) (by decide), mul_int (i := t) (j := 101) (by decide)]
end SB
/-! The draws: one of many, some of many, a step. -/
namespace SB
open PySem

@[simp] theorem ex_while (c : Ex) (body : List SB.St) {Φ : Tab} {ρ : Rho} : ex Φ (.while c body) ρ = wloop (fun ρ => do let x ← ev Φ c ρ; let d ← x.rd; asB d) (fun ρ => exs Φ body ρ) fuel ρ := by rw [ex]
@[simp] theorem ex_appPop (i j : Nat) (e : Ex) {Φ : Tab} {ρ : Rho} : ex Φ (.appPop i j e) ρ = (do
    let x ← ev Φ e ρ
    let d ← x.rd
    let k ← ofO (intOf d)
    let xs ← ofO (owL ρ i)
    let ys ← ofO (owL ρ j)
    let y ← ofO ys[k.toNat]?
    if 0 ≤ k ∧ k < 2 ^ 62 ∧ i ≠ j ∧ xs.length < sizeLine then pure (.nx ((ρ.set j (some (.ow (.list (ys.eraseIdx k.toNat))))).set i (some (.ow (.list (xs ++ [y])))))) else M.fail) := by rw [ex]
theorem Wp.while {cc : Rho → M Bool} {f : Rho → M Fl} {Q : Fl → Nat → Prop} (Inv : Nat → Rho → Nat → Prop)
    (hs : ∀ m ρ n, Inv m ρ n → Wp (cc ρ) n fun b n' => if b = true then Wp (f ρ) n' fun fl n'' => ∃ ρ' m', fl = .nx ρ' ∧ m' < m ∧ Inv m' ρ' n'' else Q (.nx ρ) n') :
    ∀ (k m : Nat) (ρ : Rho) (n : Nat), m < k → Inv m ρ n → Wp (wloop cc f k ρ) n Q := by
  intro k
  induction k with
  | zero => intro m ρ n hm _; exact absurd hm (Nat.not_lt_zero _)
  | succ k ih =>
    intro m ρ n hm hi
    rw [wloop]
    refine Wp.bind (Wp.mono (hs m ρ n hi) fun b n' h => ?_)
    cases b with
    | true =>
      rw [if_pos rfl] at h ⊢
      refine Wp.bind (Wp.mono h fun fl n'' h' => ?_)
      obtain ⟨ρ', m', rfl, hm', hi'⟩ := h'
      exact ih m' ρ' n'' (by omega) hi'
    | false =>
      rw [if_neg Bool.false_ne_true] at h ⊢
      exact Wp.pure h
theorem run_mixed (ns : List Int) (hn : ns.length ≤ 63) (k : Nat) (many : Int) (hm : 0 < many) : ∃ v : Int, 0 ≤ v ∧ v < many ∧ S__law_mixed [scr ns, .fz (.int k), .fz (.int many)] = pure (.fz (.int v)) := by
  obtain ⟨c, hc⟩ := run_cell ns hn k
  have e1 := mul_int (i := c) (j := 1103515245) (by decide)
  have e2 := mul_int' (i := 7919) (j := (k : Int)) (by decide)
  obtain ⟨s, hs⟩ : ∃ s : Int, s = (c * 1103515245 + 7919 * (k : Int) + 12345) % 2147483647 := ⟨_, rfl⟩
  have e3 : binD .Mod (.int (c * 1103515245 + 7919 * (k : Int) + 12345)) (.int 2147483647) = some (.fz (.int s)) := by rw [mod_int (by decide), hs]
  have h0 : 0 ≤ s := by rw [hs]; exact Int.emod_nonneg _ (by decide)
  have h1 : s < 2147483647 := by rw [hs]; exact Int.emod_lt_of_pos _ (by decide)
  have e4 : binD .Pow (.int s) (.int 5) = some (.fz (.int (s ^ 5))) := pow_int (j := 5) ⟨by decide, by decide, by omega⟩
  have e5 := mod_int (i := s ^ 5) (j := 2147483647) (by decide)
  have e6 := mod_int (i := s ^ 5 % 2147483647) (j := 999983) (by decide)
  have e7 := mod_int (i := s ^ 5 % 2147483647 % 999983) (j := many) hm
  refine ⟨s ^ 5 % 2147483647 % 999983 % many, Int.emod_nonneg _ (by omega), Int.emod_lt_of_pos _ hm, guardF_pure ?_⟩
  rw [runD_eq rfl rfl]
  simp [d__law_mixed, T__law_mixed__law_cell_at, hc, e1, e2, e3, e4, e5, e6, e7]
theorem run_draw (ns : List Int) (hn : ns.length ≤ 63) (many : Int) (hm : 0 < many) {n : Nat} (h : n < 1000000) {Q : Sl → Nat → Prop} (q : ∀ v : Int, 0 ≤ v → v < many → Q (.fz (.int v)) (n + 1)) : Wp (S__law_draw [scr ns, .st, .fz (.int many)]) n Q := by
  refine Wp.guard ?_
  rw [runD_eq rfl rfl]
  obtain ⟨v, h0, h1, hv⟩ := run_mixed ns hn (n + 1) many hm
  have hv' : S__law_mixed [scr ns, .fz (.int ((n : Int) + 1)), .fz (.int many)] = pure (.fz (.int v)) := by
    rw [← hv]
    simp
  simp [d__law_draw, appK, appTo, isSt]
  refine Wp.bind (Wp.tick h ?_)
  refine Wp.bind (Wp.get ?_)
  simp [T__law_draw__law_mixed, hv']
  exact Wp.pure (q v h0 h1)
theorem run_pick (ns : List Int) (hn : ns.length ≤ 63) (xs : List D) (hx : 0 < xs.length) {n : Nat} (h : n < 1000000) {Q : Sl → Nat → Prop} (q : ∀ x ∈ xs, Q (.fz x) (n + 1)) : Wp (S__law_pick [scr ns, .st, .fz (.tuple xs)]) n Q := by
  refine Wp.guard ?_
  rw [runD_eq rfl rfl]
  simp [d__law_pick, T__law_pick__law_draw]
  refine Wp.bind (run_draw ns hn xs.length (by omega) h fun v h0 h1 => ?_)
  obtain ⟨i, rfl⟩ := Int.eq_ofNat_of_zero_le h0
  have hi : i < xs.length := by omega
  have e : L2.atI xs (i : Int) = some xs[i] := by
    unfold L2.atI L2.ixN
    rw [if_pos (by omega), if_pos (by omega)]
    simp [hi]
  simp [ixD, e]
  exact Wp.pure (q _ (List.getElem_mem _))
end SB
/-! A step is drawn. -/
namespace SB
open PySem

def nineN : List D := [.str "join", .str "join", .str "less", .str "same", .str "pick", .str "sort", .str "turn", .str "first", .str "rest"]
def fourR : List (Str × Int) := [("join", 2), ("less", 2), ("same", 2), ("pick", 3)]
theorem nine_ok : ∀ d ∈ nineN, ∃ (x : Str) (r : Nat), d = .str x ∧ readsL.lookup x = some (r : Int) ∧ (lastOf x fourR).getD 1 = (r : Int) ∧ 1 ≤ r ∧ r ≤ 3 := by
  intro d hd
  simp only [nineN, List.mem_cons, List.not_mem_nil, or_false] at hd
  rcases hd with rfl | rfl | rfl | rfl | rfl | rfl | rfl | rfl | rfl
  · exact ⟨_, 2, rfl, by decide +kernel, by decide +kernel, by decide, by decide⟩
  · exact ⟨_, 2, rfl, by decide +kernel, by decide +kernel, by decide, by decide⟩
  · exact ⟨_, 2, rfl, by decide +kernel, by decide +kernel, by decide, by decide⟩
  · exact ⟨_, 2, rfl, by decide +kernel, by decide +kernel, by decide, by decide⟩
  · exact ⟨_, 3, rfl, by decide +kernel, by decide +kernel, by decide, by decide⟩
  · exact ⟨_, 1, rfl, by decide +kernel, by decide +kernel, by decide, by decide⟩
  · exact ⟨_, 1, rfl, by decide +kernel, by decide +kernel, by decide, by decide⟩
  · exact ⟨_, 1, rfl, by decide +kernel, by decide +kernel, by decide, by decide⟩
  · exact ⟨_, 1, rfl, by decide +kernel, by decide +kernel, by decide, by decide⟩
theorem Wp.post {α : Type} {m : M α} {n : Nat} {P : α → Nat → Prop} (h : ∀ Post : α → Nat → Prop, (∀ a n', P a n' → Post a n') → Wp m n Post) : Wp m n P := h P fun _ _ h => h
theorem range_it (j : Nat) (hj : j ≤ 1000) : iterD .range [.int (j : Int)] = some ((List.range j).map fun i => .int ((i : Nat) : Int)) := by
  show (if _ then _ else _) = _
  have : (1000 : Int) ≤ (sizeLine : Nat) := by decide +kernel
  rw [if_pos ⟨by omega, by omega⟩]
  simp
theorem size1000 {n : Nat} (h : n ≤ 1000) : n ≤ sizeLine := Nat.le_trans h (by decide +kernel)
theorem size1000' {n : Nat} (h : n ≤ 1000) : n < sizeLine := Nat.lt_of_le_of_lt h (by decide +kernel)
theorem is_thingR {t c v : Int} (h0 : 0 ≤ v) (h1 : v < t) : isReadingD t c (.tuple [.str "thing", .int v]) = true := by
  simp [isReadingD, isIntD]
  omega
theorem is_stepR {t c v : Int} (h0 : 0 ≤ v) (h1 : v < c) : isReadingD t c (.tuple [.str "step", .int v]) = true := by
  simp [isReadingD, isIntD, step_thing]
  omega
theorem run_some_step (ns : List Int) (hn : ns.length ≤ 63) (things : Int) (ht : 0 < things) (count : Nat) {n : Nat} (h : n + 7 < 1000000) {Q : Sl → Nat → Prop} (q : ∀ step n', n ≤ n' → n' ≤ n + 7 → isStepD things count step = true → Q (.fz step) n') :
    Wp (S__law_some_step [scr ns, .st, .fz (.int things), .fz (.int count)]) n Q := by
  refine Wp.guard ?_
  rw [runD_eq rfl rfl]
  have s9 : (9 : Nat) ≤ sizeLine := size1000 (by decide)
  have s2 : (2 : Nat) ≤ sizeLine := size1000 (by decide)
  simp only [d__law_some_step, exs_cons, ex_par2]
  simp [T__law_some_step__law_pick, s9, ex_par2]
  refine Wp.bind (run_pick ns hn _ (by simp) (by omega) fun x hx => ?_)
  obtain ⟨x, r, rfl, h1, h2, h3, h4⟩ := nine_ok x hx
  have h2' : (lastOf x [("join", 2), ("less", 2), ("same", 2), ("pick", 3)]).getD 1 = (r : Int) := h2
  simp [h2', range_it r (by omega)]
  generalize hN : PyData.tuple [_, _, _, _, _, _, _, _, _] = nn
  refine Wp.bind (Wp.loop (fun i ρ n' => ∃ rs o, ρ = [some (scr ns), some .st, some (.fz (.int things)), some (.fz (.int count)), some (.fz nn), some (.fz (.str x)), some (.ow (.list rs)), o] ∧ rs.length = i ∧ rs.all (isReadingD things count) = true ∧ n ≤ n' ∧ n' ≤ n + 1 + 2 * i ∧ i ≤ 3) ((List.range r).map fun i => .int ((i : Nat) : Int)) 0 _ _ ⟨[], none, rfl, rfl, rfl, by omega, by omega, by omega⟩ ?_ ?_)
  · rintro j d ρ n' _ hd ⟨rs, o, rfl, hl, ha, hn1, hn2, hj3⟩
    have hjr : j < r := by
      have := (List.getElem?_eq_some_iff.mp hd).1
      simpa using this
    have sz : rs.length < sizeLine := size1000' (by omega)
    refine Wp.post fun Post hp => ?_
    simp [bindT]
    by_cases hc : count = 0
    · simp [hc, T__law_some_step__law_draw]
      refine Wp.bind (run_draw ns hn things ht (by omega) fun v h0 h1 => ?_)
      simp [s2, sz]
      refine Wp.pure (hp _ _ ⟨_, rfl, rs ++ [.tuple [.str "thing", .int v]], some (.fz d), by simp [hc], by simp [hl], ?_, by omega, by omega, by omega⟩)
      rw [List.all_append, ha]
      simp [is_thingR h0 h1]
    · simp [hc, T__law_some_step__law_draw]
      refine Wp.bind (run_draw ns hn 5 (by decide) (by omega) fun v h0 h1 => ?_)
      by_cases hv : v < 3
      · simp [hv]
        refine Wp.bind (run_draw ns hn things ht (by omega) fun v h0 h1 => ?_)
        simp [s2, sz]
        refine Wp.pure (hp _ _ ⟨_, rfl, _, _, rfl, by simp [hl], ?_, by omega, by omega, by omega⟩)
        simp [List.all_append, is_thingR h0 h1] at ha ⊢
        exact ha
      · simp [hv]
        refine Wp.bind (run_draw ns hn count (by omega) (by omega) fun v h0 h1 => ?_)
        simp [s2, sz]
        refine Wp.pure (hp _ _ ⟨_, rfl, _, _, rfl, by simp [hl], ?_, by omega, by omega, by omega⟩)
        simp [List.all_append, is_stepR h0 h1] at ha ⊢
        exact ha
  · rintro ρ n' ⟨rs, o, rfl, hl, ha, hn1, hn2, hj3⟩
    simp at hl
    simp [frzR, bltD, s2]
    refine Wp.pure (q _ _ hn1 (by omega) ?_)
    simp [isStepD, h1, hl]
    simpa using ha
end SB
/-! Some of many are drawn. -/
namespace SB
open PySem

theorem sort_ints (fs : List Int) : sortD (fs.map .int) = some ((fs.mergeSort fun a b => decide (a ≤ b)).map .int) := by
  unfold sortD
  rw [if_pos ?_]
  · have e := List.map_mergeSort (r := fun a b : Int => decide (a ≤ b)) (s := PySem.W.dataLe false id) (f := PyData.int) (l := fs) fun a _ b _ => by
      have h := congrFun (congrFun (PySem.W.dataLe_int (fun b : Int => b)) a) b
      exact h.symm
    rw [e]
  · simp [PySem.W.alike, notTup, PyData.depth]
theorem sorted_lt {fs : List Int} (h : fs.Nodup) : (fs.mergeSort fun a b => decide (a ≤ b)).Pairwise (· < ·) := by
  have h1 : (fs.mergeSort fun a b => decide (a ≤ b)).Pairwise (fun a b => decide (a ≤ b) = true) := List.pairwise_mergeSort (fun a b c h1 h2 => by simp at h1 h2 ⊢; omega) (fun a b => by simp; omega) fs
  have h2 : (fs.mergeSort fun a b => decide (a ≤ b)).Nodup := (List.mergeSort_perm _ _).nodup_iff.mpr h
  have h3 := h1.and h2
  exact h3.imp fun ⟨a, b⟩ => by
    have := of_decide_eq_true a
    omega
theorem rises_ints : ∀ {ys : List Int}, ys.Pairwise (· < ·) → risesB lesD (ys.map .int) = true
  | [], _ => rfl
  | [_], _ => rfl
  | a :: b :: r, h => by
    cases h with
    | cons h1 h2 =>
      have ih := rises_ints h2
      simp only [List.map_cons] at ih ⊢
      simp only [risesB, lesD, ih, Bool.and_true]
      simpa using h1 b (by simp)
theorem ints_numbers {ys : List Int} {lo hi : Int} (h : ys.Pairwise (· < ·)) (hb : ∀ y ∈ ys, lo ≤ y ∧ y ≤ hi) : areNumbersD (.tuple (ys.map .int)) lo hi = true := by
  simp only [areNumbersD, rises_ints h, Bool.and_true, List.all_map, List.all_eq_true]
  intro y hy
  simpa [isIntD] using hb y hy
theorem ne_nil (ls : List Int) : cmpD .NotEq (.list (ls.map .int)) (.list []) = some (!ls.isEmpty) := by
  have o1 : okD (.list (ls.map .int)) = true := PySem.W.shaped_ints _
  have o2 : okD (.list []) = true := rfl
  simp only [cmpD, o1, o2, Bool.and_self, if_true]
  cases ls <;> simp [PyData.eqv, PyData.eqvAll]
theorem get_erase {α : Type} : ∀ {l : List α} {i : Nat} (h : i < l.length), (l[i] :: l.eraseIdx i).Perm l
  | a :: l, 0, _ => List.Perm.refl _
  | a :: l, i + 1, h => by
    have ih := get_erase (l := l) (i := i) (by simpa using h)
    exact (List.Perm.swap _ _ _).trans (List.Perm.cons _ ih)
theorem erase_map {α β : Type} (f : α → β) : ∀ (l : List α) (i : Nat), (l.map f).eraseIdx i = (l.eraseIdx i).map f
  | [], _ => rfl
  | _ :: _, 0 => rfl
  | a :: l, i + 1 => by
    simp only [List.map_cons, List.eraseIdx_cons_succ, erase_map f l i]
theorem run_some_of (ns : List Int) (hn : ns.length ≤ 63) (src : D) (xs : List Int) (hsrc : src = .list (xs.map .int) ∨ src = .tuple (xs.map .int)) (hnd : xs.Nodup) (count : Nat) (hlen : xs.length ≤ 100) {n : Nat} (h : n + xs.length < 1000000) {Q : Sl → Nat → Prop}
    (q : ∀ (ys : List Int) n', ys.Pairwise (· < ·) → (∀ y ∈ ys, y ∈ xs) → ys.length = min count xs.length → n' = n + ys.length → Q (.fz (.tuple (ys.map .int))) n') : Wp (S__law_some_of [scr ns, .st, .fz src, .fz (.int count)]) n Q := by
  refine Wp.guard ?_
  rw [runD_eq rfl rfl]
  have hl : bltD .list [src] = some (.ow (.list (xs.map .int))) := by rcases hsrc with rfl | rfl <;> rfl
  have fu : xs.length < fuel := Nat.lt_of_le_of_lt hlen (by decide)
  simp [d__law_some_of, ex_par2, hl]
  refine Wp.bind (Wp.while (fun m ρ n' => ∃ ls fs : List Int, ρ = [some (scr ns), some .st, some (.fz src), some (.fz (.int count)), some (.ow (.list (ls.map .int))), some (.ow (.list (fs.map .int)))] ∧ (fs ++ ls).Perm xs ∧ fs.length ≤ count ∧ n' = n + fs.length ∧ m = ls.length) ?_ fuel xs.length _ _ fu ⟨xs, [], rfl, by simp, by simp, by simp, rfl⟩)
  rintro m ρ n' ⟨ls, fs, rfl, hp, hf, rfl, rfl⟩
  have hpl := hp.length_eq
  rw [List.length_append] at hpl
  have finish : (ls = [] ∨ ¬ fs.length < count) → (nextS T__law_some_of [.frz [4, 5], .ret (.blt .tuple [.blt .sorted [.v 5]])] (.nx [some (scr ns), some .st, some (.fz src), some (.fz (.int count)), some (.ow (.list (ls.map .int))), some (.ow (.list (fs.map .int)))]) >>= finD) = pure (.fz (.tuple ((fs.mergeSort fun a b => decide (a ≤ b)).map .int))) := fun _ => by
    simp [frzR, bltD, sort_ints]
  have last : (ls = [] ∨ ¬ fs.length < count) → Q (.fz (.tuple ((fs.mergeSort fun a b => decide (a ≤ b)).map .int))) (n + fs.length) := fun hc => by
    have pm := List.mergeSort_perm fs fun a b => decide (a ≤ b)
    have hnf : (fs ++ ls).Nodup := hp.nodup_iff.mpr hnd
    refine q _ _ (sorted_lt (List.nodup_append.mp hnf).1) (fun y hy => hp.mem_iff.mp (List.mem_append_left _ (pm.mem_iff.mp hy))) ?_ (by rw [pm.length_eq])
    rw [pm.length_eq]
    rcases hc with rfl | hc
    · simp at hpl
      omega
    · omega
  refine Wp.post fun Post hp' => ?_
  simp [ne_nil]
  by_cases h1 : ls = []
  · subst h1
    simp
    refine Wp.pure (hp' _ _ ?_)
    rw [if_neg (by simp)]
    rw [finish (.inl rfl)]
    exact Wp.pure (last (.inl rfl))
  · simp [h1]
    refine Wp.pure (hp' _ _ ?_)
    by_cases h2 : fs.length < count
    · rw [if_pos (by simpa using h2)]
      have l0 : 0 < ls.length := List.length_pos_iff.mpr h1
      refine Wp.post fun Post hp2 => ?_
      simp [T__law_some_of__law_draw]
      refine Wp.bind (run_draw ns hn ls.length (by omega) (by omega) fun v v0 v1 => ?_)
      obtain ⟨i, rfl⟩ := Int.eq_ofNat_of_zero_le v0
      have hi : i < ls.length := by omega
      have sz : fs.length < sizeLine := size1000' (by omega)
      have big : i < 4611686018427387904 := by omega
      simp [owL, hi, sz, erase_map]
      rw [if_pos (by omega)]
      refine Wp.pure (hp2 _ _ ⟨_, ls.length - 1, rfl, by omega, ls.eraseIdx i, fs ++ [ls[i]], by simp, ?_, by simp; omega, by simp; omega, by rw [List.length_eraseIdx, if_pos hi]⟩)
      refine List.Perm.trans ?_ hp
      rw [List.append_assoc]
      exact List.Perm.append_left _ (get_erase hi)
    · rw [if_neg (by simpa using h2)]
      rw [finish (.inr h2)]
      exact Wp.pure (last (.inr h2))
end SB
/-! Facts of steps; law k02. -/
namespace SB
open PySem

theorem law_of {f : Unit → M Sl} (h : Wp (f ()) 0 fun a _ => a = .fz (.bool true)) : ∃ c, (initM >>= f) none = some (.fz (.bool true), c) := by
  obtain ⟨a, n, h1, rfl⟩ := h
  exact ⟨some n, h1⟩
theorem reads_fit {x : Str} {n : Int} (h : readsL.lookup x = some n) : fit (.str x) = true := by
  have m := PySem.mem_of_lookup h
  simp only [readsL, List.mem_cons, Prod.mk.injEq, List.not_mem_nil, or_false] at m
  rcases m with ⟨rfl, _⟩ | ⟨rfl, _⟩ | ⟨rfl, _⟩ | ⟨rfl, _⟩ | ⟨rfl, _⟩ | ⟨rfl, _⟩ | ⟨rfl, _⟩ | ⟨rfl, _⟩ <;> decide +kernel
theorem reading_cases {t c : Int} {d : D} (h : isReadingD t c d = true) : ∃ x v, d = .tuple [.str x, .int v] ∧ ((x = "thing" ∧ 0 ≤ v ∧ v < t) ∨ (x = "step" ∧ 0 ≤ v ∧ v < c)) := by
  unfold isReadingD at h
  split at h
  · rename_i x y
    by_cases hx : x = "thing"
    · rw [if_pos hx] at h
      cases y <;> simp [isIntD] at h
      exact ⟨_, _, rfl, .inl ⟨hx, h.1, by omega⟩⟩
    · rw [if_neg hx] at h
      simp only [Bool.and_eq_true, decide_eq_true_eq] at h
      obtain ⟨hx, h⟩ := h
      cases y <;> simp [isIntD] at h
      exact ⟨_, _, rfl, .inr ⟨hx, h.1, by omega⟩⟩
  · cases h
theorem reading_mono {t t' c : Int} {d : D} (ht : t ≤ t') (h : isReadingD t c d = true) : isReadingD t' c d = true := by
  obtain ⟨x, v, rfl, ⟨rfl, h0, h1⟩ | ⟨rfl, h0, h1⟩⟩ := reading_cases h
  · exact is_thingR h0 (by omega)
  · exact is_stepR h0 h1
theorem step_cases {t c : Int} {d : D} (h : isStepD t c d = true) : ∃ x rs n, d = .tuple [.str x, .tuple rs] ∧ readsL.lookup x = some n ∧ (rs.length : Int) = n ∧ rs.all (isReadingD t c) = true := by
  unfold isStepD at h
  split at h
  · rename_i x rs
    split at h
    · rename_i n e
      simp only [Bool.and_eq_true, decide_eq_true_eq] at h
      exact ⟨x, rs, n, rfl, e, h.1, h.2⟩
    · cases h
  · cases h
theorem step_mono {t t' c : Int} {d : D} (ht : t ≤ t') (h : isStepD t c d = true) : isStepD t' c d = true := by
  obtain ⟨x, rs, n, rfl, h1, h2, h3⟩ := step_cases h
  simp only [isStepD, h1, h2, decide_true, Bool.true_and, List.all_eq_true]
  exact fun r hr => reading_mono ht (List.all_eq_true.mp h3 r hr)
theorem reading_fit {t c : Int} {d : D} (h : isReadingD t c d = true) : fit d = true := by
  obtain ⟨x, v, rfl, ⟨rfl, _⟩ | ⟨rfl, _⟩⟩ := reading_cases h
  · have e : fit (.str "thing") = true := by decide +kernel
    simp [e]
  · have e : fit (.str "step") = true := by decide +kernel
    simp [e]
theorem step_fit {t c : Int} {d : D} (h : isStepD t c d = true) : fit d = true := by
  obtain ⟨x, rs, n, rfl, h1, h2, h3⟩ := step_cases h
  have e : fitAll rs = true := fitAll_iff.mpr fun r hr => reading_fit (List.all_eq_true.mp h3 r hr)
  simp [reads_fit h1, e]
/-- a list of steps, each of which reads what stands before it -/
def stepsOk (t : Int) (ss : List D) : Prop := ∀ (i : Nat) (d : D), ss[i]? = some d → isStepD t (i : Int) d = true
theorem stepsOk.snoc {t : Int} {ss : List D} {d : D} (h : stepsOk t ss) (hd : isStepD t ss.length d = true) : stepsOk t (ss ++ [d]) := by
  intro i e he
  by_cases hi : i < ss.length
  · rw [List.getElem?_append_left hi] at he
    exact h i e he
  · rw [List.getElem?_append_right (by omega)] at he
    have hl := (List.getElem?_eq_some_iff.mp he).1
    simp at hl
    have e1 : i = ss.length := by omega
    subst e1
    simp at he
    subst he
    exact hd
theorem stepsOk.all {t t' : Int} {ss : List D} (h : stepsOk t ss) (ht : t ≤ t') : (ss.zipIdx.all fun p => isStepD t' p.2 p.1) = true := by
  rw [List.all_eq_true]
  rintro ⟨d, i⟩ hp
  have := List.mk_mem_zipIdx_iff_getElem?.mp hp
  exact step_mono ht (h i d this)
theorem stepsOk.fit {t : Int} {ss : List D} (h : stepsOk t ss) : fitAll ss = true := by
  refine fitAll_iff.mpr fun d hd => ?_
  obtain ⟨i, hi⟩ := List.getElem?_of_mem hd
  exact step_fit (h i d hi)
theorem ints_fit (ys : List Int) : fitAll (ys.map .int) = true := fitAll_iff.mpr fun d hd => by
  obtain ⟨i, _, rfl⟩ := List.mem_map.mp hd
  simp
end SB
/-! Law k02. -/
namespace SB
open PySem

namespace K02
def four : D := .tuple [.str "a", .str "ab", .str "abcd", .str "b"]
def two : D := .tuple [.str "", .str "zzzz"]
def first : D := .tuple [.str "sort", .tuple [.tuple [.str "thing", .int 0]]]
def five : D := .tuple [.str "a", .str "b", .str "c", .str "d", .str "e"]
theorem first_ok : isStepD 1 0 first = true := by decide +kernel
end K02
open K02
theorem mul_one (a : D) (k : Nat) (hk : 2 ≤ k) (h2 : k ≤ 1000) : binD .Mult (.tuple [a]) (.int k) = some (.fz (.tuple (List.replicate k a))) := by
  show (if _ then _ else _) = _
  rw [if_pos ⟨by simp, by omega, by omega, by simp⟩]
  simp
theorem add_tuple {xs ys : List D} (h : xs.length + ys.length ≤ 1000) : binD .Add (.tuple xs) (.tuple ys) = some (.fz (.tuple (xs ++ ys))) := by
  show (if _ then _ else _) = _
  rw [if_pos (size1000 h)]
theorem stands_of {th made : D} {ss : List D} {t : Int} (h1 : areThingsD th = true) (h2 : 1 ≤ ss.length) (h3 : ss.length ≤ 8) (h4 : stepsOk t ss) (ht : t ≤ lenD th) (h5 : areNumbersD made 0 (ss.length - 1) = true) (h6 : 1 ≤ lenD made) (h7 : lenD made ≤ 3) : standsD (.tuple [th, .tuple ss, made]) = true := by
  simp only [standsD, h1, h2, h3, h4.all ht, h5, h6, h7, decide_true, Bool.and_self]
theorem falls_things {th made st : D} (h1 : areThingsD th = false) : standsD (.tuple [th, st, made]) = false := by
  cases st <;> simp [standsD, h1]
theorem falls_steps {th made : D} {ss : List D} (h : ¬ (1 ≤ ss.length ∧ ss.length ≤ 8)) : standsD (.tuple [th, .tuple ss, made]) = false := by
  by_cases h1 : 1 ≤ ss.length
  · have h2 : ¬ ss.length ≤ 8 := fun z => h ⟨h1, z⟩
    simp [standsD, h2]
  · simp [standsD, h1]
theorem falls_made {th made st : D} (h : ¬ lenD made ≤ 3) : standsD (.tuple [th, st, made]) = false := by
  cases st <;> simp [standsD, h]
theorem good_all {xs : List D} (h : ∀ d ∈ xs, standsD d = true) : xs.all standsD = true := List.all_eq_true.mpr h
theorem run_law_k02 (ns : List Int) (hn : ns.length ≤ 63) : ∃ c, runD T_law_k02 d_law_k02 [.fz (.list (ns.map .int))] none = some (.fz (.bool true), c) := by
  rw [runD_eq rfl rfl]
  have s7 : (7 : Nat) ≤ sizeLine := size1000 (by decide)
  have s4 : (4 : Nat) ≤ sizeLine := size1000 (by decide)
  have s2 : (2 : Nat) ≤ sizeLine := size1000 (by decide)
  have s1 : (1 : Nat) ≤ sizeLine := size1000 (by decide)
  have s3 : (3 : Nat) ≤ sizeLine := size1000 (by decide)
  have s5 : (5 : Nat) ≤ sizeLine := size1000 (by decide)
  have t3 : (3 : Nat) < sizeLine := size1000' (by decide)
  have it7 := range_it 7 (by decide)
  have it8 := range_it 8 (by decide)
  simp only [d_law_k02, exs_cons, ex_init, bind_assoc]
  refine law_of ?_
  simp [bindT, setAll, s4, s2, s1]
  simp only [show (7 : Int) = ((7 : Nat) : Int) from rfl, it7, ofO_some, pure_bind]
  generalize hf4 : PyData.tuple [.str "a", .str "ab", .str "abcd", .str "b"] = f4
  generalize hf2 : PyData.tuple [.str "", .str "zzzz"] = f2
  generalize hf1 : PyData.tuple [.str "sort", .tuple [.tuple [.str "thing", .int 0]]] = f1
  have ok1 : isStepD 1 0 f1 = true := hf1 ▸ first_ok
  refine Wp.bind (Wp.loop (fun i ρ n' => ∃ ss o, ρ = [some (scr ns), some .st, some (.fz f4), some (.fz f2), some (.ow (.list (f1 :: ss))), o, none, none, none, none] ∧ ss.length = i ∧ stepsOk 1 (f1 :: ss) ∧ n' ≤ 7 * i ∧ i ≤ 7) _ 0 _ _ ⟨[], none, rfl, rfl, fun i d hi => ?_, by omega, by omega⟩ ?_ ?_)
  · cases i with
    | zero => cases hi; exact ok1
    | succ i => simp at hi
  · rintro j d ρ n' _ hd ⟨ss, o, rfl, hl, hs, hn1, hj⟩
    have hj7 : j < 7 := by
      have := (List.getElem?_eq_some_iff.mp hd).1
      simpa using this
    have sz : (f1 :: ss).length < sizeLine := size1000' (by simp; omega)
    refine Wp.post fun Post hp => ?_
    simp [T_law_k02__law_some_step]
    have rs := fun Q => run_some_step ns hn 1 (by decide) (f1 :: ss).length (n := n') (by omega) (Q := Q)
    rw [show (((f1 :: ss).length : Nat) : Int) = (ss.length : Int) + 1 by simp] at rs
    refine Wp.bind (rs _ fun step n2 h1 h2 h3 => ?_)
    simp at sz
    simp [sz]
    refine Wp.pure (hp _ _ ⟨_, rfl, ss ++ [step], _, rfl, by simp [hl], ?_, by omega, by omega⟩)
    have := hs.snoc (d := step) (by simpa using h3)
    simpa using this
  · rintro ρ n' ⟨ss, o, rfl, hl, hs, hn1, hj⟩
    simp at hl
    simp [frzR, bltD, ex_par2]
    simp only [show (8 : Int) = ((8 : Nat) : Int) from rfl, it8, ofO_some, pure_bind, T_law_k02__law_some_of]
    refine Wp.bind (run_some_of ns hn _ ((List.range 8).map fun i => ((i : Nat) : Int)) (.inl (by simp)) (by decide) 3 (by decide) (by simp at hn1 ⊢; omega) fun ys n2 h1 h2 h3 h4 => ?_)
    clear it7 it8 hn1 hj h4
    have hb : ∀ y ∈ ys, 0 ≤ y ∧ y ≤ 7 := fun y hy => by
      obtain ⟨i, hi, rfl⟩ := List.mem_map.mp (h2 y hy)
      have := List.mem_range.mp hi
      omega
    have h3 : ys.length = 3 := by simpa using h3
    have m4 : binD .Mult (.tuple [f4]) (.int 4) = some (.fz (.tuple [f4, f4, f4, f4])) := mul_one f4 4 (by decide) (by decide)
    have m3 : binD .Mult (.tuple [f4]) (.int 3) = some (.fz (.tuple [f4, f4, f4])) := mul_one f4 3 (by decide) (by decide)
    have m5 : binD .Mult (.tuple [f4]) (.int 5) = some (.fz (.tuple [f4, f4, f4, f4, f4])) := mul_one f4 5 (by decide) (by decide)
    have n2 : binD .Mult (.tuple [f2]) (.int 2) = some (.fz (.tuple [f2, f2])) := mul_one f2 2 (by decide) (by decide)
    have n5 : binD .Mult (.tuple [f2]) (.int 5) = some (.fz (.tuple [f2, f2, f2, f2, f2])) := mul_one f2 5 (by decide) (by decide)
    have e5 : binD .Mult (.tuple [.tuple [.str ""]]) (.int 5) = some (.fz (.tuple [.tuple [.str ""], .tuple [.str ""], .tuple [.str ""], .tuple [.str ""], .tuple [.str ""]])) := mul_one (.tuple [.str ""]) 5 (by decide) (by decide)
    have a6 : binD .Mult (.tuple [.tuple [.str "a"]]) (.int 6) = some (.fz (.tuple [.tuple [.str "a"], .tuple [.str "a"], .tuple [.str "a"], .tuple [.str "a"], .tuple [.str "a"], .tuple [.str "a"]])) := mul_one (.tuple [.str "a"]) 6 (by decide) (by decide)
    have p1 : binD .Add (.tuple [f4, f4, f4]) (.tuple [f2, f2]) = some (.fz (.tuple [f4, f4, f4, f2, f2])) := add_tuple (by simp)
    have p2 : binD .Add (.tuple [f4, f4, f4, f4]) (.tuple [f2]) = some (.fz (.tuple [f4, f4, f4, f4, f2])) := add_tuple (by simp)
    have c1 : slD (.tuple (f1 :: ss)) none (some 1) = some (.fz (.tuple [f1])) := by
      show some (Sl.fz (.tuple (cutL (f1 :: ss) none (some ((1 : Nat) : Int))))) = _
      rw [cut_to]
      simp
    have p3 : binD .Add (.tuple (f1 :: ss)) (.tuple [f1]) = some (.fz (.tuple (f1 :: ss ++ [f1]))) := add_tuple (by simp; omega)
    refine Wp.post fun Post hp => ?_
    simp [s3, s2, s1, s4, s5, s7, t3, m4, m3, m5, n2, n5, e5, a6, p1, p2, c1, p3, frzR, owL, -List.cons_append]
    generalize hY : PyData.tuple (ys.map .int) = my
    have f4f : fit f4 = true := hf4 ▸ (by decide +kernel)
    have f2f : fit f2 = true := hf2 ▸ (by decide +kernel)
    have f1f : fit f1 = true := step_fit ok1
    have ssf : fitAll ss = true := by
      have := hs.fit
      rw [fitAll_cons, Bool.and_eq_true] at this
      exact this.2
    have myf : fit my = true := by rw [← hY, fit_tuple]; exact ints_fit ys
    have myn : areNumbersD my 0 ((f1 :: ss).length - 1) = true := by
      rw [← hY]
      exact ints_numbers h1 fun y hy => by
        have := hb y hy
        simp [hl]
        omega
    have myl : lenD my = 3 := by rw [← hY]; simp [lenD, h3]
    have ef : fit (.str "") = true := by decide +kernel
    have af : fit (.str "a") = true := by decide +kernel
    have bf : fit (.str "b") = true := by decide +kernel
    have cf : fit (.str "c") = true := by decide +kernel
    have df : fit (.str "d") = true := by decide +kernel
    have gf : fit (.str "e") = true := by decide +kernel
    have l8 : (f1 :: ss).length = 8 := by simp [hl]
    have one1 : stepsOk 1 [f1] := fun i d hi => by
      cases i with
      | zero => cases hi; exact ok1
      | succ i => simp at hi
    have t1 : areThingsD (.tuple [f4, f4, f4, f4]) = true := by rw [← hf4]; decide +kernel
    have t2 : areThingsD (.tuple [f4, f4, f4, f2, f2]) = true := by rw [← hf4, ← hf2]; decide +kernel
    have t3' : areThingsD (.tuple [f2, f2, f2, f2, f2]) = true := by rw [← hf2]; decide +kernel
    have t4 : areThingsD (.tuple [.tuple [.str ""], .tuple [.str ""], .tuple [.str ""], .tuple [.str ""], .tuple [.str ""]]) = true := by decide +kernel
    have u1 : areThingsD (.tuple [f4, f4, f4, f4, f2]) = false := by rw [← hf4, ← hf2]; decide +kernel
    have u2 : areThingsD (.tuple [f4, f4, f4, f4, f4]) = false := by rw [← hf4]; decide +kernel
    have u3 : areThingsD (.tuple [.tuple [.str "a"], .tuple [.str "a"], .tuple [.str "a"], .tuple [.str "a"], .tuple [.str "a"], .tuple [.str "a"]]) = false := by decide +kernel
    have u5 : areThingsD (.tuple [.tuple [.str "a", .str "b", .str "c", .str "d", .str "e"]]) = false := by decide +kernel
    generalize hG : [PyData.tuple [.tuple [f4, f4, f4, f4], .tuple (f1 :: ss), my], .tuple [.tuple [f4, f4, f4, f2, f2], .tuple (f1 :: ss), my], .tuple [.tuple [f2, f2, f2, f2, f2], .tuple [f1], .tuple [.int 0]], .tuple [.tuple [.tuple [.str ""], .tuple [.str ""], .tuple [.str ""], .tuple [.str ""], .tuple [.str ""]], .tuple (f1 :: ss), my]] = gs
    generalize hB : [PyData.tuple [.tuple [f4, f4, f4, f4, f2], .tuple (f1 :: ss), my], .tuple [.tuple [f4, f4, f4, f4, f4], .tuple (f1 :: ss), my], .tuple [.tuple [.tuple [.str "a"], .tuple [.str "a"], .tuple [.str "a"], .tuple [.str "a"], .tuple [.str "a"], .tuple [.str "a"]], .tuple (f1 :: ss), my], .tuple [.tuple [f2], .tuple (f1 :: (ss ++ [f1])), my], .tuple [.tuple [.tuple [.str "a", .str "b", .str "c", .str "d", .str "e"]], .tuple (f1 :: ss), my], .tuple [.tuple [f2], .tuple (f1 :: ss), .tuple [.int 0, .int 1, .int 2, .int 3]], .tuple [.tuple [f2], .tuple [], .tuple [.int 0]]] = bs
    have fG : ∀ d ∈ gs, fit d = true ∧ standsD d = true := by
      rw [← hG]
      simp only [List.forall_mem_cons, List.not_mem_nil, false_implies, implies_true, and_true]
      refine ⟨⟨by simp [f4f, f1f, ssf, myf], stands_of t1 (by omega) (by omega) hs (by simp [lenD]) myn (by omega) (by omega)⟩, ⟨by simp [f4f, f2f, f1f, ssf, myf], stands_of t2 (by omega) (by omega) hs (by simp [lenD]) myn (by omega) (by omega)⟩,
        ⟨by simp [f2f, f1f], stands_of t3' (by simp) (by simp) one1 (by simp [lenD]) (show areNumbersD (.tuple [.int 0]) 0 0 = true by decide +kernel) (by decide) (by decide)⟩, by simp [ef, f1f, ssf, myf], stands_of t4 (by omega) (by omega) hs (by simp [lenD]) myn (by omega) (by omega)⟩
    have fB : ∀ d ∈ bs, fit d = true ∧ standsD d = false := by
      rw [← hB]
      simp only [List.forall_mem_cons, List.not_mem_nil, false_implies, implies_true, and_true]
      refine ⟨⟨by simp [f4f, f2f, f1f, ssf, myf], falls_things u1⟩, ⟨by simp [f4f, f1f, ssf, myf], falls_things u2⟩, ⟨by simp [af, f1f, ssf, myf], falls_things u3⟩, ⟨?_, falls_steps (by simp; omega)⟩, ⟨by simp [af, bf, cf, df, gf, f1f, ssf, myf], falls_things u5⟩, ⟨by simp [f2f, f1f, ssf], falls_made (by simp [lenD])⟩, by simp [f2f], falls_steps (by simp)⟩
      have : fitAll (ss ++ [f1]) = true := fitAll_iff.mpr fun d hd => by
        rcases List.mem_append.mp hd with h | h
        · exact fitAll_iff.mp ssf d h
        · simp at h
          rw [h]
          exact f1f
      simp [f2f, f1f, this, myf]
    rw [comp_map (ds := [.list gs]) (xs := gs) (fun _ => .bool true) (by simp) (by simp [iterD]) (fun d hd => by simp [bindT, wipeR, T_law_k02_is_recipe, run_is_recipe d (fG d hd).1, (fG d hd).2])]
    simp only [pure_bind, rd_ow, all_bools (fun _ => true), ofO_some, rd_fz, asB_bool]
    rw [if_pos (by simp)]
    rw [comp_map (ds := [.list bs]) (xs := bs) (fun _ => .bool false) (by simp) (by simp [iterD]) (fun d hd => by simp [bindT, wipeR, T_law_k02_is_recipe, run_is_recipe d (fB d hd).1, (fB d hd).2])]
    simp [any_bools (fun _ => false)]
    exact Wp.pure (hp _ _ (by simp))
end SB
namespace SB
open PySem PySem.Spec PyProof.Rows L2
def top_k02 (i : Nat) : Stmt := PySem.Challenge.pw_samebuilds_k02_whole_bounds.main.body.getD i (.Pass ⟨0, 0, 0, 0⟩)
theorem sc_k02__law_cell_at : FnScope d__law_cell_at.N ["script", "k"] (defScope (top_k02 14)) := ⟨rfl, rfl, rfl, by decide +kernel, rfl, by decide +kernel, by decide +kernel⟩
theorem ck_k02__law_cell_at : mSs d__law_cell_at.N (defScope (top_k02 14)).names d__law_cell_at.body (defBody (top_k02 14)) = true := by decide +kernel
theorem sc_k02__law_mixed : FnScope d__law_mixed.N ["script", "k", "many"] (defScope (top_k02 15)) := ⟨rfl, rfl, rfl, by decide +kernel, rfl, by decide +kernel, by decide +kernel⟩
theorem ck_k02__law_mixed : mSs d__law_mixed.N (defScope (top_k02 15)).names d__law_mixed.body (defBody (top_k02 15)) = true := by decide +kernel
theorem sc_k02__law_draw : FnScope d__law_draw.N ["script", "state", "many"] (defScope (top_k02 16)) := ⟨rfl, rfl, rfl, by decide +kernel, rfl, by decide +kernel, by decide +kernel⟩
theorem ck_k02__law_draw : mSs d__law_draw.N (defScope (top_k02 16)).names d__law_draw.body (defBody (top_k02 16)) = true := by decide +kernel
theorem sc_k02__law_some_of : FnScope d__law_some_of.N ["script", "state", "some", "count"] (defScope (top_k02 17)) := ⟨rfl, rfl, rfl, by decide +kernel, rfl, by decide +kernel, by decide +kernel⟩
theorem ck_k02__law_some_of : mSs d__law_some_of.N (defScope (top_k02 17)).names d__law_some_of.body (defBody (top_k02 17)) = true := by decide +kernel
theorem sc_k02__law_pick : FnScope d__law_pick.N ["script", "state", "some"] (defScope (top_k02 18)) := ⟨rfl, rfl, rfl, by decide +kernel, rfl, by decide +kernel, by decide +kernel⟩
theorem ck_k02__law_pick : mSs d__law_pick.N (defScope (top_k02 18)).names d__law_pick.body (defBody (top_k02 18)) = true := by decide +kernel
theorem sc_k02__law_some_step : FnScope d__law_some_step.N ["script", "state", "things", "count"] (defScope (top_k02 19)) := ⟨rfl, rfl, rfl, by decide +kernel, rfl, by decide +kernel, by decide +kernel⟩
theorem ck_k02__law_some_step : mSs d__law_some_step.N (defScope (top_k02 19)).names d__law_some_step.body (defBody (top_k02 19)) = true := by decide +kernel
theorem sc_k02_rises : FnScope d_rises.N ["some"] (defScope (top_k02 5)) := ⟨rfl, rfl, rfl, by decide +kernel, rfl, by decide +kernel, by decide +kernel⟩
theorem ck_k02_rises : mSs d_rises.N (defScope (top_k02 5)).names d_rises.body (defBody (top_k02 5)) = true := by decide +kernel
theorem sc_k02_is_integer : FnScope d_is_integer.N ["value", "low", "high"] (defScope (top_k02 3)) := ⟨rfl, rfl, rfl, by decide +kernel, rfl, by decide +kernel, by decide +kernel⟩
theorem ck_k02_is_integer : mSs d_is_integer.N (defScope (top_k02 3)).names d_is_integer.body (defBody (top_k02 3)) = true := by decide +kernel
theorem sc_k02_are_numbers : FnScope d_are_numbers.N ["value", "low", "high"] (defScope (top_k02 10)) := ⟨rfl, rfl, rfl, by decide +kernel, rfl, by decide +kernel, by decide +kernel⟩
theorem ck_k02_are_numbers : mSs d_are_numbers.N (defScope (top_k02 10)).names d_are_numbers.body (defBody (top_k02 10)) = true := by decide +kernel
theorem sc_k02_is_text : FnScope d_is_text.N ["value", "most"] (defScope (top_k02 4)) := ⟨rfl, rfl, rfl, by decide +kernel, rfl, by decide +kernel, by decide +kernel⟩
theorem ck_k02_is_text : mSs d_is_text.N (defScope (top_k02 4)).names d_is_text.body (defBody (top_k02 4)) = true := by decide +kernel
theorem sc_k02_is_thing : FnScope d_is_thing.N ["value"] (defScope (top_k02 6)) := ⟨rfl, rfl, rfl, by decide +kernel, rfl, by decide +kernel, by decide +kernel⟩
theorem ck_k02_is_thing : mSs d_is_thing.N (defScope (top_k02 6)).names d_is_thing.body (defBody (top_k02 6)) = true := by decide +kernel
theorem sc_k02_are_things : FnScope d_are_things.N ["value"] (defScope (top_k02 7)) := ⟨rfl, rfl, rfl, by decide +kernel, rfl, by decide +kernel, by decide +kernel⟩
theorem ck_k02_are_things : mSs d_are_things.N (defScope (top_k02 7)).names d_are_things.body (defBody (top_k02 7)) = true := by decide +kernel
theorem sc_k02_is_reading : FnScope d_is_reading.N ["things", "steps", "value"] (defScope (top_k02 8)) := ⟨rfl, rfl, rfl, by decide +kernel, rfl, by decide +kernel, by decide +kernel⟩
theorem ck_k02_is_reading : mSs d_is_reading.N (defScope (top_k02 8)).names d_is_reading.body (defBody (top_k02 8)) = true := by decide +kernel
theorem sc_k02_is_step : FnScope d_is_step.N ["things", "steps", "value"] (defScope (top_k02 9)) := ⟨rfl, rfl, rfl, by decide +kernel, rfl, by decide +kernel, by decide +kernel⟩
theorem ck_k02_is_step : mSs d_is_step.N (defScope (top_k02 9)).names d_is_step.body (defBody (top_k02 9)) = true := by decide +kernel
theorem sc_k02_stands : FnScope d_stands.N ["value"] (defScope (top_k02 11)) := ⟨rfl, rfl, rfl, by decide +kernel, rfl, by decide +kernel, by decide +kernel⟩
theorem ck_k02_stands : mSs d_stands.N (defScope (top_k02 11)).names d_stands.body (defBody (top_k02 11)) = true := by decide +kernel
theorem sc_k02_is_recipe : FnScope d_is_recipe.N ["value"] (defScope (top_k02 12)) := ⟨rfl, rfl, rfl, by decide +kernel, rfl, by decide +kernel, by decide +kernel⟩
theorem ck_k02_is_recipe : mSs d_is_recipe.N (defScope (top_k02 12)).names d_is_recipe.body (defBody (top_k02 12)) = true := by decide +kernel
theorem sc_k02_law : FnScope d_law_k02.N ["script"] (defScope (top_k02 20)) := ⟨rfl, rfl, rfl, by decide +kernel, rfl, by decide +kernel, by decide +kernel⟩
theorem ck_k02_law : mSs d_law_k02.N (defScope (top_k02 20)).names d_law_k02.body (defBody (top_k02 20)) = true := by decide +kernel
theorem all_k02 {l : PySem.W.OpenLaw} {w : World} {K : PySem.W.Frag} {h : Heap} {mg : Str → Option Value} {fa : Addr} {tL : Nat} {dR : Addr} {es : Array DictEntry} {n : Nat} (X : K.In h) (G : h.Ns mainGlobals mg) (hfa : mg "law" = some (.ref fa))
    (h0 : DefAt K "_law_cell_at" (top_k02 14)) (h1 : DefAt K "_law_mixed" (top_k02 15)) (h2 : DefAt K "_law_draw" (top_k02 16)) (h3 : DefAt K "_law_some_of" (top_k02 17)) (h4 : DefAt K "_law_pick" (top_k02 18)) (h5 : DefAt K "_law_some_step" (top_k02 19)) (h6 : DefAt K "rises" (top_k02 5)) (h7 : DefAt K "is_integer" (top_k02 3)) (h8 : DefAt K "are_numbers" (top_k02 10)) (h9 : DefAt K "is_text" (top_k02 4)) (h10 : DefAt K "is_thing" (top_k02 6)) (h11 : DefAt K "are_things" (top_k02 7)) (h12 : DefAt K "is_reading" (top_k02 8)) (h13 : DefAt K "is_step" (top_k02 9)) (h14 : DefAt K "stands" (top_k02 11)) (h15 : DefAt K "is_recipe" (top_k02 12)) (h16 : DefAt K "law" (top_k02 20))
    (aL : PySem.W.nsIn K mainGlobals "LETTERS" = some (some (.str lettersT tL))) (aR : PySem.W.nsIn K mainGlobals "READS" = some (some (.ref dR))) (lR : K.lookup dR = some ⟨.type "dict", none, .dict es n, #[]⟩) (eR : Ents w.params es.toList readsL) (sR : (dR == sysModules) = false) (bl : ∀ x ∈ bltNames, PySem.W.nsIn K mainGlobals x = some none) :
    ∃ fd : FuncData, (∀ (s : Shared) (v : Value), BindsTo s fd ⟨[v], []⟩ [("script", v)]) ∧ ∀ base : Heap, K.In base → base.Ns mainGlobals mg → FnOk l.prog w K mg base CX0 17 fa fd ["script"] (spL K (runD T_law_k02 d_law_k02)) := by
  obtain ⟨f0, _, kV0, dc0, pm0, cd0, ct0, _, an0, _, a0, l0, c0, k0⟩ := h0
  have F0 := fun_mk (st := top_k02 14) l0 c0 k0
  have b0 := F0.binds (ps := ["script", "k"]) fun _ _ _ _ _ _ us hl => match us, hl with | [_, _], _ => rfl
  obtain ⟨f1, _, kV1, dc1, pm1, cd1, ct1, _, an1, _, a1, l1, c1, k1⟩ := h1
  have F1 := fun_mk (st := top_k02 15) l1 c1 k1
  have b1 := F1.binds (ps := ["script", "k", "many"]) fun _ _ _ _ _ _ us hl => match us, hl with | [_, _, _], _ => rfl
  obtain ⟨f2, _, kV2, dc2, pm2, cd2, ct2, _, an2, _, a2, l2, c2, k2⟩ := h2
  have F2 := fun_mk (st := top_k02 16) l2 c2 k2
  have b2 := F2.binds (ps := ["script", "state", "many"]) fun _ _ _ _ _ _ us hl => match us, hl with | [_, _, _], _ => rfl
  obtain ⟨f3, _, kV3, dc3, pm3, cd3, ct3, _, an3, _, a3, l3, c3, k3⟩ := h3
  have F3 := fun_mk (st := top_k02 17) l3 c3 k3
  have b3 := F3.binds (ps := ["script", "state", "some", "count"]) fun _ _ _ _ _ _ us hl => match us, hl with | [_, _, _, _], _ => rfl
  obtain ⟨f4, _, kV4, dc4, pm4, cd4, ct4, _, an4, _, a4, l4, c4, k4⟩ := h4
  have F4 := fun_mk (st := top_k02 18) l4 c4 k4
  have b4 := F4.binds (ps := ["script", "state", "some"]) fun _ _ _ _ _ _ us hl => match us, hl with | [_, _, _], _ => rfl
  obtain ⟨f5, _, kV5, dc5, pm5, cd5, ct5, _, an5, _, a5, l5, c5, k5⟩ := h5
  have F5 := fun_mk (st := top_k02 19) l5 c5 k5
  have b5 := F5.binds (ps := ["script", "state", "things", "count"]) fun _ _ _ _ _ _ us hl => match us, hl with | [_, _, _, _], _ => rfl
  obtain ⟨f6, _, kV6, dc6, pm6, cd6, ct6, _, an6, _, a6, l6, c6, k6⟩ := h6
  have F6 := fun_mk (st := top_k02 5) l6 c6 k6
  have b6 := F6.binds (ps := ["some"]) fun _ _ _ _ _ _ us hl => match us, hl with | [_], _ => rfl
  obtain ⟨f7, _, kV7, dc7, pm7, cd7, ct7, _, an7, _, a7, l7, c7, k7⟩ := h7
  have F7 := fun_mk (st := top_k02 3) l7 c7 k7
  have b7 := F7.binds (ps := ["value", "low", "high"]) fun _ _ _ _ _ _ us hl => match us, hl with | [_, _, _], _ => rfl
  obtain ⟨f8, _, kV8, dc8, pm8, cd8, ct8, _, an8, _, a8, l8, c8, k8⟩ := h8
  have F8 := fun_mk (st := top_k02 10) l8 c8 k8
  have b8 := F8.binds (ps := ["value", "low", "high"]) fun _ _ _ _ _ _ us hl => match us, hl with | [_, _, _], _ => rfl
  obtain ⟨f9, _, kV9, dc9, pm9, cd9, ct9, _, an9, _, a9, l9, c9, k9⟩ := h9
  have F9 := fun_mk (st := top_k02 4) l9 c9 k9
  have b9 := F9.binds (ps := ["value", "most"]) fun _ _ _ _ _ _ us hl => match us, hl with | [_, _], _ => rfl
  obtain ⟨f10, _, kV10, dc10, pm10, cd10, ct10, _, an10, _, a10, l10, c10, k10⟩ := h10
  have F10 := fun_mk (st := top_k02 6) l10 c10 k10
  have b10 := F10.binds (ps := ["value"]) fun _ _ _ _ _ _ us hl => match us, hl with | [_], _ => rfl
  obtain ⟨f11, _, kV11, dc11, pm11, cd11, ct11, _, an11, _, a11, l11, c11, k11⟩ := h11
  have F11 := fun_mk (st := top_k02 7) l11 c11 k11
  have b11 := F11.binds (ps := ["value"]) fun _ _ _ _ _ _ us hl => match us, hl with | [_], _ => rfl
  obtain ⟨f12, _, kV12, dc12, pm12, cd12, ct12, _, an12, _, a12, l12, c12, k12⟩ := h12
  have F12 := fun_mk (st := top_k02 8) l12 c12 k12
  have b12 := F12.binds (ps := ["things", "steps", "value"]) fun _ _ _ _ _ _ us hl => match us, hl with | [_, _, _], _ => rfl
  obtain ⟨f13, _, kV13, dc13, pm13, cd13, ct13, _, an13, _, a13, l13, c13, k13⟩ := h13
  have F13 := fun_mk (st := top_k02 9) l13 c13 k13
  have b13 := F13.binds (ps := ["things", "steps", "value"]) fun _ _ _ _ _ _ us hl => match us, hl with | [_, _, _], _ => rfl
  obtain ⟨f14, _, kV14, dc14, pm14, cd14, ct14, _, an14, _, a14, l14, c14, k14⟩ := h14
  have F14 := fun_mk (st := top_k02 11) l14 c14 k14
  have b14 := F14.binds (ps := ["value"]) fun _ _ _ _ _ _ us hl => match us, hl with | [_], _ => rfl
  obtain ⟨f15, _, kV15, dc15, pm15, cd15, ct15, _, an15, _, a15, l15, c15, k15⟩ := h15
  have F15 := fun_mk (st := top_k02 12) l15 c15 k15
  have b15 := F15.binds (ps := ["value"]) fun _ _ _ _ _ _ us hl => match us, hl with | [_], _ => rfl
  obtain ⟨f16, _, kV16, dc16, pm16, cd16, ct16, _, an16, _, a16, l16, c16, k16⟩ := h16
  have F16 := fun_mk (st := top_k02 20) l16 c16 k16
  have e := hfa.symm.trans (PySem.W.mg_of X G a16)
  cases e
  refine ⟨PySem.W.fnOf "law" "law" (defArgs (top_k02 20)) (defBody (top_k02 20)) (defScope (top_k02 20)) .none kV16 dc16 pm16 an16 cd16 ct16, fun s v => .of_eq rfl, fun base _ _ => ?_⟩
  have T0 : ∀ k, TabOk l.prog w K mg base k (tabOf []) := fun k => tab_nil (PySem.W.mg_of X G aL) (PySem.W.mg_of X G aR) lR eR sR fun x hx => PySem.W.mg_none_of X G (bl x hx)
  have A0 : At l.prog w K mg base 1 "_law_cell_at" S__law_cell_at := at_def (d := d__law_cell_at) (T0 0) (PySem.W.mg_of X G a0) F0 b0 sc_k02__law_cell_at rfl ck_k02__law_cell_at
  have A1 : At l.prog w K mg base 2 "_law_mixed" S__law_mixed := at_def (d := d__law_mixed) (tab_cons (At.mono (k := 1) A0 (by decide)) (T0 1)) (PySem.W.mg_of X G a1) F1 b1 sc_k02__law_mixed rfl ck_k02__law_mixed
  have A2 : At l.prog w K mg base 3 "_law_draw" S__law_draw := at_def (d := d__law_draw) (tab_cons (At.mono (k := 2) A1 (by decide)) (T0 2)) (PySem.W.mg_of X G a2) F2 b2 sc_k02__law_draw rfl ck_k02__law_draw
  have A3 : At l.prog w K mg base 4 "_law_some_of" S__law_some_of := at_def (d := d__law_some_of) (tab_cons (At.mono (k := 3) A2 (by decide)) (T0 3)) (PySem.W.mg_of X G a3) F3 b3 sc_k02__law_some_of rfl ck_k02__law_some_of
  have A4 : At l.prog w K mg base 5 "_law_pick" S__law_pick := at_def (d := d__law_pick) (tab_cons (At.mono (k := 4) A2 (by decide)) (T0 4)) (PySem.W.mg_of X G a4) F4 b4 sc_k02__law_pick rfl ck_k02__law_pick
  have A5 : At l.prog w K mg base 6 "_law_some_step" S__law_some_step := at_def (d := d__law_some_step) (tab_cons (At.mono (k := 5) A4 (by decide)) (tab_cons (At.mono (k := 5) A2 (by decide)) (T0 5))) (PySem.W.mg_of X G a5) F5 b5 sc_k02__law_some_step rfl ck_k02__law_some_step
  have A6 : At l.prog w K mg base 7 "rises" S_rises := at_def (d := d_rises) (T0 6) (PySem.W.mg_of X G a6) F6 b6 sc_k02_rises rfl ck_k02_rises
  have A7 : At l.prog w K mg base 8 "is_integer" S_is_integer := at_def (d := d_is_integer) (T0 7) (PySem.W.mg_of X G a7) F7 b7 sc_k02_is_integer rfl ck_k02_is_integer
  have A8 : At l.prog w K mg base 9 "are_numbers" S_are_numbers := at_def (d := d_are_numbers) (tab_cons (At.mono (k := 8) A7 (by decide)) (tab_cons (At.mono (k := 8) A6 (by decide)) (T0 8))) (PySem.W.mg_of X G a8) F8 b8 sc_k02_are_numbers rfl ck_k02_are_numbers
  have A9 : At l.prog w K mg base 10 "is_text" S_is_text := at_def (d := d_is_text) (T0 9) (PySem.W.mg_of X G a9) F9 b9 sc_k02_is_text rfl ck_k02_is_text
  have A10 : At l.prog w K mg base 11 "is_thing" S_is_thing := at_def (d := d_is_thing) (tab_cons (At.mono (k := 10) A9 (by decide)) (tab_cons (At.mono (k := 10) A6 (by decide)) (T0 10))) (PySem.W.mg_of X G a10) F10 b10 sc_k02_is_thing rfl ck_k02_is_thing
  have A11 : At l.prog w K mg base 12 "are_things" S_are_things := at_def (d := d_are_things) (tab_cons (At.mono (k := 11) A10 (by decide)) (T0 11)) (PySem.W.mg_of X G a11) F11 b11 sc_k02_are_things rfl ck_k02_are_things
  have A12 : At l.prog w K mg base 13 "is_reading" S_is_reading := at_def (d := d_is_reading) (tab_cons (At.mono (k := 12) A7 (by decide)) (T0 12)) (PySem.W.mg_of X G a12) F12 b12 sc_k02_is_reading rfl ck_k02_is_reading
  have A13 : At l.prog w K mg base 14 "is_step" S_is_step := at_def (d := d_is_step) (tab_cons (At.mono (k := 13) A12 (by decide)) (T0 13)) (PySem.W.mg_of X G a13) F13 b13 sc_k02_is_step rfl ck_k02_is_step
  have A14 : At l.prog w K mg base 15 "stands" S_stands := at_def (d := d_stands) (tab_cons (At.mono (k := 14) A11 (by decide)) (tab_cons (At.mono (k := 14) A13 (by decide)) (tab_cons (At.mono (k := 14) A8 (by decide)) (T0 14)))) (PySem.W.mg_of X G a14) F14 b14 sc_k02_stands rfl ck_k02_stands
  have A15 : At l.prog w K mg base 16 "is_recipe" S_is_recipe := at_def (d := d_is_recipe) (tab_cons (At.mono (k := 15) A14 (by decide)) (T0 15)) (PySem.W.mg_of X G a15) F15 b15 sc_k02_is_recipe rfl ck_k02_is_recipe
  exact law_ok (d := d_law_k02) F16 sc_k02_law rfl (tab_cons (At.mono (k := 16) A5 (by decide)) (tab_cons (At.mono (k := 16) A3 (by decide)) (tab_cons (At.mono (k := 16) A15 (by decide)) (T0 16)))) ck_k02_law
end SB
open PySem PySem.W PyProof.Rows
set_option maxHeartbeats 0 in
theorem PySem.Challenge.cw_samebuilds_k02_whole_bounds_holds : PySem.Challenge.rw_samebuilds_k02_whole_bounds.Holds := by
  w_on; o_law; k_head; (case hw => w_witness2)
  k_fill
  refine L2.walk_of (l := PySem.Challenge.rw_samebuilds_k02_whole_bounds) (n := 63) (k := 17) (x := "script") (CX := fun _ => L2.CX0) (sp := fun w => SB.spL _ (SB.runD SB.T_law_k02 SB.d_law_k02)) rfl (by decide) rfl ⟨rfl, by decide, by decide⟩ (fun w h Y => PySem.W.kIn_of Y) ?F (fun _ _ a ns hl _ hS => (SB.run_law_k02 ns hl).elim fun c hc => ⟨a, ns, c, rfl, hS, hc, fun _ => rfl⟩) (fun _ _ _ _ _ h => h)
  case F =>
    intro w mg fa h KX G hmg
    refine' SB.all_k02 KX G hmg ?h0 ?h1 ?h2 ?h3 ?h4 ?h5 ?h6 ?h7 ?h8 ?h9 ?h10 ?h11 ?h12 ?h13 ?h14 ?h15 ?h16 ?aL ?aR ?lR ?eR ?sR ?bl
    (case h0 => refine' SB.DefAt.of ?a ?l ?c ?k; (case a => k_is); (case l => k_is); (case c => k_is); (case k => k_is))
    (case h1 => refine' SB.DefAt.of ?a ?l ?c ?k; (case a => k_is); (case l => k_is); (case c => k_is); (case k => k_is))
    (case h2 => refine' SB.DefAt.of ?a ?l ?c ?k; (case a => k_is); (case l => k_is); (case c => k_is); (case k => k_is))
    (case h3 => refine' SB.DefAt.of ?a ?l ?c ?k; (case a => k_is); (case l => k_is); (case c => k_is); (case k => k_is))
    (case h4 => refine' SB.DefAt.of ?a ?l ?c ?k; (case a => k_is); (case l => k_is); (case c => k_is); (case k => k_is))
    (case h5 => refine' SB.DefAt.of ?a ?l ?c ?k; (case a => k_is); (case l => k_is); (case c => k_is); (case k => k_is))
    (case h6 => refine' SB.DefAt.of ?a ?l ?c ?k; (case a => k_is); (case l => k_is); (case c => k_is); (case k => k_is))
    (case h7 => refine' SB.DefAt.of ?a ?l ?c ?k; (case a => k_is); (case l => k_is); (case c => k_is); (case k => k_is))
    (case h8 => refine' SB.DefAt.of ?a ?l ?c ?k; (case a => k_is); (case l => k_is); (case c => k_is); (case k => k_is))
    (case h9 => refine' SB.DefAt.of ?a ?l ?c ?k; (case a => k_is); (case l => k_is); (case c => k_is); (case k => k_is))
    (case h10 => refine' SB.DefAt.of ?a ?l ?c ?k; (case a => k_is); (case l => k_is); (case c => k_is); (case k => k_is))
    (case h11 => refine' SB.DefAt.of ?a ?l ?c ?k; (case a => k_is); (case l => k_is); (case c => k_is); (case k => k_is))
    (case h12 => refine' SB.DefAt.of ?a ?l ?c ?k; (case a => k_is); (case l => k_is); (case c => k_is); (case k => k_is))
    (case h13 => refine' SB.DefAt.of ?a ?l ?c ?k; (case a => k_is); (case l => k_is); (case c => k_is); (case k => k_is))
    (case h14 => refine' SB.DefAt.of ?a ?l ?c ?k; (case a => k_is); (case l => k_is); (case c => k_is); (case k => k_is))
    (case h15 => refine' SB.DefAt.of ?a ?l ?c ?k; (case a => k_is); (case l => k_is); (case c => k_is); (case k => k_is))
    (case h16 => refine' SB.DefAt.of ?a ?l ?c ?k; (case a => k_is); (case l => k_is); (case c => k_is); (case k => k_is))
    (case aL => k_is); (case aR => k_is); (case lR => k_is); (case sR => exact rfl)
    (case eR => exact .cons rfl rfl rfl (.cons rfl rfl rfl (.cons rfl rfl rfl (.cons rfl rfl rfl (.cons rfl rfl rfl (.cons rfl rfl rfl (.cons rfl rfl rfl (.cons rfl rfl rfl (.nil)))))))))
    (case bl => refine' SB.bl_of ?z0 ?z1 ?z2 ?z3 ?z4 ?z5 ?z6 ?z7 ?z8 ?z9 ?z10 ?z11 ?z12 ?z13 ?z14 ?z15 ?z16 <;> k_is)
