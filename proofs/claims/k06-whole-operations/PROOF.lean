import PyProof.Rows.All
import PySem.Challenge.RW_samebuilds_k06_whole_operations
import HandS.ForMost
import HandS.Deep
import HandS.Zip
import HandS.TupAny
import HandS.TupMul
import HandS.AnyAll
import HandS.Style
import HandS.TupLe
import HandS.Strs
import HandS.Conv
import KE.SortData
import KE.DataIsa
import KE.DataMinMax
import KE.DataFind
import KE.KeyNested
import KE.KDictKeyed
import HandS.TupLen
import KE.DataCmp
import PyProof.ListStr
import PyProof.CollectStr
import PyProof.TupleOfSeq
import KE.GoesEnum
import KE.GoesMore
import HandS.More
import HandS.SetFor
import HandS.TupSets
import HandS.NoneIn
import KE.KDictSum
import KE.KDictDisplayH
import HandS.ClsMeth
import KE.KDictZip
import PyProof.ListNew
import HandS.ReplaceLit
import OpenK.KEqL
import PyProof.Rows.RegReprOcc
import PyProof.Rows.StrLawsPart
import PyProof.Rows.StrSplitAre
import PyProof.Rows.StrItems
import PyProof.StrLawsReplace
import PyProof.StrLawsTight
set_option Elab.async false
set_option linter.all false
set_option maxRecDepth 100000
/-! The small language: its texts, its values, what it computes. -/
namespace SB
open PySem

abbrev D := PyData
/-- a value or a slot: frozen, owned, borrowed, the list of the draws -/
inductive Sl where
  | fz (d : D) | ow (d : D) | bw (d : D) | st

/-- computations: the number of draws so far (none: no list of draws yet); none: stuck -/
def M (α : Type) : Type := Option Nat → Option (α × Option Nat)
def M.fail {α : Type} : M α := fun _ => none
instance : Monad M where
  pure a := fun c => some (a, c)
  bind x f := fun c => (x c).bind fun p => f p.1 p.2
theorem M.pure_run {α : Type} (a : α) (c : Option Nat) : (pure a : M α) c = some (a, c) := rfl
theorem M.bind_run {α β : Type} (x : M α) (f : α → M β) (c : Option Nat) : (x >>= f) c = (x c).bind fun p => f p.1 p.2 := rfl
instance : LawfulMonad M := LawfulMonad.mk' (m := M)
  (id_map := fun x => by
    funext c
    show (x c).bind _ = x c
    cases x c <;> rfl)
  (pure_bind := fun a f => rfl)
  (bind_assoc := fun x f g => by
    funext c
    show ((x c).bind _).bind _ = (x c).bind _
    cases x c <;> rfl)
theorem M.bind_some {α β : Type} {x : M α} {f : α → M β} {c : Option Nat} {r : β × Option Nat} (h : (x >>= f) c = some r) : ∃ a c1, x c = some (a, c1) ∧ f a c1 = some r := by
  rw [M.bind_run] at h
  cases e : x c with
  | none => rw [e] at h; cases h
  | some p => rw [e] at h; exact ⟨p.1, p.2, rfl, h⟩
@[simp] theorem M.fail_run {α : Type} (c : Option Nat) : (M.fail : M α) c = none := rfl
@[simp] theorem M.fail_bind {α β : Type} (f : α → M β) : (M.fail >>= f) = M.fail := rfl
def ofO {α : Type} : Option α → M α
  | some a => pure a
  | none => M.fail
@[simp] theorem ofO_some {α : Type} (a : α) : ofO (some a) = pure a := rfl
@[simp] theorem ofO_none {α : Type} : ofO (none : Option α) = M.fail := rfl
theorem ofO_run {α : Type} {o : Option α} {c : Option Nat} {r : α × Option Nat} (h : ofO o c = some r) : o = some r.1 ∧ r.2 = c := by
  cases o with
  | none => cases h
  | some a =>
    cases h
    exact ⟨rfl, rfl⟩

/-! ### texts -/
inductive IK where
  | seq | range | enum | zip | zip3
inductive Bf where
  | len | all | any | list | tuple | min | max | sum | sorted | str | int
inductive Ty where
  | int | bool | str | tuple | list
inductive Mf where
  | count | index | tindex | join | split | replace | upper
def Bf.nm : Bf → Str
  | .len => "len" | .all => "all" | .any => "any" | .list => "list" | .tuple => "tuple" | .min => "min" | .max => "max" | .sum => "sum" | .sorted => "sorted" | .str => "str" | .int => "int"
def Ty.nm : Ty → String
  | .int => "int" | .bool => "bool" | .str => "str" | .tuple => "tuple" | .list => "list"
def Mf.nm : Mf → Str
  | .count => "count" | .index => "index" | .tindex => "index" | .join => "join" | .split => "split" | .replace => "replace" | .upper => "upper"
inductive Ex where
  | non | bl (b : Bool) | int (i : Int) | str (x : Str)
  | v (i : Nat)
  | lenS (i : Nat)
  | gl (x : Str)
  | tup (es : List Ex) | lst (es : List Ex)
  | bin (o : Operator) (a b : Ex)
  | not (a : Ex) | neg (a : Ex)
  | and (a b : Ex) | or (a b : Ex)
  | cmp (o : CmpOp) (a b : Ex)
  | chain (o o' : CmpOp) (a b c : Ex)
  | ife (c a b : Ex)
  | call (f : Str) (es : List Ex)
  | blt (f : Bf) (es : List Ex)
  | isa (a : Ex) (T : Ty)
  | inG (ng : Bool) (a : Ex) (x : Str) | getG (x : Str) (a : Ex)
  | dget (ks : List (Str × Int)) (a b : Ex)
  | rng (lst : Bool) (es : List Ex)
  | sset (a : Ex)
  | meth (m : Mf) (o : Ex) (es : List Ex)
  | ix (a i : Ex)
  | sl (a : Ex) (lo hi : List Ex)
  | rev (a : Ex)
  | rev2 (a : Ex)
  | dnew
  | dlit (k e : Ex)
  | dlen (a : Ex)
  | dsort (i : Nat)
  | dat (i : Nat) (k : Ex)
  | dgt (i : Nat) (k x : Ex)
  | din (ng : Bool) (k : Ex) (i : Nat)
  | lset (a : Ex)
  | lzip (a b : Ex)
  | dcomp (elt : Ex) (own : List Nat) (tg : List Nat) (one : Bool) (i : Nat)
  | datB (i : Nat) (k : Ex)
  | inew
  | isort (i : Nat)
  | iin (ng : Bool) (k : Ex) (i : Nat)
  | meth2 (m : Mf) (o a b : Ex)
  | dgetS (ks : List (Str × Str)) (a b : Ex)
  | comp (elt : Ex) (own : List Nat) (tg : List Nat) (one : Bool) (k : IK) (args : List Ex) (cond : List Ex)
inductive St where
  | asg (i : Nat) (e : Ex)
  | mv (i j : Nat)
  | asgT (is : List Nat) (e : Ex)
  | par (is : List Nat) (es : List Ex)
  | init (i : Nat)
  | aug (o : Operator) (i : Nat) (e : Ex)
  | app (i : Nat) (e : Ex)
  | ext (i : Nat) (e : Ex)
  | popA (i j : Nat)
  | appPop (i j : Nat) (e : Ex)
  | put (i : Nat) (k e : Ex)
  | setd (i : Nat) (k e : Ex)
  | grp (i o w : Nat) (it e : Ex)
  | parT (is : List Nat) (es : List Ex)
  | setL (i : Nat) (k e : Ex)
  | popL (i : Nat) (k : Ex)
  | expr (e : Ex)
  | ifs (c : Ex) (a b : List St)
  | frz (is : List Nat)
  | for (tg : List Nat) (one : Bool) (k : IK) (args : List Ex) (body : List St)
  | forO (tg : List Nat) (one : Bool) (i : Nat) (body : List St)
  | forD (tg : List Nat) (one : Bool) (i : Nat) (body : List St)
  | iput (i : Nat) (k : Ex)
  | while (c : Ex) (body : List St)
  | ret (e : Ex)
  | retv (i : Nat)
  | pass
  | never

abbrev Rho := List (Option Sl)
/-- what a def computes -/
abbrev Fn := List Sl → M Sl
structure Tab where
  fn : Str → Option Fn
  gl : Str → Option D
  gd : Str → Option (List (Str × Int))

/-! ### operations on data -/
def binD : Operator → D → D → Option Sl
  | .Add, .int i, .int j => some (.fz (.int (i + j)))
  | .Add, .str x, .str y => if x.length + y.length ≤ sizeLine then some (.fz (.str (x ++ y))) else none
  | .Add, .tuple xs, .tuple ys => if xs.length + ys.length ≤ sizeLine then some (.fz (.tuple (xs ++ ys))) else none
  | .Add, .list xs, .list ys => if xs.length + ys.length ≤ sizeLine then some (.ow (.list (xs ++ ys))) else none
  | .Sub, .int i, .int j => some (.fz (.int (i - j)))
  | .Mult, .int i, .int j => if (-(2 ^ 64) < i ∧ i < 2 ^ 64) ∨ (-(2 ^ 64) < j ∧ j < 2 ^ 64) then some (.fz (.int (i * j))) else none
  | .Mult, .tuple xs, .int k => if k = 1 then some (.fz (.tuple xs)) else if xs = [] ∧ 1 ≤ k ∧ k ≤ 1000 then some (.fz (.tuple [])) else if xs ≠ [] ∧ 2 ≤ k ∧ k ≤ 1000 ∧ xs.length ≤ 1000 then some (.fz (.tuple (List.replicate k.toNat xs).flatten)) else none
  | .Mult, .list xs, .int k => if 0 ≤ k ∧ k ≤ 1000 ∧ xs.length * k.toNat ≤ sizeLine then some (.ow (.list (List.replicate k.toNat xs).flatten)) else none
  | .Mult, .str x, .int k => if 2 ≤ k ∧ k ≤ 100000 ∧ (x.length == 0) = false ∧ x.length * k.toNat ≤ sizeLine ∧ ((List.replicate k.toNat x.cps).foldl (· ++ ·) #[]).size ≤ sizeLine then some (.fz (.str ⟨(List.replicate k.toNat x.cps).foldl (· ++ ·) #[]⟩)) else none
  | .FloorDiv, .int i, .int j => if 0 < j ∧ j < 1073741824 then some (.fz (.int (i / j))) else none
  | .Mod, .int i, .int j => if 0 < j then some (.fz (.int (i % j))) else none
  | .Pow, .int i, .int j => if 0 ≤ j ∧ j ≤ 1000000 ∧ i.natAbs < 2 ^ 64 then some (.fz (.int (i ^ j.toNat))) else none
  | _, _, _ => none
/-- == may be asked -/
abbrev okD (d : D) : Bool := SeqAt.shaped d
def cmpD : CmpOp → D → D → Option Bool
  | .Eq, a, b => if okD a && okD b then some (PyData.eqv a b) else none
  | .NotEq, a, b => if okD a && okD b then some (!PyData.eqv a b) else none
  | .Lt, .int i, .int j => some (decide (i < j))
  | .Lt, .str x, .str y => some (decide (x.cps.toList < y.cps.toList))
  | .Lt, .tuple xs, .tuple ys => if W.alike (.tuple xs) (.tuple ys) && okD (.tuple xs) && okD (.tuple ys) then some (W.dataLt (.tuple xs) (.tuple ys)) else none
  | .LtE, .int i, .int j => some (decide (i ≤ j))
  | .Gt, .int i, .int j => some (decide (j < i))
  | .Gt, .str x, .str y => some (decide (y.cps.toList < x.cps.toList))
  | .GtE, .int i, .int j => some (decide (j ≤ i))
  | .In, .str x, .str y => match x.cps.toList with
    | [c] => some (decide (c ∈ y.cps.toList))
    | _ => some (Txt.contains y x)
  | .NotIn, .str x, .str y => match x.cps.toList with
    | [c] => some (!decide (c ∈ y.cps.toList))
    | _ => none
  | .In, d, .list ds => if okD d && okD (.list ds) then some (ds.any fun z => PyData.eqv z d) else none
  | .NotIn, d, .list ds => if okD d && okD (.list ds) then some (!ds.any fun z => PyData.eqv z d) else none
  | .In, d, .tuple ds => if okD d && okD (.tuple ds) then some (ds.any fun z => PyData.eqv z d) else none
  | .NotIn, d, .tuple ds => if okD d && okD (.tuple ds) then some (!ds.any fun z => PyData.eqv z d) else none
  | .Is, .none, .none => some true
  | .Is, .bool _, .none => some false
  | .Is, .int _, .none => some false
  | .Is, .str _, .none => some false
  | .Is, .tuple _, .none => some false
  | .Is, .list _, .none => some false
  | .IsNot, .none, .none => some false
  | .IsNot, .bool _, .none => some true
  | .IsNot, .int _, .none => some true
  | .IsNot, .str _, .none => some true
  | .IsNot, .tuple _, .none => some true
  | .IsNot, .list _, .none => some true
  | .Is, .bool a, .bool b => some (decide (a = b))
  | .IsNot, .bool a, .bool b => some (!decide (a = b))
  | _, _, _ => none
def boolsOf : List D → Option (List Bool)
  | [] => some []
  | .bool b :: ds => (boolsOf ds).map (b :: ·)
  | _ :: _ => none
def intsOf : List D → Option (List Int)
  | [] => some []
  | .int i :: ds => (intsOf ds).map (i :: ·)
  | _ :: _ => none
def isTupNE : D → Bool
  | .tuple (_ :: _) => true
  | _ => false
def notTup : D → Bool
  | .tuple _ => false
  | .none => false
  | _ => true
def isTupB : D → Bool
  | .tuple _ => true
  | _ => false
/-- tuples, the first of them empty -/
def tupsE : List D → Bool
  | .tuple [] :: ds => ds.all isTupB
  | _ => false
def sortD (ds : List D) : Option (List D) :=
  if (ds.all fun d => ds.all fun e => W.alike d e) && (ds.all isTupNE || ds.all notTup || tupsE ds) && ds.all (fun d => decide (d.depth ≤ 64)) then some (ds.mergeSort (W.dataLe false id)) else none
mutual
/-- the data that are keys: ints, texts, tuples of such -/
def keyOf : D → Option NestedKey
  | .int i => some (.num i)
  | .str x => some (.text x)
  | .tuple ds => (keysOf ds).map .tup
  | _ => none
def keysOf : List D → Option (List NestedKey)
  | [] => some []
  | d :: ds => match keyOf d, keysOf ds with
    | some k, some ks => some (k :: ks)
    | _, _ => none
end
def strsOf : List D → Option (List Str)
  | [] => some []
  | .str x :: ds => (strsOf ds).map (x :: ·)
  | _ :: _ => none
def signs (x : Str) : List D := x.cps.toList.map fun c => .str ⟨#[c]⟩
def bltD : Bf → List D → Option Sl
  | .len, [.list xs] => some (.fz (.int xs.length))
  | .len, [.tuple xs] => some (.fz (.int xs.length))
  | .len, [.str x] => if x.length ≤ sizeLine then some (.fz (.int x.length)) else none
  | .all, [.list xs] => (boolsOf xs).map fun bs => .fz (.bool (bs.all id))
  | .any, [.list xs] => (boolsOf xs).map fun bs => .fz (.bool (bs.any id))
  | .list, [.list xs] => some (.ow (.list xs))
  | .list, [.tuple xs] => some (.ow (.list xs))
  | .tuple, [.list xs] => some (.fz (.tuple xs))
  | .tuple, [.tuple xs] => some (.fz (.tuple xs))
  | .min, [.int i, .int j] => some (.fz (.int (if j < i then j else i)))
  | .sum, [.list xs] => (intsOf xs).map fun ns => .fz (.int ns.sum)
  | .sorted, [.list xs] => (sortD xs).map fun ys => .ow (.list ys)
  | .sorted, [.tuple xs] => (sortD xs).map fun ys => .ow (.list ys)
  | .sorted, [.str x] => if x.length ≤ 1000 then (sortD (signs x)).map fun ys => .ow (.list ys) else none
  | .list, [.str x] => if x.length ≤ sizeLine then some (.ow (.list (signs x))) else none
  | .max, [.list xs] => (match intsOf xs with
    | some (n :: ns) => some (.fz (.int (ns.foldl max n)))
    | _ => none)
  | .min, [.list xs] => (match intsOf xs with
    | some (n :: ns) => some (.fz (.int (ns.foldl min n)))
    | _ => none)
  | .str, [.int i] => if i.natAbs < 1000000 then some (.fz (.str (toString i))) else none
  | .int, [.str x] => if x.length ≤ 640 then (PySem.intText? x).map fun n => .fz (.int n) else none
  | _, _ => none
/-- the members, rising -/
def sortU (ns : List Int) : List Int := ns.eraseDups.mergeSort fun a b => decide (a ≤ b)
/-- every item is below all that follow -/
def strictD : List D → Bool
  | [] => true
  | d :: ds => ds.all (W.dataLt d ·) && strictD ds
def sortK (ks : List NestedKey) : List D := (ks.eraseDups.map NestedKey.data).mergeSort (W.dataLe false id)
def ssetK (xs : List D) : Option Sl :=
  match keysOf xs with
  | some ks => if ks.length < 64 ∧ (ks.all fun k => decide (k.depth ≤ 8)) = true ∧ xs.all isTupNE = true ∧ (xs.all fun d => xs.all fun e => W.alike d e) = true ∧ strictD (sortK ks) = true then some (.ow (.list (sortK ks))) else none
  | none => none
/-- sorted(set(..)) -/
def ssetD : D → Option Sl
  | .tuple xs => (match intsOf xs with
    | some ns => if ns.length < 63 then some (.ow (.list ((sortU ns).map .int))) else none
    | none => ssetK xs)
  | .list xs => (match intsOf xs with
    | some ns => if ns.length < 63 then some (.ow (.list ((sortU ns).map .int))) else none
    | none => ssetK xs)
  | _ => none
/-- len(set(..)) of a list of tuples -/
def lsetD : D → Option Sl
  | .list xs => (match keysOf xs with
    | some ks => if ks.length < 64 ∧ (ks.all fun k => decide (k.depth ≤ 8)) = true ∧ xs.all isTupNE = true then some (.fz (.int ks.eraseDups.length)) else none
    | none => none)
  | _ => none
/-- a method of a built-in type -/
def idxD (d : D) : List D → Option Nat
  | [] => none
  | e :: ds => if PyData.eqv e d then some 0 else (idxD d ds).map (· + 1)
def methD : Mf → D → List D → Option Sl
  | .join, .str a, [.list xs] => (match strsOf xs with
    | some ys => if (ys.map (·.length)).sum + ys.length * a.length ≤ 16777216 then some (.fz (.str (Txt.join a ys))) else none
    | none => none)
  | .join, .str a, [.tuple xs] => (match strsOf xs with
    | some ys => if (ys.map (·.length)).sum + ys.length * a.length ≤ 16777216 then some (.fz (.str (Txt.join a ys))) else none
    | none => none)
  | .count, .str a, [.str b] => some (.fz (.int (Txt.count a b)))
  | .split, .str a, [.str b] => if (b.length == 0) = false ∧ a.length + 2 ≤ sizeLine then some (.ow (.list ((Txt.split a b).map .str))) else none
  | .replace, .str a, [.str b, .str c] => if a.length + (a.length + 1) * c.length ≤ 16777216 then some (.fz (.str (Txt.replace a b c))) else none
  | .upper, .str a, [] => if a.length ≤ 5592405 then some (.fz (.str (Txt.upper a))) else none
  | .index, .list xs, [d] => if okD d && okD (.list xs) then (idxD d xs).map fun (i : Nat) => Sl.fz (.int (i : Int)) else none
  | .tindex, .tuple xs, [.int i] => (match intsOf xs with
    | some ns => if i ∈ ns then some (.fz (.int (ns.idxOf i))) else none
    | none => none)
  | _, _, _ => none
def revD : D → Option Sl
  | .list xs => some (.ow (.list xs.reverse))
  | .tuple xs => some (.fz (.tuple xs.reverse))
  | .str x => if x.length ≤ sizeLine then some (.fz (.str ⟨x.cps.toList.reverse.toArray⟩)) else none
  | _ => none
def rev2D : D → Option Sl
  | .list (x :: y :: _) => some (.ow (.list [y, x]))
  | .tuple (x :: y :: _) => some (.fz (.tuple [y, x]))
  | _ => none
/-- the data that are keys of a dict: tuples -/
def keyT : D → Option NestedKey
  | .tuple ds => match keysOf ds with
    | some ks => if (NestedKey.tup ks).depth ≤ 8 then some (.tup ks) else none
    | none => none
  | _ => none
/-- sorted keys of a dict -/
def dsortD (ds : List D) : Option (List D) := sortD ds
abbrev KD := List (D × D)
def dGet (k : NestedKey) : KD → Option D
  | [] => none
  | p :: r => if keyT p.1 = some k then some p.2 else dGet k r
def dPut (k : NestedKey) (d v : D) (kvs : KD) : KD :=
  if (dGet k kvs).isSome then kvs.map (fun p => if keyT p.1 = some k then (p.1, v) else p) else kvs ++ [(d, v)]
/-- lists by keys: one more -/
abbrev GD := List (D × List D)
def gAdd (k : NestedKey) (d v : D) : GD → GD
  | [] => [(d, [v])]
  | p :: r => if keyT p.1 = some k then (p.1, p.2 ++ [v]) :: r else p :: gAdd k d v r
def gDict (g : GD) : KD := g.map fun p => (p.1, .list p.2)
def isaD : Ty → D → Bool
  | .int, d => d.isInt
  | .bool, d => d.isBool
  | .str, d => d.isStr
  | .tuple, d => d.isTuple
  | .list, d => d.isList
def cutL {α : Type} (xs : List α) (lo hi : Option Int) : List α := (xs.drop (HT.sIx xs.length 0 lo)).take (HT.sIx xs.length xs.length hi - HT.sIx xs.length 0 lo)
def ixD : D → D → Option Sl
  | .list xs, .int i => (L2.atI xs i).map .fz
  | .tuple xs, .int i => (L2.atI xs i).map .fz
  | .str x, .int i => if x.length ≤ sizeLine then (L2.atI x.cps.toList i).map fun c => .fz (.str ⟨#[c]⟩) else none
  | _, _ => none
def slD : D → Option Int → Option Int → Option Sl
  | .list xs, lo, hi => some (.ow (.list (cutL xs lo hi)))
  | .tuple xs, lo, hi => some (.fz (.tuple (cutL xs lo hi)))
  | .str x, lo, hi => if x.length ≤ sizeLine then some (.fz (.str (L2.cutS x lo hi))) else none
  | _, _, _ => none
def iterD : IK → List D → Option (List D)
  | .seq, [.list xs] => some xs
  | .seq, [.tuple xs] => some xs
  | .seq, [.str x] => if x.length ≤ sizeLine then some (x.cps.toList.map fun c => .str ⟨#[c]⟩) else none
  | .range, [.int j] => if j ≤ sizeLine ∧ -(2 ^ 62) ≤ j then some ((List.range j.toNat).map fun i => .int ((i : Nat) : Int)) else none
  | .range, [.int i, .int j] => if -(2 ^ 62) ≤ i ∧ i < 2 ^ 62 ∧ -(2 ^ 62) ≤ j ∧ j < 2 ^ 62 ∧ (j - i).toNat ≤ sizeLine then some ((List.range (j - i).toNat).map fun k => .int (i + ((k : Nat) : Int))) else none
  | .range, [.int i, .int j, .int c] => if c = -1 ∧ -(2 ^ 62) ≤ i ∧ i < 2 ^ 62 ∧ -(2 ^ 62) ≤ j ∧ j < 2 ^ 62 ∧ (i - j).toNat ≤ sizeLine then some ((List.range (i - j).toNat).map fun k => .int (i + ((k : Nat) : Int) * (-1))) else none
  | .enum, [.list xs] => some (xs.zipIdx.map fun p => .tuple [.int ((p.2 : Nat) : Int), p.1])
  | .enum, [.tuple xs] => some (xs.zipIdx.map fun p => .tuple [.int ((p.2 : Nat) : Int), p.1])
  | .zip, [.list xs, .list ys] => some ((xs.zip ys).map fun p => .tuple [p.1, p.2])
  | .zip, [.tuple xs, .tuple ys] => some ((xs.zip ys).map fun p => .tuple [p.1, p.2])
  | .zip, [.tuple xs, .list ys] => some ((xs.zip ys).map fun p => .tuple [p.1, p.2])
  | .zip, [.str x, .str y] => if x.length ≤ sizeLine ∧ y.length ≤ sizeLine then some (((signs x).zip (signs y)).map fun p => .tuple [p.1, p.2]) else none
  | .zip3, [.int j, .tuple ys, .tuple zs] => if 0 ≤ j ∧ j ≤ sizeLine then some ((((List.range j.toNat).map fun i => (PyData.int ((i : Nat) : Int))).zip (ys.zip zs)).map fun p => .tuple [p.1, p.2.1, p.2.2]) else none
  | _, _ => none

/-! ### slots -/
def Sl.rd : Sl → M D
  | .fz d => pure d
  | .ow (.list ds) => pure (.list ds)
  | .bw (.list ds) => pure (.list ds)
  | _ => M.fail
/-- a value that is kept: a new list is frozen -/
def Sl.fr : Sl → M Sl
  | .fz d => pure (.fz d)
  | .ow (.list ds) => pure (.fz (.list ds))
  | .ow _ => M.fail
  | .bw d => pure (.bw d)
  | .st => pure .st
/-- a value inside another one -/
def Sl.kp : Sl → M D
  | .fz d => pure d
  | .ow (.list ds) => pure (.list ds)
  | _ => M.fail
def Sl.seen : Sl → Sl
  | .ow d => .bw d
  | s => s
def asB : D → M Bool
  | .bool b => pure b
  | _ => M.fail
def setAll : List Nat → List D → Rho → Rho
  | i :: is, d :: ds, ρ => setAll is ds (ρ.set i (some (.fz d)))
  | _, _, ρ => ρ
/-- one name, or a tuple of names -/
def bindT (one : Bool) (tg : List Nat) (d : D) (ρ : Rho) : Option Rho :=
  if one then match tg with
    | [i] => some (ρ.set i (some (.fz d)))
    | _ => none
  else match d with
    | .tuple ds => if ds.length = tg.length then some (setAll tg ds ρ) else none
    | .list ds => if ds.length = tg.length then some (setAll tg ds ρ) else none
    | _ => none
def wipeR (ρ : Rho) : List Nat → Rho
  | [] => ρ
  | v :: vs => (wipeR ρ vs).set v none
/-- a comprehension's turns -/
def turns (f : D → M (Option D)) : List D → M (List D)
  | [] => pure []
  | d :: ds => do
    let o ← f d
    let r ← turns f ds
    pure (match o with
      | some y => y :: r
      | none => r)
/-- the value at a key, the last one -/
def lastOf (x : Str) (ks : List (Str × Int)) : Option Int := ks.foldl (fun o p => if x = p.1 then some p.2 else o) none
def lastOfS (x : Str) (ks : List (Str × Str)) : Option Str := ks.foldl (fun o p => if x = p.1 then some p.2 else o) none
def optI : List D → M (Option Int)
  | [] => pure none
  | [.int i] => pure (some i)
  | _ => M.fail

def intOf : D → Option Int
  | .int i => some i
  | _ => none
def strOf : D → Option Str
  | .str x => some x
  | _ => none
def lstOf : D → Option (List D)
  | .list xs => some xs
  | _ => none
def slAt (ρ : Rho) (i : Nat) : Option Sl := (ρ[i]?).bind id
def owOf : Sl → Option D
  | .ow d => some d
  | _ => none
def owL (ρ : Rho) (i : Nat) : Option (List D) := ((slAt ρ i).bind owOf).bind lstOf
/-- what may be stored or handed back -/
def keepS : Sl → Option Sl
  | .fz d => some (.fz d)
  | .ow d => some (.ow d)
  | _ => none
/-- a list that may be lengthened: an owned one, or the list of the draws -/
def appK : Sl → Option (Option (List D))
  | .ow (.list ds) => some (some ds)
  | .st => some none
  | _ => none
def augD (o : Operator) (a b : D) : Option D :=
  match a, b, binD o a b with
  | .int _, .int _, some (.fz z) => some z
  | _, _, _ => none
def tickM : M Nat := fun c => match c with
  | none => none
  | some n => if n < 1000000 then some (n + 1, some (n + 1)) else none
def appTo (ρ : Rho) (i : Nat) (d : D) : Option (List D) → M Rho
  | some ds => if ds.length < sizeLine then pure (ρ.set i (some (.ow (.list (ds ++ [d]))))) else M.fail
  | none => do
    let j ← ofO (intOf d)
    if j = 0 then do let _ ← tickM; pure ρ else M.fail
def dicOf : Sl → Option KD
  | .ow (.dict kvs) => some kvs
  | .bw (.dict kvs) => some kvs
  | _ => none
def owK (ρ : Rho) (i : Nat) : Option KD := match (slAt ρ i) with
  | some (.ow (.dict kvs)) => some kvs
  | _ => none
def bwK (ρ : Rho) (i : Nat) : Option KD := match (slAt ρ i) with
  | some (.bw (.dict kvs)) => some kvs
  | _ => none
/-- a dict whose keys are ints, whose values are True: its keys -/
def owI (ρ : Rho) (i : Nat) : Option (List Int) := match (slAt ρ i) with
  | some (.ow (.tuple ds)) => intsOf ds
  | _ => none
/-- one key more -/
def addI (ns : List Int) (n : Int) : List Int := if n ∈ ns then ns else ns ++ [n]
def fzOf : Sl → Option D
  | .fz d => some d
  | _ => none
def isSt : Sl → Option Unit
  | .st => some ()
  | _ => none
def getM : M Nat := fun c => match c with
  | none => none
  | some n => some (n, some n)
variable (Φ : Tab)
mutual
def ev : Ex → Rho → M Sl
  | .non, _ => pure (.fz .none)
  | .bl b, _ => pure (.fz (.bool b))
  | .int i, _ => pure (.fz (.int i))
  | .str x, _ => pure (.fz (.str x))
  | .v i, ρ => do let s ← ofO (slAt ρ i); pure s.seen
  | .lenS i, ρ => do
    let s ← ofO (slAt ρ i)
    let _ ← ofO (isSt s)
    let n ← getM
    pure (.fz (.int n))
  | .gl x, _ => ofO ((Φ.gl x).map .fz)
  | .tup es, ρ => do let ds ← evk es ρ; if ds.length ≤ sizeLine then pure (.fz (.tuple ds)) else M.fail
  | .lst es, ρ => do let ds ← evk es ρ; if ds.length ≤ sizeLine then pure (.ow (.list ds)) else M.fail
  | .bin o a b, ρ => do let x ← ev a ρ; let d ← x.rd; let y ← ev b ρ; let e ← y.rd; ofO (binD o d e)
  | .not a, ρ => do let x ← ev a ρ; let d ← x.rd; let b ← asB d; pure (.fz (.bool (!b)))
  | .neg a, ρ => do
    let x ← ev a ρ
    let d ← x.rd
    let i ← ofO (intOf d)
    pure (.fz (.int (-i)))
  | .and a b, ρ => do let x ← ev a ρ; let d ← x.rd; let k ← asB d; if k then ev b ρ else pure (.fz (.bool false))
  | .or a b, ρ => do let x ← ev a ρ; let d ← x.rd; let k ← asB d; if k then pure (.fz (.bool true)) else ev b ρ
  | .cmp o a b, ρ => do let x ← ev a ρ; let d ← x.rd; let y ← ev b ρ; let e ← y.rd; ofO ((cmpD o d e).map fun k => .fz (.bool k))
  | .chain o o' a b c, ρ => do
    let x ← ev a ρ; let d ← x.rd; let y ← ev b ρ; let e ← y.rd; let k ← ofO (cmpD o d e)
    if k then do let z ← ev c ρ; let f ← z.rd; ofO ((cmpD o' e f).map fun k => .fz (.bool k)) else pure (.fz (.bool false))
  | .ife c a b, ρ => do let x ← ev c ρ; let d ← x.rd; let k ← asB d; if k then ev a ρ else ev b ρ
  | .call f es, ρ => do
    let rs ← eva es ρ
    let g ← ofO (Φ.fn f)
    g rs
  | .blt f es, ρ => do let ds ← evr es ρ; ofO (bltD f ds)
  | .isa a T, ρ => do let x ← ev a ρ; let d ← x.rd; pure (.fz (.bool (isaD T d)))
  | .inG ng a x, ρ => do
    let y ← ev a ρ
    let d ← y.rd
    let z ← ofO (strOf d)
    let kvs ← ofO (Φ.gd x)
    pure (.fz (.bool (ng != (kvs.lookup z).isSome)))
  | .getG x a, ρ => do
    let y ← ev a ρ
    let d ← y.rd
    let z ← ofO (strOf d)
    let kvs ← ofO (Φ.gd x)
    let i ← ofO (kvs.lookup z)
    pure (.fz (.int i))
  | .dget ks a b, ρ => do
    let y ← ev a ρ
    let d ← y.rd
    let z ← ev b ρ
    let e ← z.rd
    let x ← ofO (strOf d)
    let j ← ofO (intOf e)
    pure (.fz (.int ((lastOf x ks).getD j)))
  | .rng l es, ρ => do
    let ds ← evr es ρ
    let xs ← ofO (iterD .range ds)
    if l then pure (.ow (.list xs)) else pure (.fz (.tuple xs))
  | .sset a, ρ => do let x ← ev a ρ; let d ← x.rd; ofO (ssetD d)
  | .meth m o es, ρ => do let x ← ev o ρ; let d ← x.rd; let ds ← evr es ρ; ofO (methD m d ds)
  | .ix a i, ρ => do let x ← ev a ρ; let d ← x.rd; let y ← ev i ρ; let e ← y.rd; ofO (ixD d e)
  | .sl a lo hi, ρ => do let x ← ev a ρ; let d ← x.rd; let l ← evr lo ρ; let lo ← optI l; let h ← evr hi ρ; let hi ← optI h; ofO (slD d lo hi)
  | .rev a, ρ => do let x ← ev a ρ; let d ← x.rd; ofO (revD d)
  | .rev2 a, ρ => do let x ← ev a ρ; let d ← x.rd; ofO (rev2D d)
  | .dnew, _ => pure (.ow (.dict []))
  | .dlit k e, ρ => do let x ← ev k ρ; let d ← ofO (fzOf x); let _ ← ofO (keyT d); let y ← ev e ρ; let v ← ofO (fzOf y); pure (.ow (.dict [(d, v)]))
  | .dlen a, ρ => do let x ← ev a ρ; let kvs ← ofO (dicOf x); pure (.fz (.int kvs.length))
  | .dsort i, ρ => do let kvs ← ofO (owK ρ i); let ys ← ofO (dsortD (kvs.map (·.1))); pure (.ow (.list ys))
  | .dat i k, ρ => do let kvs ← ofO (owK ρ i); let x ← ev k ρ; let d ← ofO (fzOf x); let kk ← ofO (keyT d); let v ← ofO (dGet kk kvs); pure (.fz v)
  | .dgt i k e, ρ => do let kvs ← ofO (owK ρ i); let x ← ev k ρ; let d ← ofO (fzOf x); let kk ← ofO (keyT d); let y ← ev e ρ; let z ← ofO (fzOf y); pure (.fz ((dGet kk kvs).getD z))
  | .din ng k i, ρ => do let x ← ev k ρ; let d ← ofO (fzOf x); let kk ← ofO (keyT d); let kvs ← ofO (owK ρ i); pure (.fz (.bool (ng != (dGet kk kvs).isSome)))
  | .lset a, ρ => do let x ← ev a ρ; let d ← x.rd; ofO (lsetD d)
  | .lzip a b, ρ => do let x ← ev a ρ; let d ← x.rd; let y ← ev b ρ; let e ← y.rd; let xs ← ofO (iterD .zip [d, e]); if xs.length ≤ sizeLine then pure (.ow (.list xs)) else M.fail
  | .dcomp elt own tg one i, ρ => do
    let kvs ← ofO (owK ρ i)
    let ys ← turns (fun d => do
      let ρ1 ← ofO (bindT one tg d (wipeR ρ own))
      let y ← ev elt ρ1
      let e ← y.kp
      pure (some e)) (kvs.map (·.1))
    pure (.ow (.list ys))
  | .datB i k, ρ => do let kvs ← ofO (bwK ρ i); let x ← ev k ρ; let d ← ofO (fzOf x); let kk ← ofO (keyT d); let v ← ofO (dGet kk kvs); pure (.fz v)
  | .inew, _ => pure (.ow (.tuple []))
  | .isort i, ρ => do let ns ← ofO (owI ρ i); let ys ← ofO (sortD (ns.map .int)); pure (.ow (.list ys))
  | .iin ng k i, ρ => do let x ← ev k ρ; let d ← x.rd; let n ← ofO (intOf d); let ns ← ofO (owI ρ i); pure (.fz (.bool (ng != decide (n ∈ ns))))
  | .meth2 m o a b, ρ => do let x ← ev o ρ; let d ← x.rd; let y ← ev a ρ; let e ← y.rd; let z ← ev b ρ; let f ← z.rd; ofO (methD m d [e, f])
  | .dgetS ks a b, ρ => do
    let y ← ev a ρ
    let d ← y.rd
    let z ← ev b ρ
    let e ← z.rd
    let x ← ofO (strOf d)
    let j ← ofO (strOf e)
    pure (.fz (.str ((lastOfS x ks).getD j)))
  | .comp elt own tg one k args cond, ρ => do
    let ds ← evr args ρ
    let xs ← ofO (iterD k ds)
    let ys ← turns (fun d => do
      let ρ1 ← ofO (bindT one tg d (wipeR ρ own))
      let t ← evc cond ρ1
      if t then do let y ← ev elt ρ1; let e ← y.kp; pure (some e) else pure none) xs
    pure (.ow (.list ys))
/-- arguments -/
def eva : List Ex → Rho → M (List Sl)
  | [], _ => pure []
  | e :: es, ρ => do let x ← ev e ρ; let y ← x.fr; let r ← eva es ρ; pure (y :: r)
/-- items that are kept -/
def evk : List Ex → Rho → M (List D)
  | [], _ => pure []
  | e :: es, ρ => do let x ← ev e ρ; let y ← x.kp; let r ← evk es ρ; pure (y :: r)
/-- items that are read -/
def evr : List Ex → Rho → M (List D)
  | [], _ => pure []
  | e :: es, ρ => do let x ← ev e ρ; let y ← x.rd; let r ← evr es ρ; pure (y :: r)
/-- tests of a comprehension -/
def evc : List Ex → Rho → M Bool
  | [], _ => pure true
  | [e], ρ => do let x ← ev e ρ; let d ← x.rd; asB d
  | _, _ => M.fail
end

/-! ### statements -/
inductive Fl where
  | nx (ρ : Rho) | rt (v : Sl)
def loop (f : D → Rho → M Fl) : List D → Rho → M Fl
  | [], ρ => pure (.nx ρ)
  | d :: ds, ρ => do
    let r ← f d ρ
    match r with
    | .nx ρ' => loop f ds ρ'
    | .rt v => pure (.rt v)
def wloop (c : Rho → M Bool) (f : Rho → M Fl) : Nat → Rho → M Fl
  | 0, _ => M.fail
  | n + 1, ρ => do
    let b ← c ρ
    if b then do
      let r ← f ρ
      match r with
      | .nx ρ' => wloop c f n ρ'
      | .rt v => pure (.rt v)
    else pure (.nx ρ)
/-- the turns of a loop that puts into lists by keys -/
def gloop (f : D → Rho → M (Rho × D)) : List D → Rho → GD → M (Rho × GD)
  | [], ρ, g => pure (ρ, g)
  | d :: ds, ρ, g => do
    let r ← f d ρ
    let k ← ofO (keyT r.2)
    gloop f ds r.1 (gAdd k r.2 d g)
/-- at most so many turns of a while -/
def fuel : Nat := 1000000
def frzR : List Nat → Rho → Rho
  | [], ρ => ρ
  | i :: is, ρ => frzR is (match ρ[i]? with
    | some (some (.ow (.list ds))) => ρ.set i (some (.fz (.list ds)))
    | _ => ρ)
/-- no slot is borrowed -/
def noBw (ρ : Rho) : Bool := ρ.all fun o => match o with
  | some (.bw _) => false
  | _ => true
/-- several names at once -/
def setR : List Nat → List Sl → Rho → Rho
  | i :: is, r :: rs, ρ => setR is rs (ρ.set i (some r))
  | _, _, ρ => ρ
def initM : M Unit := fun c => match c with
  | none => some ((), some 0)
  | some _ => none
mutual
def ex : St → Rho → M Fl
  | .asg i e, ρ => do
    let x ← ev Φ e ρ
    let y ← ofO (keepS x)
    pure (.nx (ρ.set i (some y)))
  | .mv i j, ρ => do
    let s ← ofO (slAt ρ j)
    let d ← ofO (owOf s)
    pure (.nx ((ρ.set j none).set i (some (.ow d))))
  | .asgT is e, ρ => do
    let x ← ev Φ e ρ
    let d ← x.rd
    let ρ' ← ofO (bindT false is d ρ)
    pure (.nx ρ')
  | .par is es, ρ => do
    let rs ← evo es ρ
    match is, rs with
    | [i, j], [x, y] => pure (.nx ((ρ.set i (some x)).set j (some y)))
    | [i, j, k], [x, y, z] => pure (.nx (((ρ.set i (some x)).set j (some y)).set k (some z)))
    | _, _ => M.fail
  | .init i, ρ => do let _ ← initM; pure (.nx (ρ.set i (some .st)))
  | .aug o i e, ρ => do
    let s ← ofO (slAt ρ i)
    let d ← s.rd
    let y ← ev Φ e ρ
    let f ← y.rd
    let z ← ofO (augD o d f)
    pure (.nx (ρ.set i (some (.fz z))))
  | .app i e, ρ => do
    let x ← ev Φ e ρ
    let d ← x.kp
    let s ← ofO (slAt ρ i)
    let k ← ofO (appK s)
    let ρ' ← appTo ρ i d k
    pure (.nx ρ')
  | .ext i e, ρ => do
    let x ← ev Φ e ρ
    let d ← x.rd
    let es ← ofO (lstOf d)
    let ds ← ofO (owL ρ i)
    if ds.length + es.length ≤ sizeLine then pure (.nx (ρ.set i (some (.ow (.list (ds ++ es)))))) else M.fail
  | .popA i j, ρ => do
    let ds ← ofO (owL ρ j)
    let d ← ofO ds.getLast?
    pure (.nx ((ρ.set j (some (.ow (.list ds.dropLast)))).set i (some (.fz d))))
  | .appPop i j e, ρ => do
    let x ← ev Φ e ρ
    let d ← x.rd
    let k ← ofO (intOf d)
    let xs ← ofO (owL ρ i)
    let ys ← ofO (owL ρ j)
    let y ← ofO ys[k.toNat]?
    if 0 ≤ k ∧ k < 2 ^ 62 ∧ i ≠ j ∧ xs.length < sizeLine then pure (.nx ((ρ.set j (some (.ow (.list (ys.eraseIdx k.toNat))))).set i (some (.ow (.list (xs ++ [y])))))) else M.fail
  | .put i k e, ρ => do
    let x ← ev Φ e ρ
    let v ← ofO (fzOf x)
    let y ← ev Φ k ρ
    let d ← ofO (fzOf y)
    let kk ← ofO (keyT d)
    let kvs ← ofO (owK ρ i)
    if kvs.length < sizeLine then pure (.nx (ρ.set i (some (.ow (.dict (dPut kk d v kvs)))))) else M.fail
  | .setd i k e, ρ => do
    let y ← ev Φ k ρ
    let d ← ofO (fzOf y)
    let kk ← ofO (keyT d)
    let x ← ev Φ e ρ
    let v ← ofO (fzOf x)
    let kvs ← ofO (owK ρ i)
    if kvs.length < sizeLine then pure (.nx (ρ.set i (some (.ow (.dict (match dGet kk kvs with
      | some _ => kvs
      | none => dPut kk d v kvs)))))) else M.fail
  | .grp i o w it e, ρ => do
    let kvs ← ofO (owK ρ i)
    let ds ← evk Φ [it] ρ
    let xs ← ofO (iterD .seq ds)
    if kvs = [] ∧ xs.length < sizeLine ∧ i ≠ o ∧ i ≠ w ∧ o ≠ w then do
      let r ← gloop (fun d ρ => do
        let x ← ev Φ e (ρ.set w (some (.fz d)))
        let k ← ofO (fzOf x)
        pure ((ρ.set w (some (.fz d))).set o (some (.fz k)), k)) xs (ρ.set i none) []
      pure (.nx (r.1.set i (some (.ow (.dict (gDict r.2))))))
    else M.fail
  | .parT is es, ρ => do
    let rs ← evo es ρ
    if is.length = rs.length ∧ rs.length ≤ 1000 then pure (.nx (setR is rs ρ)) else M.fail
  | .setL i k e, ρ => do
    let x ← ev Φ e ρ
    let d ← x.kp
    let y ← ev Φ k ρ
    let f ← y.rd
    let j ← ofO (intOf f)
    let ds ← ofO (owL ρ i)
    if 0 ≤ j ∧ j < ds.length then pure (.nx (ρ.set i (some (.ow (.list (ds.set j.toNat d)))))) else M.fail
  | .popL i e, ρ => do
    let x ← ev Φ e ρ
    let d ← x.rd
    let k ← ofO (intOf d)
    let ys ← ofO (owL ρ i)
    if 0 ≤ k ∧ k < 2 ^ 62 ∧ k < ys.length then pure (.nx (ρ.set i (some (.ow (.list (ys.eraseIdx k.toNat)))))) else M.fail
  | .expr e, ρ => do let _ ← ev Φ e ρ; pure (.nx ρ)
  | .ifs c a b, ρ => do
    let x ← ev Φ c ρ
    let d ← x.rd
    let k ← asB d
    if k then exs a ρ else exs b ρ
  | .frz is, ρ => pure (.nx (frzR is ρ))
  | .for tg one k args body, ρ => do
    let ds ← evk Φ args ρ
    let xs ← ofO (iterD k ds)
    loop (fun d ρ => do
      let ρ1 ← ofO (bindT one tg d ρ)
      exs body ρ1) xs ρ
  | .forO tg one i body, ρ => do
    let ds ← ofO (owL ρ i)
    let r ← loop (fun d ρ => do
      let ρ1 ← ofO (bindT one tg d ρ)
      exs body ρ1) ds (ρ.set i none)
    match r with
    | .nx ρ' => if noBw ρ' then pure (.nx ρ') else M.fail
    | .rt _ => M.fail
  | .forD tg one i body, ρ => do
    let kvs ← ofO (owK ρ i)
    let r ← loop (fun d ρ => do
      let ρ1 ← ofO (bindT one tg d ρ)
      exs body ρ1) (kvs.map (·.1)) (ρ.set i (some (.bw (.dict kvs))))
    match r with
    | .nx ρ' => if noBw (ρ'.set i none) then pure (.nx (ρ'.set i none)) else M.fail
    | .rt _ => M.fail
  | .iput i k, ρ => do
    let y ← ev Φ k ρ
    let d ← y.rd
    let n ← ofO (intOf d)
    let ns ← ofO (owI ρ i)
    if ns.length < sizeLine then pure (.nx (ρ.set i (some (.ow (.tuple ((addI ns n).map .int)))))) else M.fail
  | .while c body, ρ => wloop (fun ρ => do let x ← ev Φ c ρ; let d ← x.rd; asB d) (fun ρ => exs body ρ) fuel ρ
  | .ret e, ρ => do
    let x ← ev Φ e ρ
    let y ← ofO (keepS x)
    pure (.rt y)
  | .retv i, ρ => do
    let s ← ofO (slAt ρ i)
    let y ← ofO (keepS s)
    pure (.rt y)
  | .pass, ρ => pure (.nx ρ)
  | .never, _ => M.fail
def exs : List St → Rho → M Fl
  | [], ρ => pure (.nx ρ)
  | s :: ss, ρ => do
    let r ← ex s ρ
    match r with
    | .nx ρ' => exs ss ρ'
    | .rt v => pure (.rt v)
/-- several values for several names -/
def evo : List Ex → Rho → M (List Sl)
  | [], _ => pure []
  | e :: es, ρ => do
    let x ← ev Φ e ρ
    let y ← ofO (keepS x)
    let r ← evo es ρ
    pure (y :: r)
end
/-- a def -/
structure Df where
  N : List Str
  np : Nat
  body : List St
def argOk : Sl → Bool
  | .ow _ => false
  | _ => true
def runD (d : Df) : Fn := fun args => if args.length = d.np ∧ args.all argOk then do
    let r ← exs Φ d.body (args.map some ++ List.replicate (d.N.length - d.np) none)
    match r with
    | .nx _ => pure (.fz .none)
    | .rt v => pure v
  else M.fail
end SB
/-! What defs compute: tables, defs that may raise, defs that tell. -/
namespace SB
open PySem

/-- the draws are begun neither here nor ended -/
def guardF (g : Fn) : Fn := fun args c => match g args c with
  | some (r, c') => if c.isSome = c'.isSome then some (r, c') else none
  | none => none
theorem guardF_some {g : Fn} {args : List Sl} {c c' : Option Nat} {r : Sl} (h : guardF g args c = some (r, c')) : g args c = some (r, c') ∧ c.isSome = c'.isSome := by
  unfold guardF at h
  split at h
  · rename_i r1 c1 e
    split at h
    · rename_i hc
      cases h
      exact ⟨e, hc⟩
    · cases h
  · cases h
theorem guardF_pure {g : Fn} {args : List Sl} {r : Sl} (h : g args = pure r) : guardF g args = pure r := by
  funext c
  unfold guardF
  rw [h]
  show (if c.isSome = c.isSome then some (r, c) else none) = some (r, c)
  rw [if_pos rfl]
theorem guardF_draw {g : Fn} {args : List Sl} {r : Sl} {n m : Nat} (h : g args (some n) = some (r, some m)) : guardF g args (some n) = some (r, some m) := by
  unfold guardF
  rw [h]
  rfl
def lettersT : Str := "abcdefghijklmnopqrstuvwxyz"
def readsL : List (Str × Int) := [("join", 2), ("sort", 1), ("turn", 1), ("first", 1), ("rest", 1), ("less", 2), ("same", 2), ("pick", 3)]
def tabOf (l : List (Str × Fn)) : Tab where
  fn x := l.lookup x
  gl x := if x = "LETTERS" then some (.str lettersT) else none
  gd x := if x = "READS" then some readsL else none
inductive XS where
  | pl (s : St)
  | frz (is : List Nat)
  | cal (f : Str) (es : List Ex)
  | ifx (c : Ex) (a b : List XS)
  | rz (x : Str)
  | rcal (f : Str) (es : List Ex)
  | rife (c : Ex) (f : Str) (es : List Ex) (g : Str) (fs : List Ex)
/-- a value, or the name of the class of an error -/
inductive XR where
  | v (s : Sl) | x (n : Str)
inductive XFl where
  | nx (ρ : Rho) | rt (v : Sl) | rz (n : Str)
abbrev XFn := List Sl → M XR
abbrev XTab := Str → Option XFn
def retX : XR → M XFl
  | .v s => do let y ← ofO (keepS s); pure (.rt y)
  | .x n => pure (.rz n)
def nextX (ρ : Rho) : XR → XFl
  | .v _ => .nx ρ
  | .x n => .rz n
def ofFl : Fl → XFl
  | .nx ρ => .nx ρ
  | .rt v => .rt v
def xcallM (Φ : Tab) (Ψ : XTab) (f : Str) (es : List Ex) (ρ : Rho) : M XR := do
  let rs ← eva Φ es ρ
  let g ← ofO (Ψ f)
  g rs
mutual
def xex (Φ : Tab) (Ψ : XTab) : XS → Rho → M XFl
  | .pl s, ρ => do let r ← ex Φ s ρ; pure (ofFl r)
  | .frz is, ρ => pure (.nx (frzR is ρ))
  | .cal f es, ρ => do let r ← xcallM Φ Ψ f es ρ; pure (nextX ρ r)
  | .ifx c a b, ρ => do
    let x ← ev Φ c ρ
    let d ← x.rd
    let k ← asB d
    if k then xexs Φ Ψ a ρ else xexs Φ Ψ b ρ
  | .rz n, _ => pure (.rz n)
  | .rcal f es, ρ => do let r ← xcallM Φ Ψ f es ρ; retX r
  | .rife c f es g fs, ρ => do
    let x ← ev Φ c ρ
    let d ← x.rd
    let k ← asB d
    if k then do let r ← xcallM Φ Ψ f es ρ; retX r else do let r ← xcallM Φ Ψ g fs ρ; retX r
def xexs (Φ : Tab) (Ψ : XTab) : List XS → Rho → M XFl
  | [], ρ => pure (.nx ρ)
  | s :: ss, ρ => do
    let r ← xex Φ Ψ s ρ
    match r with
    | .nx ρ' => xexs Φ Ψ ss ρ'
    | .rt v => pure (.rt v)
    | .rz n => pure (.rz n)
end
structure XDf where
  N : List Str
  np : Nat
  body : List XS
def endX : XFl → XR
  | .nx _ => .v (.fz .none)
  | .rt v => .v v
  | .rz n => .x n
def runX (Φ : Tab) (Ψ : XTab) (d : XDf) : XFn := fun args => if args.length = d.np ∧ args.all argOk then do
    let r ← xexs Φ Ψ d.body (args.map some ++ List.replicate (d.N.length - d.np) none)
    pure (endX r)
  else M.fail
def guardX (g : XFn) : XFn := fun args c => match g args c with
  | some (r, c') => if c.isSome = c'.isSome then some (r, c') else none
  | none => none

def xtabOf (l : List (Str × XFn)) : XTab := fun x => l.lookup x
def wn1 : List Str := ["InvalidRecipe", "InvalidActs", "InvalidAct"]
def wn2 : List Str := ["InvalidWorld", "InvalidWorlds", "InvalidStep"]
def wn3 : List Str := ["InvalidOffers", "InvalidWish", "InvalidNumber"]
def wn4 : List Str := ["NotLeft", "Unlike", "NotOffered", "Bought"]
def wn5 : List Str := ["NothingToUndo", "ParseError"]
def wnAll : List Str := ["InvalidRecipe", "InvalidActs", "InvalidAct", "InvalidWorld", "InvalidWorlds", "InvalidStep", "InvalidOffers", "InvalidWish", "InvalidNumber", "NotLeft", "Unlike", "NotOffered", "Bought", "NothingToUndo", "ParseError"]
def toldE (es : List Str) : XFl → M Sl
  | .nx _ => pure (.fz .none)
  | .rt v => pure v
  | .rz n => if n ∈ es then pure (.fz (.tuple [.str "raised", .int ((wnAll.idxOf n : Nat) : Int)])) else M.fail
def toldF (Φ : Tab) (Ψ : XTab) (es : List Str) (d : XDf) : Fn := fun args => if args.length = d.np ∧ args.all argOk then do
    let r ← xexs Φ Ψ d.body (args.map some ++ List.replicate (d.N.length - d.np) none)
    toldE es r
  else M.fail
/-- a def that calls itself, so many times at most -/
def recF (tab : Fn → Tab) (d : Df) : Nat → Fn
  | 0 => fun _ => M.fail
  | n + 1 => guardF (runD (tab (recF tab d n)) d)
theorem nodup_dedup : ∀ (n : Nat) (l : List Int), l.length ≤ n → l.eraseDups.Nodup
  | _, [], _ => by simp
  | 0, _ :: _, h => absurd h (by simp)
  | n + 1, a :: l, h => by
    rw [List.eraseDups_cons, List.nodup_cons]
    refine ⟨fun m => ?_, nodup_dedup n _ (Nat.le_trans (List.length_filter_le _ _) (by simpa using h))⟩
    rw [List.mem_eraseDups, List.mem_filter] at m
    simp at m
theorem nodup_dedupK : ∀ (n : Nat) (l : List NestedKey), l.length ≤ n → l.eraseDups.Nodup
  | _, [], _ => by simp
  | 0, _ :: _, h => absurd h (by simp)
  | n + 1, a :: l, h => by
    rw [List.eraseDups_cons, List.nodup_cons]
    refine ⟨fun m => ?_, nodup_dedupK n _ (Nat.le_trans (List.length_filter_le _ _) (by simpa using h))⟩
    rw [List.mem_eraseDups, List.mem_filter] at m
    simp at m
theorem sort_mem (ns : List Int) (k : Int) : k ∈ sortU ns ↔ k ∈ ns := by
  unfold sortU
  rw [(List.mergeSort_perm _ _).mem_iff, List.mem_eraseDups]
theorem sort_lt (ns : List Int) : (sortU ns).Pairwise (· < ·) := by
  have h1 : (sortU ns).Pairwise (fun a b => decide (a ≤ b) = true) := List.pairwise_mergeSort (fun a b c h1 h2 => by simp at h1 h2 ⊢; omega) (fun a b => by simp; omega) _
  have h2 : (sortU ns).Nodup := (List.mergeSort_perm _ _).nodup_iff.mpr (nodup_dedup _ _ (Nat.le_refl _))
  exact (h1.and h2).imp fun ⟨a, b⟩ => by
    have := of_decide_eq_true a
    omega
theorem rising_eq : ∀ {xs ys : List Int}, xs.Pairwise (· < ·) → ys.Pairwise (· < ·) → (∀ k, k ∈ xs ↔ k ∈ ys) → xs = ys
  | [], [], _, _, _ => rfl
  | [], y :: ys, _, _, h => absurd ((h y).mpr List.mem_cons_self) (by simp)
  | x :: xs, [], _, _, h => absurd ((h x).mp List.mem_cons_self) (by simp)
  | x :: xs, y :: ys, h1, h2, h => by
    rw [List.pairwise_cons] at h1 h2
    have e : x = y := by
      rcases List.mem_cons.mp ((h x).mp List.mem_cons_self) with e | m
      · exact e
      · rcases List.mem_cons.mp ((h y).mpr List.mem_cons_self) with e | m'
        · exact e.symm
        · have := h1.1 y m'
          have := h2.1 x m
          omega
    subst e
    refine congrArg _ (rising_eq h1.2 h2.2 fun k => ?_)
    constructor
    · intro m
      rcases List.mem_cons.mp ((h k).mp (List.mem_cons_of_mem _ m)) with e | m'
      · have := h1.1 k m
        omega
      · exact m'
    · intro m
      rcases List.mem_cons.mp ((h k).mpr (List.mem_cons_of_mem _ m)) with e | m'
      · have := h2.1 k m
        omega
      · exact m'
end SB
/-! How data lie in the abstract heap: G what is frozen, H what stands. -/
namespace SB
open PySem PySem.Spec PyProof.Rows L2

/-- what is known of the program's own objects, and the world -/
structure KW where
  K : PySem.W.Frag
  w : World
instance : CoeOut KW PySem.W.Frag := ⟨KW.K⟩
abbrev _root_.L2.Cx.KW (X : L2.Cx) : KW := ⟨X.K, X.w⟩
theorem same_sqT {K : PySem.W.Frag} {H H' : Hp} {a : Addr} {xs : List V} (e : Same H H') (h : SqT K H a xs) : SqT K H' a xs := by
  rcases h with (h | ⟨o, h⟩) | h
  · exact .inl (.inl (e _ _ h))
  · exact .inl (.inr ⟨o, e _ _ h⟩)
  · exact .inr h
mutual
/-- a datum at a value: its lists are tracked ones -/
inductive Dq (K : KW) (H : Hp) : V → D → Prop
  | non : Dq K H .non .none
  | bl (b : Bool) : Dq K H (.bl b) (.bool b)
  | int (i : Int) : Dq K H (.int i) (.int i)
  | str (x : Str) : Dq K H (.str x) (.str x)
  | lst {a : Addr} {xs : List V} {ds : List D} : SqL K H a xs → DqAll K H xs ds → Dq K H (.ref a) (.list ds)
  | tup {a : Addr} {xs : List V} {ds : List D} : SqT K H a xs → DqAll K H xs ds → Dq K H (.ref a) (.tuple ds)
inductive DqAll (K : KW) (H : Hp) : List V → List D → Prop
  | nil : DqAll K H [] []
  | cons {v : V} {vs : List V} {d : D} {ds : List D} : Dq K H v d → DqAll K H vs ds → DqAll K H (v :: vs) (d :: ds)
end
mutual
theorem Dq.dp {K : KW} {H : Hp} : ∀ (d : D) {v : V}, Dq K H v d → Dp K H v d
  | .none, _, h => by cases h; exact .non
  | .bool b, _, h => by cases h; exact .bl b
  | .int i, _, h => by cases h; exact .int i
  | .str x, _, h => by cases h; exact .str x
  | .list ds, _, h => by
    cases h with
    | lst hs ha => exact .lst hs (DqAll.dp ds ha)
  | .tuple ds, _, h => by
    cases h with
    | tup hs ha => exact .tup hs (DqAll.dp ds ha)
  | .dict _, _, h => by cases h
theorem DqAll.dp {K : KW} {H : Hp} : ∀ (ds : List D) {vs : List V}, DqAll K H vs ds → DpAll K H vs ds
  | [], _, h => by cases h; exact .nil
  | d :: ds, _, h => by
    cases h with
    | cons h1 h2 => exact .cons (Dq.dp d h1) (DqAll.dp ds h2)
end
theorem same_rd {H H' : Hp} {a : Addr} {u : HO} (e : Same H H') (h : Rd H a u) : Rd H' a u := by
  rcases h with h | ⟨o, h⟩
  · exact .inl (e _ _ h)
  · exact .inr ⟨o, e _ _ h⟩
mutual
theorem dp_mono {K : KW} {G H : Hp} (s : Same G H) : ∀ (d : D) {v : V}, Dq K G v d → Dq K H v d
  | .none, _, h => by cases h; exact .non
  | .bool b, _, h => by cases h; exact .bl b
  | .int i, _, h => by cases h; exact .int i
  | .str x, _, h => by cases h; exact .str x
  | .list ds, _, h => by
    cases h with
    | lst hs ha => exact .lst (s.seq hs) (dpAll_mono s ds ha)
  | .tuple ds, _, h => by
    cases h with
    | tup hs ha => exact .tup (same_sqT s hs) (dpAll_mono s ds ha)
  | .dict _, _, h => by cases h
theorem dpAll_mono {K : KW} {G H : Hp} (s : Same G H) : ∀ (ds : List D) {vs : List V}, DqAll K G vs ds → DqAll K H vs ds
  | [], _, h => by cases h; exact .nil
  | d :: ds, _, h => by
    cases h with
    | cons h1 h2 => exact .cons (dp_mono s d h1) (dpAll_mono s ds h2)
end
section
variable {K : KW} {G H : Hp}
theorem dpAll_length : ∀ {vs : List V} {ds : List D}, DqAll K G vs ds → vs.length = ds.length
  | _, [], h => by cases h; rfl
  | _, d :: ds, h => by
    cases h with
    | cons h1 h2 => exact congrArg (· + 1) (dpAll_length h2)
theorem dpAll_append : ∀ {vs ws : List V} {ds es : List D}, DqAll K G vs ds → DqAll K G ws es → DqAll K G (vs ++ ws) (ds ++ es)
  | _, _, [], _, h, h2 => by cases h; exact h2
  | _, _, d :: ds, _, h, h2 => by
    cases h with
    | cons h1 h3 => exact .cons h1 (dpAll_append h3 h2)
theorem dpAll_get : ∀ {vs : List V} {ds : List D} {i : Nat} {d : D}, DqAll K G vs ds → ds[i]? = some d → ∃ v, vs[i]? = some v ∧ Dq K G v d
  | _, [], _, _, _, e => by simp at e
  | _, d :: ds, 0, _, h, e => by
    cases h with
    | cons h1 h2 => simp at e; subst e; exact ⟨_, rfl, h1⟩
  | _, d :: ds, i + 1, _, h, e => by
    cases h with
    | cons h1 h2 =>
      obtain ⟨v, e1, h3⟩ := dpAll_get (i := i) h2 (by simpa using e)
      exact ⟨v, by simpa using e1, h3⟩
theorem dpAll_get' : ∀ {vs : List V} {ds : List D} {i : Nat} {v : V}, DqAll K G vs ds → vs[i]? = some v → ∃ d, ds[i]? = some d ∧ Dq K G v d := fun {vs ds i v} h e => by
  obtain ⟨hi, _⟩ := List.getElem?_eq_some_iff.mp e
  have hl := dpAll_length h
  have hd : ds[i]? = some (ds[i]'(by omega)) := List.getElem?_eq_getElem (by omega)
  obtain ⟨w, ew, hw⟩ := dpAll_get h hd
  rw [e] at ew
  cases ew
  exact ⟨_, hd, hw⟩
theorem dpAll_drop : ∀ {vs : List V} {ds : List D} (n : Nat), DqAll K G vs ds → DqAll K G (vs.drop n) (ds.drop n)
  | _, _, 0, h => h
  | _, [], n + 1, h => by cases h; exact .nil
  | _, d :: ds, n + 1, h => by
    cases h with
    | cons h1 h2 => exact dpAll_drop n h2
theorem dpAll_take : ∀ {vs : List V} {ds : List D} (n : Nat), DqAll K G vs ds → DqAll K G (vs.take n) (ds.take n)
  | _, [], 0, h => by cases h; exact .nil
  | _, d :: ds, 0, h => .nil
  | _, [], n + 1, h => by cases h; exact .nil
  | _, d :: ds, n + 1, h => by
    cases h with
    | cons h1 h2 => exact .cons h1 (dpAll_take n h2)
theorem dpAll_erase : ∀ {vs : List V} {ds : List D} (n : Nat), DqAll K G vs ds → DqAll K G (vs.eraseIdx n) (ds.eraseIdx n)
  | _, [], _, h => by cases h; exact .nil
  | _, d :: ds, 0, h => by
    cases h with
    | cons h1 h2 => exact h2
  | _, d :: ds, n + 1, h => by
    cases h with
    | cons h1 h2 => exact .cons h1 (dpAll_erase n h2)
theorem dpAll_set : ∀ {vs : List V} {ds : List D} {v : V} {d : D}, DqAll K G vs ds → Dq K G v d → ∀ n : Nat, DqAll K G (vs.set n v) (ds.set n d)
  | _, [], _, _, h, _, n => by cases h; exact .nil
  | _, _ :: _, _, _, h, hv, 0 => by
    cases h with
    | cons h1 h2 => exact .cons hv h2
  | _, _ :: _, _, _, h, hv, n + 1 => by
    cases h with
    | cons h1 h2 => exact .cons h1 (dpAll_set h2 hv n)
theorem dpAll_dropLast {vs : List V} {ds : List D} (h : DqAll K G vs ds) : DqAll K G vs.dropLast ds.dropLast := by
  rw [List.dropLast_eq_take, List.dropLast_eq_take, dpAll_length h]
  exact dpAll_take _ h
theorem dpAll_cut {vs : List V} {ds : List D} (h : DqAll K G vs ds) (lo hi : Option Int) : DqAll K G (cutV vs lo hi) (cutL ds lo hi) := by
  unfold cutV cutL
  rw [dpAll_length h]
  exact dpAll_take _ (dpAll_drop _ h)
theorem atI_map {vs : List V} {ds : List D} {i : Int} {d : D} (h : DqAll K G vs ds) (e : L2.atI ds i = some d) : ∃ v, L2.atI vs i = some v ∧ Dq K G v d := by
  unfold L2.atI at e ⊢
  rw [dpAll_length h]
  cases q : ixN ds.length i with
  | none => rw [q] at e; cases e
  | some j =>
    rw [q] at e
    exact dpAll_get h e
end

/-- the entries of a dict: keys, where they stand, values -/
abbrev Ents2 := List (NestedKey × Addr × Value)
/-- the dict at a, without its keys' own objects -/
structure DictW (w : World) (h : Heap) (a : Addr) (xs : Ents2) (ep : Nat) : Prop where
  ex : (a == sysModules) = false ∧ xs.length ≤ sizeLine ∧ ∃ o es, h.get? a = some o ∧ o.ExactDict ∧ o.data = .dict es ep ∧ es.toList = xs.map (fun x => (⟨x.1.hash w, .ref x.2.1, x.2.2⟩ : DictEntry)) ∧ (xs.map (·.1)).Nodup
def DOb (w : World) (a : Addr) (xs : Ents2) (ep : Nat) : HO := .ext fun h => DictW w h a xs ep
theorem dob_new {P : Program} {w : World} {H : Hp} {h : Heap} {a : Addr} {xs : Ents2} {ep : Nat} (R : DictW w h a xs ep) : ObjOk P w H h a (DOb w a xs ep) := by
  have ⟨h1, h2, o, es, ho, r⟩ := R.ex
  refine ⟨R, ⟨o, ho⟩, fun g1 g2 p k => ?_⟩
  have ⟨h1', h2', o', es', ho', r'⟩ := DictW.ex p
  exact ⟨h1', h2', o', es', k o' ho', r'⟩
theorem dob_ne_lst {w : World} {a : Addr} {xs : Ents2} {ep : Nat} {vs : List V} : DOb w a xs ep ≠ .lst vs := fun h => nomatch h
/-- an entry and its data -/
def DRel (K : KW) (G : Hp) (p : D × D) (q : NestedKey × Addr × Value) : Prop := keyT p.1 = some q.1 ∧ Dq K G (.ref q.2.1) p.1 ∧ ∃ y, RelV y q.2.2 ∧ Dq K G y p.2
theorem drel_mono {K : KW} {G H : Hp} (s : Same G H) {kvs : KD} {xs : Ents2} (h : Paired (DRel K G) kvs xs) : Paired (DRel K H) kvs xs :=
  Paired.mapP h fun p q r => ⟨r.1, dp_mono s _ r.2.1, r.2.2.elim fun y z => ⟨y, z.1, dp_mono s _ z.2⟩⟩
/-- a list (or dict) that stands unfrozen -/
def OwnAt (K : KW) (G H : Hp) (a : Addr) : D → Prop
  | .list ds => ∃ vs, H a = some (.lst vs) ∧ DqAll K G vs ds
  | .dict kvs => ∃ xs, (∃ ep, H a = some (DOb K.w a xs ep)) ∧ Paired (DRel K G) kvs xs
  | .tuple ds => ∃ ns : List Int, ds = ns.map .int ∧ H a = some (.dK (ns.map fun n => (.inl n, .bl true)))
  | _ => False
theorem OwnAt.map {K : KW} {G H G' H' : Hp} {a : Addr} {d : D} (h : OwnAt K G H a d) (sG : Same G G') (k : ∀ u, H a = some u → H' a = some u) : OwnAt K G' H' a d := by
  cases d with
  | list ds =>
    obtain ⟨vs, e, hd⟩ := h
    exact ⟨vs, k _ e, dpAll_mono sG _ hd⟩
  | dict kvs =>
    obtain ⟨xs, ⟨ep, e⟩, hd⟩ := h
    exact ⟨xs, ⟨ep, k _ e⟩, drel_mono sG hd⟩
  | tuple ds =>
    obtain ⟨ns, e1, e⟩ := h
    exact ⟨ns, e1, k _ e⟩
  | _ => exact h.elim
/-- nothing that stood has changed (but the list of the draws), nothing that stood was frozen -/
structure Kp (S : Option Addr) (G H G' H' : Hp) : Prop where
  kh : ∀ b o, S ≠ some b → H b = some o → H' b = some o
  kg : Same G G'
  kn : ∀ b, H b ≠ none → G' b = G b
  dm : ∀ b, H b ≠ none → H' b ≠ none
def Sta (S : Option Addr) (c : Option Nat) (G H : Hp) : Prop :=
  match S, c with
  | none, none => True
  | some a, some n => G a = none ∧ H a = some (.lst (List.replicate n (.int 0)))
  | _, _ => False
structure Nxt (S : Option Addr) (c : Option Nat) (G H G' H' : Hp) : Prop where
  sub : Same G' H'
  sta : Sta S c G' H'
  kp : Kp S G H G' H'
/-- what a value stands for -/
def RR (K : KW) (S : Option Addr) (H0 G H : Hp) (v : V) : Sl → Prop
  | .fz d => Dq K G v d
  | .ow d => ∃ a, v = .ref a ∧ H0 a = none ∧ G a = none ∧ S ≠ some a ∧ OwnAt K G H a d
  | .bw d => ∃ a, v = .ref a ∧ S ≠ some a ∧ OwnAt K G H a d
  | .st => ∃ a, S = some a ∧ v = .ref a
/-- what a slot stands for -/
def SV (K : KW) (S : Option Addr) (He G H : Hp) (v : V) : Sl → Prop
  | .fz d => Dq K G v d
  | .ow d => ∃ a, v = .ref a ∧ He a = none ∧ G a = none ∧ S ≠ some a ∧ OwnAt K G H a d
  | .bw d => ∃ a, v = .ref a ∧ He a ≠ none ∧ S ≠ some a ∧ OwnAt K G H a d
  | .st => ∃ a, S = some a ∧ v = .ref a
/-- a value as it is read -/
def Vw (K : KW) (G H : Hp) (v : V) : D → Prop
  | .none => v = .non
  | .bool b => v = .bl b
  | .int i => v = .int i
  | .str x => v = .str x
  | .list ds => ∃ a vs, v = .ref a ∧ SqL K H a vs ∧ DqAll K G vs ds
  | .tuple ds => ∃ a vs, v = .ref a ∧ SqT K G a vs ∧ DqAll K G vs ds
  | .dict _ => False

section
variable {K : KW} {S : Option Addr} {c c' : Option Nat} {G H G' H' G2 H2 H0 : Hp} {v : V} {d : D} {r : Sl}
theorem Sta.out {a : Addr} (h : Sta S c G H) (e : S = some a) : G a = none ∧ ∃ n, c = some n ∧ H a = some (.lst (List.replicate n (.int 0))) := by
  subst e
  cases c with
  | none => exact h.elim
  | some n => exact ⟨h.1, n, rfl, h.2⟩
theorem Kp.refl : Kp S G H G H := ⟨fun _ _ _ h => h, Same.refl _, fun _ _ => rfl, fun _ h => h⟩
theorem Kp.trans (a : Kp S G H G' H') (b : Kp S G' H' G2 H2) : Kp S G H G2 H2 :=
  ⟨fun x o n e => b.kh x o n (a.kh x o n e), a.kg.trans b.kg, fun x h => (b.kn x (a.dm x h)).trans (a.kn x h), fun x h => b.dm x (a.dm x h)⟩
theorem Nxt.refl (s : Same G H) (t : Sta S c G H) : Nxt S c G H G H := ⟨s, t, Kp.refl⟩
theorem Nxt.trans (a : Nxt S c G H G' H') (b : Nxt S c' G' H' G2 H2) : Nxt S c' G H G2 H2 := ⟨b.sub, b.sta, a.kp.trans b.kp⟩
theorem sne (t : Sta S c G H) {p : Addr} (h : H p = none) : S ≠ some p := fun e => by
  obtain ⟨_, n, _, q⟩ := t.out e
  rw [h] at q
  cases q
theorem gne (s : Same G H) {p : Addr} (h : H p = none) : G p = none := s.free h
/-- a new frozen object -/
theorem Nxt.new {p : Addr} {o : HO} (s : Same G H) (t : Sta S c G H) (h : H p = none) : Nxt S c G H (upd G p o) (upd H p o) := by
  have gp := gne s h
  refine ⟨fun b u e => ?_, ?_, fun b u n e => ?_, fun b u e => ?_, fun b n => ?_, fun b n => ?_⟩
  · by_cases hb : b = p
    · subst hb; rw [upd_same] at e ⊢; exact e
    · rw [upd_ne hb] at e ⊢; exact s b u e
  · cases S with
    | none => cases c with
      | none => trivial
      | some n => exact t.elim
    | some a =>
      obtain ⟨h1, n, rfl, h2⟩ := t.out rfl
      have ha : a ≠ p := ne_of_none h2 h
      exact ⟨by rw [upd_ne ha]; exact h1, by rw [upd_ne ha]; exact h2⟩
  · rw [upd_ne (ne_of_none e h)]; exact e
  · rw [upd_ne (ne_of_none e gp)]; exact e
  · have hb : b ≠ p := fun e => n (by rw [e]; exact h)
    rw [upd_ne hb]
  · have hb : b ≠ p := fun e => n (by rw [e]; exact h)
    rw [upd_ne hb]; exact n
/-- a new object that is not frozen -/
theorem Nxt.newO {p : Addr} {o : HO} (s : Same G H) (t : Sta S c G H) (h : H p = none) : Nxt S c G H G (upd H p o) := by
  have gp := gne s h
  refine ⟨fun b u e => ?_, ?_, fun b u n e => ?_, Same.refl _, fun b n => rfl, fun b n => ?_⟩
  · rw [upd_ne (ne_of_none e gp)]; exact s b u e
  · cases S with
    | none => cases c with
      | none => trivial
      | some n => exact t.elim
    | some a =>
      obtain ⟨h1, n, rfl, h2⟩ := t.out rfl
      have ha : a ≠ p := ne_of_none h2 h
      exact ⟨h1, by rw [upd_ne ha]; exact h2⟩
  · rw [upd_ne (ne_of_none e h)]; exact e
  · have hb : b ≠ p := fun e => n (by rw [e]; exact h)
    rw [upd_ne hb]; exact n
/-- a new object is frozen later -/
theorem Nxt.freeze {p : Addr} {o : HO} (n : Nxt S c G H G' H') (h0 : H p = none) (hg : G' p = none) (hS : S ≠ some p) (ho : H' p = some o) : Nxt S c G H (upd G' p o) H' := by
  refine ⟨fun b u e => ?_, ?_, n.kp.kh, fun b u e => ?_, fun b hb => ?_, n.kp.dm⟩
  · by_cases hb : b = p
    · subst hb; rw [upd_same] at e; cases e; exact ho
    · rw [upd_ne hb] at e; exact n.sub b u e
  · have t := n.sta
    cases S with
    | none => cases c with
      | none => trivial
      | some m => exact t.elim
    | some a =>
      obtain ⟨h1, m, rfl, h2⟩ := t.out rfl
      have ha : a ≠ p := fun e => hS (by rw [e])
      exact ⟨by rw [upd_ne ha]; exact h1, h2⟩
  · have := n.kp.kg b u e
    rw [upd_ne (ne_of_none this hg)]; exact this
  · have hbp : b ≠ p := fun e => hb (by rw [e]; exact h0)
    rw [upd_ne hbp]; exact n.kp.kn b hb
theorem own_mono {a : Addr} (h : OwnAt K G H a d) (k : Kp S G H G' H') (hS : S ≠ some a) : OwnAt K G' H' a d :=
  h.map k.kg fun u e => k.kh _ _ hS e
theorem own_there {a : Addr} (h : OwnAt K G H a d) : H a ≠ none := by
  cases d with
  | list ds =>
    obtain ⟨vs, e, hd⟩ := h
    rw [e]
    exact fun q => nomatch q
  | dict kvs =>
    obtain ⟨xs, ⟨ep, e⟩, hd⟩ := h
    rw [e]
    exact fun q => nomatch q
  | tuple ds =>
    obtain ⟨ns, _, e⟩ := h
    rw [e]
    exact fun q => nomatch q
  | _ => exact h.elim
theorem RR.mono (h : RR K S H0 G H v r) (k : Kp S G H G' H') : RR K S H0 G' H' v r := by
  cases r with
  | fz d => exact dp_mono k.kg _ h
  | ow d =>
    obtain ⟨a, e, h0, hg, hs, ho⟩ := h
    exact ⟨a, e, h0, (k.kn a (own_there ho)).trans hg, hs, own_mono ho k hs⟩
  | bw d =>
    obtain ⟨a, e, hs, ho⟩ := h
    exact ⟨a, e, hs, own_mono ho k hs⟩
  | st => exact h
theorem SV.mono {He : Hp} (h : SV K S He G H v r) (k : Kp S G H G' H') : SV K S He G' H' v r := by
  cases r with
  | fz d => exact dp_mono k.kg _ h
  | ow d =>
    obtain ⟨a, e, h0, hg, hs, ho⟩ := h
    exact ⟨a, e, h0, (k.kn a (own_there ho)).trans hg, hs, own_mono ho k hs⟩
  | bw d =>
    obtain ⟨a, e, h0, hs, ho⟩ := h
    exact ⟨a, e, h0, hs, own_mono ho k hs⟩
  | st => exact h
theorem Vw.of_dp (s : Same G H) (h : Dq K G v d) : Vw K G H v d := by
  cases d with
  | none => cases h; rfl
  | bool b => cases h; rfl
  | int i => cases h; rfl
  | str x => cases h; rfl
  | list ds => cases h with | lst hs ha => exact ⟨_, _, rfl, s.seq hs, ha⟩
  | tuple ds => cases h with | tup hs ha => exact ⟨_, _, rfl, hs, ha⟩
  | dict _ => cases h
theorem Vw.of_own {a : Addr} {ds : List D} (h : OwnAt K G H a (.list ds)) : Vw K G H (.ref a) (.list ds) := by
  obtain ⟨vs, e, hd⟩ := h
  exact ⟨a, vs, rfl, .inl (.inl e), hd⟩
theorem Vw.dp (s : Same G H) (h : Vw K G H v d) : Dq K H v d := by
  cases d with
  | none => cases h; exact .non
  | bool b => cases h; exact .bl b
  | int i => cases h; exact .int i
  | str x => cases h; exact .str x
  | list ds =>
    obtain ⟨a, vs, rfl, h1, h2⟩ := h
    exact .lst h1 (dpAll_mono s _ h2)
  | tuple ds =>
    obtain ⟨a, vs, rfl, h1, h2⟩ := h
    exact .tup (same_sqT s h1) (dpAll_mono s _ h2)
  | dict _ => exact h.elim
theorem RR.vw (s : Same G H) (h : RR K S H0 G H v r) (e : r.rd c = some (d, c')) : Vw K G H v d ∧ c' = c := by
  cases r with
  | fz x => cases e; exact ⟨.of_dp s h, rfl⟩
  | ow x =>
    cases x with
    | list ds =>
      cases e
      obtain ⟨a, rfl, _, _, _, ho⟩ := h
      exact ⟨.of_own ho, rfl⟩
    | _ => cases e
  | bw x =>
    cases x with
    | list ds =>
      cases e
      obtain ⟨a, rfl, _, ho⟩ := h
      exact ⟨.of_own ho, rfl⟩
    | _ => cases e
  | st => cases e
end

/-- the state of a def's body: Se, Ge, He as they were at its entry -/
structure SR (K : KW) (Se : Option Addr) (Ge He : Hp) (S : Option Addr) (c : Option Nat) (ρ : Rho) (σ : L2.St) (G H : Hp) : Prop where
  sub : Same G H
  sta : Sta S c G H
  kp : Kp Se Ge He G H
  ss : Se = S ∨ (Se = none ∧ ∃ p, S = some p ∧ He p = none)
  len : σ.length = ρ.length
  slot : ∀ (i : Nat) s, ρ[i]? = some (some s) → ∃ v, σ[i]? = some (some v) ∧ SV K S He G H v s
  inj : ∀ (i j : Nat) d d' a, ρ[i]? = some (some (.ow d)) → ρ[j]? = some (some (.ow d')) → σ[i]? = some (some (.ref a)) → σ[j]? = some (some (.ref a)) → i = j
section
variable {K : KW} {Se S : Option Addr} {c c' : Option Nat} {Ge He G H G' H' : Hp} {ρ : Rho} {σ : L2.St} {v : V} {d : D} {r : Sl} {i : Nat}
theorem Kp.se (a : Kp Se Ge He G H) (ss : Se = S ∨ (Se = none ∧ ∃ p, S = some p ∧ He p = none)) (k : Kp S G H G' H') : Kp Se Ge He G' H' := by
  refine ⟨fun b o n e => k.kh b o ?_ (a.kh b o n e), a.kg.trans k.kg, fun b h => (k.kn b (a.dm b h)).trans (a.kn b h), fun b h => k.dm b (a.dm b h)⟩
  rcases ss with rfl | ⟨_, p, rfl, hp⟩
  · exact n
  · intro q
    cases q
    rw [hp] at e
    cases e
theorem SR.step (s : SR K Se Ge He S c ρ σ G H) (n : Nxt S c' G H G' H') : SR K Se Ge He S c' ρ σ G' H' where
  sub := n.sub
  sta := n.sta
  kp := s.kp.se s.ss n.kp
  ss := s.ss
  len := s.len
  slot := fun i x e => by
    obtain ⟨v, e1, h⟩ := s.slot i x e
    exact ⟨v, e1, h.mono n.kp⟩
  inj := s.inj
theorem set_cases {α : Type} {l : List (Option α)} {i j : Nat} {x y : α} (h : (l.set i (some x))[j]? = some (some y)) : (j = i ∧ x = y) ∨ (j ≠ i ∧ l[j]? = some (some y)) := by
  by_cases e : i = j
  · subst e
    by_cases hl : i < l.length
    · rw [List.getElem?_set_self hl] at h
      cases h
      exact .inl ⟨rfl, rfl⟩
    · rw [List.getElem?_eq_none (by simpa using hl)] at h
      cases h
  · rw [List.getElem?_set_ne e] at h
    exact .inr ⟨Ne.symm e, h⟩
theorem set_none_cases {α : Type} {l : List (Option α)} {i j : Nat} {y : α} (h : (l.set i none)[j]? = some (some y)) : j ≠ i ∧ l[j]? = some (some y) := by
  by_cases e : i = j
  · subst e
    by_cases hl : i < l.length
    · rw [List.getElem?_set_self hl] at h
      cases h
    · rw [List.getElem?_eq_none (by simpa using hl)] at h
      cases h
  · rw [List.getElem?_set_ne e] at h
    exact ⟨Ne.symm e, h⟩
/-- a name is forgotten -/
theorem SR.drop (s : SR K Se Ge He S c ρ σ G H) (i : Nat) : SR K Se Ge He S c (ρ.set i none) σ G H where
  sub := s.sub
  sta := s.sta
  kp := s.kp
  ss := s.ss
  len := by rw [List.length_set]; exact s.len
  slot := fun j x e => s.slot j x (set_none_cases e).2
  inj := fun j k d d' a h1 h2 => s.inj j k d d' a (set_none_cases h1).2 (set_none_cases h2).2
/-- a name is stored -/
theorem SR.put (s : SR K Se Ge He S c ρ σ G H) (hv : SV K S He G H v r) (hn : ∀ d, r = .ow d → ∀ (j : Nat) e a, j ≠ i → ρ[j]? = some (some (.ow e)) → σ[j]? = some (some (.ref a)) → v ≠ .ref a) :
    SR K Se Ge He S c (ρ.set i (some r)) (σ.set i (some v)) G H := by
  by_cases hi : i < σ.length
  · refine ⟨s.sub, s.sta, s.kp, s.ss, by rw [List.length_set, List.length_set]; exact s.len, fun j x e => ?_, fun j k d d' a h1 h2 h3 h4 => ?_⟩
    · rcases set_cases e with ⟨rfl, rfl⟩ | ⟨hj, e⟩
      · exact ⟨v, List.getElem?_set_self hi, hv⟩
      · obtain ⟨w, e1, h⟩ := s.slot j x e
        exact ⟨w, by rw [List.getElem?_set_ne (Ne.symm hj)]; exact e1, h⟩
    · rcases set_cases h1 with ⟨rfl, e1⟩ | ⟨hj, e1⟩
      · rcases set_cases h2 with ⟨rfl, e2⟩ | ⟨hk, e2⟩
        · rfl
        · rw [List.getElem?_set_self hi] at h3
          rw [List.getElem?_set_ne (Ne.symm hk)] at h4
          cases h3
          exact absurd rfl (hn d e1 k d' a hk e2 h4)
      · rcases set_cases h2 with ⟨rfl, e2⟩ | ⟨hk, e2⟩
        · rw [List.getElem?_set_self hi] at h4
          rw [List.getElem?_set_ne (Ne.symm hj)] at h3
          cases h4
          exact absurd rfl (hn d' e2 j d a hj e1 h3)
        · rw [List.getElem?_set_ne (Ne.symm hj)] at h3
          rw [List.getElem?_set_ne (Ne.symm hk)] at h4
          exact s.inj j k d d' a e1 e2 h3 h4
  · have h2 := s.len
    rw [List.set_eq_of_length_le (by omega), List.set_eq_of_length_le (by omega)]
    exact s
theorem SR.putF (s : SR K Se Ge He S c ρ σ G H) (hv : Dq K G v d) : SR K Se Ge He S c (ρ.set i (some (.fz d))) (σ.set i (some v)) G H :=
  s.put (show SV K S He G H v (.fz d) from hv) fun _ e => nomatch e
/-- a new object is stored -/
theorem SR.putO (s : SR K Se Ge He S c ρ σ G H) {H0 : Hp} (d0 : ∀ b, He b ≠ none → H0 b ≠ none) (d1 : ∀ (j : Nat) e a, ρ[j]? = some (some (.ow e)) → σ[j]? = some (some (.ref a)) → H0 a ≠ none) (hv : RR K S H0 G H v (.ow d)) :
    SR K Se Ge He S c (ρ.set i (some (.ow d))) (σ.set i (some v)) G H := by
  obtain ⟨a, rfl, h0, hg, hS, ho⟩ := hv
  refine s.put ⟨a, rfl, ?_, hg, hS, ho⟩ fun d' _ j e b hj h1 h2 q => ?_
  · cases q : He a with
    | none => rfl
    | some o => exact absurd h0 (d0 a (by rw [q]; exact fun z => nomatch z))
  · cases q
    exact d1 j e a h1 h2 h0
theorem SR.there (s : SR K Se Ge He S c ρ σ G H) {j : Nat} {e : D} {a : Addr} (h : ρ[j]? = some (some (.ow e))) (h2 : σ[j]? = some (some (.ref a))) : H a ≠ none := by
  obtain ⟨v, e1, hv⟩ := s.slot j _ h
  rw [h2] at e1
  cases e1
  obtain ⟨b, e, _, _, _, ho⟩ := hv
  cases e
  exact own_there ho
/-- the object of an owned slot is changed -/
theorem SR.chg (s : SR K Se Ge He S c ρ σ G H) {a : Addr} {o : HO} {d' : D} (hi : ρ[i]? = some (some (.ow d))) (ha : σ[i]? = some (some (.ref a))) (hn : OwnAt K G (upd H a o) a d') :
    SR K Se Ge He S c (ρ.set i (some (.ow d'))) σ G (upd H a o) := by
  obtain ⟨v, e1, hv⟩ := s.slot i _ hi
  rw [ha] at e1
  cases e1
  obtain ⟨b, eb, h0, hg, hS, ho⟩ := hv
  cases eb
  have keep : ∀ b u, b ≠ a → H b = some u → (upd H a o) b = some u := fun b u n e => by rw [upd_ne n]; exact e
  refine ⟨fun b u e => keep b u (ne_of_none e hg) (s.sub b u e), ?_, ⟨fun b u n e => keep b u (ne_of_none e h0) (s.kp.kh b u n e), s.kp.kg, s.kp.kn, fun b n => ?_⟩, s.ss, by rw [List.length_set]; exact s.len, fun j x e => ?_, fun j k d1 d2 b h1 h2 h3 h4 => ?_⟩
  · have t := s.sta
    cases S with
    | none => cases c with
      | none => trivial
      | some n => exact t.elim
    | some p =>
      obtain ⟨h1, n, rfl, h2⟩ := t.out rfl
      have hp : p ≠ a := fun e => hS (by rw [e])
      exact ⟨h1, by rw [upd_ne hp]; exact h2⟩
  · have := s.kp.dm b n
    by_cases hb : b = a
    · subst hb; rw [upd_same]; exact fun q => nomatch q
    · rw [upd_ne hb]; exact this
  · rcases set_cases e with ⟨rfl, rfl⟩ | ⟨hj, e⟩
    · exact ⟨_, ha, a, rfl, h0, hg, hS, hn⟩
    · obtain ⟨w, e1, h⟩ := s.slot j x e
      refine ⟨w, e1, ?_⟩
      cases x with
      | fz y => exact h
      | ow y =>
        obtain ⟨b, rfl, k0, kg, kS, ko⟩ := h
        have hb : b ≠ a := fun q => hj (s.inj j i y d a e hi (by rw [e1, q]) ha)
        exact ⟨b, rfl, k0, kg, kS, ko.map (Same.refl _) fun u e => keep b u hb e⟩
      | bw y =>
        obtain ⟨b, rfl, k0, kS, ko⟩ := h
        have hb : b ≠ a := fun q => k0 (by rw [q]; exact h0)
        exact ⟨b, rfl, k0, kS, ko.map (Same.refl _) fun u e => keep b u hb e⟩
      | st => exact h
  · have f1 : ∃ e, ρ[j]? = some (some (.ow e)) := by
      rcases set_cases h1 with ⟨rfl, _⟩ | ⟨_, e1⟩
      · exact ⟨_, hi⟩
      · exact ⟨_, e1⟩
    have f2 : ∃ e, ρ[k]? = some (some (.ow e)) := by
      rcases set_cases h2 with ⟨rfl, _⟩ | ⟨_, e1⟩
      · exact ⟨_, hi⟩
      · exact ⟨_, e1⟩
    obtain ⟨_, f1⟩ := f1
    obtain ⟨_, f2⟩ := f2
    exact s.inj j k _ _ b f1 f2 h3 h4
/-- an owned list is frozen -/
theorem SR.frz (s : SR K Se Ge He S c ρ σ G H) {ds : List D} (hi : ρ[i]? = some (some (.ow (.list ds)))) : ∃ a vs, Same G (upd G a (.lst vs)) ∧ SR K Se Ge He S c (ρ.set i (some (.fz (.list ds)))) σ (upd G a (.lst vs)) H := by
  obtain ⟨v, e1, a, rfl, h0, hg, hS, vs, ho, hd⟩ := s.slot i _ hi
  have sG : Same G (upd G a (.lst vs)) := fun b u e => by rw [upd_ne (ne_of_none e hg)]; exact e
  refine ⟨a, vs, sG, fun b u e => ?_, ?_, ⟨s.kp.kh, s.kp.kg.trans sG, fun b n => ?_, s.kp.dm⟩, s.ss, by rw [List.length_set]; exact s.len, fun j x e => ?_, fun j k d1 d2 b h1 h2 h3 h4 => ?_⟩
  · by_cases hb : b = a
    · subst hb; rw [upd_same] at e; cases e; exact ho
    · rw [upd_ne hb] at e; exact s.sub b u e
  · have t := s.sta
    cases S with
    | none => cases c with
      | none => trivial
      | some n => exact t.elim
    | some p =>
      obtain ⟨h1, n, rfl, h2⟩ := t.out rfl
      have hp : p ≠ a := fun e => hS (by rw [e])
      exact ⟨by rw [upd_ne hp]; exact h1, h2⟩
  · have hb : b ≠ a := fun e => n (by rw [e]; exact h0)
    rw [upd_ne hb]; exact s.kp.kn b n
  · rcases set_cases e with ⟨rfl, rfl⟩ | ⟨hj, e⟩
    · exact ⟨_, e1, .lst (.inl (.inl upd_same)) (dpAll_mono sG _ hd)⟩
    · obtain ⟨w, e2, h⟩ := s.slot j x e
      refine ⟨w, e2, ?_⟩
      cases x with
      | fz y => exact dp_mono sG _ h
      | ow y =>
        obtain ⟨b, rfl, k0, kg, kS, ko⟩ := h
        have hb : b ≠ a := fun q => hj (s.inj j i y _ a e hi (by rw [e2, q]) e1)
        exact ⟨b, rfl, k0, by rw [upd_ne hb]; exact kg, kS, ko.map sG fun u e => e⟩
      | bw y =>
        obtain ⟨b, rfl, k0, kS, ko⟩ := h
        exact ⟨b, rfl, k0, kS, ko.map sG fun u e => e⟩
      | st => exact h
  · rcases set_cases h1 with ⟨_, q⟩ | ⟨_, f1⟩
    · cases q
    · rcases set_cases h2 with ⟨_, q⟩ | ⟨_, f2⟩
      · cases q
      · exact s.inj j k _ _ b f1 f2 h3 h4
end
end SB
/-! Operations on data, over the hand layer. -/
namespace SB
open PySem PySem.Spec PyProof.Rows L2

/-- what follows a value -/
def Then (K : KW) (S : Option Addr) (c : Option Nat) (G H : Hp) (s : Sl) (Q : VK) : Prop := ∀ v G' H', Nxt S c G H G' H' → RR K S H G' H' v s → Q v H'
/-- an operation of two data, by values -/
def rD (K : KW) (g : D → D → Option Sl) : R2 := fun x y H Q => ∃ S G c d e s, Same G H ∧ Sta S c G H ∧ Vw K G H x d ∧ Vw K G H y e ∧ g d e = some s ∧ Then K S c G H s Q
section
variable {X : Cx}
theorem Then.plain {K : KW} {S : Option Addr} {c : Option Nat} {G H : Hp} {d : D} {Q : VK} (s : Same G H) (t : Sta S c G H) (q : Then K S c G H (.fz d) Q) {v : V} (h : Dq K G v d) : Q v H := q v G H (.refl s t) h
theorem Then.tup {K : KW} {S : Option Addr} {c : Option Nat} {G H : Hp} {ds : List D} {vs : List V} {Q : VK} (s : Same G H) (t : Sta S c G H) (q : Then K S c G H (.fz (.tuple ds)) Q) (h : DqAll K G vs ds) : ∀ p, H p = none → Q (.ref p) (upd H p (.tup vs)) :=
  fun p hp => q _ _ _ (.new s t hp) (.tup (.inl (.inl upd_same)) (dpAll_mono (Nxt.new s t hp (o := .tup vs)).kp.kg _ h))
theorem Then.lst {K : KW} {S : Option Addr} {c : Option Nat} {G H : Hp} {ds : List D} {vs : List V} {Q : VK} (s : Same G H) (t : Sta S c G H) (q : Then K S c G H (.ow (.list ds)) Q) (h : DqAll K G vs ds) : ∀ p, H p = none → Q (.ref p) (upd H p (.lst vs)) :=
  fun p hp => q _ _ _ (.newO s t hp) ⟨p, rfl, hp, gne s hp, sne t hp, vs, upd_same, h⟩

/-! ### list + list, tracked or frozen -/
def rCatR (K : PySem.W.Frag) : R2 := fun x y H Q => ∃ l b xs zs, x = .ref l ∧ y = .ref b ∧ SqL K H l xs ∧ SqL K H b zs ∧ xs.length + zs.length ≤ sizeLine ∧ ∀ p, H p = none → Q (.ref p) (upd H p (.lst (xs ++ zs)))
theorem rd_lst {pins : List (Addr × Obj)} {σ : L2.St} {H : Hp} {s : Shared} {l : Addr} {xs : List V} (I : Inv X pins σ H s) (h : Rd H l (.lst xs)) : xs.length ≤ sizeLine ∧ ∃ (its : List Value) (n : Nat), Vals xs its ∧ xs.length = its.length ∧ s.heap.get? l = some { cls := .type "list", data := .seq its.toArray n } := by
  obtain ⟨z, its, n, r, e⟩ := h.ok I.hok
  exact ⟨z, its, n, r, r.length, e⟩
theorem sq_lst {pins : List (Addr × Obj)} {σ : L2.St} {H : Hp} {s : Shared} {l : Addr} {xs : List V} (I : Inv X pins σ H s) (h : SqL X.K H l xs) : ∃ (its : List Value) (n : Nat) (od : Option Addr) (osl : Array (Option Value)), Vals xs its ∧ xs.length = its.length ∧ s.heap.get? l = some ⟨.type "list", od, .seq its.toArray n, osl⟩ := by
  rcases h with h | ⟨o, arr, n, look, kind, _, dat, _, vals⟩
  · obtain ⟨_, its, n, r, hl, e⟩ := rd_lst I h
    exact ⟨its, n, _, _, r, hl, e⟩
  · obtain ⟨oc, od, odt, osl⟩ := o
    simp only at kind dat
    subst kind dat
    exact ⟨arr.toList, n, od, osl, vals, vals.length, I.kIn _ _ look⟩
theorem op_catR : OpR X (binaryOp .Add) (rCatR X.KW) := by
  intro pins s σ H x y v u Q I rx ry h
  obtain ⟨l, b, xs, zs, rfl, rfl, hH, hB, hz, q⟩ := h
  cases rx
  cases ry
  obtain ⟨its, n, od, osl, r, hl, e⟩ := sq_lst I hH
  obtain ⟨its2, n2, od2, osl2, r2, hl2, e2⟩ := sq_lst I hB
  have sz : its.toArray.size + its2.toArray.size ≤ sizeLine := by
    rw [List.size_toArray, List.size_toArray, ← hl, ← hl2]
    exact hz
  refine concat_meets ⟨_, e, rfl⟩ ⟨_, e2, rfl⟩ noFill_list_add seq_list_add PySem.F.slot_list_add PySem.F.entry_list_add (PySem.F.args_list_add_2 _ _)
    (list_addW l b its.toArray its2.toArray n n2 od od2 osl osl2 sz) ⟨e, e2, ?_⟩
  have ea : its.toArray ++ its2.toArray = (its ++ its2).toArray := by simp
  rw [ea]
  exact ⟨.ref _, _, I.lnew (t' := s.toks) (r.append r2) (by rw [List.length_append]; omega), rfl, q _ I.fresh⟩
theorem vw_len {K : KW} {G H : Hp} {vs : List V} {ds : List D} (h : DqAll K G vs ds) {n : Nat} (e : ds.length = n) : vs.length = n := (dpAll_length h).trans e

theorem opD_add : OpR X (binaryOp .Add) (rD X.KW (binD .Add)) := by
  intro pins s σ H x y v u Q I rx ry h
  obtain ⟨S, G, c, d, e, r, sm, st, hx, hy, hr, q⟩ := h
  cases d <;> cases e <;> simp only [binD, reduceCtorEq] at hr
  · cases hx; cases hy; cases hr
    exact op_add pins s σ H _ _ v u Q I rx ry ⟨_, _, rfl, rfl, q.plain sm st (.int _)⟩
  · cases hx; cases hy
    split at hr
    · cases hr
      rename_i hz
      exact op_add_str pins s σ H _ _ v u Q I rx ry ⟨_, _, rfl, rfl, hz, q.plain sm st (.str _)⟩
    · cases hr
  · obtain ⟨a, vs, rfl, ha, da⟩ := hx
    obtain ⟨b, ws, rfl, hb, db⟩ := hy
    split at hr
    · cases hr
      rename_i hz
      have l1 := dpAll_length da
      have l2 := dpAll_length db
      exact op_catR pins s σ H _ _ v u Q I rx ry ⟨a, b, vs, ws, rfl, rfl, ha, hb, by omega, q.lst sm st (dpAll_append da db)⟩
    · cases hr
  · obtain ⟨a, vs, rfl, ha, da⟩ := hx
    obtain ⟨b, ws, rfl, hb, db⟩ := hy
    split at hr
    · cases hr
      rename_i hz
      have l1 := dpAll_length da
      have l2 := dpAll_length db
      refine op_catA pins s σ H _ _ v u Q I rx ry ⟨a, b, vs, ws, rfl, rfl, same_sqT sm ha, same_sqT sm hb, by omega, fun z => ?_, fun _ z => ?_, fun _ _ => q.tup sm st (dpAll_append da db)⟩
      · subst z
        cases da
        exact q.plain sm st (.tup hb db)
      · subst z
        cases db
        rw [List.append_nil] at q
        exact q.plain sm st (.tup ha da)
    · cases hr
theorem opD_sub : OpR X (binaryOp .Sub) (rD X.KW (binD .Sub)) := by
  intro pins s σ H x y v u Q I rx ry h
  obtain ⟨S, G, c, d, e, r, sm, st, hx, hy, hr, q⟩ := h
  cases d <;> cases e <;> simp only [binD, reduceCtorEq] at hr
  cases hx; cases hy; cases hr
  exact op_sub pins s σ H _ _ v u Q I rx ry ⟨_, _, rfl, rfl, q.plain sm st (.int _)⟩
theorem dpAll_rep {K : KW} {G : Hp} {vs : List V} {ds : List D} (h : DqAll K G vs ds) : ∀ k : Nat, DqAll K G (List.replicate k vs).flatten (List.replicate k ds).flatten
  | 0 => .nil
  | k + 1 => by
    rw [List.replicate_succ, List.replicate_succ, List.flatten_cons, List.flatten_cons]
    exact dpAll_append h (dpAll_rep h k)
/-- t * 1, () * k: the tuple itself -/
theorem mul_same (l : Addr) (items : Array Value) (n : Nat) (dd : Option Addr) (sl : Array (Option Value)) (x : Int) (u : Tok) (c0 : (decide (x < -(2 ^ 63)) || decide (x ≥ 2 ^ 63)) = false) (c1 : (items.isEmpty || x == 1) = true) :
    Meets (Builtin.«tuple.__mul__» ⟨[.ref l, .int x u], []⟩) (fun _ R s => s.heap.get? l = some { cls := .type "tuple", dict := dd, data := .seq items n, slots := sl } ∧ R (.ok (.ret (.ref l))) s) :=
  .of_wp fun prog w A R s h => by
    obtain ⟨hp, g, d, tk, os⟩ := s
    obtain ⟨hl, h⟩ := h
    have f1 := AutoSeq1.idx_int
    wp_walk using wpAny_loadPart' hl
    refine wpAny_ite_false (decide_eq_false (by rw [c0]; exact Bool.false_ne_true)) ?_
    wp_walk using wpAny_loadPart' hl
    exact ⟨_, rfl, h⟩
def rRep1 (K : PySem.W.Frag) : R2 := fun x y H Q => ∃ l k xs, x = .ref l ∧ y = .int k ∧ SqT K H l xs ∧ (xs = [] ∨ k = 1) ∧ 1 ≤ k ∧ k ≤ 1000 ∧ Q (.ref l) H
theorem op_rep1 : OpR X (binaryOp .Mult) (rRep1 X.KW) := by
  intro pins s σ H x y v u Q I rx ry h
  obtain ⟨l, k, xs, rfl, rfl, hT, h1, h2, h3, q⟩ := h
  cases rx
  obtain ⟨t, rfl⟩ := ry
  obtain ⟨its, r, ⟨⟨cls, dd, data, sl⟩, ho, hc, n, hd⟩, hs⟩ := I.tuple hT
  simp only at hc hd
  subst hc hd
  have c0 : (decide (k < -(2 ^ 63)) || decide (k ≥ 2 ^ 63)) = false := by
    rw [decide_eq_false (by omega), decide_eq_false (by omega)] <;> rfl
  have c1 : (its.toArray.isEmpty || k == 1) = true := by
    rcases h1 with rfl | rfl
    · cases r
      rfl
    · rw [beq_self_eq_true, Bool.or_true]
  exact wpAny_binaryOp_repeat_ref (T := "tuple") (U := "int") (by decide) ⟨_, ho, rfl⟩ (fun s' => typeIs_int s' k t) noFill_tuple_mul F.fills_int_mul F.slot_int_rmul repeat_tuple F.slot_int_index.lookup
    (call_meets F.slot_int_rmul (typeIs_int s k t) F.entry_int_rmul (F.args_int_rmul_2 _ _) (int_rmul_tuple k t l its.toArray n dd sl)
      ⟨ho, rfl, ⟨_, ho, rfl⟩, call_meets F.slot_tuple_mul ⟨_, ho, rfl⟩ F.entry_tuple_mul (F.args_tuple_mul_2 _ _) (mul_same l its.toArray n dd sl k t c0 c1) ⟨ho, .ref l, H, I, rfl, q⟩⟩)
theorem op_repS : OpR X (binaryOp .Mult) (fun x y H Q => ∃ (z : Str) (k : Int), x = .str z ∧ y = .int k ∧ 2 ≤ k ∧ k ≤ 100000 ∧ (z.length == 0) = false ∧ z.length * k.toNat ≤ sizeLine ∧ ((List.replicate k.toNat z.cps).foldl (· ++ ·) #[]).size ≤ sizeLine ∧ Q (.str ⟨(List.replicate k.toNat z.cps).foldl (· ++ ·) #[]⟩) H) := by
  intro pins s σ H x y v u Q I rx ry h
  obtain ⟨z, k, rfl, rfl, h1, h2, h3, h4, h5, q⟩ := h
  obtain ⟨t, rfl⟩ := rx
  obtain ⟨t', rfl⟩ := ry
  have k1 : (k == 1) = false := by
    rw [beq_eq_false_iff_ne]
    omega
  refine PySem.P.mul_str ?_ (fun _ _ => ?_) (fun _ _ => ?_) ?_
  · rw [decide_eq_false (by omega), decide_eq_false (by omega)]; rfl
  · have hz := sizeLine_eq
    have h6 : z.length ≤ sizeLine := Nat.le_trans (Nat.le_mul_of_pos_right _ (by omega)) h4
    have h7 : (sizeLine : Int) ≤ (2 ^ 63 - 1) / k := by
      rw [Int.le_ediv_iff_mul_le (by omega), hz]
      have : (k : Int) ≤ 100000 := h2
      omega
    omega
  · unfold Builtin.Str.tooLong
    simp only [gt_iff_lt, decide_eq_false_iff_not, Nat.not_lt]
    exact h4
  · rw [if_neg (by omega), if_neg (by rw [k1, h3]; decide)]
    exact ⟨h5, .str _, H, I.tok _, ⟨_, rfl⟩, q⟩
theorem int_rmul_listW (a : Int) (t : Tok) (l : Addr) (items : Array Value) (n : Nat) (dd : Option Addr) (sl : Array (Option Value)) :
    Meets (Builtin.«int.__rmul__» ⟨[.int a t, .ref l], []⟩) (fun _ R s => s.heap.get? l = some { cls := .type "list", dict := dd, data := .seq items n, slots := sl } ∧ R (.ok (.ret Value.notImplemented)) s) :=
  .of_wp fun prog w A R s h => by obtain ⟨hp, g, d, tk, os⟩ := s; obtain ⟨hl, h⟩ := h; wp_walk using wpAny_loadPart' hl; exact ⟨_, rfl, h⟩
theorem list_mulW (l : Addr) (items : Array Value) (n : Nat) (dd : Option Addr) (sl : Array (Option Value)) (x : Int) (u : Tok) (hc0 : ¬(!Builtin.List.listFitsIndex x) = true) (hc1 : ¬items.size * x.toNat > (2 ^ 63 - 1) / 8) (hc2 : ¬Builtin.List.listTooLong (items.size * x.toNat) = true) :
    Meets (Builtin.«list.__mul__» ⟨[.ref l, .int x u], []⟩) (fun _ R s => s.heap.get? l = some { cls := .type "list", dict := dd, data := .seq items n, slots := sl } ∧ R (.ok (.ret (Value.ref s.heap.objs.size))) { s with heap := s.heap.push { cls := Value.type "list", data := Data.seq (List.foldl (fun x1 x2 => x1 ++ x2) #[] (List.replicate (if items.isEmpty = true then 0 else x.toNat) items)) }, toks := s.toks }) :=
  .of_wp fun prog w A R s h => by
    obtain ⟨hp, g, d, tk, os⟩ := s; obtain ⟨hl, h⟩ := h
    have hsz := PySem.AutoListH.joined_fits hc2
    have f1 := AutoSeq1.idx_int
    wp_walk using wpAny_loadPart' hl
    refine wpAny_ite_false (decide_eq_false (Nat.not_lt.mpr hsz)) ?_
    wp_walk using wpAny_loadPart' hl
    exact ⟨_, rfl, h⟩
def rRepL (K : PySem.W.Frag) : R2 := fun x y H Q => ∃ l k xs, x = .ref l ∧ y = .int k ∧ SqL K H l xs ∧ -(2 ^ 63) ≤ k ∧ k < 2 ^ 63 ∧ xs.length * k.toNat ≤ sizeLine ∧
  ∀ p, H p = none → Q (.ref p) (upd H p (.lst (List.replicate k.toNat xs).flatten))
theorem op_repL : OpR X (binaryOp .Mult) (rRepL X.KW) := by
  intro pins s σ H x y v u Q I rx ry h
  obtain ⟨l, k, xs, rfl, rfl, hH, h1, h2, hz, q⟩ := h
  cases rx
  obtain ⟨t, rfl⟩ := ry
  obtain ⟨its, n, od, osl, r, hl, e⟩ := sq_lst I hH
  have hlen : its.toArray.size * k.toNat ≤ sizeLine := by rw [List.size_toArray, ← hl]; exact hz
  have hcap : ¬ its.toArray.size * k.toNat > (2 ^ 63 - 1) / 8 := by
    have : (sizeLine : Nat) ≤ (2 ^ 63 - 1) / 8 := by decide
    omega
  have hfit : ¬ (!Builtin.List.listFitsIndex k) = true := by
    rw [fitsIndex_both h1 h2]
    exact Bool.false_ne_true
  have hlong : ¬ Builtin.List.listTooLong (its.toArray.size * k.toNat) = true := by
    rw [notLongL hlen]
    exact Bool.false_ne_true
  have hnew : List.foldl (fun x1 x2 => x1 ++ x2) #[] (List.replicate (if its.toArray.isEmpty = true then 0 else k.toNat) its.toArray) = (List.replicate k.toNat its).flatten.toArray := by
    have f0 : ∀ m : Nat, List.foldl (fun x1 x2 => x1 ++ x2) #[] (List.replicate m its.toArray) = (List.replicate m its).flatten.toArray := fun m => by
      have := foldl_rep its m []
      rw [List.nil_append] at this
      exact this
    rw [f0]
    cases its with
    | nil => simp
    | cons a r' => rw [if_neg (by simp)]
  refine wpAny_binaryOp_repeat_ref (T := "list") (U := "int") (by decide) ⟨_, e, rfl⟩ (fun s' => typeIs_int s' k t) noFill_list_mul F.fills_int_mul F.slot_int_rmul repeat_list F.slot_int_index.lookup
    (call_meets F.slot_int_rmul (typeIs_int s k t) F.entry_int_rmul (F.args_int_rmul_2 _ _) (int_rmul_listW k t l its.toArray n od osl)
      ⟨e, rfl, ⟨_, e, rfl⟩, call_meets F.slot_list_mul ⟨_, e, rfl⟩ F.entry_list_mul (F.args_list_mul_2 _ _) (list_mulW l its.toArray n od osl k t hfit hcap hlong) ⟨e, ?_⟩⟩)
  rw [hnew]
  exact ⟨.ref _, _, I.lnew (t' := s.toks) (r.rep k.toNat) (by rw [PyProof.Rows.lm_len_rep_flat, Nat.mul_comm]; exact hz), rfl, q _ I.fresh⟩
theorem opD_mul : OpR X (binaryOp .Mult) (rD X.KW (binD .Mult)) := by
  intro pins s σ H x y v u Q I rx ry h
  obtain ⟨S, G, c, d, e, r, sm, st, hx, hy, hr, q⟩ := h
  cases d <;> cases e <;> simp only [binD, reduceCtorEq] at hr
  · cases hx; cases hy
    split at hr
    · cases hr
      rename_i hz
      exact op_mul pins s σ H _ _ v u Q I rx ry ⟨_, _, rfl, rfl, hz, q.plain sm st (.int _)⟩
    · cases hr
  · cases hx; cases hy
    split at hr
    · cases hr
      rename_i hz
      exact op_repS pins s σ H _ _ v u Q I rx ry ⟨_, _, rfl, rfl, hz.1, hz.2.1, hz.2.2.1, hz.2.2.2.1, hz.2.2.2.2, q.plain sm st (.str _)⟩
    · cases hr
  · obtain ⟨a, vs, rfl, ha, da⟩ := hx
    cases hy
    split at hr
    · cases hr
      rename_i hz
      have l1 := dpAll_length da
      exact op_repL pins s σ H _ _ v u Q I rx ry ⟨a, _, vs, rfl, rfl, ha, by omega, by omega, by rw [l1]; exact hz.2.2, q.lst sm st (dpAll_rep da _)⟩
    · cases hr
  · obtain ⟨a, vs, rfl, ha, da⟩ := hx
    cases hy
    split at hr
    · cases hr
      rename_i hz
      exact op_rep1 pins s σ H _ _ v u Q I rx ry ⟨a, _, vs, rfl, rfl, same_sqT sm ha, .inr hz, by omega, by omega, q.plain sm st (.tup ha da)⟩
    · split at hr
      · cases hr
        rename_i hz
        obtain ⟨rfl, h1, h2⟩ := hz
        cases da
        exact op_rep1 pins s σ H _ _ v u Q I rx ry ⟨a, _, [], rfl, rfl, same_sqT sm ha, .inl rfl, h1, h2, q.plain sm st (.tup ha .nil)⟩
      · split at hr
        · cases hr
          rename_i hz
          have l1 := dpAll_length da
          have n1 : vs ≠ [] := fun e => by
            subst e
            cases da
            exact hz.1 rfl
          exact op_repT pins s σ H _ _ v u Q I rx ry ⟨a, _, vs, rfl, rfl, same_sqT sm ha, n1, hz.2.1, hz.2.2.1, by omega, q.tup sm st (dpAll_rep da _)⟩
        · cases hr
theorem opD_fdiv : OpR X (binaryOp .FloorDiv) (rD X.KW (binD .FloorDiv)) := by
  intro pins s σ H x y v u Q I rx ry h
  obtain ⟨S, G, c, d, e, r, sm, st, hx, hy, hr, q⟩ := h
  cases d <;> cases e <;> simp only [binD, reduceCtorEq] at hr
  cases hx; cases hy
  split at hr
  · cases hr
    rename_i hz
    exact op_fdiv pins s σ H _ _ v u Q I rx ry ⟨_, _, rfl, rfl, hz, q.plain sm st (.int _)⟩
  · cases hr
theorem opD_mod : OpR X (binaryOp .Mod) (rD X.KW (binD .Mod)) := by
  intro pins s σ H x y v u Q I rx ry h
  obtain ⟨S, G, c, d, e, r, sm, st, hx, hy, hr, q⟩ := h
  cases d <;> cases e <;> simp only [binD, reduceCtorEq] at hr
  cases hx; cases hy
  split at hr
  · cases hr
    rename_i hz
    exact op_mod pins s σ H _ _ v u Q I rx ry ⟨_, _, rfl, rfl, hz, q.plain sm st (.int _)⟩
  · cases hr
theorem opD_pow : OpR X (binaryOp .Pow) (rD X.KW (binD .Pow)) := by
  intro pins s σ H x y v u Q I rx ry h
  obtain ⟨S, G, c, d, e, r, sm, st, hx, hy, hr, q⟩ := h
  cases d <;> cases e <;> simp only [binD, reduceCtorEq] at hr
  cases hx; cases hy
  split at hr
  · cases hr
    rename_i hz
    exact op_pow pins s σ H _ _ v u Q I rx ry ⟨_, _, rfl, rfl, hz, q.plain sm st (.int _)⟩
  · cases hr
theorem opD_bin (op : Operator) : OpR X (binaryOp op) (rD X.KW (binD op)) := by
  cases op with
  | Add => exact opD_add
  | Sub => exact opD_sub
  | Mult => exact opD_mul
  | FloorDiv => exact opD_fdiv
  | Mod => exact opD_mod
  | Pow => exact opD_pow
  | _ =>
    intro pins s σ H x y v u Q I rx ry h
    obtain ⟨S, G, c, d, e, r, sm, st, hx, hy, hr, q⟩ := h
    cases d <;> cases e <;> simp only [binD, reduceCtorEq] at hr

/-! ### comparisons -/
def cmpS (op : CmpOp) (d e : D) : Option Sl := (cmpD op d e).map fun k => .fz (.bool k)
theorem opD_eq (hu : X.A.units + 65 < cLine) : OpR X (compareOp .Eq) (rD X.KW (cmpS .Eq)) := by
  intro pins s σ H x y v u Q I rx ry h
  obtain ⟨S, G, c, d, e, r, sm, st, hx, hy, hr, q⟩ := h
  simp only [cmpS, cmpD] at hr
  split at hr
  · rename_i hz
    rw [Bool.and_eq_true] at hz
    cases hr
    exact op_eqD (by omega) pins s σ H _ _ v u Q I rx ry ⟨d, e, Dq.dp _ (hx.dp sm), Dq.dp _ (hy.dp sm), hz.1, hz.2, q.plain sm st (.bl _)⟩
  · cases hr
theorem opD_ne (hu : X.A.units + 65 < cLine) : OpR X (compareOp .NotEq) (rD X.KW (cmpS .NotEq)) := by
  intro pins s σ H x y v u Q I rx ry h
  obtain ⟨S, G, c, d, e, r, sm, st, hx, hy, hr, q⟩ := h
  simp only [cmpS, cmpD] at hr
  split at hr
  · rename_i hz
    rw [Bool.and_eq_true] at hz
    cases hr
    exact op_neD (by omega) pins s σ H _ _ v u Q I rx ry ⟨d, e, Dq.dp _ (hx.dp sm), Dq.dp _ (hy.dp sm), hz.1, hz.2, q.plain sm st (.bl _)⟩
  · cases hr
theorem shaped_depth {d : D} (h : okD d = true) : d.depth ≤ 64 := by
  have h' : (d.canLay0 && decide (d.depth ≤ 64)) = true := h
  rw [Bool.and_eq_true] at h'
  exact of_decide_eq_true h'.2
theorem opD_lt (hu : X.A.units + 65 < cLine) : OpR X (compareOp .Lt) (rD X.KW (cmpS .Lt)) := by
  intro pins s σ H x y v u Q I rx ry h
  obtain ⟨S, G, c, d, e, r, sm, st, hx, hy, hr, q⟩ := h
  cases d <;> cases e <;> simp only [cmpS, cmpD, Option.map_none, Option.map_some, reduceCtorEq] at hr
  · cases hx; cases hy; cases hr
    exact op_lt pins s σ H _ _ v u Q I rx ry ⟨_, _, rfl, rfl, q.plain sm st (.bl _)⟩
  · cases hx; cases hy; cases hr
    exact op_lt_str pins s σ H _ _ v u Q I rx ry ⟨_, _, rfl, rfl, q.plain sm st (.bl _)⟩
  · split at hr
    · rename_i xs ys hz
      rw [Bool.and_eq_true, Bool.and_eq_true] at hz
      obtain ⟨⟨h1, h2⟩, h3⟩ := hz
      cases hr
      obtain ⟨as, r1⟩ := Dp.reads I _ x v (Dq.dp _ (hx.dp sm)) rx
      obtain ⟨bs, r2⟩ := Dp.reads I _ y u (Dq.dp _ (hy.dp sm)) ry
      have d1 := shaped_depth h2
      exact PySem.W.lt_data r1 r2 h1 (fun z => nomatch z) (Nat.lt_of_le_of_lt (Nat.add_le_add_left (Nat.le_trans (Nat.min_le_left _ _) d1) _) (by omega)) ⟨.bl _, H, I, rfl, q.plain sm st (.bl _)⟩
    · cases hr
theorem opD_le : OpR X (compareOp .LtE) (rD X.KW (cmpS .LtE)) := by
  intro pins s σ H x y v u Q I rx ry h
  obtain ⟨S, G, c, d, e, r, sm, st, hx, hy, hr, q⟩ := h
  cases d <;> cases e <;> simp only [cmpS, cmpD, Option.map_none, Option.map_some, reduceCtorEq] at hr
  cases hx; cases hy; cases hr
  exact op_le pins s σ H _ _ v u Q I rx ry ⟨_, _, rfl, rfl, q.plain sm st (.bl _)⟩
theorem opD_gt : OpR X (compareOp .Gt) (rD X.KW (cmpS .Gt)) := by
  intro pins s σ H x y v u Q I rx ry h
  obtain ⟨S, G, c, d, e, r, sm, st, hx, hy, hr, q⟩ := h
  cases d <;> cases e <;> simp only [cmpS, cmpD, Option.map_none, Option.map_some, reduceCtorEq] at hr
  · cases hx; cases hy; cases hr
    exact op_gt pins s σ H _ _ v u Q I rx ry ⟨_, _, rfl, rfl, q.plain sm st (.bl _)⟩
  · cases hx; cases hy; cases hr
    exact op_gt_str pins s σ H _ _ v u Q I rx ry ⟨_, _, rfl, rfl, q.plain sm st (.bl _)⟩
theorem opD_ge : OpR X (compareOp .GtE) (rD X.KW (cmpS .GtE)) := by
  intro pins s σ H x y v u Q I rx ry h
  obtain ⟨S, G, c, d, e, r, sm, st, hx, hy, hr, q⟩ := h
  cases d <;> cases e <;> simp only [cmpS, cmpD, Option.map_none, Option.map_some, reduceCtorEq] at hr
  cases hx; cases hy; cases hr
  exact op_ge pins s σ H _ _ v u Q I rx ry ⟨_, _, rfl, rfl, q.plain sm st (.bl _)⟩
theorem str_one {x : Str} {c : Nat} (h : x.cps.toList = [c]) : x = ⟨#[c]⟩ := PySem.W.str_of_cps (by rw [h])
theorem in_core (hu : X.A.units + 65 < cLine) {pins : List (Addr × Obj)} {s : Shared} {σ : L2.St} {H G : Hp} {x y : V} {v u : Value} {Q : VK} {d : D} {ds : List D} (sm : Same G H) (I : Inv X pins σ H s) (rx : RelV x v) (ry : RelV y u)
    (hx : Vw X.KW G H x d) (hd : okD d = true) (hy : (Vw X.KW G H y (.list ds) ∧ okD (.list ds) = true) ∨ (Vw X.KW G H y (.tuple ds) ∧ okD (.tuple ds) = true)) (q : Q (.bl (ds.any fun z => PyData.eqv z d)) H) :
    wpAny (model X.prog X.w) X.A (compareOp .In v u) (EP X pins σ Q) X.xe s := by
  rcases hy with ⟨hy, se⟩ | ⟨hy, se⟩
  · exact op_inD hu pins s σ H _ _ v u Q I rx ry ⟨d, ds, Dq.dp _ (hx.dp sm), Dq.dp _ (hy.dp sm), hd, se, q⟩
  · obtain ⟨as, r1⟩ := Dp.reads I _ x v (Dq.dp _ (hx.dp sm)) rx
    obtain ⟨bs, r2⟩ := Dp.reads I _ y u (Dq.dp _ (hy.dp sm)) ry
    exact SeqAt.in_tuple_reads r2 r1 (SeqAt.canLay_of_shaped se) (SeqAt.canLay_of_shaped hd) (room_in_shaped hd hu) ⟨.bl _, H, I, rfl, q⟩
theorem notIn_core (hu : X.A.units + 65 < cLine) {pins : List (Addr × Obj)} {s : Shared} {σ : L2.St} {H G : Hp} {x y : V} {v u : Value} {Q : VK} {d : D} {ds : List D} (sm : Same G H) (I : Inv X pins σ H s) (rx : RelV x v) (ry : RelV y u)
    (hx : Vw X.KW G H x d) (hd : okD d = true) (hy : (Vw X.KW G H y (.list ds) ∧ okD (.list ds) = true) ∨ (Vw X.KW G H y (.tuple ds) ∧ okD (.tuple ds) = true)) (q : Q (.bl (!ds.any fun z => PyData.eqv z d)) H) :
    wpAny (model X.prog X.w) X.A (compareOp .NotIn v u) (EP X pins σ Q) X.xe s := by
  rcases hy with ⟨hy, se⟩ | ⟨hy, se⟩
  · exact op_notInD hu pins s σ H _ _ v u Q I rx ry ⟨d, ds, Dq.dp _ (hx.dp sm), Dq.dp _ (hy.dp sm), hd, se, q⟩
  · obtain ⟨as, r1⟩ := Dp.reads I _ x v (Dq.dp _ (hx.dp sm)) rx
    obtain ⟨bs, r2⟩ := Dp.reads I _ y u (Dq.dp _ (hy.dp sm)) ry
    exact SeqAt.notIn_tuple_reads r2 r1 (SeqAt.canLay_of_shaped se) (SeqAt.canLay_of_shaped hd) (room_in_shaped hd hu) ⟨.bl _, H, I, rfl, q⟩
theorem opD_in (hu : X.A.units + 65 < cLine) : OpR X (compareOp .In) (rD X.KW (cmpS .In)) := by
  intro pins s σ H x y v u Q I rx ry h
  obtain ⟨S, G, c, d, e, r, sm, st, hx, hy, hr, q⟩ := h
  cases e with
  | list ds =>
    have hr' : (if okD d && okD (.list ds) then some (ds.any fun z => PyData.eqv z d) else none).map (fun k => Sl.fz (.bool k)) = some r := by cases d <;> exact hr
    split at hr'
    · rename_i hz
      rw [Bool.and_eq_true] at hz
      cases hr'
      exact in_core hu sm I rx ry hx hz.1 (.inl ⟨hy, hz.2⟩) (q.plain sm st (.bl _))
    · cases hr'
  | tuple ds =>
    have hr' : (if okD d && okD (.tuple ds) then some (ds.any fun z => PyData.eqv z d) else none).map (fun k => Sl.fz (.bool k)) = some r := by cases d <;> exact hr
    split at hr'
    · rename_i hz
      rw [Bool.and_eq_true] at hz
      cases hr'
      exact in_core hu sm I rx ry hx hz.1 (.inr ⟨hy, hz.2⟩) (q.plain sm st (.bl _))
    · cases hr'
  | str z =>
    cases d <;> simp only [cmpS, cmpD, Option.map_none, Option.map_some, reduceCtorEq] at hr
    cases hx; cases hy
    split at hr
    · rename_i w cc hc
      cases hr
      rw [str_one hc] at rx
      exact op_in_sign pins s σ H _ _ v u Q I rx ry ⟨cc, z, rfl, rfl, q.plain sm st (.bl _)⟩
    · cases hr
      obtain ⟨t, rfl⟩ := rx
      obtain ⟨t', rfl⟩ := ry
      exact PyProof.Rows.in_str (fin_bl I (q.plain sm st (.bl _)) rfl)
  | _ => cases d <;> simp only [cmpS, cmpD, Option.map_none, Option.map_some, reduceCtorEq] at hr
theorem opD_notIn (hu : X.A.units + 65 < cLine) : OpR X (compareOp .NotIn) (rD X.KW (cmpS .NotIn)) := by
  intro pins s σ H x y v u Q I rx ry h
  obtain ⟨S, G, c, d, e, r, sm, st, hx, hy, hr, q⟩ := h
  cases e with
  | list ds =>
    have hr' : (if okD d && okD (.list ds) then some (!ds.any fun z => PyData.eqv z d) else none).map (fun k => Sl.fz (.bool k)) = some r := by cases d <;> exact hr
    split at hr'
    · rename_i hz
      rw [Bool.and_eq_true] at hz
      cases hr'
      exact notIn_core hu sm I rx ry hx hz.1 (.inl ⟨hy, hz.2⟩) (q.plain sm st (.bl _))
    · cases hr'
  | tuple ds =>
    have hr' : (if okD d && okD (.tuple ds) then some (!ds.any fun z => PyData.eqv z d) else none).map (fun k => Sl.fz (.bool k)) = some r := by cases d <;> exact hr
    split at hr'
    · rename_i hz
      rw [Bool.and_eq_true] at hz
      cases hr'
      exact notIn_core hu sm I rx ry hx hz.1 (.inr ⟨hy, hz.2⟩) (q.plain sm st (.bl _))
    · cases hr'
  | str z =>
    cases d <;> simp only [cmpS, cmpD, Option.map_none, Option.map_some, reduceCtorEq] at hr
    cases hx; cases hy
    split at hr
    · rename_i w cc hc
      cases hr
      rw [str_one hc] at rx
      exact op_notIn_sign pins s σ H _ _ v u Q I rx ry ⟨cc, z, rfl, rfl, q.plain sm st (.bl _)⟩
    · cases hr
  | _ => cases d <;> simp only [cmpS, cmpD, Option.map_none, Option.map_some, reduceCtorEq] at hr
theorem opD_is : OpR X (compareOp .Is) (rD X.KW (cmpS .Is)) := by
  intro pins s σ H x y v u Q I rx ry h
  obtain ⟨S, G, c, d, e, r, sm, st, hx, hy, hr, q⟩ := h
  cases e with
  | none =>
    cases hy
    have hq : Q (.bl (decide (x = .non))) H := by
      cases d <;> simp only [cmpS, cmpD, Option.map_none, Option.map_some, reduceCtorEq] at hr <;> first
        | (cases hx; cases hr; exact q.plain sm st (.bl _))
        | (obtain ⟨a, vs, rfl, _⟩ := hx; cases hr; exact q.plain sm st (.bl _))
        | exact hx.elim
    exact op_isN pins s σ H _ _ v u Q I rx ry ⟨rfl, hq⟩
  | bool b =>
    cases d <;> simp only [cmpS, cmpD, Option.map_none, Option.map_some, reduceCtorEq] at hr
    cases hx; cases hy; cases hr
    exact op_is_bl pins s σ H _ _ v u Q I rx ry ⟨_, _, rfl, rfl, q.plain sm st (.bl _)⟩
  | _ => cases d <;> simp only [cmpS, cmpD, Option.map_none, Option.map_some, reduceCtorEq] at hr
theorem opD_isNot : OpR X (compareOp .IsNot) (rD X.KW (cmpS .IsNot)) := by
  intro pins s σ H x y v u Q I rx ry h
  obtain ⟨S, G, c, d, e, r, sm, st, hx, hy, hr, q⟩ := h
  cases e with
  | none =>
    cases hy
    have hq : Q (.bl (!decide (x = .non))) H := by
      cases d <;> simp only [cmpS, cmpD, Option.map_none, Option.map_some, reduceCtorEq] at hr <;> first
        | (cases hx; cases hr; exact q.plain sm st (.bl _))
        | (obtain ⟨a, vs, rfl, _⟩ := hx; cases hr; exact q.plain sm st (.bl _))
        | exact hx.elim
    exact op_notN pins s σ H _ _ v u Q I rx ry ⟨rfl, hq⟩
  | bool b =>
    cases d <;> simp only [cmpS, cmpD, Option.map_none, Option.map_some, reduceCtorEq] at hr
    cases hx; cases hy; cases hr
    exact op_isnot_bl pins s σ H _ _ v u Q I rx ry ⟨_, _, rfl, rfl, q.plain sm st (.bl _)⟩
  | _ => cases d <;> simp only [cmpS, cmpD, Option.map_none, Option.map_some, reduceCtorEq] at hr
theorem opD_cmp (hu : X.A.units + 65 < cLine) (op : CmpOp) : OpR X (compareOp op) (rD X.KW (cmpS op)) := by
  cases op with
  | Eq => exact opD_eq hu
  | NotEq => exact opD_ne hu
  | Lt => exact opD_lt hu
  | LtE => exact opD_le
  | Gt => exact opD_gt
  | GtE => exact opD_ge
  | Is => exact opD_is
  | IsNot => exact opD_isNot
  | In => exact opD_in hu
  | NotIn => exact opD_notIn hu
end
end SB
/-! Built-in functions on data, subscripts, slices. -/
namespace SB
open PySem PySem.Spec PyProof.Rows L2

abbrev VwA (K : KW) (G H : Hp) : List V → List D → Prop := Paired (Vw K G H)
def rC (K : KW) (g : List D → Option Sl) : List V → Hp → VK → Prop := fun vs H Q => ∃ S G c ds s, Same G H ∧ Sta S c G H ∧ VwA K G H vs ds ∧ g ds = some s ∧ Then K S c G H s Q
section
variable {X : Cx} {K : KW} {G H : Hp}
theorem vwA1 {vs : List V} {d : D} (h : VwA K G H vs [d]) : ∃ v, vs = [v] ∧ Vw K G H v d := by
  cases h with
  | cons h1 h2 => cases h2; exact ⟨_, rfl, h1⟩
theorem vwA2 {vs : List V} {d e : D} (h : VwA K G H vs [d, e]) : ∃ v w, vs = [v, w] ∧ Vw K G H v d ∧ Vw K G H w e := by
  cases h with
  | cons h1 h2 => cases h2 with
    | cons h3 h4 => cases h4; exact ⟨_, _, rfl, h1, h3⟩
theorem bools_dq : ∀ {ds : List D} {bs : List Bool} {vs : List V}, boolsOf ds = some bs → DqAll K G vs ds → vs = bs.map V.bl
  | [], bs, _, e, h => by
    cases h
    cases e
    rfl
  | d :: ds, bs, _, e, h => by
    cases h with
    | cons h1 h2 =>
      cases d with
      | bool b =>
        cases h1
        cases q : boolsOf ds with
        | none => simp only [boolsOf, q, Option.map_none, reduceCtorEq] at e
        | some cs =>
          simp only [boolsOf, q, Option.map_some, Option.some.injEq] at e
          subst e
          rw [bools_dq q h2]
          rfl
      | _ => simp only [boolsOf, reduceCtorEq] at e
theorem ints_dq : ∀ {ds : List D} {ns : List Int} {vs : List V}, intsOf ds = some ns → DqAll K G vs ds → vs = ns.map V.int
  | [], ns, _, e, h => by
    cases h
    cases e
    rfl
  | d :: ds, ns, _, e, h => by
    cases h with
    | cons h1 h2 =>
      cases d with
      | int b =>
        cases h1
        cases q : intsOf ds with
        | none => simp only [intsOf, q, Option.map_none, reduceCtorEq] at e
        | some cs =>
          simp only [intsOf, q, Option.map_some, Option.some.injEq] at e
          subst e
          rw [ints_dq q h2]
          rfl
      | _ => simp only [intsOf, reduceCtorEq] at e

theorem callD_len : CallR X (.builtin "len") (rC X.KW (bltD .len)) := by
  intro pins s σ H vs us Q I r h
  obtain ⟨S, G, c, ds, t, sm, st, hv, ht, q⟩ := h
  match ds, hv, ht with
  | [.list xs], hv, ht =>
    obtain ⟨v, rfl, a, ws, rfl, h1, h2⟩ := vwA1 hv
    simp only [bltD, Option.some.injEq] at ht
    subst ht
    refine call_len_seq pins s σ H _ us Q I r ⟨a, ws, rfl, .inl h1, ?_⟩
    rw [dpAll_length h2]
    exact q.plain sm st (.int _)
  | [.tuple xs], hv, ht =>
    obtain ⟨v, rfl, a, ws, rfl, h1, h2⟩ := vwA1 hv
    simp only [bltD, Option.some.injEq] at ht
    subst ht
    refine call_len_seq pins s σ H _ us Q I r ⟨a, ws, rfl, .inr (same_sqT sm h1), ?_⟩
    rw [dpAll_length h2]
    exact q.plain sm st (.int _)
  | [.str x], hv, ht =>
    obtain ⟨v, rfl, hx⟩ := vwA1 hv
    cases hx
    simp only [bltD] at ht
    split at ht
    · rename_i hz
      cases ht
      exact call_len_str pins s σ H _ us Q I r ⟨x, rfl, hz, q.plain sm st (.int _)⟩
    · cases ht
  | [.none], _, ht => cases ht
  | [.bool _], _, ht => cases ht
  | [.int _], _, ht => cases ht
  | [.dict _], _, ht => cases ht
  | [], _, ht => cases ht
  | a :: b :: l, _, ht => cases a <;> cases ht
theorem callD_all (hc : X.calm = true) : CallR X (.builtin "all") (rC X.KW (bltD .all)) := by
  intro pins s σ H vs us Q I r h
  obtain ⟨S, G, c, ds, t, sm, st, hv, ht, q⟩ := h
  match ds, hv, ht with
  | [.list xs], hv, ht =>
    obtain ⟨v, rfl, a, ws, rfl, h1, h2⟩ := vwA1 hv
    cases e : boolsOf xs with
    | none => simp only [bltD, e, Option.map_none, reduceCtorEq] at ht
    | some bs =>
      simp only [bltD, e, Option.map_some, Option.some.injEq] at ht
      subst ht
      rw [bools_dq e h2] at h1
      exact cr_all hc pins s σ H _ us Q I r ⟨a, bs, rfl, h1, q.plain sm st (.bl _)⟩
  | [.tuple _], _, ht => cases ht
  | [.str _], _, ht => cases ht
  | [.none], _, ht => cases ht
  | [.bool _], _, ht => cases ht
  | [.int _], _, ht => cases ht
  | [.dict _], _, ht => cases ht
  | [], _, ht => cases ht
  | a :: b :: l, _, ht => cases a <;> cases ht
theorem callD_any (hc : X.calm = true) : CallR X (.builtin "any") (rC X.KW (bltD .any)) := by
  intro pins s σ H vs us Q I r h
  obtain ⟨S, G, c, ds, t, sm, st, hv, ht, q⟩ := h
  match ds, hv, ht with
  | [.list xs], hv, ht =>
    obtain ⟨v, rfl, a, ws, rfl, h1, h2⟩ := vwA1 hv
    cases e : boolsOf xs with
    | none => simp only [bltD, e, Option.map_none, reduceCtorEq] at ht
    | some bs =>
      simp only [bltD, e, Option.map_some, Option.some.injEq] at ht
      subst ht
      rw [bools_dq e h2] at h1
      exact cr_any hc pins s σ H _ us Q I r ⟨a, bs, rfl, h1, q.plain sm st (.bl _)⟩
  | [.tuple _], _, ht => cases ht
  | [.str _], _, ht => cases ht
  | [.none], _, ht => cases ht
  | [.bool _], _, ht => cases ht
  | [.int _], _, ht => cases ht
  | [.dict _], _, ht => cases ht
  | [], _, ht => cases ht
  | a :: b :: l, _, ht => cases a <;> cases ht
theorem callD_sum (hc : X.calm = true) : CallR X (.builtin "sum") (rC X.KW (bltD .sum)) := by
  intro pins s σ H vs us Q I r h
  obtain ⟨S, G, c, ds, t, sm, st, hv, ht, q⟩ := h
  match ds, hv, ht with
  | [.list xs], hv, ht =>
    obtain ⟨v, rfl, a, ws, rfl, h1, h2⟩ := vwA1 hv
    cases e : intsOf xs with
    | none => simp only [bltD, e, Option.map_none, reduceCtorEq] at ht
    | some bs =>
      simp only [bltD, e, Option.map_some, Option.some.injEq] at ht
      subst ht
      rw [ints_dq e h2] at h1
      exact cr_sum hc pins s σ H _ us Q I r ⟨a, bs, rfl, h1, q.plain sm st (.int _)⟩
  | [.tuple _], _, ht => cases ht
  | [.str _], _, ht => cases ht
  | [.none], _, ht => cases ht
  | [.bool _], _, ht => cases ht
  | [.int _], _, ht => cases ht
  | [.dict _], _, ht => cases ht
  | [], _, ht => cases ht
  | a :: b :: l, _, ht => cases a <;> cases ht
/-! ### a text, gathered into a list -/
theorem signs_dq (x : Str) : DqAll K G (x.cps.toList.map fun c => V.str ⟨#[c]⟩) (signs x) := by
  unfold signs
  induction x.cps.toList with
  | nil => exact .nil
  | cons c l ih => exact .cons (.str _) ih
theorem signs_vals {x : Str} {acc : Array Value} (h : ItemsOf (SignAt x) acc x.cps.size) : Vals (x.cps.toList.map fun c => V.str ⟨#[c]⟩) acc.toList := by
  have key : ∀ (l : List Nat) (us : List Value), us.length = l.length → (∀ (i : Nat) c, l[i]? = some c → ∃ t, us[i]? = some (.str ⟨#[c]⟩ t)) → Vals (l.map fun c => V.str ⟨#[c]⟩) us := by
    intro l
    induction l with
    | nil =>
      intro us hl _
      cases us with
      | nil => exact .nil
      | cons _ _ => cases hl
    | cons c l ih =>
      intro us hl hi
      cases us with
      | nil => cases hl
      | cons u us =>
        obtain ⟨t, e⟩ := hi 0 c rfl
        simp only [List.getElem?_cons_zero, Option.some.injEq] at e
        refine .cons ⟨t, e⟩ (ih us (Nat.succ.inj hl) fun i d hd => hi (i + 1) d hd)
  refine key _ _ (by simp [h.1]) fun i c hc => ?_
  have hi : i < acc.size := by
    have := (List.getElem?_eq_some_iff.mp hc).1
    rw [h.1]
    simpa using this
  obtain ⟨c', t, e1, e2⟩ := h.2 i _ (Array.getElem?_eq_getElem hi)
  rw [← Array.getElem?_toList, hc] at e1
  cases e1
  exact ⟨t, by rw [Array.getElem?_toList, Array.getElem?_eq_getElem hi, e2]⟩
def rListS : List V → Hp → VK → Prop := fun vs H Q => ∃ x : Str, vs = [.str x] ∧ x.length ≤ sizeLine ∧ ∀ p, H p = none → Q (.ref p) (upd H p (.lst (x.cps.toList.map fun c => V.str ⟨#[c]⟩)))
theorem callS_list (hc : X.calm = true) : CallR X (.type "list") rListS := by
  intro pins s σ H vs us Q I r h
  obtain ⟨x, rfl, hz, q⟩ := h
  obtain ⟨u, rfl, t, rfl⟩ := vals1 r
  refine PySem.call_list_str (I.ok.hd hc) x t (fun h' tk acc c hk e hi => ?_) hz
  have hv := signs_vals hi
  refine ⟨.ref s.heap.objs.size, _, I.laid (t' := tk) hk (Nat.le_refl _) (show ObjOk X.prog X.w _ h' _ (.lst _) from ⟨?_, acc.toList, c, hv, by rw [Array.toArray_toList]; exact e⟩), rfl, q _ (I.hok.fresh (Nat.le_refl _))⟩
  rw [List.length_map, Array.length_toList]
  exact hz
theorem callD_list (hc : X.calm = true) : CallR X (.type "list") (rC X.KW (bltD .list)) := by
  intro pins s σ H vs us Q I r h
  obtain ⟨S, G, c, ds, t, sm, st, hv, ht, q⟩ := h
  match ds, hv, ht with
  | [.list xs], hv, ht =>
    obtain ⟨v, rfl, a, ws, rfl, h1, h2⟩ := vwA1 hv
    simp only [bltD, Option.some.injEq] at ht
    subst ht
    exact call_list_of pins s σ H _ us Q I r ⟨a, ws, rfl, .inl h1, q.lst sm st h2⟩
  | [.tuple xs], hv, ht =>
    obtain ⟨v, rfl, a, ws, rfl, h1, h2⟩ := vwA1 hv
    simp only [bltD, Option.some.injEq] at ht
    subst ht
    exact call_list_of pins s σ H _ us Q I r ⟨a, ws, rfl, .inr (same_sqT sm h1), q.lst sm st h2⟩
  | [.str x], hv, ht =>
    obtain ⟨v, rfl, hx⟩ := vwA1 hv
    cases hx
    simp only [bltD] at ht
    split at ht
    · rename_i hz
      cases ht
      exact callS_list hc pins s σ H _ us Q I r ⟨x, rfl, hz, q.lst sm st (signs_dq x)⟩
    · cases ht
  | [.none], _, ht => cases ht
  | [.bool _], _, ht => cases ht
  | [.int _], _, ht => cases ht
  | [.dict _], _, ht => cases ht
  | [], _, ht => cases ht
  | a :: b :: l, _, ht => cases a <;> cases ht
theorem callD_tuple : CallR X (.type "tuple") (rC X.KW (bltD .tuple)) := by
  intro pins s σ H vs us Q I r h
  obtain ⟨S, G, c, ds, t, sm, st, hv, ht, q⟩ := h
  match ds, hv, ht with
  | [.list xs], hv, ht =>
    obtain ⟨v, rfl, a, ws, rfl, h1, h2⟩ := vwA1 hv
    simp only [bltD, Option.some.injEq] at ht
    subst ht
    exact call_tuple_of pins s σ H _ us Q I r ⟨a, ws, rfl, .inl ⟨h1, q.tup sm st h2⟩⟩
  | [.tuple xs], hv, ht =>
    obtain ⟨v, rfl, a, ws, rfl, h1, h2⟩ := vwA1 hv
    simp only [bltD, Option.some.injEq] at ht
    subst ht
    exact call_tuple_of pins s σ H _ us Q I r ⟨a, ws, rfl, .inr ⟨same_sqT sm h1, q.plain sm st (.tup h1 h2)⟩⟩
  | [.str _], _, ht => cases ht
  | [.none], _, ht => cases ht
  | [.bool _], _, ht => cases ht
  | [.int _], _, ht => cases ht
  | [.dict _], _, ht => cases ht
  | [], _, ht => cases ht
  | a :: b :: l, _, ht => cases a <;> cases ht
theorem foldl_min : ∀ (ns : List Int) (n : Int), ns.foldl min n ∈ n :: ns ∧ ∀ y ∈ n :: ns, ns.foldl min n ≤ y
  | [], n => ⟨List.mem_cons_self, fun y hy => by rw [List.mem_singleton.mp hy]; exact Int.le_refl _⟩
  | m :: ns, n => by
    obtain ⟨h1, h2⟩ := foldl_min ns (min n m)
    rw [List.foldl_cons]
    refine ⟨?_, fun y hy => ?_⟩
    · rcases List.mem_cons.mp h1 with e | e
      · rw [e]
        by_cases h : n ≤ m
        · rw [Int.min_eq_left h]; exact List.mem_cons_self
        · rw [Int.min_eq_right (by omega)]; exact List.mem_cons_of_mem _ List.mem_cons_self
      · exact List.mem_cons_of_mem _ (List.mem_cons_of_mem _ e)
    · have h3 := h2 (min n m) List.mem_cons_self
      rcases List.mem_cons.mp hy with rfl | hy
      · omega
      · rcases List.mem_cons.mp hy with rfl | hy
        · omega
        · exact h2 y (List.mem_cons_of_mem _ hy)
theorem foldl_max : ∀ (ns : List Int) (n : Int), ns.foldl max n ∈ n :: ns ∧ ∀ y ∈ n :: ns, y ≤ ns.foldl max n
  | [], n => ⟨List.mem_cons_self, fun y hy => by rw [List.mem_singleton.mp hy]; exact Int.le_refl _⟩
  | m :: ns, n => by
    obtain ⟨h1, h2⟩ := foldl_max ns (max n m)
    rw [List.foldl_cons]
    refine ⟨?_, fun y hy => ?_⟩
    · rcases List.mem_cons.mp h1 with e | e
      · rw [e]
        by_cases h : n ≤ m
        · rw [Int.max_eq_right h]; exact List.mem_cons_of_mem _ List.mem_cons_self
        · rw [Int.max_eq_left (by omega)]; exact List.mem_cons_self
      · exact List.mem_cons_of_mem _ (List.mem_cons_of_mem _ e)
    · have h3 := h2 (max n m) List.mem_cons_self
      rcases List.mem_cons.mp hy with rfl | hy
      · omega
      · rcases List.mem_cons.mp hy with rfl | hy
        · omega
        · exact h2 y (List.mem_cons_of_mem _ hy)
theorem cr_minL (hc : X.calm = true) : CallR X (.builtin "min") (fun vs H Q => ∃ (a : Addr) (n : Int) (ns : List Int), vs = [V.ref a] ∧ SqL X.K H a ((n :: ns).map V.int) ∧ Q (.int (ns.foldl min n)) H) := by
  intro pins s σ H vs us Q I r h
  obtain ⟨a, n, ns, rfl, h1, q⟩ := h
  refine cr_min hc pins s σ H _ us Q I r ⟨a, n :: ns, rfl, h1, by simp, fun m hm hy => ?_⟩
  obtain ⟨g1, g2⟩ := foldl_min ns n
  have e : m = ns.foldl min n := by
    have := g2 m hm
    have := hy _ g1
    omega
  rw [e]
  exact q
theorem cr_maxL (hc : X.calm = true) : CallR X (.builtin "max") (fun vs H Q => ∃ (a : Addr) (n : Int) (ns : List Int), vs = [V.ref a] ∧ SqL X.K H a ((n :: ns).map V.int) ∧ Q (.int (ns.foldl max n)) H) := by
  intro pins s σ H vs us Q I r h
  obtain ⟨a, n, ns, rfl, h1, q⟩ := h
  refine cr_max hc pins s σ H _ us Q I r ⟨a, n :: ns, rfl, h1, by simp, fun m hm hy => ?_⟩
  obtain ⟨g1, g2⟩ := foldl_max ns n
  have e : m = ns.foldl max n := by
    have := g2 m hm
    have := hy _ g1
    omega
  rw [e]
  exact q
theorem callD_max (hc : X.calm = true) : CallR X (.builtin "max") (rC X.KW (bltD .max)) := by
  intro pins s σ H vs us Q I r h
  obtain ⟨S, G, c, ds, t, sm, st, hv, ht, q⟩ := h
  match ds, hv, ht with
  | [.list xs], hv, ht =>
    obtain ⟨v, rfl, a, ws, rfl, h1, h2⟩ := vwA1 hv
    cases e : intsOf xs with
    | none => simp only [bltD, e, reduceCtorEq] at ht
    | some ns =>
      cases ns with
      | nil => simp only [bltD, e, reduceCtorEq] at ht
      | cons n ns =>
        simp only [bltD, e, Option.some.injEq] at ht
        subst ht
        rw [ints_dq e h2] at h1
        exact cr_maxL hc pins s σ H _ us Q I r ⟨a, n, ns, rfl, h1, q.plain sm st (.int _)⟩
  | [.tuple _], _, ht => cases ht
  | [.str _], _, ht => cases ht
  | [.none], _, ht => cases ht
  | [.bool _], _, ht => cases ht
  | [.int _], _, ht => cases ht
  | [.dict _], _, ht => cases ht
  | [], _, ht => cases ht
  | a :: b :: l, _, ht => cases a <;> cases ht
theorem log_small {n : Nat} (h : n < 1000000) : n.log2 < 1920 := by
  by_cases z : n = 0
  · subst z; decide
  · rw [Nat.log2_lt z]
    exact Nat.lt_of_lt_of_le h (Nat.le_trans (show 1000000 ≤ 2 ^ 20 by decide) (Nat.pow_le_pow_right (by decide) (by decide)))
theorem callD_str : CallR X (.type "str") (rC X.KW (bltD .str)) := by
  intro pins s σ H vs us Q I r h
  obtain ⟨S, G, c, ds, t, sm, st, hv, ht, q⟩ := h
  match ds, hv, ht with
  | [.int i], hv, ht =>
    obtain ⟨v, rfl, h1⟩ := vwA1 hv
    cases h1
    simp only [bltD] at ht
    split at ht
    · rename_i hz
      cases ht
      exact call_str_int pins s σ H _ us Q I r ⟨i, rfl, log_small hz, q.plain sm st (.str _)⟩
    · cases ht
  | [.tuple _], _, ht => cases ht
  | [.list _], _, ht => cases ht
  | [.str _], _, ht => cases ht
  | [.none], _, ht => cases ht
  | [.bool _], _, ht => cases ht
  | [.dict _], _, ht => cases ht
  | [], _, ht => cases ht
  | a :: b :: l, _, ht => cases a <;> cases ht
theorem callD_int : CallR X (.type "int") (rC X.KW (bltD .int)) := by
  intro pins s σ H vs us Q I r h
  obtain ⟨S, G, c, ds, t, sm, st, hv, ht, q⟩ := h
  match ds, hv, ht with
  | [.str x], hv, ht =>
    obtain ⟨v, rfl, h1⟩ := vwA1 hv
    cases h1
    simp only [bltD] at ht
    split at ht
    · rename_i hz
      obtain ⟨n, hn, rfl⟩ := Option.map_eq_some_iff.mp ht
      exact call_int_str pins s σ H _ us Q I r ⟨x, n, rfl, hn, hz, q.plain sm st (.int _)⟩
    · cases ht
  | [.tuple _], _, ht => cases ht
  | [.list _], _, ht => cases ht
  | [.int _], _, ht => cases ht
  | [.none], _, ht => cases ht
  | [.bool _], _, ht => cases ht
  | [.dict _], _, ht => cases ht
  | [], _, ht => cases ht
  | a :: b :: l, _, ht => cases a <;> cases ht
theorem callD_min (hc : X.calm = true) : CallR X (.builtin "min") (rC X.KW (bltD .min)) := by
  intro pins s σ H vs us Q I r h
  obtain ⟨S, G, c, ds, t, sm, st, hv, ht, q⟩ := h
  match ds, hv, ht with
  | [.int i, .int j], hv, ht =>
    obtain ⟨v, w, rfl, h1, h2⟩ := vwA2 hv
    cases h1; cases h2
    simp only [bltD, Option.some.injEq] at ht
    subst ht
    exact call_min2 hc pins s σ H _ us Q I r ⟨i, j, rfl, q.plain sm st (.int _)⟩
  | [.list xs], hv, ht =>
    obtain ⟨v, rfl, a, ws, rfl, h1, h2⟩ := vwA1 hv
    cases e : intsOf xs with
    | none => simp only [bltD, e, reduceCtorEq] at ht
    | some ns =>
      cases ns with
      | nil => simp only [bltD, e, reduceCtorEq] at ht
      | cons n ns =>
        simp only [bltD, e, Option.some.injEq] at ht
        subst ht
        rw [ints_dq e h2] at h1
        exact cr_minL hc pins s σ H _ us Q I r ⟨a, n, ns, rfl, h1, q.plain sm st (.int _)⟩
  | [], _, ht => cases ht
  | [.none], _, ht => cases ht
  | [.bool _], _, ht => cases ht
  | [.int _], _, ht => cases ht
  | [.str _], _, ht => cases ht
  | [.tuple _], _, ht => cases ht
  | [.dict _], _, ht => cases ht
  | a :: b :: d :: l, _, ht => cases a <;> cases b <;> cases ht
  | [.int _, .none], _, ht => cases ht
  | [.int _, .bool _], _, ht => cases ht
  | [.int _, .str _], _, ht => cases ht
  | [.int _, .list _], _, ht => cases ht
  | [.int _, .tuple _], _, ht => cases ht
  | [.int _, .dict _], _, ht => cases ht
  | [.none, _], _, ht => cases ht
  | [.bool _, _], _, ht => cases ht
  | [.str _, _], _, ht => cases ht
  | [.list _, _], _, ht => cases ht
  | [.tuple _, _], _, ht => cases ht
  | [.dict _, _], _, ht => cases ht

/-! ### sorted(list) -/
def zipVD : List V → List D → List (V × D)
  | v :: vs, d :: ds => (v, d) :: zipVD vs ds
  | _, _ => []
theorem zip_fst : ∀ {vs : List V} {ds : List D}, vs.length = ds.length → (zipVD vs ds).map (·.1) = vs
  | [], [], _ => rfl
  | v :: vs, d :: ds, h => by
    show v :: (zipVD vs ds).map (·.1) = v :: vs
    rw [zip_fst (Nat.succ.inj h)]
theorem zip_snd : ∀ {vs : List V} {ds : List D}, vs.length = ds.length → (zipVD vs ds).map (·.2) = ds
  | [], [], _ => rfl
  | v :: vs, d :: ds, h => by
    show d :: (zipVD vs ds).map (·.2) = d :: ds
    rw [zip_snd (Nat.succ.inj h)]
theorem zip_dq : ∀ {vs : List V} {ds : List D}, DqAll K G vs ds → ∀ p ∈ zipVD vs ds, Dq K G p.1 p.2
  | _, [], h, p, hp => by
    cases h
    cases hp
  | _, d :: ds, h, p, hp => by
    cases h with
    | cons h1 h2 =>
      rcases List.mem_cons.mp hp with rfl | hp
      · exact h1
      · exact zip_dq h2 p hp
theorem dq_of : ∀ {ps : List (V × D)}, (∀ p ∈ ps, Dq K G p.1 p.2) → DqAll K G (ps.map (·.1)) (ps.map (·.2))
  | [], _ => .nil
  | p :: ps, h => .cons (h p List.mem_cons_self) (dq_of fun q hq => h q (List.mem_cons_of_mem _ hq))
theorem each_vals : ∀ {vs : List V} {ds : List D} {us : List Value}, vs.length = ds.length → Vals vs us → PySem.W.EachIs (fun u (p : V × D) => RelV p.1 u) us (zipVD vs ds)
  | [], [], _, _, .nil => .nil
  | v :: vs, d :: ds, _, h, .cons r t => .cons r (each_vals (Nat.succ.inj h) t)
theorem vals_each : ∀ {us : List Value} {ps : List (V × D)}, PySem.W.EachIs (fun u (p : V × D) => RelV p.1 u) us ps → Vals (ps.map (·.1)) us
  | _, _, .nil => .nil
  | _, _, .cons r t => .cons r (vals_each t)
theorem each_reads {pins : List (Addr × Obj)} {σ : L2.St} {s : Shared} (I : Inv X pins σ H s) (sm : Same G H) : ∀ {vs : List V} {ds : List D} {us : List Value}, DqAll X.KW G vs ds → Vals vs us → PySem.W.EachIs (fun u (p : V × D) => ∃ as, Reads s.heap u p.2 as) us (zipVD vs ds)
  | _, [], _, h, r => by
    cases h
    cases r
    exact .nil
  | _, d :: ds, _, h, r => by
    cases h with
    | cons h1 h2 =>
      cases r with
      | cons r1 r2 =>
        exact .cons (Dp.reads I _ _ _ (Dq.dp _ (dp_mono sm _ h1)) r1) (each_reads I sm h2 r2)
/-! ### isinstance -/
theorem callD_isa {pins : List (Addr × Obj)} {σ : L2.St} {s : Shared} {v : V} {u : Value} {d : D} {Q : VK} (T : Ty) (I : Inv X pins σ H s) (sm : Same G H) (hv : Vw X.KW G H v d) (r : RelV v u) (q : Q (.bl (isaD T d)) H) :
    wpAny (model X.prog X.w) X.A (call (.builtin "isinstance") [u, .type T.nm]) (EP X pins σ Q) X.xe s := by
  obtain ⟨as, rd⟩ := Dp.reads I _ v u (Dq.dp _ (hv.dp sm)) r
  cases T with
  | int => exact PySem.W.isinstance_int_data rd fun tk _ => ⟨.bl _, H, I.tok tk, rfl, q⟩
  | bool => exact PySem.W.isinstance_bool_data rd fun tk _ => ⟨.bl _, H, I.tok tk, rfl, q⟩
  | str => exact PySem.W.isinstance_str_data rd fun tk _ => ⟨.bl _, H, I.tok tk, rfl, q⟩
  | tuple => exact PySem.W.isinstance_tuple_data rd fun tk _ => ⟨.bl _, H, I.tok tk, rfl, q⟩
  | list => exact PySem.W.isinstance_list_data rd fun tk _ => ⟨.bl _, H, I.tok tk, rfl, q⟩

/-! ### subscripts, slices -/
theorem ixD_ok : IxR X (rD X.KW ixD) := by
  intro value slice pins s σ H x y v u Q I rx ry h hs
  obtain ⟨S, G, c, d, e, t, sm, st, hx, hy, ht, q⟩ := h
  cases d <;> cases e <;> simp only [ixD, reduceCtorEq] at ht
  · cases hx; cases hy
    split at ht
    · rename_i hz
      obtain ⟨cc, hcc, rfl⟩ := Option.map_eq_some_iff.mp ht
      exact ix_str value slice pins s σ H _ _ v u Q I rx ry ⟨_, _, cc, rfl, rfl, hz, hcc, q.plain sm st (.str _)⟩ hs
    · cases ht
  · obtain ⟨a, ws, rfl, h1, h2⟩ := hx
    cases hy
    obtain ⟨z, hz, rfl⟩ := Option.map_eq_some_iff.mp ht
    obtain ⟨w, hw, hd⟩ := atI_map h2 hz
    exact ix_list value slice pins s σ H _ _ v u Q I rx ry ⟨a, ws, _, w, rfl, rfl, h1, hw, q.plain sm st hd⟩ hs
  · obtain ⟨a, ws, rfl, h1, h2⟩ := hx
    cases hy
    obtain ⟨z, hz, rfl⟩ := Option.map_eq_some_iff.mp ht
    obtain ⟨w, hw, hd⟩ := atI_map h2 hz
    exact ix_tup value slice pins s σ H _ _ v u Q I rx ry ⟨a, ws, _, w, rfl, rfl, same_sqT sm h1, hw, q.plain sm st hd⟩ hs
def rSlD (K : KW) : V → Option Int → Option Int → Hp → VK → Prop := fun x lo hi H Q => ∃ S G c d s, Same G H ∧ Sta S c G H ∧ Vw K G H x d ∧ slD d lo hi = some s ∧ Then K S c G H s Q
theorem slD_ok : SlR X (rSlD X.KW) := by
  intro pins s σ H x v vl vu lo hi sl Q I rx hs pl pu h
  obtain ⟨S, G, c, d, t, sm, st, hx, ht, q⟩ := h
  cases d <;> simp only [slD, reduceCtorEq, Option.some.injEq] at ht
  · cases hx
    split at ht
    · rename_i hz
      cases ht
      exact sl_str pins s σ H _ v vl vu lo hi sl Q I rx hs pl pu ⟨_, rfl, hz, q.plain sm st (.str _)⟩
    · cases ht
  · subst ht
    obtain ⟨a, ws, rfl, h1, h2⟩ := hx
    exact sl_list pins s σ H _ v vl vu lo hi sl Q I rx hs pl pu ⟨a, ws, rfl, h1, q.lst sm st (dpAll_cut h2 lo hi)⟩
  · subst ht
    obtain ⟨a, ws, rfl, h1, h2⟩ := hx
    refine sl_tupA pins s σ H _ v vl vu lo hi sl Q I rx hs pl pu ⟨a, ws, rfl, same_sqT sm h1, fun hw => ?_, fun _ => q.tup sm st (dpAll_cut h2 lo hi)⟩
    rename_i xs
    have e : cutL xs lo hi = xs := by
      unfold cutL
      rw [← dpAll_length h2, hw.1, hw.2, List.drop_zero, Nat.sub_zero, dpAll_length h2, List.take_length]
    rw [e] at q
    exact q.plain sm st (.tup h1 h2)
end
end SB
/-! Sorting lists, tuples, texts. -/
namespace SB
open PySem PySem.Spec PyProof.Rows L2

/-! ### tuples, the first of them empty -/
section
variable {P : Program} {w : World} {A : Around} {E : Value → Shared → Prop} {s : Shared}
theorem tup_lt {l b : Addr} {items items2 : Array Value} {e r : Nat → Bool} {Q : Value → Shared → Prop} (hl : s.heap.IsTuple l items) (hb : s.heap.IsTuple b items2)
    (he : ∀ j (h1 : j < items.size) (h2 : j < items2.size), SeqAt.EqAt A.in1 s items[j] items2[j] (e j)) (hr : ∀ j (h1 : j < items.size) (h2 : j < items2.size), e j = false → SeqAt.RcLt A.in1 s items[j] items2[j] (r j))
    (h : Q (.bool (SeqAt.firstLt e r (decide (items.size < items2.size)) (List.range (min items.size items2.size)))) s) : wpAny (model P w) A (call (.builtin "tuple.__lt__") [.ref l, .ref b]) Q E s := by
  obtain ⟨⟨cls, dd, data, sl⟩, ho, hc, n, hd⟩ := id hl
  obtain ⟨⟨cls2, dd2, data2, sl2⟩, ho2, hc2, n2, hd2⟩ := id hb
  simp only at hc hd hc2 hd2
  subst hc hd hc2 hd2
  exact call_meets F.slot_tuple_lt ⟨_, ho, rfl⟩ F.entry_tuple_lt (F.args_tuple_lt_2 _ _) (SeqAt.tuple_ltAt l b items items2 n n2 dd dd2 sl sl2 e r) ⟨ho, ho2, he, hr, h⟩
theorem one_tup {xs ys : List D} {a b : Value} {as bs : List Addr} {Q : Bool → Shared → Prop} (ra : Reads s.heap a (.tuple xs) as) (rb : Reads s.heap b (.tuple ys) bs) (hal : PySem.W.alikeAll xs ys = true)
    (hu : A.units + min (PyData.depth (.tuple xs)) (PyData.depth (.tuple ys)) < cLine) (hq : Q (PySem.W.dataLt (.tuple xs) (.tuple ys)) s) : wpAny (model P w) A (oneLt' true a b) Q E s := by
  cases ra with
  | @tuple l o vs n _ as1 h1 h2 h3 h4 =>
    cases rb with
    | @tuple l' o' vs' n' _ bs1 k1 k2 k3 k4 =>
      have n1 : vs.size = xs.length := by simpa using SeqAt.ReadsAll.length _ _ _ h4
      have n2 : vs'.size = ys.length := by simpa using SeqAt.ReadsAll.length _ _ _ k4
      rw [PySem.W.dataLt_tuple, ← PySem.W.firstLt_toks xs ys hal, ← n1, ← n2] at hq
      rw [oneLt'_eq]
      simp only [if_true]
      refine wpAny_bind (wpAny_cRoomFor (SeqAt.room_here hu) ?_)
      refine wpAny_bind (wpAny_callSpecialIfBound?_slot (T := "tuple") ⟨_, h1, h2⟩ F.slot_tuple_lt (tup_lt (e := SeqAt.pairEq xs ys) (r := fun j => PySem.W.dataLt (xs.getD j .none) (ys.getD j .none)) ⟨_, h1, h2, _, h3⟩ ⟨_, k1, k2, _, k3⟩ (fun j j1 j2 => ?_) (fun j j1 j2 hj => ?_) ?_))
      · have := PySem.W.eqAt_alikeAll xs ys A.in1 s vs.toList vs'.toList _ _ h4 k4 hal (SeqAt.room_in hu) j (by simpa using j1) (by simpa using j2)
        simpa using this
      · have := PySem.W.rcLt_alikeAll xs ys A.in1 s vs.toList vs'.toList _ _ h4 k4 hal (SeqAt.room_in hu) j (by simpa using j1) (by simpa using j2) hj
        simpa using this
      · exact wpAny_truthy_bool hq
theorem each_map {f : Value → Sem (Option Value)} : ∀ (l : List Value) {Q : List (Option Value) → Shared → Prop}, (∀ v ∈ l, ∃ r, ∀ (Q' : Option Value → Shared → Prop), Q' r s → wpAny (model P w) A (f v) Q' E s) →
    (∀ rs, rs.length = l.length → Q rs s) → wpAny (model P w) A (l.mapM f) Q E s
  | [], _, _, h => by rw [List.mapM_nil]; exact wpAny_pure (h [] rfl)
  | x :: l, Q, hf, h => by
    rw [List.mapM_cons]
    obtain ⟨r, hr⟩ := hf x (.head _)
    exact wpAny_bind (hr _ (wpAny_bind (each_map l (fun v hv => hf v (.tail _ hv)) fun rs hl => wpAny_pure (h (r :: rs) (by rw [List.length_cons, List.length_cons, hl])))))
theorem first_tup {v : Value} {xs : List D} {as : List Addr} (r : Reads s.heap v (.tuple xs) as) : ∃ o, (xs = [] → o = none) ∧ ∀ (Q' : Option Value → Shared → Prop), Q' o s → wpAny (model P w) A (firstOfTuple' v) Q' E s := by
  cases r with
  | @tuple a o vs n _ _ h1 h2 h3 h4 =>
    refine ⟨vs[0]?, fun e => ?_, fun Q' q => ?_⟩
    · subst e
      have : vs.toList = [] := by
        cases hq : vs.toList with
        | nil => rfl
        | cons _ _ => rw [hq] at h4; cases h4
      have hz : vs = #[] := by rw [← Array.toArray_toList (xs := vs), this]
      rw [hz]
      rfl
    · rw [PySem.W.kas_first_eq]
      refine wpAny_bind (wpAny_typeOf (T := "tuple") ⟨o, h1, h2⟩ ?_)
      rw [if_neg (by decide)]
      exact wpAny_bind (listItems_at h1 h3 (wpAny_pure q))
/-- the first key is an empty tuple, all are tuples -/
theorem kind_one {v : Value} {vs : List Value} {as : List Addr} {Q : SortKind → Shared → Prop} (r : Reads s.heap v (.tuple []) as) (hv : ∀ u ∈ v :: vs, ∃ xs as, Reads s.heap u (.tuple xs) as) (h : Q oneType' s) :
    wpAny (model P w) A (keyKind' (v :: vs).toArray) Q E s := by
  rw [keyKind'_eq, List.mapM_toArray, map_eq_pure_bind, List.mapM_cons]
  obtain ⟨o, ho, hf⟩ := first_tup (P := P) (w := w) (A := A) (E := E) r
  obtain rfl := ho rfl
  refine wpAny_bind (wpAny_bind (wpAny_bind (hf _ ?_)))
  refine wpAny_bind (each_map vs (fun u hu => ?_) fun rs hl => wpAny_pure (wpAny_pure ?_))
  · obtain ⟨xs, bs, ru⟩ := hv u (List.mem_cons_of_mem _ hu)
    obtain ⟨o, _, ho⟩ := first_tup (P := P) (w := w) (A := A) (E := E) ru
    exact ⟨o, ho⟩
  · rw [if_neg (by simp), if_neg (by simp)]
    rw [oneTypeOnly'_eq, List.mapM_toArray, map_eq_pure_bind]
    refine wpAny_bind (wpAny_bind (wpAny_bind (PySem.W.kas_mapM (r := Value.type "tuple") _ (fun u hu Q' hq => ?_) (wpAny_pure ?_))))
    · obtain ⟨xs, bs, ru⟩ := hv u hu
      exact (PySem.W.looks_reads ru).here hq
    · have hall : ((List.map (fun _ => Value.type "tuple") (v :: vs)).toArray.all fun x => x == Value.type "tuple") = true := by
        simp only [List.all_toArray, List.all_map, List.all_eq_true]
        intro _ _
        exact beq_self_eq_true _
      have h0 : (List.map (fun _ => Value.type "tuple") (v :: vs)).toArray[0]? = some (Value.type "tuple") := by simp
      rw [h0]
      simp only [hall, if_true]
      exact wpAny_pure (wpAny_pure h)
theorem sortsE {vs : List Value} {ds : List D} (e : PySem.W.EachIs (fun v d => ∃ as, Reads s.heap v d as) vs (.tuple [] :: ds)) (hal : PySem.W.AllAlike (.tuple [] :: ds)) (ht : ∀ d ∈ ds, ∃ xs, d = .tuple xs)
    (hu : ∀ d, d ∈ (PyData.tuple [] :: ds) → A.units + d.depth < cLine) : PySem.W.SortsAt P w A s (PySem.W.dataKind s.heap (.tuple [] :: ds)) vs := by
  have tup : ∀ d ∈ PyData.tuple [] :: ds, ∃ xs, d = .tuple xs := fun d hd => by
    rcases List.mem_cons.mp hd with rfl | hd
    · exact ⟨[], rfl⟩
    · exact ht d hd
  refine ⟨fun v hv => ?_, oneType', ?_, fun h2 E Q hq => ?_⟩
  · obtain ⟨d, hd, as, r⟩ := e.left v hv
    exact ⟨_, PySem.W.dataKind_some hal hd r⟩
  · intro E x y a b Q ha hb hq
    obtain ⟨d, as, hd, ra, rfl⟩ := PySem.W.dataKind_inv ha
    obtain ⟨d', as', hd', rb, rfl⟩ := PySem.W.dataKind_inv hb
    obtain ⟨xs, rfl⟩ := tup d hd
    obtain ⟨ys, rfl⟩ := tup d' hd'
    rw [keyLt'_oneType]
    refine one_tup ra rb (by simpa [PySem.W.alike] using hal _ hd _ hd') ?_ hq
    have := hu _ hd
    omega
  · cases e with
    | cons h1 h2 =>
      obtain ⟨as, r⟩ := h1
      refine kind_one r (fun u hu => ?_) hq
      rcases List.mem_cons.mp hu with rfl | hu
      · exact ⟨[], as, r⟩
      · obtain ⟨d, hd, as', r'⟩ := h2.left u hu
        obtain ⟨xs, rfl⟩ := ht d hd
        exact ⟨xs, as', r'⟩
end

/-! ### sorted -/
/-- which lists may be sorted -/
def SortOk (ds : List D) : Prop := PySem.W.Sortable ds ∨ ∃ r, ds = .tuple [] :: r ∧ ∀ d ∈ r, ∃ xs, d = .tuple xs
theorem sortsD {P : Program} {w : World} {A : Around} {s : Shared} {vs : List Value} {ds : List D} (e : PySem.W.EachIs (fun v d => ∃ as, Reads s.heap v d as) vs ds) (hal : PySem.W.AllAlike ds) (hk : SortOk ds)
    (hu : ∀ d, d ∈ ds → A.units + d.depth < cLine) : PySem.W.SortsAt P w A s (PySem.W.dataKind s.heap ds) vs := by
  rcases hk with hk | ⟨r, rfl, hr⟩
  · exact PySem.W.SortsAt.data e hal hk hu
  · exact sortsE e hal hr hu
theorem isTupB_ok {d : D} (h : isTupB d = true) : ∃ xs, d = .tuple xs := by
  cases d <;> simp [isTupB] at h
  exact ⟨_, rfl⟩
theorem sortD_ok {ds ys : List D} (h : sortD ds = some ys) : PySem.W.AllAlike ds ∧ SortOk ds ∧ (∀ d ∈ ds, d.depth ≤ 64) ∧ ys = ds.mergeSort (PySem.W.dataLe false id) := by
  unfold sortD at h
  split at h
  · rename_i hz
    rw [Bool.and_eq_true, Bool.and_eq_true, Bool.or_eq_true, Bool.or_eq_true] at hz
    obtain ⟨⟨h1, h2⟩, h3⟩ := hz
    refine ⟨fun d hd e he => ?_, ?_, fun d hd => ?_, (Option.some.inj h).symm⟩
    · exact List.all_eq_true.mp (List.all_eq_true.mp h1 d hd) e he
    · rcases h2 with (h2 | h2) | h2
      · refine .inl (.inl fun d hd => ?_)
        have q := List.all_eq_true.mp h2 d hd
        cases d with
        | tuple xs =>
          cases xs with
          | nil => cases q
          | cons x r => exact ⟨x, r, rfl⟩
        | _ => cases q
      · refine .inl (.inr fun d hd => ?_)
        have q := List.all_eq_true.mp h2 d hd
        cases d with
        | none => cases q
        | tuple xs => cases q
        | _ => exact ⟨(fun z => nomatch z), (fun _ z => nomatch z)⟩
      · cases ds with
        | nil => cases h2
        | cons d ds =>
          cases d with
          | tuple xs =>
            cases xs with
            | nil => exact .inr ⟨ds, rfl, fun d hd => isTupB_ok (List.all_eq_true.mp h2 d hd)⟩
            | cons _ _ => cases h2
          | _ => cases h2
    · exact of_decide_eq_true (List.all_eq_true.mp h3 d hd)
  · cases h
section
variable {X : Cx} {K : KW} {G H : Hp}
/-- sorted(v), where v can be gathered -/
theorem sorted_by {pins : List (Addr × Obj)} {σ : L2.St} {s : Shared} {v : Value} {ws : List V} {xs ys : List D} {Q : VK} (hu : X.A.units + 67 < cLine) (I : Inv X pins σ H s) (sm : Same G H)
    (hcol : ∀ (Q' : List Value → Shared → Prop) (E' : Value → Shared → Prop), (∀ h' tk vs, (∀ b o, s.heap.get? b = some o → h'.get? b = some o) → Vals ws vs → Q' vs { s with heap := h', toks := tk }) → wpAny (model X.prog X.w) X.A.in1 (collect v) Q' E' s)
    (h2 : DqAll X.KW G ws xs) (hL : ws.length ≤ sizeLine) (e : sortD xs = some ys) (q : ∀ zs p, DqAll X.KW G zs ys → H p = none → Q (.ref p) (upd H p (.lst zs))) : wpAny (model X.prog X.w) X.A (call (.builtin "sorted") [v]) (EP X pins σ Q) X.xe s := by
  obtain ⟨k1, k2, k3, k4⟩ := sortD_ok e
  have hl := dpAll_length h2
  have hsnd : (zipVD ws xs).map (·.2) = xs := zip_snd hl
  have hlen : (zipVD ws xs).length = xs.length := by rw [← List.length_map (f := (·.2)), hsnd]
  refine Calls.call_function_entry kind_sorted plain_sorted entry_sorted (args_sorted1 _) ?_
  unfold Builtin.«sorted»
  refine wpAny_bind (m := checkCount "sorted" 1 1 _) (wpAny_pure ?_)
  refine wpAny_bind (hcol _ _ fun h1 tk vs keep rv => ?_)
  have hvl := rv.length
  refine wpAny_bind (wpAny_newList ?_ (by omega))
  have I1 : Inv X pins σ H { s with heap := h1, toks := tk } := I.kept (t' := tk) keep
  have hoL : (h1.push (seqObj "list" vs.toArray 0)).get? h1.objs.size = some (seqObj "list" vs.toArray 0) := Heap.get?_push_size _ rfl
  have er : PySem.W.EachIs (fun u (p : V × D) => ∃ as, Reads (PySem.W.sortingHeap (h1.push (seqObj "list" vs.toArray 0)) h1.objs.size vs) u p.2 as) vs (zipVD ws xs) := by
    refine (each_reads I1 sm h2 rv).mono fun u p ⟨as, r⟩ => ⟨as, PyProof.Rows.Reads.keeps (fun b o eb => ?_) r⟩
    exact PySem.W.sortingHeap_old (Nat.ne_of_lt (Heap.lt_size eb)) (Heap.get?_push_of_some _ eb)
  have hS : PySem.W.SortsAt X.prog X.w X.A.in1.in1 { s with heap := PySem.W.sortingHeap (h1.push (seqObj "list" vs.toArray 0)) h1.objs.size vs, toks := tk } (PySem.W.dataKind (PySem.W.sortingHeap (h1.push (seqObj "list" vs.toArray 0)) h1.objs.size vs) ((zipVD ws xs).map (·.2))) vs := by
    rw [hsnd]
    refine sortsD (s := { s with heap := PySem.W.sortingHeap (h1.push (seqObj "list" vs.toArray 0)) h1.objs.size vs, toks := tk }) ?_ k1 k2 fun d hd => ?_
    · have := PySem.W.each_map (R := fun v d => ∃ as, Reads (PySem.W.sortingHeap (h1.push (seqObj "list" vs.toArray 0)) h1.objs.size vs) v d as) (fun p : V × D => p.2) er
      rw [hsnd] at this
      exact this
    · have := k3 d hd
      simp only [Around.in1_units]
      omega
  have eo := PySem.W.sortVals_data (R := fun u (p : V × D) => RelV p.1 u) (enc := fun p : V × D => p.2) false (each_vals hl rv) er (by rw [hsnd]; exact k1)
  have hout : (PySem.W.sortVals (PySem.W.dataKind (PySem.W.sortingHeap (h1.push (seqObj "list" vs.toArray 0)) h1.objs.size vs) ((zipVD ws xs).map (·.2))) false vs vs).length = vs.length := PySem.W.sortVals_length false rfl
  generalize hz : PySem.W.sortVals (PySem.W.dataKind (PySem.W.sortingHeap (h1.push (seqObj "list" vs.toArray 0)) h1.objs.size vs) ((zipVD ws xs).map (·.2))) false vs vs = out at eo hout
  have body := PySem.W.list_sort_vals (E := X.xe) (s := { s with heap := h1.push (seqObj "list" vs.toArray 0), toks := tk }) (P := fun f s' => f = .done (.ret .none) ∧ s' = { s with heap := sortedHeap (h1.push (seqObj "list" vs.toArray 0)) h1.objs.size vs out.toArray, toks := tk }) hoL hS (by omega) (by rw [hz]; exact ⟨rfl, rfl⟩)
  refine wpAny_bind (wpAny_holding (wpAny_call_entry slot_list_sort ⟨_, hoL, rfl⟩ entry_list_sort (wpAny_mono body (fun f s' hf => ?_) fun _ _ z => z) (args_list_sort _)))
  obtain ⟨rfl, rfl⟩ := hf
  refine ⟨.none, rfl, wpAny_pure ⟨_, rfl, ?_⟩⟩
  have hv' := vals_each eo
  have hm : ((zipVD ws xs).mergeSort (PySem.W.dataLe false fun p : V × D => p.2)).map (·.2) = ys := by
    have q1 := PySem.W.sort_maps (r := PySem.W.dataLe false fun p : V × D => p.2) (s := PySem.W.dataLe false (id : D → D)) (fun p : V × D => p.2) (l := zipVD ws xs) (fun a _ b _ => rfl)
    rw [k4, q1, hsnd]
  have hdq := dq_of (K := X.KW) (G := G) (ps := (zipVD ws xs).mergeSort (PySem.W.dataLe false fun p : V × D => p.2)) fun p hp => zip_dq h2 p (List.mem_mergeSort.mp hp)
  rw [hm] at hdq
  obtain ⟨cc, hcx⟩ := sortedHeap_at (vs := vs) (out := out.toArray) hoL
  have keep2 : ∀ b u, h1.get? b = some u → (sortedHeap (h1.push (seqObj "list" vs.toArray 0)) h1.objs.size vs out.toArray).get? b = some u := fun b u eb => by
    have hlt := Heap.lt_size eb
    rw [sortedHeap_old (Nat.ne_of_lt hlt) (by rw [size_push']; exact Nat.lt_succ_of_lt hlt)]
    exact Heap.get?_push_of_some _ eb
  have J := I1.laid (a := h1.objs.size) (t' := tk) keep2 (Nat.le_refl _) (o := .lst (((zipVD ws xs).mergeSort (PySem.W.dataLe false fun p : V × D => p.2)).map (·.1))) ⟨by have := hv'.length; omega, out, cc, hv', hcx⟩
  exact ⟨.ref h1.objs.size, _, J, rfl, q _ _ hdq (I1.hok.fresh (Nat.le_refl _))⟩
theorem col_seq {pins : List (Addr × Obj)} {σ : L2.St} {s : Shared} {a : Addr} {ws : List V} (I : Inv X pins σ H s) (h : SqL X.K H a ws ∨ SqT X.K H a ws) : ws.length ≤ sizeLine ∧ ∀ (Q' : List Value → Shared → Prop) (E' : Value → Shared → Prop),
    (∀ h' tk vs, (∀ b o, s.heap.get? b = some o → h'.get? b = some o) → Vals ws vs → Q' vs { s with heap := h', toks := tk }) → wpAny (model X.prog X.w) X.A.in1 (collect (.ref a)) Q' E' s := by
  rcases h with h | h
  · obtain ⟨its, rv, ⟨o, n, ho, hc, hdn, hd⟩, hz⟩ := I.list h
    refine ⟨hz, fun Q' E' q => wpAny_collect_seq a (T := "list") (.inl rfl) ho hc hd (fun h' k => ?_) (by rw [List.size_toArray, ← rv.length]; exact hz)⟩
    have := q h' s.toks its k rv
    simpa using this
  · obtain ⟨its, rv, ⟨o, ho, hc, n, hd⟩, hz⟩ := I.tuple h
    refine ⟨hz, fun Q' E' q => wpAny_collect_seq a (T := "tuple") (.inr rfl) ho hc hd (fun h' k => ?_) (by rw [List.size_toArray, ← rv.length]; exact hz)⟩
    have := q h' s.toks its k rv
    simpa using this
theorem callD_sorted (hc : X.calm = true) (hu : X.A.units + 67 < cLine) : CallR X (.builtin "sorted") (rC X.KW (bltD .sorted)) := by
  intro pins s σ H vs us Q I r h
  obtain ⟨S, G, c, ds, t, sm, st, hv, ht, q⟩ := h
  match ds, hv, ht with
  | [.list xs], hv, ht =>
    obtain ⟨v, rfl, a, ws, rfl, h1, h2⟩ := vwA1 hv
    cases e : sortD xs with
    | none => simp only [bltD, e, Option.map_none, reduceCtorEq] at ht
    | some ys =>
      simp only [bltD, e, Option.map_some, Option.some.injEq] at ht
      subst ht
      rw [Vals.ref1 r]
      obtain ⟨hz, hcol⟩ := col_seq I (.inl h1)
      exact sorted_by hu I sm hcol h2 hz e fun zs p hd hp => q.lst sm st hd p hp
  | [.tuple xs], hv, ht =>
    obtain ⟨v, rfl, a, ws, rfl, h1, h2⟩ := vwA1 hv
    cases e : sortD xs with
    | none => simp only [bltD, e, Option.map_none, reduceCtorEq] at ht
    | some ys =>
      simp only [bltD, e, Option.map_some, Option.some.injEq] at ht
      subst ht
      rw [Vals.ref1 r]
      obtain ⟨hz, hcol⟩ := col_seq I (.inr (same_sqT sm h1))
      exact sorted_by hu I sm hcol h2 hz e fun zs p hd hp => q.lst sm st hd p hp
  | [.str x], hv, ht =>
    obtain ⟨v, rfl, h1⟩ := vwA1 hv
    cases h1
    simp only [bltD] at ht
    split at ht
    · rename_i hx
      cases e : sortD (signs x) with
      | none => simp only [e, Option.map_none, reduceCtorEq] at ht
      | some ys =>
        simp only [e, Option.map_some, Option.some.injEq] at ht
        subst ht
        obtain ⟨u, rfl, tk, rfl⟩ := vals1 r
        have hsz : x.cps.size ≤ sizeLine := Nat.le_trans hx (by rw [sizeLine_eq]; decide)
        refine sorted_by hu I sm (fun Q' E' qq => wpAny_collect_str (A := X.A.in1) (I.ok.hd hc) x tk (fun s' acc k g d o hi => ?_) hsz) (signs_dq x) (by rw [List.length_map, Array.length_toList]; exact hsz) e fun zs p hd hp => q.lst sm st hd p hp
        have := qq s'.heap s'.toks acc.toList k (signs_vals hi)
        have es : s' = { s with heap := s'.heap, toks := s'.toks } := by
          cases s'
          cases s
          cases g
          cases d
          cases o
          rfl
        rw [es]
        exact this
    · cases ht
  | [.none], _, ht => cases ht
  | [.bool _], _, ht => cases ht
  | [.int _], _, ht => cases ht
  | [.dict _], _, ht => cases ht
  | [], _, ht => cases ht
  | a :: b :: l, _, ht => cases a <;> cases ht
end
end SB
/-! What is walked, as data. -/
namespace PySem
set_option maxHeartbeats 1000000 in
theorem sb_meets_enum1 {v : Value} {o : Obj} {H : Heap → Prop} (B : Begins v o H) :
    Meets (Builtin.«enumerate.__new__» ⟨[.type "enumerate", v], []⟩) (fun _ R s => H s.heap ∧
      R (.ok (.ret (.ref (s.heap.push o).objs.size))) { s with heap := (s.heap.push o).push { cls := .type "enumerate", data := .fields #[.none, .bool false, .ref s.heap.objs.size, rawInt 0, .none, .none] } }) :=
  .of_wp fun prog w A R s h => by
    obtain ⟨hp, g, d, tk, os⟩ := s; obtain ⟨h1, h⟩ := h
    have hsub := sub_enumerate
    have q1 : ∀ {A' : Around} {E : Value → Shared → Prop} {Q : Value → Shared → Prop}, Q (.ref hp.objs.size) ⟨hp.push o, g, d, tk, os⟩ → wpAny (model prog w) A' (pyIter v) Q E ⟨hp, g, d, tk, os⟩ :=
      fun q => B.iter prog w _ _ ⟨hp, g, d, tk, os⟩ _ h1 q
    wp_walk using q1
    refine wpAny_stack_any fun st => wpAny_pure ?_
    split
    · rename_i c _ _ _ _ _
      cases (c == Value.type "enumerate")
      · wp_walk using q1
        exact ⟨_, rfl, h⟩
      · wp_walk using q1
        exact ⟨_, rfl, h⟩
    · wp_walk using q1
      exact ⟨_, rfl, h⟩
theorem sb_enum1 {prog : Program} {w : World} {A : Around} {E : Value → Shared → Prop} {s : Shared} {v : Value} {o : Obj} {H : Heap → Prop} {Q : Value → Shared → Prop} (B : Begins v o H) (h1 : H s.heap)
    (h : ∀ h', IsEnum h' (s.heap.objs.size + 1) s.heap.objs.size 0 .none → h'.get? s.heap.objs.size = some o → h'.objs.size = s.heap.objs.size + 2 →
      (∀ b o, s.heap.get? b = some o → h'.get? b = some o) → Q (.ref (s.heap.objs.size + 1)) { s with heap := h' }) :
    wpAny (model prog w) A (call (.type "enumerate") [v]) Q E s := by
  refine callType_new F.called_enumerate (by decide) (F.typeCall_enumerate_1 _) (F.newCall_enumerate_1 _) (fun obj => F.args_object_init_2 obj _) F.entry_enumerate_new
    (sb_meets_enum1 B) ⟨h1, ?_⟩
  have hz : (s.heap.push o).objs.size = s.heap.objs.size + 1 := Heap.size_push ..
  show _ ∧ _
  rw [hz]
  have he : IsEnum ((s.heap.push o).push { cls := .type "enumerate", data := .fields #[.none, .bool false, .ref s.heap.objs.size, rawInt 0, .none, .none] }) (s.heap.objs.size + 1) s.heap.objs.size 0 .none := by
    have := Heap.get?_push_size (s.heap.push o) (o := { cls := .type "enumerate", data := .fields #[.none, .bool false, .ref s.heap.objs.size, rawInt 0, .none, .none] }) rfl
    rw [hz] at this; exact this
  refine ⟨⟨_, he, rfl⟩, h _ he (Heap.get?_push_of_some _ (Heap.get?_push_size _ B.free)) (by rw [Heap.size_push, hz]) fun b o x => Heap.get?_push_of_some _ (Heap.get?_push_of_some _ x)⟩
theorem sb_enum_end {prog : Program} {w : World} {A : Around} {E : Value → Shared → Prop} {s : Shared} {e it l : Addr} {i : Nat} {items : Array Value} {old : Value} {Q : Option Value → Shared → Prop} (hh : A.handled = none)
    (he : IsEnum s.heap e it i old) (hit : s.heap.IsTupleIter it l i) (hl : s.heap.IsTuple l items) (hx : items.size ≤ i)
    (hQ : ∀ h', Heap.ExtBut it s.heap h' → Q none { s with heap := h' }) : wpAny (model prog w) A (pyNext (.ref e)) Q E s := by
  have hT : s.TypeIs (.ref e) "enumerate" := ⟨_, he, rfl⟩
  unfold pyNext
  refine wpAny_bind (wpAny_attempt (wpAny_callSpecial?_slot (name := Str.ofString "__next__") hT F.slot_enumerate_next
    (wpAny_call_entry F.slot_enumerate_next hT F.entry_enumerate_next ?_ (F.args_enumerate_next_1 _))))
  show wpAny _ _ (field (.ref e) 2 >>= _) _ _ _
  refine wpAny_bind (wpAny_field he rfl (x := .ref it) rfl ?_)
  refine wpAny_bind (wpAny_nextOf_tuple_end hh hit hl (by simp [hx]) fun h' x he' hx' => ?_)
  obtain ⟨o, ho, hc⟩ := hx'
  refine wpAny_bind (wpAny_isInstance (T := "StopIteration") (b := true) ⟨o, ho, hc⟩ isSubtype_stop ?_)
  exact wpAny_pure (hQ _ he')
end PySem
namespace SB
open PySem PySem.Spec PyProof.Rows L2

structure ItD (K : KW) (J : It) (vs : List V) (ds xs : List D) : Prop where
  go : ∀ (i : Nat) G H, Same G H → VwA K G H vs ds → i < xs.length → J.go i H
  stop : ∀ (i : Nat) G H, Same G H → VwA K G H vs ds → i = xs.length → J.stop i H
  yld : ∀ (i : Nat) G H x H', Same G H → VwA K G H vs ds → J.yld i H x H' → i < xs.length → ∃ d G', xs[i]? = some d ∧ (∀ S c, Sta S c G H → Nxt S c G H G' H') ∧ Dq K G' x d
def iD (K : KW) (k : IK) (ta : TA) : TI := fun σ H R => ta σ H fun vs H1 => ∃ G ds xs, Same G H1 ∧ VwA K G H1 vs ds ∧ iterD k ds = some xs ∧ ∀ J, ItD K J vs ds xs → xs.length ≤ sizeLine → R J H1
section
variable {X : Cx} {K : KW} {G H : Hp} {tg : Expr}
theorem itD_list {a : Addr} {xs : List D} : ItD K (Itl K a) [.ref a] [.list xs] xs where
  go := fun i G H sm h hi => by
    obtain ⟨v, e, b, ws, e2, h1, h2⟩ := vwA1 h
    cases e; cases e2
    obtain ⟨w, hw, _⟩ := dpAll_get h2 (List.getElem?_eq_getElem hi)
    exact ⟨ws, w, h1, hw⟩
  stop := fun i G H sm h hi => by
    replace hi := Nat.le_of_eq hi.symm
    obtain ⟨v, e, b, ws, e2, h1, h2⟩ := vwA1 h
    cases e; cases e2
    exact ⟨ws, h1, by rw [dpAll_length h2]; exact hi⟩
  yld := fun i G H x H' sm h y hi => by
    obtain ⟨v, e, b, ws, e2, h1, h2⟩ := vwA1 h
    cases e; cases e2
    obtain ⟨rfl, y⟩ := y
    obtain ⟨d, hd, hq⟩ := dpAll_get' h2 (y ws h1)
    exact ⟨d, G, hd, fun S c st => .refl sm st, hq⟩
theorem itD_tup {a : Addr} {xs : List D} : ItD K (Itt K a) [.ref a] [.tuple xs] xs where
  go := fun i G H sm h hi => by
    obtain ⟨v, e, b, ws, e2, h1, h2⟩ := vwA1 h
    cases e; cases e2
    obtain ⟨w, hw, _⟩ := dpAll_get h2 (List.getElem?_eq_getElem hi)
    exact ⟨ws, w, same_sqT sm h1, hw⟩
  stop := fun i G H sm h hi => by
    replace hi := Nat.le_of_eq hi.symm
    obtain ⟨v, e, b, ws, e2, h1, h2⟩ := vwA1 h
    cases e; cases e2
    exact ⟨ws, same_sqT sm h1, by rw [dpAll_length h2]; exact hi⟩
  yld := fun i G H x H' sm h y hi => by
    obtain ⟨v, e, b, ws, e2, h1, h2⟩ := vwA1 h
    cases e; cases e2
    obtain ⟨rfl, y⟩ := y
    obtain ⟨d, hd, hq⟩ := dpAll_get' h2 (y ws (same_sqT sm h1))
    exact ⟨d, G, hd, fun S c st => .refl sm st, hq⟩
theorem itD_str {x : Str} : ItD K (Its x) [.str x] [.str x] (x.cps.toList.map fun c => .str ⟨#[c]⟩) where
  go := fun i G H sm h hi => by
    rw [List.length_map] at hi
    exact hi
  stop := fun i G H sm h hi => by
    replace hi := Nat.le_of_eq hi.symm
    rw [List.length_map] at hi
    exact hi
  yld := fun i G H x H' sm h y hi => by
    obtain ⟨rfl, c, hc, rfl⟩ := y
    refine ⟨.str ⟨#[c]⟩, G, ?_, fun S c st => .refl sm st, .str _⟩
    rw [List.getElem?_map]
    have : x.cps.toList[i]? = some c := by simpa using hc
    rw [this]
    rfl
theorem itD_rng {vs : List V} {ds : List D} {lo : Int} {n : Nat} : ItD K (Itr lo n) vs ds ((List.range n).map fun i => .int (lo + ((i : Nat) : Int))) where
  go := fun i G H sm h hi => by
    rw [List.length_map, List.length_range] at hi
    exact hi
  stop := fun i G H sm h hi => by
    replace hi := Nat.le_of_eq hi.symm
    rw [List.length_map, List.length_range] at hi
    exact hi
  yld := fun i G H x H' sm h y hi => by
    rw [List.length_map, List.length_range] at hi
    obtain ⟨rfl, rfl⟩ := y
    refine ⟨.int (lo + i), G, ?_, fun S c st => .refl sm st, .int _⟩
    rw [List.getElem?_map, List.getElem?_range hi]
    rfl
theorem itD_rngC {vs : List V} {ds : List D} {lo c : Int} {n : Nat} : ItD K (Itc lo c n) vs ds ((List.range n).map fun i => .int (lo + ((i : Nat) : Int) * c)) where
  go := fun i G H sm h hi => by
    rw [List.length_map, List.length_range] at hi
    exact hi
  stop := fun i G H sm h hi => by
    replace hi := Nat.le_of_eq hi.symm
    rw [List.length_map, List.length_range] at hi
    exact hi
  yld := fun i G H x H' sm h y hi => by
    rw [List.length_map, List.length_range] at hi
    obtain ⟨rfl, rfl⟩ := y
    refine ⟨.int (lo + i * c), G, ?_, fun S c st => .refl sm st, .int _⟩
    rw [List.getElem?_map, List.getElem?_range hi]
    rfl
/-- a new frozen tuple -/
theorem new_tup {T : Addr} {vs : List V} {ds : List D} (sm : Same G H) (hT : H T = none) (h : DqAll K G vs ds) : (∀ S c, Sta S c G H → Nxt S c G H (upd G T (.tup vs)) (upd H T (.tup vs))) ∧ Dq K (upd G T (.tup vs)) (.ref T) (.tuple ds) := by
  have gT := gne sm hT
  have s2 : Same G (upd G T (.tup vs)) := fun b u e => by rw [upd_ne (ne_of_none e gT)]; exact e
  exact ⟨fun S c st => .new sm st hT, .tup (.inl (.inl upd_same)) (dpAll_mono s2 _ h)⟩
theorem itD_enum {a : Addr} {xs : List D} : ItD K (Ite K a) [.ref a] [.list xs] (xs.zipIdx.map fun p => .tuple [.int ((p.2 : Nat) : Int), p.1]) where
  go := fun i G H sm h hi => by
    rw [List.length_map, List.length_zipIdx] at hi
    obtain ⟨v, e, b, ws, e2, h1, h2⟩ := vwA1 h
    cases e; cases e2
    obtain ⟨w, hw, _⟩ := dpAll_get h2 (List.getElem?_eq_getElem hi)
    exact ⟨ws, w, h1, hw⟩
  stop := fun i G H sm h hi => by
    replace hi := Nat.le_of_eq hi.symm
    rw [List.length_map, List.length_zipIdx] at hi
    obtain ⟨v, e, b, ws, e2, h1, h2⟩ := vwA1 h
    cases e; cases e2
    exact ⟨ws, h1, by rw [dpAll_length h2]; exact hi⟩
  yld := fun i G H x H' sm h y hi => by
    obtain ⟨v, e, b, ws, e2, h1, h2⟩ := vwA1 h
    cases e; cases e2
    obtain ⟨T, w, rfl, hT, rfl, y⟩ := y
    obtain ⟨d, hd, hq⟩ := dpAll_get' h2 (y ws h1)
    obtain ⟨n1, n2⟩ := new_tup (K := K) (vs := [.int (i : Nat), w]) (ds := [.int ((i : Nat) : Int), d]) sm hT (.cons (.int _) (.cons hq .nil))
    refine ⟨_, _, ?_, n1, n2⟩
    rw [List.getElem?_map, List.getElem?_zipIdx, hd]
    simp
/-- the tuple at a as it stands at each turn, each item in a new pair -/
def IteT (K : PySem.W.Frag) (a : Addr) : It :=
  ⟨fun i H => ∃ (xs : List V) (x : V), SqT K H a xs ∧ xs[i]? = some x, fun i H v H' => ∃ T x, v = .ref T ∧ H T = none ∧ H' = upd H T (.tup [.int (i : Nat), x]) ∧ ∀ xs, SqT K H a xs → xs[i]? = some x, fun i H => ∃ xs : List V, SqT K H a xs ∧ xs.length ≤ i⟩
theorem itD_enumT {a : Addr} {xs : List D} : ItD K (IteT K a) [.ref a] [.tuple xs] (xs.zipIdx.map fun p => .tuple [.int ((p.2 : Nat) : Int), p.1]) where
  go := fun i G H sm h hi => by
    rw [List.length_map, List.length_zipIdx] at hi
    obtain ⟨v, e, b, ws, e2, h1, h2⟩ := vwA1 h
    cases e; cases e2
    obtain ⟨w, hw, _⟩ := dpAll_get h2 (List.getElem?_eq_getElem hi)
    exact ⟨ws, w, same_sqT sm h1, hw⟩
  stop := fun i G H sm h hi => by
    replace hi := Nat.le_of_eq hi.symm
    rw [List.length_map, List.length_zipIdx] at hi
    obtain ⟨v, e, b, ws, e2, h1, h2⟩ := vwA1 h
    cases e; cases e2
    exact ⟨ws, same_sqT sm h1, by rw [dpAll_length h2]; exact hi⟩
  yld := fun i G H x H' sm h y hi => by
    obtain ⟨v, e, b, ws, e2, h1, h2⟩ := vwA1 h
    cases e; cases e2
    obtain ⟨T, w, rfl, hT, rfl, y⟩ := y
    obtain ⟨d, hd, hq⟩ := dpAll_get' h2 (y ws (same_sqT sm h1))
    obtain ⟨n1, n2⟩ := new_tup (K := K) (vs := [.int (i : Nat), w]) (ds := [.int ((i : Nat) : Int), d]) sm hT (.cons (.int _) (.cons hq .nil))
    refine ⟨_, _, ?_, n1, n2⟩
    rw [List.getElem?_map, List.getElem?_zipIdx, hd]
    simp
theorem itD_zip {a b : Addr} {xs ys : List D} : ItD K (Itz K a b) [.ref a, .ref b] [.list xs, .list ys] ((xs.zip ys).map fun p => .tuple [p.1, p.2]) where
  go := fun i G H sm h hi => by
    rw [List.length_map, List.length_zip] at hi
    obtain ⟨v, w, e, ⟨a', ws, e2, h1, h2⟩, ⟨b', us, e3, h3, h4⟩⟩ := vwA2 h
    cases e; cases e2; cases e3
    obtain ⟨w, hw, _⟩ := dpAll_get h2 (i := i) (List.getElem?_eq_getElem (by omega))
    obtain ⟨u, hu, _⟩ := dpAll_get h4 (i := i) (List.getElem?_eq_getElem (by omega))
    exact ⟨ws, us, w, u, h1, h3, hw, hu⟩
  stop := fun i G H sm h hi => by
    replace hi := Nat.le_of_eq hi.symm
    rw [List.length_map, List.length_zip] at hi
    obtain ⟨v, w, e, ⟨a', ws, e2, h1, h2⟩, ⟨b', us, e3, h3, h4⟩⟩ := vwA2 h
    cases e; cases e2; cases e3
    refine ⟨ws, us, h1, h3, ?_⟩
    rw [dpAll_length h2, dpAll_length h4]
    omega
  yld := fun i G H x H' sm h y hi => by
    obtain ⟨v, w, e, ⟨a', ws, e2, h1, h2⟩, ⟨b', us, e3, h3, h4⟩⟩ := vwA2 h
    cases e; cases e2; cases e3
    obtain ⟨T, p, q, rfl, hT, rfl, y1, y2⟩ := y
    obtain ⟨d, hd, hq⟩ := dpAll_get' h2 (y1 ws h1)
    obtain ⟨d2, hd2, hq2⟩ := dpAll_get' h4 (y2 us h3)
    obtain ⟨n1, n2⟩ := new_tup (K := K) (vs := [p, q]) (ds := [d, d2]) sm hT (.cons hq (.cons hq2 .nil))
    refine ⟨_, _, ?_, n1, n2⟩
    have hz : (xs.zip ys)[i]? = some (d, d2) := List.getElem?_zip_eq_some.mpr ⟨hd, hd2⟩
    rw [List.getElem?_map, hz]
    rfl
theorem itD_zipT {a b : Addr} {xs ys : List D} : ItD K (RZ.ItzT K a b) [.ref a, .ref b] [.tuple xs, .tuple ys] ((xs.zip ys).map fun p => .tuple [p.1, p.2]) where
  go := fun i G H sm h hi => by
    rw [List.length_map, List.length_zip] at hi
    obtain ⟨v, w, e, ⟨a', ws, e2, h1, h2⟩, ⟨b', us, e3, h3, h4⟩⟩ := vwA2 h
    cases e; cases e2; cases e3
    obtain ⟨w, hw, _⟩ := dpAll_get h2 (i := i) (List.getElem?_eq_getElem (by omega))
    obtain ⟨u, hu, _⟩ := dpAll_get h4 (i := i) (List.getElem?_eq_getElem (by omega))
    exact ⟨ws, us, w, u, same_sqT sm h1, same_sqT sm h3, hw, hu⟩
  stop := fun i G H sm h hi => by
    replace hi := Nat.le_of_eq hi.symm
    rw [List.length_map, List.length_zip] at hi
    obtain ⟨v, w, e, ⟨a', ws, e2, h1, h2⟩, ⟨b', us, e3, h3, h4⟩⟩ := vwA2 h
    cases e; cases e2; cases e3
    refine ⟨ws, us, same_sqT sm h1, same_sqT sm h3, ?_⟩
    rw [dpAll_length h2, dpAll_length h4]
    omega
  yld := fun i G H x H' sm h y hi => by
    obtain ⟨v, w, e, ⟨a', ws, e2, h1, h2⟩, ⟨b', us, e3, h3, h4⟩⟩ := vwA2 h
    cases e; cases e2; cases e3
    obtain ⟨T, p, q, rfl, hT, rfl, y1, y2⟩ := y
    obtain ⟨d, hd, hq⟩ := dpAll_get' h2 (y1 ws (same_sqT sm h1))
    obtain ⟨d2, hd2, hq2⟩ := dpAll_get' h4 (y2 us (same_sqT sm h3))
    obtain ⟨n1, n2⟩ := new_tup (K := K) (vs := [p, q]) (ds := [d, d2]) sm hT (.cons hq (.cons hq2 .nil))
    refine ⟨_, _, ?_, n1, n2⟩
    have hz : (xs.zip ys)[i]? = some (d, d2) := List.getElem?_zip_eq_some.mpr ⟨hd, hd2⟩
    rw [List.getElem?_map, hz]
    rfl

/-! ### the walks -/
theorem pi_seqD {e : Expr} {te : TE} (he : PE X e te) : PI X tg e (iD X.KW .seq (tCons te tNil)) := by
  refine ⟨fun pins s σ H R I h => ?_⟩
  refine thn (he.run pins s σ H _ I h) fun u s1 ⟨v, H1, I1, r1, q1⟩ => ?_
  obtain ⟨G, ds, xs, sm, hv, hx, q⟩ := q1
  match ds, hv, hx with
  | [.list ys], hv, hx =>
    simp only [iterD, Option.some.injEq] at hx
    subst hx
    obtain ⟨w, e1, a, ws, e2, h1, h2⟩ := vwA1 hv
    cases e1; cases e2
    cases r1
    obtain ⟨its, rv, p, hz⟩ := I1.list h1
    refine wpAny_pyIter_list p.isList ?_
    refine ⟨s1.heap.objs.size, [s1.heap.objs.size], _, _, H1, rfl, I1.kept (t' := s1.toks) fun b o e => Heap.get?_push_of_some _ e, turn_list a _, ⟨_, Heap.get?_push_size _ rfl, rfl, rfl⟩, fun b hb => ?_, q _ itD_list (by rw [← dpAll_length h2]; exact hz)⟩
    have e : b = s1.heap.objs.size := by simpa using hb
    subst e
    exact I1.fpOk (Nat.le_refl _) (I1.hok.fresh (Nat.le_refl _))
  | [.tuple ys], hv, hx =>
    simp only [iterD, Option.some.injEq] at hx
    subst hx
    obtain ⟨w, e1, a, ws, e2, h1, h2⟩ := vwA1 hv
    cases e1; cases e2
    cases r1
    obtain ⟨its, rv, p, hz⟩ := I1.tuple (same_sqT sm h1)
    refine wpAny_pyIter_tuple (show s1.heap.IsTuple a its.toArray from p) ?_
    refine ⟨s1.heap.objs.size, [s1.heap.objs.size], _, _, H1, rfl, I1.kept (t' := s1.toks) fun b o e => Heap.get?_push_of_some _ e, turn_tuple a _, ⟨_, Heap.get?_push_size _ rfl, rfl, rfl⟩, fun b hb => ?_, q _ itD_tup (by rw [← dpAll_length h2]; exact hz)⟩
    have e : b = s1.heap.objs.size := by simpa using hb
    subst e
    exact I1.fpOk (Nat.le_refl _) (I1.hok.fresh (Nat.le_refl _))
  | [.str x], hv, hx =>
    simp only [iterD] at hx
    split at hx
    · rename_i hz
      cases hx
      obtain ⟨w, e1, e2⟩ := vwA1 hv
      cases e1; cases e2
      obtain ⟨t, rfl⟩ := r1
      have hz' : (x.cps.toList.map fun c => (PyData.str ⟨#[c]⟩ : D)).length ≤ sizeLine := by
        rw [List.length_map]
        exact hz
      cases ha : x.cps.all (· < 128)
      · exact wpAny_pyIter_wide ha (pi_one (tk := s1.toks) I1 _ (turn_str _ x t "str_iterator" (.inr rfl)) ⟨_, Heap.get?_push_size _ rfl, rfl, rfl⟩ (q _ itD_str hz'))
      · exact wpAny_pyIter_ascii ha (pi_one (tk := s1.toks) I1 _ (turn_str _ x t "str_ascii_iterator" (.inl rfl)) ⟨_, Heap.get?_push_size _ rfl, rfl, rfl⟩ (q _ itD_str hz'))
    · cases hx
  | [.none], _, hx => cases hx
  | [.bool _], _, hx => cases hx
  | [.int _], _, hx => cases hx
  | [.dict _], _, hx => cases hx
  | [], _, hx => cases hx
  | a :: b :: l, _, hx => cases a <;> cases hx
theorem pi_rngD {a : Expr} {es : List Expr} {ta : TA} {p pos : Pos} (hg : Gl X "range") (hm : X.mg "range" = none) (ha : PA X (a :: es) ta)
    (hs : starEach (a :: es) X.env = (false, eval a X.env) :: starEach es X.env) (hpl : (backTo pos (starEach es X.env)).any (·.1) = false) : PI X tg (.Call (.Name "range" p) (a :: es) [] pos) (iD X.KW .range ta) := by
  refine ⟨fun pins s σ H R I h => ?_⟩
  refine Call_ (ld_blt I hg hm boot_range (PyProof.Rows.callWith_type1 (thn (ha.run pos pins s σ H _ I h) fun us s1 ⟨vs, H1, I1, r1, q1⟩ => ?_) hs hpl))
  obtain ⟨G, ds, xs, sm, hv, hx, q⟩ := q1
  match ds, hv, hx with
  | [], _, hx => cases hx
  | [d], hv, hx =>
    cases d <;> simp only [iterD, reduceCtorEq] at hx
    rename_i j
    split at hx
    · rename_i hz
      cases hx
      obtain ⟨w, e1, e2⟩ := vwA1 hv
      cases e2
      subst e1
      obtain ⟨u, rfl, t, rfl⟩ := vals1 r1
      have h2 : j < 2 ^ 62 := by
        have := hz.1
        rw [sizeLine_eq] at this
        omega
      refine call_range_1 (range_it I1 (by omega) (by omega) hz.2 h2 ?_)
      have := itD_rng (K := X.KW) (vs := [.int j]) (ds := [.int j]) (lo := 0) (n := j.toNat)
      exact q _ (by simpa using this) (by rw [List.length_map, List.length_range]; omega)
    · cases hx
  | [d, e], hv, hx =>
    cases d <;> cases e <;> simp only [iterD, reduceCtorEq] at hx
    rename_i i j
    split at hx
    · rename_i hz
      cases hx
      obtain ⟨w, w2, e1, e2, e3⟩ := vwA2 hv
      cases e2; cases e3
      subst e1
      obtain ⟨u, u2, rfl, ⟨t, rfl⟩, ⟨t2, rfl⟩⟩ := vals2 r1
      exact call_range_2 (range_it I1 hz.1 hz.2.1 hz.2.2.1 hz.2.2.2.1 (q _ itD_rng (by rw [List.length_map, List.length_range]; exact hz.2.2.2.2)))
    · cases hx
  | [d, e, f], hv, hx =>
    cases d <;> cases e <;> cases f <;> simp only [iterD, reduceCtorEq] at hx
    rename_i i j k
    split at hx
    · rename_i hz
      cases hx
      obtain ⟨hk, h1, h2, h3, h4, h5⟩ := hz
      subst hk
      cases hv with
      | cons a1 hv => cases hv with
        | cons a2 hv => cases hv with
          | cons a3 hv =>
            cases hv
            cases a1; cases a2; cases a3
            cases r1 with
            | cons r rr => cases rr with
              | cons r' rr => cases rr with
                | cons r2 rr =>
                  cases rr
                  obtain ⟨t, rfl⟩ := r
                  obtain ⟨t', rfl⟩ := r'
                  obtain ⟨t2, rfl⟩ := r2
                  obtain ⟨c0, c1, c2, c3⟩ := RgC.neg h1 h2 h3 h4
                  refine call_range_3 c0 ?_ (.inl (PyProof.noPylong_small c1))
                  refine wpAny_pyIter_range (IsRange.new ..) c2 ?_
                  have I2 : Inv X pins σ H1 { s1 with heap := s1.heap.push { cls := .type "range", data := .fields #[.int i t, .int j t', .int (-1) t2] } } := I1.kept (t' := s1.toks) fun b o e => Heap.get?_push_of_some _ e
                  refine pi_one (tk := s1.toks) I2 _ (turn_rangeC _ i (-1) (i - j).toNat) ?_ (q _ itD_rngC (by rw [List.length_map, List.length_range]; exact h5))
                  have e1 : i + ((0 : Nat) : Int) * (-1) = i := by simp
                  have e2 : (((i - j).toNat : Nat) : Int) - ((0 : Nat) : Int) = Builtin.Range.rangeSize i j (-1) := by rw [c3]; simp
                  show IsRangeIter _ _ (i + ((0 : Nat) : Int) * (-1)) ((((i - j).toNat : Nat) : Int) - ((0 : Nat) : Int)) (-1)
                  rw [e1, e2]
                  exact Heap.get?_push_size _ rfl
    · cases hx
  | a :: b :: c :: d :: l, _, hx => cases a <;> cases b <;> cases c <;> cases hx
theorem turn_enumT {P : Program} {w : World} {K : PySem.W.Frag} {elts : List Expr} {kk : Nat} {tpos : Pos} (a e it : Addr) :
    Turn P w K (.Tuple elts kk tpos) (IteT K a) [e, it] e (fun i h => (∃ old, IsEnum h e it ((i : Nat) : Int) old) ∧ h.IsTupleIter it a i ∧ e ≠ it ∧ e ≠ a ∧ a ≠ it) where
  mem := by simp
  obj := fun i h st b hb => by
    obtain ⟨⟨old, he⟩, ⟨o, ho, hc, hd⟩, _⟩ := st
    have e' : b = e ∨ b = it := by simpa using hb
    rcases e' with z | z
    · rw [z]; exact ⟨_, he, fun v q => nomatch q⟩
    · rw [z]; exact ⟨o, ho, fun v q => by rw [hd] at q; cases q⟩
  keep := fun i h h' st k => let ⟨⟨old, he⟩, hi, hne⟩ := st; ⟨⟨old, k e (by simp) _ he⟩, hi.at fun o q => k it (by simp) o q, hne⟩
  item := by
    intro X hP hw hK hc i pins s σ H E I hf st hg
    subst hP hw hK
    obtain ⟨⟨old, he⟩, hit, hne, hea, hai⟩ := st
    obtain ⟨xs, x, hq, hx⟩ := hg
    obtain ⟨its, rv, p, hz⟩ := I.tuple hq
    obtain ⟨u, hu, ru⟩ := rv.get hx
    have hel : e < s.heap.objs.size := Heap.lt_size he
    have hil : it < s.heap.objs.size := by obtain ⟨_, q, _⟩ := hit; exact Heap.lt_size q
    have hlt : i < its.toArray.size := by
      obtain ⟨h1, _⟩ := List.getElem?_eq_some_iff.mp hu
      simpa using h1
    refine wpAny_pyNext_enum_itemD (Draws.tuple (A := X.A.in1) (show X.A.handled = none from I.ok.hd hc) it a hai its.toArray) he ⟨hit, p⟩ hlt hne (by simp [hne, hea]) fun y h' tk hP ho hit' hT hsz hk => ?_
    have ey : y = u := by
      have q1 : its[i]? = some y := by simpa using hP
      rw [hu] at q1
      exact (Option.some.inj q1).symm
    subst ey
    refine ⟨_, rfl, wpAny_letOwnedTupleGo_enum (s := { s with heap := h', toks := tk + 1 }) ho fun h'' he' sb => ?_⟩
    have hT2 : h''.get? s.heap.objs.size = some { cls := .type "tuple", data := .seq #[.int i tk, y] } := (sb.2 _ (Nat.ne_of_gt hel)).trans hT
    have new : ObjOk X.prog X.w (upd H s.heap.objs.size (.tup [.int (i : Nat), x])) h'' s.heap.objs.size (.tup [.int (i : Nat), x]) :=
      ⟨by show 2 ≤ sizeLine; decide, [.int i tk, y], .cons ⟨_, rfl⟩ (.cons ru .nil), ⟨_, hT2, rfl, _, rfl⟩⟩
    have I1 : Inv X pins σ (upd H s.heap.objs.size (.tup [.int (i : Nat), x])) { s with heap := h'', toks := tk + 1 } :=
      I.turnedNew (ch := [e, it]) (fun b ob hb q => (sb.2 b (fun z => hb (by simp [z]))).trans (hk b ob (fun z => hb (by simp [z])) (fun z => hb (by simp [z])) q)) hf (Nat.le_refl _) new
    refine ⟨.ref s.heap.objs.size, _, I1, rfl, ⟨_, x, rfl, I.hok.fresh (Nat.le_refl _), rfl, fun ys hy => by rw [I.tuple_inj hy hq]; exact hx⟩, ⟨⟨y, ?_⟩, hit'.1.at fun o q => (sb.2 it (Ne.symm hne)).trans q, hne, hea, hai⟩, fun b hb => ?_⟩
    · have e1 : ((i + 1 : Nat) : Int) = (i : Int) + 1 := by omega
      rw [e1]; exact he'
    · have hb' : b < s.heap.objs.size := by
        have e' : b = e ∨ b = it := by simpa using hb
        rcases e' with z | z
        · rw [z]; exact hel
        · rw [z]; exact hil
      rw [upd_ne (Nat.ne_of_lt hb')]
      exact (hf b hb).1
  done := by
    intro X hP hw hK hc i pins s σ H E I hf st hg
    subst hP hw hK
    obtain ⟨⟨old, he⟩, hit, hne, hea, hai⟩ := st
    obtain ⟨xs, hq, hx⟩ := hg
    obtain ⟨its, rv, p, hz⟩ := I.tuple hq
    obtain ⟨f0, f1, f2, f3, f4, f5⟩ := hf it (by simp)
    have hl := rv.length
    exact sb_enum_end (I.ok.hd hc) he hit p (by simp; omega) fun h' eb => ⟨rfl, I.turned (t' := s.toks) (fun b o hb q => eb b o hb q) f0 f1 f3 f4 f5⟩
  self := fun A i s Q E st h => let ⟨⟨_, he⟩, _⟩ := st; wpAny_pyIter_enum he h
theorem pi_enumD {a : Expr} {ta : TA} {p pos tpos : Pos} {elts : List Expr} {kk : Nat} (hg : Gl X "enumerate") (hm : X.mg "enumerate" = none) (ha : PA X [a] ta) (hs : starEach [a] X.env = [(false, eval a X.env)]) :
    PI X (.Tuple elts kk tpos) (.Call (.Name "enumerate" p) [a] [] pos) (iD X.KW .enum ta) := by
  refine ⟨fun pins s σ H R I h => ?_⟩
  refine Call_ (ld_blt I hg hm boot_enumerate (PyProof.Rows.callWith_type1 (thn (ha.run pos pins s σ H _ I h) fun us s1 ⟨vs, H1, I1, r1, q1⟩ => ?_) hs rfl))
  obtain ⟨G, ds, xs, sm, hv, hx, q⟩ := q1
  match ds, hv, hx with
  | [.list ys], hv, hx =>
    simp only [iterD, Option.some.injEq] at hx
    subst hx
    obtain ⟨w, rfl, a, ws, rfl, h1, h2⟩ := vwA1 hv
    rw [Vals.ref1 r1]
    obtain ⟨its, rv, p', hz⟩ := I1.list h1
    refine call_enumerate_list p'.isList fun h' he hit hsz hk => wpAny_pyIter_enum he ?_
    have I2 : Inv X pins σ H1 { s1 with heap := h' } := I1.kept (t' := s1.toks) hk
    refine ⟨s1.heap.objs.size + 1, [s1.heap.objs.size + 1, s1.heap.objs.size], _, _, H1, rfl, I2, turn_enum a (s1.heap.objs.size + 1) s1.heap.objs.size, ⟨⟨.none, he⟩, hit, Nat.succ_ne_self _⟩, fun b hb => ?_, q _ itD_enum (by rw [List.length_map, List.length_zipIdx, ← dpAll_length h2]; exact hz)⟩
    have e' : b = s1.heap.objs.size + 1 ∨ b = s1.heap.objs.size := by simpa using hb
    have hle : s1.heap.objs.size ≤ b := by
      rcases e' with z | z
      · rw [z]; exact Nat.le_add_right _ _
      · rw [z]; exact Nat.le_refl _
    exact I1.fpOk hle (I1.hok.fresh hle)
  | [.tuple ys], hv, hx =>
    simp only [iterD, Option.some.injEq] at hx
    subst hx
    obtain ⟨w, rfl, a, ws, rfl, h1, h2⟩ := vwA1 hv
    rw [Vals.ref1 r1]
    obtain ⟨its, rv, p', hz⟩ := I1.tuple (same_sqT sm h1)
    have hal : a < s1.heap.objs.size := p'.lt
    refine sb_enum1 (begins_tuple a its.toArray) p' fun h' he hit hsz hk => wpAny_pyIter_enum he ?_
    have I2 : Inv X pins σ H1 { s1 with heap := h' } := I1.kept (t' := s1.toks) hk
    refine ⟨s1.heap.objs.size + 1, [s1.heap.objs.size + 1, s1.heap.objs.size], _, _, H1, rfl, I2, turn_enumT a (s1.heap.objs.size + 1) s1.heap.objs.size, ⟨⟨.none, he⟩, ⟨_, hit, rfl, rfl⟩, Nat.succ_ne_self _, Nat.ne_of_gt (Nat.lt_succ_of_lt hal), Nat.ne_of_lt hal⟩, fun b hb => ?_, q _ itD_enumT (by rw [List.length_map, List.length_zipIdx, ← dpAll_length h2]; exact hz)⟩
    have e' : b = s1.heap.objs.size + 1 ∨ b = s1.heap.objs.size := by simpa using hb
    have hle : s1.heap.objs.size ≤ b := by
      rcases e' with z | z
      · rw [z]; exact Nat.le_add_right _ _
      · rw [z]; exact Nat.le_refl _
    exact I1.fpOk hle (I1.hok.fresh hle)
  | [.str _], _, hx => cases hx
  | [.none], _, hx => cases hx
  | [.bool _], _, hx => cases hx
  | [.int _], _, hx => cases hx
  | [.dict _], _, hx => cases hx
  | [], _, hx => cases hx
  | a :: b :: l, _, hx => cases a <;> cases hx
end
end SB
/-! zip of two or three: lists, tuples, texts, ranges. -/
namespace PySem
theorem sb_nextOf_range_item {prog : Program} {w : World} {A : Around} {E : Value → Shared → Prop} {s : Shared} {it : Addr} {x left step : Int} {Q : Value → Shared → Prop} (hit : IsRangeIter s.heap it x left step) (hleft : 0 < left)
    (hQ : ∀ h', IsRangeIter h' it (x + step) (left - 1) step → Heap.SameBut it s.heap h' → Q (.int x s.toks) { s with heap := h', toks := s.toks + 1 }) :
    wpAny (model prog w) A (Builtin.SmallTypes.nextOf (.ref it)) Q E s := by
  have hT : s.TypeIs (.ref it) "range_iterator" := ⟨_, hit, rfl⟩
  unfold Builtin.SmallTypes.nextOf
  refine wpAny_bind (wpAny_callSpecial?_slot (name := Str.ofString "__next__") hT F.slot_range_iterator_next
    (call_meets F.slot_range_iterator_next hT F.entry_range_iterator_next (F.args_range_iterator_next_1 _) (AutoRange.range_iterator___next___range_iterator_1 it x left step (by omega)) ⟨hit, ?_⟩))
  exact wpAny_pure (hQ _ (Heap.get?_update_self _ (Heap.get?_update_self _ hit rfl) rfl) ((Heap.SameBut.update ..).trans (Heap.SameBut.update ..)))
theorem sb_nextOf_range_end {prog : Program} {w : World} {A : Around} {E : Value → Shared → Prop} {s : Shared} {it : Addr} {x left step : Int} {Q : Value → Shared → Prop} (hh : A.handled = none) (hit : IsRangeIter s.heap it x left step) (hleft : left ≤ 0)
    (hE : ∀ h' e, Heap.ExtBut it s.heap h' → (∃ o, h'.get? e = some o ∧ o.cls = .type "StopIteration") → E (.ref e) { s with heap := h' }) : wpAny (model prog w) A (Builtin.SmallTypes.nextOf (.ref it)) Q E s := by
  have hT : s.TypeIs (.ref it) "range_iterator" := ⟨_, hit, rfl⟩
  unfold Builtin.SmallTypes.nextOf
  refine wpAny_bind (wpAny_callSpecial?_slot (name := Str.ofString "__next__") hT F.slot_range_iterator_next
    (wpAny_call_entry F.slot_range_iterator_next hT F.entry_range_iterator_next ?_ (F.args_range_iterator_next_1 _)))
  show wpAny _ _ (field (.ref it) 0 >>= _) _ _ s
  refine wpAny_bind (wpAny_field hit rfl (x := rawInt x) rfl ?_)
  show wpAny _ _ (field (.ref it) 1 >>= _) _ _ s
  refine wpAny_bind (wpAny_field hit rfl (x := rawInt left) rfl ?_)
  show wpAny _ _ (field (.ref it) 2 >>= _) _ _ s
  refine wpAny_bind (wpAny_field hit rfl (x := rawInt step) rfl ?_)
  show wpAny _ _ (if left ≤ 0 then _ else _) _ _ s
  rw [if_pos hleft]
  refine wpAny_bind (wpAny_rule ?_)
  refine wpAny_bind ?_
  show wpAny _ _ (newExc (.type "StopIteration") [] >>= _) _ _ _
  refine wpAny_bind ?_
  simp only [newExc, newTuple]
  refine wpAny_bind (wpAny_newObj_type ?_ (by size_fits))
  refine wpAny_bind (m := firstArgMember _ _) (wpAny_of_eq (a := Value.none) (by first | rfl | (simp only [firstArgMember]; rfl)) ?_)
  refine wpAny_newObj_type ?_ (by size_fits)
  simp only [raiseNew]
  refine wpAny_bind (wpAny_handled ?_)
  first | rw [show A.in1.handled = none from hh] | rw [hh]
  refine wpAny_bind (wpAny_pure (wpAny_throw ?_))
  exact hE _ _ ((Heap.ExtBut.refl _ _ |>.push _).push _) ⟨_, Heap.get?_push_size _ rfl, rfl⟩
theorem Draws.sbRange {prog : Program} {w : World} {A : Around} (hh : A.handled = none) (it : Addr) (n : Nat) :
    Draws prog w A it [it] n (fun i v => ∃ t, v = .int ((i : Nat) : Int) t) (fun i h => IsRangeIter h it ((i : Nat) : Int) ((n : Int) - ((i : Nat) : Int)) 1) where
  live := fun _ _ st => ⟨_, st⟩
  frame := fun _ _ _ st hk => hk it (by simp) _ st
  item := fun i s Q E hi st hQ => by
    refine sb_nextOf_range_item st (by omega) fun h' hit' hs' => ?_
    refine hQ _ h' _ ⟨_, rfl⟩ ?_ hs'
    have e1 : ((i + 1 : Nat) : Int) = (i : Int) + 1 := by omega
    have e2 : (n : Int) - ((i + 1 : Nat) : Int) = (n : Int) - (i : Int) - 1 := by omega
    rw [e2, e1]; exact hit'
  done := fun s Q E st hE => sb_nextOf_range_end hh st (by omega) hE
end PySem
namespace SB
open PySem PySem.Spec PyProof.Rows L2

theorem vals_get' {xs : List V} {us : List Value} {i : Nat} {u : Value} (r : Vals xs us) (h : us[i]? = some u) : ∃ x, xs[i]? = some x ∧ RelV x u := by
  have hl := r.length
  obtain ⟨hi, _⟩ := List.getElem?_eq_some_iff.mp h
  have hx : xs[i]? = some (xs[i]'(by omega)) := List.getElem?_eq_getElem (by omega)
  obtain ⟨u', hu, ru⟩ := r.get hx
  rw [h] at hu
  cases hu
  exact ⟨_, hx, ru⟩
/-- one side of a zip -/
inductive Side where
  | L (a : Addr) | T (a : Addr) | S (x : Str) (t : Tok) | R (n : Nat)
def Side.base : Side → List Addr
  | .L a => [a]
  | .T a => [a]
  | _ => []
def Side.at (K : PySem.W.Frag) (H : Hp) : Side → List V → Prop
  | .L a, xs => SqL K H a xs
  | .T a, xs => SqT K H a xs
  | .S x _, xs => xs = x.cps.toList.map fun c => V.str ⟨#[c]⟩
  | .R n, xs => xs = (List.range n).map fun i => V.int ((i : Nat) : Int)
def Side.it (h : Heap) (I : Addr) (i : Nat) : Side → Prop
  | .L a => h.IsListIter I a i
  | .T a => h.IsTupleIter I a i
  | .S x t => h.IsStrIter I (strIterType x) x t i
  | .R n => IsRangeIter h I ((i : Nat) : Int) ((n : Int) - ((i : Nat) : Int)) 1
theorem Side.it_keep {h h' : Heap} {I : Addr} {i : Nat} : ∀ {sd : Side}, sd.it h I i → (∀ o, h.get? I = some o → h'.get? I = some o) → sd.it h' I i
  | .L a, st, k => Heap.IsListIter.at st k
  | .T a, st, k => Heap.IsTupleIter.at st k
  | .S x t, st, k => let ⟨o, ho, r⟩ := st; ⟨o, k _ ho, r⟩
  | .R n, st, k => k _ st
theorem Side.it_obj {h : Heap} {I : Addr} {i : Nat} : ∀ {sd : Side}, sd.it h I i → ∃ o, h.get? I = some o ∧ ∀ v, o.data ≠ .cell v
  | .L a, ⟨o, e, _, d⟩ => ⟨o, e, fun v q => by rw [d] at q; cases q⟩
  | .T a, ⟨o, e, _, d⟩ => ⟨o, e, fun v q => by rw [d] at q; cases q⟩
  | .S x t, ⟨o, e, _, d⟩ => ⟨o, e, fun v q => by rw [d] at q; cases q⟩
  | .R n, e => ⟨_, e, fun v q => nomatch q⟩
theorem Side.at_inj {X : Cx} {pins : List (Addr × Obj)} {σ : L2.St} {H : Hp} {s : Shared} (I : Inv X pins σ H s) : ∀ {sd : Side} {xs ys : List V}, sd.at X.K H xs → sd.at X.K H ys → xs = ys
  | .L a, xs, ys, h1, h2 => I.list_inj h1 h2
  | .T a, xs, ys, h1, h2 => I.tuple_inj h1 h2
  | .S x t, xs, ys, h1, h2 => h1.trans h2.symm
  | .R n, xs, ys, h1, h2 => h1.trans h2.symm
theorem Side.draws {X : Cx} {pins : List (Addr × Obj)} {σ : L2.St} {H : Hp} {s : Shared} {it : Addr} (I : Inv X pins σ H s) (hc : X.calm = true) : ∀ {sd : Side} {xs : List V}, sd.at X.K H xs → (∀ b ∈ sd.base, b ≠ it) →
    ∃ (P : Nat → Value → Prop) (St : Nat → Heap → Prop), Draws X.prog X.w X.A.in1 it (it :: sd.base) xs.length P St ∧ (∀ i, sd.it s.heap it i → St i s.heap) ∧ (∀ i h, St i h → sd.it h it i) ∧ ∀ i u, P i u → ∃ x, xs[i]? = some x ∧ RelV x u
  | .L a, xs, h1, hb => by
    obtain ⟨its, rv, p, hz⟩ := I.list h1
    have D := Draws.list (prog := X.prog) (w := X.w) (A := X.A.in1) (show X.A.handled = none from I.ok.hd hc) it a (hb a (by simp [Side.base])) its.toArray
    have e : its.toArray.size = xs.length := by rw [List.size_toArray, ← rv.length]
    rw [e] at D
    refine ⟨_, _, D, fun i st => ⟨st, p.isList⟩, fun i h st => st.1, fun i u q => ?_⟩
    obtain ⟨x, hx, rx⟩ := vals_get' rv (show its[i]? = some u by simpa using q)
    exact ⟨x, hx, rx⟩
  | .T a, xs, h1, hb => by
    obtain ⟨its, rv, p, hz⟩ := I.tuple h1
    have D := Draws.tuple (prog := X.prog) (w := X.w) (A := X.A.in1) (show X.A.handled = none from I.ok.hd hc) it a (hb a (by simp [Side.base])) its.toArray
    have e : its.toArray.size = xs.length := by rw [List.size_toArray, ← rv.length]
    rw [e] at D
    refine ⟨_, _, D, fun i st => ⟨st, p⟩, fun i h st => st.1, fun i u q => ?_⟩
    obtain ⟨x, hx, rx⟩ := vals_get' rv (show its[i]? = some u by simpa using q)
    exact ⟨x, hx, rx⟩
  | .S x t, xs, h1, hb => by
    have h1 : xs = _ := h1
    subst h1
    have D := Draws.text (prog := X.prog) (w := X.w) (A := X.A.in1) (show X.A.handled = none from I.ok.hd hc) it x t
    have e : x.cps.size = (x.cps.toList.map fun c => V.str ⟨#[c]⟩).length := by simp
    rw [e] at D
    refine ⟨_, _, D, fun i st => st, fun i h st => st, fun i u q => ?_⟩
    obtain ⟨c, t', hc', rfl⟩ := q
    refine ⟨.str ⟨#[c]⟩, ?_, t', rfl⟩
    rw [List.getElem?_map]
    have : x.cps.toList[i]? = some c := by simpa using hc'
    rw [this]
    rfl
  | .R n, xs, h1, hb => by
    have h1 : xs = _ := h1
    subst h1
    have D := Draws.sbRange (prog := X.prog) (w := X.w) (A := X.A.in1) (show X.A.handled = none from I.ok.hd hc) it n
    have e : n = ((List.range n).map fun i => V.int ((i : Nat) : Int)).length := by simp
    have D' : Draws X.prog X.w X.A.in1 it [it] ((List.range n).map fun i => V.int ((i : Nat) : Int)).length (fun i v => i < n ∧ ∃ t, v = .int ((i : Nat) : Int) t) (fun i h => IsRangeIter h it ((i : Nat) : Int) ((n : Int) - ((i : Nat) : Int)) 1) := by
      rw [← e]
      exact ⟨D.live, D.frame, fun i s Q E hi st hQ => D.item i s Q E hi st fun x h' tk p => hQ x h' tk ⟨hi, p⟩, D.done⟩
    refine ⟨_, _, D', fun i st => st, fun i h st => st, fun i u q => ?_⟩
    obtain ⟨hi, t', rfl⟩ := q
    refine ⟨.int ((i : Nat) : Int), ?_, t', rfl⟩
    rw [List.getElem?_map, List.getElem?_range hi]
    rfl
/-! ### two -/
def Itz2 (K : PySem.W.Frag) (s1 s2 : Side) : It :=
  ⟨fun i H => ∃ (xs ys : List V), s1.at K H xs ∧ s2.at K H ys ∧ i < xs.length ∧ i < ys.length,
    fun i H v H' => ∃ T x y, v = .ref T ∧ H T = none ∧ H' = upd H T (.tup [x, y]) ∧ (∀ xs, s1.at K H xs → xs[i]? = some x) ∧ ∀ ys, s2.at K H ys → ys[i]? = some y,
    fun i H => ∃ xs ys : List V, s1.at K H xs ∧ s2.at K H ys ∧ i = min xs.length ys.length⟩
theorem turn_z2 {P : Program} {w : World} {K : PySem.W.Frag} {elts : List Expr} {kk : Nat} {tpos : Pos} {s1 s2 : Side} {z TI TO i1 i2 : Addr} (D : ZipSep2 z TI TO i1 i2 (i1 :: s1.base) (i2 :: s2.base)) (n1 : ∀ b ∈ s1.base, b ≠ i1) (n2 : ∀ b ∈ s2.base, b ≠ i2) :
    Turn P w K (.Tuple elts kk tpos) (Itz2 K s1 s2) [z, TI, TO, i1, i2] z (fun i h => IsZip h z TI TO .none ∧ IsTupOf2 h TI (.ref i1) (.ref i2) ∧ (∃ x y, IsTupOf2 h TO x y) ∧ s1.it h i1 i ∧ s2.it h i2 i) where
  mem := by simp
  obj := fun i h st c hc => by
    obtain ⟨hz, hTI, ⟨x, y, hTO⟩, h1, h2⟩ := st
    have e' : c = z ∨ c = TI ∨ c = TO ∨ c = i1 ∨ c = i2 := by simpa using hc
    rcases e' with q | q | q | q | q
    · rw [q]; exact ⟨_, hz, fun v q => nomatch q⟩
    · rw [q]; exact ⟨_, hTI, fun v q => nomatch q⟩
    · rw [q]; exact ⟨_, hTO, fun v q => nomatch q⟩
    · rw [q]; exact Side.it_obj h1
    · rw [q]; exact Side.it_obj h2
  keep := fun i h h' st k => by
    obtain ⟨hz, hTI, ⟨x, y, hTO⟩, h1, h2⟩ := st
    exact ⟨k z (by simp) _ hz, k TI (by simp) _ hTI, ⟨x, y, k TO (by simp) _ hTO⟩, Side.it_keep h1 fun o q => k i1 (by simp) o q, Side.it_keep h2 fun o q => k i2 (by simp) o q⟩
  item := by
    intro X hP hw hK hc i pins s σ H E I hf st hg
    subst hP hw hK
    obtain ⟨hz, hTI, ⟨x0, y0, hTO⟩, h1, h2⟩ := st
    obtain ⟨xs, ys, hqx, hqy, hx, hy⟩ := hg
    obtain ⟨P1, S1, D1, a1, b1, c1⟩ := Side.draws (it := i1) I hc hqx n1
    obtain ⟨P2, S2, D2, a2, b2, c2⟩ := Side.draws (it := i2) I hc hqy n2
    have hzl : z < s.heap.objs.size := Heap.lt_size hz
    refine wpAny_pyNext_zipD2_item D D1 D2 hz hTI hTO (a1 i h1) (a2 i h2) hx hy fun u u2 h' tk p1 p2 z' TO' h1' h2' hT hsz hk => ?_
    obtain ⟨x, ex, ru⟩ := c1 i u p1
    obtain ⟨y, ey, ru2⟩ := c2 i u2 p2
    refine ⟨_, rfl, wpAny_letOwnedTupleGo_zip (s := { s with heap := h', toks := tk }) z' fun h'' z'' sb => ?_⟩
    have hT2 : h''.get? s.heap.objs.size = some { cls := .type "tuple", data := .seq #[u, u2] } := (sb.2 _ (Nat.ne_of_gt hzl)).trans hT
    have new : ObjOk X.prog X.w (upd H s.heap.objs.size (.tup [x, y])) h'' s.heap.objs.size (.tup [x, y]) :=
      ⟨by show 2 ≤ sizeLine; decide, [u, u2], .cons ru (.cons ru2 .nil), ⟨_, hT2, rfl, _, rfl⟩⟩
    have I1 : Inv X pins σ (upd H s.heap.objs.size (.tup [x, y])) { s with heap := h'', toks := tk } :=
      I.turnedNew (t' := tk) (ch := [z, TI, TO, i1, i2]) (fun c o hb q => (sb.2 c (fun q' => hb (by simp [q']))).trans (hk c o (fun q' => hb (by simp [q'])) (fun q' => hb (by simp [q'])) (fun q' => hb (by simp [q'])) (fun q' => hb (by simp [q'])) q)) hf (Nat.le_refl _) new
    refine ⟨.ref s.heap.objs.size, _, I1, rfl, ⟨_, x, y, rfl, I.hok.fresh (Nat.le_refl _), rfl, fun l hl => by rw [Side.at_inj I hl hqx]; exact ex, fun l hl => by rw [Side.at_inj I hl hqy]; exact ey⟩, ⟨z'', ?_, ⟨u, u2, ?_⟩, ?_, ?_⟩, fun c hcm => ?_⟩
    · exact (sb.2 _ D.TIz).trans (hk _ _ D.TIz D.TITO D.TIi1 D.TIi2 hTI)
    · exact (sb.2 _ D.TOz).trans TO'
    · exact Side.it_keep (b1 _ _ h1') fun o q => (sb.2 _ (Ne.symm D.zi1)).trans q
    · exact Side.it_keep (b2 _ _ h2') fun o q => (sb.2 _ (Ne.symm D.zi2)).trans q
    · have hlt : c < s.heap.objs.size := by
        have e' : c = z ∨ c = TI ∨ c = TO ∨ c = i1 ∨ c = i2 := by simpa using hcm
        rcases e' with q | q | q | q | q
        · rw [q]; exact hzl
        · rw [q]; exact Heap.lt_size hTI
        · rw [q]; exact Heap.lt_size hTO
        · rw [q]; obtain ⟨_, e1, _⟩ := Side.it_obj h1; exact Heap.lt_size e1
        · rw [q]; obtain ⟨_, e2, _⟩ := Side.it_obj h2; exact Heap.lt_size e2
      rw [upd_ne (Nat.ne_of_lt hlt)]
      exact (hf c hcm).1
  done := by
    intro X hP hw hK hc i pins s σ H E I hf st hg
    subst hP hw hK
    obtain ⟨hz, hTI, ⟨x0, y0, hTO⟩, h1, h2⟩ := st
    obtain ⟨xs, ys, hqx, hqy, hend⟩ := hg
    obtain ⟨P1, S1, D1, a1, b1, c1⟩ := Side.draws (it := i1) I hc hqx n1
    obtain ⟨P2, S2, D2, a2, b2, c2⟩ := Side.draws (it := i2) I hc hqy n2
    refine wpAny_pyNext_zipD2_end D D1 D2 hz hTI hTO (a1 i h1) (a2 i h2) (by omega) (by omega) (by omega) fun h' tk hk => ⟨rfl, I.turnedL (t' := tk) (ch := [z, TI, TO, i1, i2]) (fun c o hb q =>
      hk c o (fun q' => hb (by simp [q'])) (fun q' => hb (by simp [q'])) (fun q' => hb (by simp [q'])) (fun q' => hb (by simp [q'])) q) hf⟩
  self := fun A i s Q E st h => wpAny_pyIter_zip st.1 h
/-- a datum that may be a side -/
def sdOf : D → Option (List D)
  | .list xs => some xs
  | .tuple xs => some xs
  | .str x => some (signs x)
  | _ => none
/-- a side and its datum -/
def Side.is (K : KW) (G H : Hp) (sd : Side) (v : V) (d : D) : Prop := match sd, d with
  | .L a, .list _ => v = .ref a
  | .T a, .tuple _ => v = .ref a
  | .S x _, .str y => x = y ∧ v = .str x
  | _, _ => False
theorem signs_dq2 {K : KW} {G : Hp} : ∀ l : List Nat, DqAll K G (l.map fun c => V.str ⟨#[c]⟩) (l.map fun c => (.str ⟨#[c]⟩ : D))
  | [] => .nil
  | c :: l => .cons (.str _) (signs_dq2 l)
theorem Side.of_vw {K : KW} {G H : Hp} (sm : Same G H) {sd : Side} {v : V} {d : D} {xs : List D} (hs : sd.is K G H v d) (h : Vw K G H v d) (e : sdOf d = some xs) : ∃ vs, sd.at K.K H vs ∧ DqAll K G vs xs := by
  cases sd with
  | L a =>
    cases d <;> simp only [Side.is] at hs
    obtain ⟨b, vs, e2, h1, h2⟩ := h
    rw [hs] at e2
    cases e2
    cases e
    exact ⟨vs, h1, h2⟩
  | T a =>
    cases d <;> simp only [Side.is] at hs
    obtain ⟨b, vs, e2, h1, h2⟩ := h
    rw [hs] at e2
    cases e2
    cases e
    exact ⟨vs, same_sqT sm h1, h2⟩
  | S x t =>
    cases d <;> simp only [Side.is] at hs
    obtain ⟨rfl, _⟩ := hs
    cases e
    exact ⟨_, rfl, signs_dq2 _⟩
  | R n => cases d <;> simp only [Side.is] at hs
theorem itD_z2 {K : KW} {s1 s2 : Side} {v w : V} {d e : D} {xs ys : List D} (h1 : ∀ G H, s1.is K G H v d) (h2 : ∀ G H, s2.is K G H w e) (e1 : sdOf d = some xs) (e2 : sdOf e = some ys) : ItD K (Itz2 K s1 s2) [v, w] [d, e] ((xs.zip ys).map fun p => .tuple [p.1, p.2]) where
  go := fun i G H sm h hi => by
    rw [List.length_map, List.length_zip] at hi
    obtain ⟨v', w', e', g1, g2⟩ := vwA2 h
    cases e'
    obtain ⟨us, a1, b1⟩ := Side.of_vw sm (h1 G H) g1 e1
    obtain ⟨ws, a2, b2⟩ := Side.of_vw sm (h2 G H) g2 e2
    have := dpAll_length b1
    have := dpAll_length b2
    exact ⟨us, ws, a1, a2, by omega, by omega⟩
  stop := fun i G H sm h hi => by
    rw [List.length_map, List.length_zip] at hi
    obtain ⟨v', w', e', g1, g2⟩ := vwA2 h
    cases e'
    obtain ⟨us, a1, b1⟩ := Side.of_vw sm (h1 G H) g1 e1
    obtain ⟨ws, a2, b2⟩ := Side.of_vw sm (h2 G H) g2 e2
    exact ⟨us, ws, a1, a2, by rw [dpAll_length b1, dpAll_length b2]; exact hi⟩
  yld := fun i G H x H' sm h y hi => by
    obtain ⟨v', w', e', g1, g2⟩ := vwA2 h
    cases e'
    obtain ⟨us, a1, b1⟩ := Side.of_vw sm (h1 G H) g1 e1
    obtain ⟨ws, a2, b2⟩ := Side.of_vw sm (h2 G H) g2 e2
    obtain ⟨T, p, q, rfl, hT, rfl, y1, y2⟩ := y
    obtain ⟨d, hd, hq⟩ := dpAll_get' b1 (y1 us a1)
    obtain ⟨d2, hd2, hq2⟩ := dpAll_get' b2 (y2 ws a2)
    obtain ⟨n1, n2⟩ := new_tup (K := K) (vs := [p, q]) (ds := [d, d2]) sm hT (.cons hq (.cons hq2 .nil))
    refine ⟨_, _, ?_, n1, n2⟩
    have hz : (xs.zip ys)[i]? = some (d, d2) := List.getElem?_zip_eq_some.mpr ⟨hd, hd2⟩
    rw [List.getElem?_map, hz]
    rfl
/-- how a side begins -/
theorem Side.begins {X : Cx} {pins : List (Addr × Obj)} {σ : L2.St} {G H : Hp} {s : Shared} (I : Inv X pins σ H s) (sm : Same G H) {v : V} {u : Value} {d : D} {xs : List D} (r : RelV v u) (h : Vw X.KW G H v d) (e : sdOf d = some xs) :
    ∃ (sd : Side) (o : Obj) (Hb : Heap → Prop), (∀ G H, sd.is X.KW G H v d) ∧ Begins u o Hb ∧ Hb s.heap ∧ (∀ b ∈ sd.base, b < s.heap.objs.size) ∧ ∀ h' it, h'.get? it = some o → sd.it h' it 0 := by
  cases d with
  | list ds =>
    obtain ⟨a, vs, rfl, h1, h2⟩ := h
    cases r
    obtain ⟨its, rv, p, hz⟩ := I.list h1
    exact ⟨.L a, _, _, fun _ _ => rfl, begins_list a its.toArray, p.isList, fun b hb => by simp [Side.base] at hb; rw [hb]; exact p.lt, fun h' it e => ⟨_, e, rfl, rfl⟩⟩
  | tuple ds =>
    obtain ⟨a, vs, rfl, h1, h2⟩ := h
    cases r
    obtain ⟨its, rv, p, hz⟩ := I.tuple (same_sqT sm h1)
    exact ⟨.T a, _, _, fun _ _ => rfl, begins_tuple a its.toArray, p, fun b hb => by simp [Side.base] at hb; rw [hb]; exact p.lt, fun h' it e => ⟨_, e, rfl, rfl⟩⟩
  | str x =>
    have h : v = .str x := h
    subst h
    obtain ⟨t, rfl⟩ := r
    exact ⟨.S x t, _, _, fun _ _ => ⟨rfl, rfl⟩, begins_text x t, trivial, fun b hb => by simp [Side.base] at hb, fun h' it e => ⟨_, e, rfl, rfl⟩⟩
  | _ => cases e
theorem zip_two {ds xs : List D} (h : iterD .zip ds = some xs) : ∃ d e ys zs, ds = [d, e] ∧ sdOf d = some ys ∧ sdOf e = some zs ∧ xs = (ys.zip zs).map (fun p => .tuple [p.1, p.2]) := by
  match ds, h with
  | [], h => cases h
  | [d], h => cases d <;> cases h
  | a :: b :: c :: l, h => cases a <;> cases b <;> cases h
  | [d, e], h =>
    cases d <;> cases e <;> simp only [iterD, reduceCtorEq, Option.some.injEq] at h
    all_goals first
      | (subst h; exact ⟨_, _, _, _, rfl, rfl, rfl, rfl⟩)
      | (split at h
         · cases h; exact ⟨_, _, _, _, rfl, rfl, rfl, rfl⟩
         · cases h)
section
variable {X : Cx}
theorem fresh_of {pins : List (Addr × Obj)} {σ : L2.St} {H : Hp} {s : Shared} (I : Inv X pins σ H s) {l : List Addr} (h : ∀ c ∈ l, s.heap.objs.size ≤ c) : ∀ c ∈ l, FpOk X pins H c := fun c hc => I.fpOk (h c hc) (I.hok.fresh (h c hc))
theorem dq_size {pins : List (Addr × Obj)} {σ : L2.St} {G H : Hp} {s : Shared} (I : Inv X pins σ H s) (sm : Same G H) {v : V} {d : D} {xs : List D} (h : Vw X.KW G H v d) (e : sdOf d = some xs) (hx : ∀ x, d = .str x → x.length ≤ sizeLine) : xs.length ≤ sizeLine := by
  cases d with
  | list ds =>
    obtain ⟨a, vs, rfl, h1, h2⟩ := h
    obtain ⟨its, rv, p, hz⟩ := I.list h1
    cases e
    rw [← dpAll_length h2]
    exact hz
  | tuple ds =>
    obtain ⟨a, vs, rfl, h1, h2⟩ := h
    obtain ⟨its, rv, p, hz⟩ := I.tuple (same_sqT sm h1)
    cases e
    rw [← dpAll_length h2]
    exact hz
  | str x =>
    cases e
    unfold signs
    rw [List.length_map]
    exact hx x rfl
  | _ => cases e
theorem zip_str {d e : D} {xs : List D} (h : iterD .zip [d, e] = some xs) : ∀ x, d = .str x → x.length ≤ sizeLine := by
  intro x hd
  subst hd
  cases e <;> simp only [iterD, reduceCtorEq] at h
  split at h
  · rename_i hz
    exact hz.1
  · cases h
theorem pi_zipD {a b : Expr} {ta : TA} {p pos tpos : Pos} {elts : List Expr} {kk : Nat} (hg : Gl X "zip") (hm : X.mg "zip" = none) (ha : PA X [a, b] ta)
    (hs : starEach [a, b] X.env = (false, eval a X.env) :: starEach [b] X.env) (hpl : (backTo pos (starEach [b] X.env)).any (·.1) = false) :
    PI X (.Tuple elts kk tpos) (.Call (.Name "zip" p) [a, b] [] pos) (iD X.KW .zip ta) := by
  refine ⟨fun pins s σ H R I h => ?_⟩
  refine Call_ (ld_blt I hg hm PyProof.Rows.boot_zip (PyProof.Rows.callWith_type1 (thn (ha.run pos pins s σ H _ I h) fun us s1 ⟨vs, H1, I1, r1, q1⟩ => ?_) hs hpl))
  obtain ⟨G, ds, xs, sm, hv, hx, q⟩ := q1
  obtain ⟨d, e, ys, zs, rfl, e1, e2, rfl⟩ := zip_two hx
  obtain ⟨v, w, rfl, g1, g2⟩ := vwA2 hv
  obtain ⟨u, u2, rfl, r, r'⟩ := vals2 r1
  obtain ⟨sd1, o1, B1, i1, b1, k1, l1, t1⟩ := Side.begins I1 sm r g1 e1
  obtain ⟨sd2, o2, B2, i2, b2, k2, l2, t2⟩ := Side.begins I1 sm r' g2 e2
  refine zip_begins2 b1 b2 k1 k2 fun h' hz hTI hTO h1 h2 hsz hk => wpAny_pyIter_zip hz ?_
  have I2 : Inv X pins σ H1 { s1 with heap := h' } := I1.kept (t' := s1.toks) hk
  refine ⟨s1.heap.objs.size + 4, [s1.heap.objs.size + 4, s1.heap.objs.size + 2, s1.heap.objs.size + 3, s1.heap.objs.size, s1.heap.objs.size + 1], _, _, H1, rfl, I2,
    turn_z2 (zip_sep2 l1 l2) (fun b hb => Nat.ne_of_lt (l1 b hb)) (fun b hb => Nat.ne_of_lt (Nat.lt_succ_of_lt (l2 b hb))), ⟨hz, hTI, ⟨_, _, hTO⟩, t1 _ _ h1, t2 _ _ h2⟩, fresh_of I1 (fun c hc => ?_), q _ (itD_z2 i1 i2 e1 e2) ?_⟩
  · have e' : c = s1.heap.objs.size + 4 ∨ c = s1.heap.objs.size + 2 ∨ c = s1.heap.objs.size + 3 ∨ c = s1.heap.objs.size ∨ c = s1.heap.objs.size + 1 := by simpa using hc
    rcases e' with z | z | z | z | z
    · rw [z]; exact Nat.le_add_right _ _
    · rw [z]; exact Nat.le_add_right _ _
    · rw [z]; exact Nat.le_add_right _ _
    · rw [z]; exact Nat.le_refl _
    · rw [z]; exact Nat.le_add_right _ _
  · rw [List.length_map, List.length_zip]
    have := dq_size I1 sm g1 e1 (zip_str hx)
    omega
end
end SB
/-! Expressions: each construct keeps what the small language says. -/
namespace SB
open PySem PySem.Spec PyProof.Rows L2

theorem RR.base {K : KW} {S : Option Addr} {H H2 G' H' : Hp} {v : V} {r : Sl} (h : RR K S H2 G' H' v r) (d : ∀ b, H b ≠ none → H2 b ≠ none) : RR K S H G' H' v r := by
  cases r with
  | ow x =>
    obtain ⟨a, e, h0, r⟩ := h
    refine ⟨a, e, ?_, r⟩
    cases q : H a with
    | none => rfl
    | some o => exact absurd h0 (d a (by rw [q]; exact fun z => nomatch z))
  | _ => exact h
theorem Then.after {K : KW} {S : Option Addr} {c c1 : Option Nat} {G H G1 H1 : Hp} {r : Sl} {Q : VK} (q : Then K S c G H r Q) (n : Nxt S c1 G H G1 H1) : Then K S c G1 H1 r Q :=
  fun v G' H' n' rr => q v G' H' (n.trans n') (rr.base n.kp.dm)

def tE (Φ : Tab) (K : KW) (E : Ex) : TE := fun σ H Q => ∃ Se Ge He S c ρ G, SR K Se Ge He S c ρ σ G H ∧ ∃ r c', ev Φ E ρ c = some (r, c') ∧ Then K S c' G H r Q
def tstM (Φ : Tab) (E : Ex) (ρ : Rho) : M Bool := do let x ← ev Φ E ρ; let d ← x.rd; asB d
def tT (Φ : Tab) (K : KW) (E : Ex) : TT := fun σ H Q => ∃ Se Ge He S c ρ G, SR K Se Ge He S c ρ σ G H ∧ ∃ b c', tstM Φ E ρ c = some (b, c') ∧ ∀ G' H', Nxt S c' G H G' H' → Q b H'
section
variable {X : Cx} {Φ : Tab} {a b e : Expr} {A B E : Ex} {pos : Pos}
theorem M.rd_some {x : Sl} {c c' : Option Nat} {d : D} (h : x.rd c = some (d, c')) : c' = c := by
  cases x with
  | st => cases h
  | fz d => cases h; rfl
  | ow d => cases d <;> cases h; rfl
  | bw d => cases d <;> cases h; rfl
theorem M.asB_some {x : D} {c c' : Option Nat} {d : Bool} (h : asB x c = some (d, c')) : x = .bool d ∧ c' = c := by
  cases x with
  | bool b => cases h; exact ⟨rfl, rfl⟩
  | _ => cases h
theorem e_bin {op : Operator} (ha : PE X a (tE Φ X.KW A)) (hb : PE X b (tE Φ X.KW B)) : PE X (.BinOp a op b pos) (tE Φ X.KW (.bin op A B)) := by
  refine ⟨fun pins s σ H Q I h => ?_⟩
  obtain ⟨Se, Ge, He, S, c, ρ, G, sr, r, c', hev, q⟩ := h
  simp only [ev] at hev
  replace hev := M.bind_some hev
  obtain ⟨x, c1, h1, hev⟩ := hev
  replace hev := M.bind_some hev
  obtain ⟨d, c2, h2, hev⟩ := hev
  replace hev := M.bind_some hev
  obtain ⟨y, c3, h3, hev⟩ := hev
  replace hev := M.bind_some hev
  obtain ⟨d2, c4, h4, hev⟩ := hev
  obtain rfl := M.rd_some h2
  obtain rfl := M.rd_some h4
  obtain ⟨h5, h6⟩ := ofO_run hev
  simp only at h5 h6
  subst h6
  refine (pe_op (opD_bin op) ha hb).run pins s σ H Q I ⟨Se, Ge, He, S, c, ρ, G, sr, x, _, h1, fun v1 G1 H1 n1 r1 => ⟨Se, Ge, He, S, _, ρ, G1, sr.step n1, y, _, h3, fun v2 G2 H2 n2 r2 => ?_⟩⟩
  exact ⟨S, G2, _, d, d2, r, n2.sub, n2.sta, ((r1.mono n2.kp).vw n2.sub h2).1, (r2.vw n2.sub h4).1, h5, q.after (n1.trans n2)⟩
theorem e_cmp {op : CmpOp} (hu : X.A.units + 65 < cLine) (ha : PE X a (tE Φ X.KW A)) (hb : PE X b (tE Φ X.KW B)) (hm : behindInMarks op b = false) : PE X (.Compare a [op] [b] pos) (tE Φ X.KW (.cmp op A B)) := by
  refine ⟨fun pins s σ H Q I h => ?_⟩
  obtain ⟨Se, Ge, He, S, c, ρ, G, sr, r, c', hev, q⟩ := h
  simp only [ev] at hev
  replace hev := M.bind_some hev
  obtain ⟨x, c1, h1, hev⟩ := hev
  replace hev := M.bind_some hev
  obtain ⟨d, c2, h2, hev⟩ := hev
  replace hev := M.bind_some hev
  obtain ⟨y, c3, h3, hev⟩ := hev
  replace hev := M.bind_some hev
  obtain ⟨d2, c4, h4, hev⟩ := hev
  obtain rfl := M.rd_some h2
  obtain rfl := M.rd_some h4
  obtain ⟨h5, h6⟩ := ofO_run hev
  simp only at h5 h6
  subst h6
  refine (pe_cmpR (opD_cmp hu op) ha hb hm).run pins s σ H Q I ⟨Se, Ge, He, S, c, ρ, G, sr, x, _, h1, fun v1 G1 H1 n1 r1 => ⟨Se, Ge, He, S, _, ρ, G1, sr.step n1, y, _, h3, fun v2 G2 H2 n2 r2 => ?_⟩⟩
  exact ⟨S, G2, _, d, d2, r, n2.sub, n2.sta, ((r1.mono n2.kp).vw n2.sub h2).1, (r2.vw n2.sub h4).1, h5, q.after (n1.trans n2)⟩
/-- a test's value -/
theorem Then.test {K : KW} {S : Option Addr} {c : Option Nat} {G H : Hp} {k : Bool} {Q : Bool → Hp → Prop} (q : ∀ G' H', Nxt S c G H G' H' → Q k H') : Then K S c G H (.fz (.bool k)) (fun v H' => ∃ k', v = .bl k' ∧ Q k' H') :=
  fun v G' H' n rr => by
    cases rr
    exact ⟨k, rfl, q G' H' n⟩
theorem tst_some {ρ : Rho} {c c' : Option Nat} {k : Bool} (h : tstM Φ E ρ c = some (k, c')) : ∃ x, ev Φ E ρ c = some (x, c') ∧ x.rd c' = some (.bool k, c') := by
  unfold tstM at h
  replace h := M.bind_some h
  obtain ⟨x, c1, h1, h⟩ := h
  replace h := M.bind_some h
  obtain ⟨d, c2, h2, h⟩ := h
  obtain ⟨h3, h4⟩ := M.asB_some h
  subst h3 h4
  obtain rfl := M.rd_some h2
  exact ⟨x, h1, h2⟩
theorem rd_bool {x : Sl} {c c' : Option Nat} {K : KW} {S : Option Addr} {H0 G H : Hp} {v : V} {k : Bool} (sm : Same G H) (h : x.rd c = some (.bool k, c')) (r : RR K S H0 G H v x) : v = .bl k := by
  have := (r.vw sm h).1
  exact this
theorem t_cmp {op : CmpOp} (hu : X.A.units + 65 < cLine) (ha : PE X a (tE Φ X.KW A)) (hb : PE X b (tE Φ X.KW B)) (hm : behindInMarks op b = false) : PT X (.Compare a [op] [b] pos) (tT Φ X.KW (.cmp op A B)) := by
  refine ⟨fun pins s σ H Q I h => ?_⟩
  obtain ⟨Se, Ge, He, S, c, ρ, G, sr, k, c', hev, q⟩ := h
  obtain ⟨z, hev, hz⟩ := tst_some hev
  simp only [ev] at hev
  replace hev := M.bind_some hev
  obtain ⟨x, c1, h1, hev⟩ := hev
  replace hev := M.bind_some hev
  obtain ⟨d, c2, h2, hev⟩ := hev
  replace hev := M.bind_some hev
  obtain ⟨y, c3, h3, hev⟩ := hev
  replace hev := M.bind_some hev
  obtain ⟨d2, c4, h4, hev⟩ := hev
  obtain rfl := M.rd_some h2
  obtain rfl := M.rd_some h4
  obtain ⟨h5, h6⟩ := ofO_run hev
  simp only at h5 h6
  subst h6
  refine (pt_cmpR (opD_cmp hu op) ha hb hm).run pins s σ H Q I ⟨Se, Ge, He, S, c, ρ, G, sr, x, _, h1, fun v1 G1 H1 n1 r1 => ⟨Se, Ge, He, S, _, ρ, G1, sr.step n1, y, _, h3, fun v2 G2 H2 n2 r2 => ?_⟩⟩
  refine ⟨S, G2, _, d, d2, z, n2.sub, n2.sta, ((r1.mono n2.kp).vw n2.sub h2).1, (r2.vw n2.sub h4).1, h5, fun v G' H' n rr => ?_⟩
  exact ⟨k, rd_bool n.sub hz rr, q _ _ (n1.trans (n2.trans n))⟩
theorem ch_body {op op' : CmpOp} {C : Ex} {ρ : Rho} {c c' : Option Nat} {z : Sl} (hev : ev Φ (.chain op op' A B C) ρ c = some (z, c')) :
    ∃ x d y d2 k c1 c3, ev Φ A ρ c = some (x, c1) ∧ x.rd c1 = some (d, c1) ∧ ev Φ B ρ c1 = some (y, c3) ∧ y.rd c3 = some (d2, c3) ∧ cmpD op d d2 = some k ∧
      ((k = false ∧ z = .fz (.bool false) ∧ c' = c3) ∨ (k = true ∧ ∃ w d3, ev Φ C ρ c3 = some (w, c') ∧ w.rd c' = some (d3, c') ∧ cmpS op' d2 d3 = some z)) := by
  simp only [ev] at hev
  replace hev := M.bind_some hev
  obtain ⟨x, c1, h1, hev⟩ := hev
  replace hev := M.bind_some hev
  obtain ⟨d, c2, h2, hev⟩ := hev
  replace hev := M.bind_some hev
  obtain ⟨y, c3, h3, hev⟩ := hev
  replace hev := M.bind_some hev
  obtain ⟨d2, c4, h4, hev⟩ := hev
  replace hev := M.bind_some hev
  obtain ⟨k, c5, h5, hev⟩ := hev
  obtain rfl := M.rd_some h2
  obtain rfl := M.rd_some h4
  replace h5 := ofO_run h5
  obtain ⟨h5, h6⟩ := h5
  simp only at h5 h6
  subst h6
  refine ⟨x, d, y, d2, k, _, _, h1, h2, h3, h4, h5, ?_⟩
  cases k with
  | false =>
    rw [if_neg Bool.false_ne_true] at hev
    cases hev
    exact .inl ⟨rfl, rfl, rfl⟩
  | true =>
    rw [if_pos rfl] at hev
    replace hev := M.bind_some hev
    obtain ⟨w, c6, h7, hev⟩ := hev
    replace hev := M.bind_some hev
    obtain ⟨d3, c7, h8, hev⟩ := hev
    obtain rfl := M.rd_some h8
    obtain ⟨h9, h10⟩ := ofO_run hev
    simp only at h9 h10
    subst h10
    exact .inr ⟨rfl, w, d3, h7, h8, h9⟩
theorem e_chain {op op' : CmpOp} {cx : Expr} {C : Ex} (hu : X.A.units + 65 < cLine) (ha : PE X a (tE Φ X.KW A)) (hb : PE X b (tE Φ X.KW B)) (hc : PE X cx (tE Φ X.KW C)) (hm : lastMarks [op, op'] [b, cx] = false) : PE X (.Compare a [op, op'] [b, cx] pos) (tE Φ X.KW (.chain op op' A B C)) := by
  refine ⟨fun pins s σ H Q I h => ?_⟩
  obtain ⟨Se, Ge, He, S, c, ρ, G, sr, r, c', hev, q⟩ := h
  obtain ⟨x, d, y, d2, k, c1, c3, h1, h2, h3, h4, h5, hk⟩ := ch_body hev
  refine (pe_chain (opD_cmp hu op) (opD_cmp hu op') ha hb hc hm).run pins s σ H Q I ⟨Se, Ge, He, S, c, ρ, G, sr, x, _, h1, fun v1 G1 H1 n1 r1 => ⟨Se, Ge, He, S, _, ρ, G1, sr.step n1, y, _, h3, fun v2 G2 H2 n2 r2 => ?_⟩⟩
  refine ⟨S, G2, _, d, d2, .fz (.bool k), n2.sub, n2.sta, ((r1.mono n2.kp).vw n2.sub h2).1, (r2.vw n2.sub h4).1, by simp [cmpS, h5], fun v3 G3 H3 n3 r3 => ?_⟩
  cases r3
  refine ⟨k, rfl, ?_⟩
  have n13 := n1.trans (n2.trans n3)
  rcases hk with ⟨rfl, rfl, rfl⟩ | ⟨rfl, w, d3, h7, h8, h9⟩
  · rw [if_neg Bool.false_ne_true]
    exact q _ _ _ n13 (.bl _)
  · rw [if_pos rfl]
    refine ⟨Se, Ge, He, S, _, ρ, G3, sr.step n13, w, _, h7, fun v4 G4 H4 n4 r4 => ?_⟩
    exact ⟨S, G4, _, d2, d3, r, n4.sub, n4.sta, (((r2.mono n3.kp).mono n4.kp).vw n4.sub h4).1, (r4.vw n4.sub h8).1, h9, q.after (n13.trans n4)⟩
theorem t_chain {op op' : CmpOp} {cx : Expr} {C : Ex} (hu : X.A.units + 65 < cLine) (ha : PE X a (tE Φ X.KW A)) (hb : PE X b (tE Φ X.KW B)) (hc : PE X cx (tE Φ X.KW C)) (hm : lastMarks [op, op'] [b, cx] = false) : PT X (.Compare a [op, op'] [b, cx] pos) (tT Φ X.KW (.chain op op' A B C)) := by
  refine ⟨fun pins s σ H Q I h => ?_⟩
  obtain ⟨Se, Ge, He, S, c, ρ, G, sr, t, c', hev, q⟩ := h
  obtain ⟨z, hev, hz⟩ := tst_some hev
  obtain ⟨x, d, y, d2, k, c1, c3, h1, h2, h3, h4, h5, hk⟩ := ch_body hev
  refine (pt_chain (opD_cmp hu op) (opD_cmp hu op') ha hb hc hm).run pins s σ H Q I ⟨Se, Ge, He, S, c, ρ, G, sr, x, _, h1, fun v1 G1 H1 n1 r1 => ⟨Se, Ge, He, S, _, ρ, G1, sr.step n1, y, _, h3, fun v2 G2 H2 n2 r2 => ?_⟩⟩
  refine ⟨S, G2, _, d, d2, .fz (.bool k), n2.sub, n2.sta, ((r1.mono n2.kp).vw n2.sub h2).1, (r2.vw n2.sub h4).1, by simp [cmpS, h5], fun v3 G3 H3 n3 r3 => ?_⟩
  cases r3
  refine ⟨k, rfl, ?_⟩
  have n13 := n1.trans (n2.trans n3)
  rcases hk with ⟨rfl, rfl, rfl⟩ | ⟨rfl, w, d3, h7, h8, h9⟩
  · rw [if_neg Bool.false_ne_true]
    cases hz
    exact ⟨false, rfl, q _ _ n13⟩
  · rw [if_pos rfl]
    refine ⟨Se, Ge, He, S, _, ρ, G3, sr.step n13, w, _, h7, fun v4 G4 H4 n4 r4 => ?_⟩
    refine ⟨S, G4, _, d2, d3, z, n4.sub, n4.sta, (((r2.mono n3.kp).mono n4.kp).vw n4.sub h4).1, (r4.vw n4.sub h8).1, h9, fun v5 G5 H5 n5 r5 => ?_⟩
    exact ⟨t, rd_bool n5.sub hz r5, q _ _ (n13.trans (n4.trans n5))⟩
/-- a value as a test -/
theorem t_val (he : PE X e (tE Φ X.KW E)) (hp : ∀ whole, isTrue e X.env whole = (do let v ← whole; standAt e.pos; holding [v] (truthy v))) : PT X e (tT Φ X.KW E) := by
  refine ⟨fun pins s σ H Q I h => ?_⟩
  obtain ⟨Se, Ge, He, S, c, ρ, G, sr, k, c', hev, q⟩ := h
  obtain ⟨z, hev, hz⟩ := tst_some hev
  refine (pt_val he hp).run pins s σ H Q I ⟨Se, Ge, He, S, c, ρ, G, sr, z, _, hev, fun v G' H' n rr => ?_⟩
  exact ⟨k, rd_bool n.sub hz rr, q _ _ n⟩
theorem e_not (ha : PE X a (tE Φ X.KW A)) : PE X (.UnaryOp .Not a pos) (tE Φ X.KW (.not A)) := by
  refine ⟨fun pins s σ H Q I h => ?_⟩
  obtain ⟨Se, Ge, He, S, c, ρ, G, sr, r, c', hev, q⟩ := h
  simp only [ev] at hev
  replace hev := M.bind_some hev
  obtain ⟨x, c1, h1, hev⟩ := hev
  replace hev := M.bind_some hev
  obtain ⟨d, c2, h2, hev⟩ := hev
  replace hev := M.bind_some hev
  obtain ⟨k, c3, h3, hev⟩ := hev
  obtain rfl := M.rd_some h2
  obtain ⟨rfl, rfl⟩ := M.asB_some h3
  cases hev
  refine (pe_not ha).run pins s σ H Q I ⟨Se, Ge, He, S, c, ρ, G, sr, x, _, h1, fun v G' H' n rr => ?_⟩
  exact ⟨k, rd_bool n.sub h2 rr, q _ _ _ n (.bl _)⟩
theorem t_not (ha : PT X a (tT Φ X.KW A)) : PT X (.UnaryOp .Not a pos) (tT Φ X.KW (.not A)) := by
  refine ⟨fun pins s σ H Q I h => ?_⟩
  obtain ⟨Se, Ge, He, S, c, ρ, G, sr, r, c', hev, q⟩ := h
  obtain ⟨z, hev, hz⟩ := tst_some hev
  simp only [ev] at hev
  replace hev := M.bind_some hev
  obtain ⟨x, c1, h1, hev⟩ := hev
  replace hev := M.bind_some hev
  obtain ⟨d, c2, h2, hev⟩ := hev
  replace hev := M.bind_some hev
  obtain ⟨k, c3, h3, hev⟩ := hev
  obtain rfl := M.rd_some h2
  obtain ⟨rfl, rfl⟩ := M.asB_some h3
  cases hev
  cases hz
  refine (pt_not ha).run pins s σ H Q I ⟨Se, Ge, He, S, c, ρ, G, sr, k, _, ?_, fun G' H' n => q _ _ n⟩
  unfold tstM
  rw [M.bind_run, h1]
  show (Sl.rd x >>= asB) _ = _
  rw [M.bind_run, h2]
  rfl
theorem intOf_some {d : D} {i : Int} (h : intOf d = some i) : d = .int i := by
  cases d <;> first | cases h | skip
  rfl
theorem strOf_some {d : D} {x : Str} (h : strOf d = some x) : d = .str x := by
  cases d <;> first | cases h | skip
  rfl
theorem lstOf_some {d : D} {x : List D} (h : lstOf d = some x) : d = .list x := by
  cases d <;> first | cases h | skip
  rfl
theorem slAt_some {ρ : Rho} {i : Nat} {s : Sl} (h : slAt ρ i = some s) : ρ[i]? = some (some s) := by
  unfold slAt at h
  cases q : ρ[i]? with
  | none => rw [q] at h; cases h
  | some o =>
    rw [q] at h
    exact congrArg some h
theorem ofO2 {α : Type} {o : Option α} {c c' : Option Nat} {a : α} (h : ofO o c = some (a, c')) : o = some a ∧ c' = c := ofO_run h
theorem e_neg (ha : PE X a (tE Φ X.KW A)) : PE X (.UnaryOp .USub a pos) (tE Φ X.KW (.neg A)) := by
  refine ⟨fun pins s σ H Q I h => ?_⟩
  obtain ⟨Se, Ge, He, S, c, ρ, G, sr, r, c', hev, q⟩ := h
  simp only [ev] at hev
  replace hev := M.bind_some hev
  obtain ⟨x, c1, h1, hev⟩ := hev
  replace hev := M.bind_some hev
  obtain ⟨d, c2, h2, hev⟩ := hev
  replace hev := M.bind_some hev
  obtain ⟨i, c3, h3, hev⟩ := hev
  have e2 := M.rd_some h2
  subst e2
  obtain ⟨h4, e4⟩ := ofO2 h3
  subst e4
  have e5 := intOf_some h4
  subst e5
  cases hev
  refine (pe_un un_neg ha).run pins s σ H Q I ⟨Se, Ge, He, S, c, ρ, G, sr, x, _, h1, fun v G' H' n rr => ?_⟩
  exact ⟨i, (rr.vw n.sub h2).1, q _ _ _ n (.int _)⟩
theorem t_run {ρ : Rho} {c c' : Option Nat} {x : Sl} {k : Bool} (h1 : ev Φ A ρ c = some (x, c')) (h2 : x.rd c' = some (.bool k, c')) : tstM Φ A ρ c = some (k, c') := by
  unfold tstM
  rw [M.bind_run, h1]
  show (Sl.rd x >>= asB) _ = _
  rw [M.bind_run, h2]
  rfl
theorem ao_body {ρ : Rho} {c c' : Option Nat} {z : Sl} {f g : M Sl} (hev : (do let x ← ev Φ A ρ; let d ← x.rd; let k ← asB d; if k then f else g) c = some (z, c')) :
    ∃ x k c1, ev Φ A ρ c = some (x, c1) ∧ x.rd c1 = some (.bool k, c1) ∧ (if k then f else g) c1 = some (z, c') := by
  replace hev := M.bind_some hev
  obtain ⟨x, c1, h1, hev⟩ := hev
  replace hev := M.bind_some hev
  obtain ⟨d, c2, h2, hev⟩ := hev
  replace hev := M.bind_some hev
  obtain ⟨k, c3, h3, hev⟩ := hev
  obtain rfl := M.rd_some h2
  obtain ⟨rfl, rfl⟩ := M.asB_some h3
  exact ⟨x, k, _, h1, h2, hev⟩
theorem e_and {rest : List Expr} (ha : PE X a (tE Φ X.KW A)) (hb : PE X (.BoolOp .And (b :: rest) pos) (tE Φ X.KW B)) : PE X (.BoolOp .And (a :: b :: rest) pos) (tE Φ X.KW (.and A B)) := by
  refine ⟨fun pins s σ H Q I h => ?_⟩
  obtain ⟨Se, Ge, He, S, c, ρ, G, sr, r, c', hev, q⟩ := h
  simp only [ev] at hev
  obtain ⟨x, k, c1, h1, h2, hev⟩ := ao_body hev
  refine (pe_and ha hb).run pins s σ H Q I ⟨Se, Ge, He, S, c, ρ, G, sr, x, _, h1, fun v G1 H1 n rr => ?_⟩
  refine ⟨k, rd_bool n.sub h2 rr, ?_⟩
  cases k with
  | false =>
    rw [if_neg Bool.false_ne_true] at hev ⊢
    cases hev
    exact q _ _ _ n (.bl _)
  | true =>
    rw [if_pos rfl] at hev ⊢
    exact ⟨Se, Ge, He, S, _, ρ, G1, sr.step n, r, _, hev, q.after n⟩
theorem e_or {rest : List Expr} (ha : PE X a (tE Φ X.KW A)) (hb : PE X (.BoolOp .Or (b :: rest) pos) (tE Φ X.KW B)) : PE X (.BoolOp .Or (a :: b :: rest) pos) (tE Φ X.KW (.or A B)) := by
  refine ⟨fun pins s σ H Q I h => ?_⟩
  obtain ⟨Se, Ge, He, S, c, ρ, G, sr, r, c', hev, q⟩ := h
  simp only [ev] at hev
  obtain ⟨x, k, c1, h1, h2, hev⟩ := ao_body hev
  refine (pe_or ha hb).run pins s σ H Q I ⟨Se, Ge, He, S, c, ρ, G, sr, x, _, h1, fun v G1 H1 n rr => ?_⟩
  refine ⟨k, rd_bool n.sub h2 rr, ?_⟩
  cases k with
  | true =>
    rw [if_pos rfl] at hev ⊢
    cases hev
    exact q _ _ _ n (.bl _)
  | false =>
    rw [if_neg Bool.false_ne_true] at hev ⊢
    exact ⟨Se, Ge, He, S, _, ρ, G1, sr.step n, r, _, hev, q.after n⟩
theorem t_and {rest : List Expr} (ha : PT X a (tT Φ X.KW A)) (hb : PW X (.BoolOp .And (b :: rest) pos) (tT Φ X.KW B)) : PW X (.BoolOp .And (a :: b :: rest) pos) (tT Φ X.KW (.and A B)) := by
  refine ⟨fun wh pins s σ H Q I h => ?_⟩
  obtain ⟨Se, Ge, He, S, c, ρ, G, sr, r, c', hev, q⟩ := h
  obtain ⟨z, hev, hz⟩ := tst_some hev
  simp only [ev] at hev
  obtain ⟨x, k, c1, h1, h2, hev⟩ := ao_body hev
  refine (pw_and ha hb).run wh pins s σ H Q I ⟨Se, Ge, He, S, c, ρ, G, sr, k, _, t_run h1 h2, fun G1 H1 n => ?_⟩
  cases k with
  | false =>
    rw [if_neg Bool.false_ne_true] at hev ⊢
    cases hev
    cases hz
    exact q _ _ n
  | true =>
    rw [if_pos rfl] at hev ⊢
    exact ⟨Se, Ge, He, S, _, ρ, G1, sr.step n, r, _, t_run hev hz, fun G2 H2 n2 => q _ _ (n.trans n2)⟩
theorem t_or {rest : List Expr} (ha : PT X a (tT Φ X.KW A)) (hb : PW X (.BoolOp .Or (b :: rest) pos) (tT Φ X.KW B)) : PW X (.BoolOp .Or (a :: b :: rest) pos) (tT Φ X.KW (.or A B)) := by
  refine ⟨fun wh pins s σ H Q I h => ?_⟩
  obtain ⟨Se, Ge, He, S, c, ρ, G, sr, r, c', hev, q⟩ := h
  obtain ⟨z, hev, hz⟩ := tst_some hev
  simp only [ev] at hev
  obtain ⟨x, k, c1, h1, h2, hev⟩ := ao_body hev
  refine (pw_or ha hb).run wh pins s σ H Q I ⟨Se, Ge, He, S, c, ρ, G, sr, k, _, t_run h1 h2, fun G1 H1 n => ?_⟩
  cases k with
  | true =>
    rw [if_pos rfl] at hev ⊢
    cases hev
    cases hz
    exact q _ _ n
  | false =>
    rw [if_neg Bool.false_ne_true] at hev ⊢
    exact ⟨Se, Ge, He, S, _, ρ, G1, sr.step n, r, _, t_run hev hz, fun G2 H2 n2 => q _ _ (n.trans n2)⟩
theorem e_ife {cx : Expr} {C : Ex} (hc : PT X cx (tT Φ X.KW C)) (ha : PE X a (tE Φ X.KW A)) (hb : PE X b (tE Φ X.KW B)) : PE X (.IfExp cx a b pos) (tE Φ X.KW (.ife C A B)) := by
  refine ⟨fun pins s σ H Q I h => ?_⟩
  obtain ⟨Se, Ge, He, S, c, ρ, G, sr, r, c', hev, q⟩ := h
  simp only [ev] at hev
  obtain ⟨x, k, c1, h1, h2, hev⟩ := ao_body hev
  refine (pe_ifExp hc ha hb).run pins s σ H Q I ⟨Se, Ge, He, S, c, ρ, G, sr, k, _, t_run h1 h2, fun G1 H1 n => ?_⟩
  cases k with
  | true =>
    rw [if_pos rfl] at hev ⊢
    exact ⟨Se, Ge, He, S, _, ρ, G1, sr.step n, r, _, hev, q.after n⟩
  | false =>
    rw [if_neg Bool.false_ne_true] at hev ⊢
    exact ⟨Se, Ge, He, S, _, ρ, G1, sr.step n, r, _, hev, q.after n⟩
/-! ### constants, names -/
theorem e_const {v : V} {d : D} (he : PE X e (tC v)) (hd : ∀ G, Dq X.KW G v d) (hE : ∀ ρ, ev Φ E ρ = pure (.fz d)) : PE X e (tE Φ X.KW E) := by
  refine ⟨fun pins s σ H Q I h => ?_⟩
  obtain ⟨Se, Ge, He, S, c, ρ, G, sr, r, c', hev, q⟩ := h
  rw [hE] at hev
  cases hev
  exact he.run pins s σ H Q I (q.plain sr.sub sr.sta (hd G))
theorem e_var {i : Nat} (he : PE X e (tVar i)) : PE X e (tE Φ X.KW (.v i)) := by
  refine ⟨fun pins s σ H Q I h => ?_⟩
  obtain ⟨Se, Ge, He, S, c, ρ, G, sr, r, c', hev, q⟩ := h
  simp only [ev] at hev
  replace hev := M.bind_some hev
  obtain ⟨x, c1, h1, hev⟩ := hev
  obtain ⟨h2, e2⟩ := ofO2 h1
  subst e2
  have hi := slAt_some h2
  cases hev
  obtain ⟨v, e1, hv⟩ := sr.slot i x hi
  refine he.run pins s σ H Q I ⟨v, e1, q v G H (.refl sr.sub sr.sta) ?_⟩
  cases x with
  | fz d => exact hv
  | ow d => obtain ⟨a, rfl, h0, hg, hS, ho⟩ := hv; exact ⟨a, rfl, hS, ho⟩
  | bw d => obtain ⟨a, rfl, h0, hS, ho⟩ := hv; exact ⟨a, rfl, hS, ho⟩
  | st => exact hv
theorem e_ix {bx : Expr} (ha : PE X a (tE Φ X.KW A)) (hb : PE X bx (tE Φ X.KW B)) (hs : PlainIx bx) : PE X (.Subscript a bx pos) (tE Φ X.KW (.ix A B)) := by
  refine ⟨fun pins s σ H Q I h => ?_⟩
  obtain ⟨Se, Ge, He, S, c, ρ, G, sr, r, c', hev, q⟩ := h
  simp only [ev] at hev
  replace hev := M.bind_some hev
  obtain ⟨x, c1, h1, hev⟩ := hev
  replace hev := M.bind_some hev
  obtain ⟨d, c2, h2, hev⟩ := hev
  replace hev := M.bind_some hev
  obtain ⟨y, c3, h3, hev⟩ := hev
  replace hev := M.bind_some hev
  obtain ⟨d2, c4, h4, hev⟩ := hev
  obtain rfl := M.rd_some h2
  obtain rfl := M.rd_some h4
  obtain ⟨h5, h6⟩ := ofO_run hev
  simp only at h5 h6
  subst h6
  refine (pe_ix ixD_ok ha hb hs).run pins s σ H Q I ⟨Se, Ge, He, S, c, ρ, G, sr, x, _, h1, fun v1 G1 H1 n1 r1 => ⟨Se, Ge, He, S, _, ρ, G1, sr.step n1, y, _, h3, fun v2 G2 H2 n2 r2 => ?_⟩⟩
  exact ⟨S, G2, _, d, d2, r, n2.sub, n2.sta, ((r1.mono n2.kp).vw n2.sub h2).1, (r2.vw n2.sub h4).1, h5, q.after (n1.trans n2)⟩
/-! ### several expressions -/
/-- values that are read: also later -/
def tAr (Φ : Tab) (K : KW) (Es : List Ex) : TA := fun σ H Q => ∃ Se Ge He S c ρ G, SR K Se Ge He S c ρ σ G H ∧ ∃ ds c', evr Φ Es ρ c = some (ds, c') ∧
  ∀ vs G' H', Nxt S c' G H G' H' → (∀ G2 H2, Kp S G' H' G2 H2 → Same G2 H2 → VwA K G2 H2 vs ds) → Q vs H'
def tAk (Φ : Tab) (K : KW) (Es : List Ex) : TA := fun σ H Q => ∃ Se Ge He S c ρ G, SR K Se Ge He S c ρ σ G H ∧ ∃ ds c', evk Φ Es ρ c = some (ds, c') ∧
  ∀ vs G' H', Nxt S c' G H G' H' → DqAll K G' vs ds → Q vs H'
abbrev RRs (K : KW) (S : Option Addr) (H0 G H : Hp) : List V → List Sl → Prop := Paired (RR K S H0 G H)
def tAa (Φ : Tab) (K : KW) (Es : List Ex) : TA := fun σ H Q => ∃ Se Ge He S c ρ G, SR K Se Ge He S c ρ σ G H ∧ ∃ rs c', eva Φ Es ρ c = some (rs, c') ∧
  ∀ vs G' H', Nxt S c' G H G' H' → (∀ G2 H2, Kp S G' H' G2 H2 → Same G2 H2 → RRs K S H G2 H2 vs rs) → rs.all argOk = true → Q vs H'
theorem Sl.fr_ok {x y : Sl} {c c' : Option Nat} (h : x.fr c = some (y, c')) : c' = c ∧ argOk y = true ∧ ((x = y) ∨ ∃ ds, x = .ow (.list ds) ∧ y = .fz (.list ds)) := by
  cases x with
  | fz d => cases h; exact ⟨rfl, rfl, .inl rfl⟩
  | bw d => cases h; exact ⟨rfl, rfl, .inl rfl⟩
  | st => cases h; exact ⟨rfl, rfl, .inl rfl⟩
  | ow d =>
    cases d with
    | list ds => cases h; exact ⟨rfl, rfl, .inr ⟨ds, rfl, rfl⟩⟩
    | _ => cases h
theorem Sl.kp_ok {x : Sl} {c c' : Option Nat} {d : D} (h : x.kp c = some (d, c')) : c' = c ∧ ((x = .fz d) ∨ ∃ ds, x = .ow (.list ds) ∧ d = .list ds) := by
  cases x with
  | fz d => cases h; exact ⟨rfl, .inl rfl⟩
  | bw d => cases h
  | st => cases h
  | ow d =>
    cases d with
    | list ds => cases h; exact ⟨rfl, .inr ⟨ds, rfl, rfl⟩⟩
    | _ => cases h
/-- a new list that is kept is frozen -/
theorem RR.freeze {K : KW} {S : Option Addr} {c : Option Nat} {G H G1 H1 : Hp} {v : V} {ds : List D} (n : Nxt S c G H G1 H1) (r : RR K S H G1 H1 v (.ow (.list ds))) : ∃ G2, Nxt S c G H G2 H1 ∧ Dq K G2 v (.list ds) := by
  obtain ⟨a, rfl, h0, hg, hS, vs, ho, hd⟩ := r
  refine ⟨upd G1 a (.lst vs), n.freeze h0 hg hS ho, .lst (.inl (.inl upd_same)) ?_⟩
  exact dpAll_mono (fun b u e => by rw [upd_ne (ne_of_none e hg)]; exact e) _ hd
theorem RR.keep {K : KW} {S : Option Addr} {c c' c2 : Option Nat} {G H G1 H1 : Hp} {v : V} {x : Sl} {d : D} (n : Nxt S c G H G1 H1) (r : RR K S H G1 H1 v x) (h : x.kp c' = some (d, c2)) : ∃ G2, Nxt S c G H G2 H1 ∧ Dq K G2 v d := by
  obtain ⟨_, rfl | ⟨ds, rfl, rfl⟩⟩ := Sl.kp_ok h
  · exact ⟨G1, n, r⟩
  · exact r.freeze n
theorem ar_nil : PA X [] (tAr Φ X.KW []) := by
  refine ⟨fun p pins s σ H Q I h => ?_⟩
  obtain ⟨Se, Ge, He, S, c, ρ, G, sr, r, c', hev, q⟩ := h
  simp only [evr] at hev
  cases hev
  exact pa_nil.run p pins s σ H Q I (q _ _ _ (.refl sr.sub sr.sta) fun _ _ _ _ => .nil)
theorem ar_cons {es : List Expr} {Es : List Ex} (he : PE X e (tE Φ X.KW E)) (hr : PA X es (tAr Φ X.KW Es)) (hs : starEach (e :: es) X.env = (false, eval e X.env) :: starEach es X.env) : PA X (e :: es) (tAr Φ X.KW (E :: Es)) := by
  refine ⟨fun p pins s σ H Q I h => ?_⟩
  obtain ⟨Se, Ge, He, S, c, ρ, G, sr, r, c', hev, q⟩ := h
  simp only [evr] at hev
  replace hev := M.bind_some hev
  obtain ⟨x, c1, h1, hev⟩ := hev
  replace hev := M.bind_some hev
  obtain ⟨d, c2, h2, hev⟩ := hev
  replace hev := M.bind_some hev
  obtain ⟨ds, c3, h3, hev⟩ := hev
  obtain rfl := M.rd_some h2
  cases hev
  refine (pa_cons he hr hs).run p pins s σ H Q I ⟨Se, Ge, He, S, c, ρ, G, sr, x, _, h1, fun v1 G1 H1 n1 r1 => ⟨Se, Ge, He, S, _, ρ, G1, sr.step n1, ds, _, h3, fun vs G2 H2 n2 hv => ?_⟩⟩
  exact q _ _ _ (n1.trans n2) fun G3 H3 k3 s3 => .cons (((r1.mono n2.kp).mono k3).vw s3 h2).1 (hv G3 H3 k3 s3)
theorem ak_nil : PA X [] (tAk Φ X.KW []) := by
  refine ⟨fun p pins s σ H Q I h => ?_⟩
  obtain ⟨Se, Ge, He, S, c, ρ, G, sr, r, c', hev, q⟩ := h
  simp only [evk] at hev
  cases hev
  exact pa_nil.run p pins s σ H Q I (q _ _ _ (.refl sr.sub sr.sta) .nil)
theorem ak_cons {es : List Expr} {Es : List Ex} (he : PE X e (tE Φ X.KW E)) (hr : PA X es (tAk Φ X.KW Es)) (hs : starEach (e :: es) X.env = (false, eval e X.env) :: starEach es X.env) : PA X (e :: es) (tAk Φ X.KW (E :: Es)) := by
  refine ⟨fun p pins s σ H Q I h => ?_⟩
  obtain ⟨Se, Ge, He, S, c, ρ, G, sr, r, c', hev, q⟩ := h
  simp only [evk] at hev
  replace hev := M.bind_some hev
  obtain ⟨x, c1, h1, hev⟩ := hev
  replace hev := M.bind_some hev
  obtain ⟨d, c2, h2, hev⟩ := hev
  replace hev := M.bind_some hev
  obtain ⟨ds, c3, h3, hev⟩ := hev
  obtain ⟨rfl, _⟩ := Sl.kp_ok h2
  cases hev
  refine (pa_cons he hr hs).run p pins s σ H Q I ⟨Se, Ge, He, S, c, ρ, G, sr, x, _, h1, fun v1 G1 H1 n1 r1 => ?_⟩
  obtain ⟨G1', n1', hd⟩ := r1.keep n1 h2
  refine ⟨Se, Ge, He, S, _, ρ, G1', sr.step n1', ds, _, h3, fun vs G2 H2 n2 hv => ?_⟩
  exact q _ _ _ (n1'.trans n2) (.cons (dp_mono n2.kp.kg _ hd) hv)
theorem aa_nil : PA X [] (tAa Φ X.KW []) := by
  refine ⟨fun p pins s σ H Q I h => ?_⟩
  obtain ⟨Se, Ge, He, S, c, ρ, G, sr, r, c', hev, q⟩ := h
  simp only [eva] at hev
  cases hev
  exact pa_nil.run p pins s σ H Q I (q _ _ _ (.refl sr.sub sr.sta) (fun _ _ _ _ => .nil) rfl)
theorem RRs.base {K : KW} {S : Option Addr} {H H2 G' H' : Hp} (d : ∀ b, H b ≠ none → H2 b ≠ none) : ∀ {vs : List V} {rs : List Sl}, RRs K S H2 G' H' vs rs → RRs K S H G' H' vs rs
  | _, _, .nil => .nil
  | _, _, .cons h t => .cons (h.base d) (RRs.base d t)
theorem aa_cons {es : List Expr} {Es : List Ex} (he : PE X e (tE Φ X.KW E)) (hr : PA X es (tAa Φ X.KW Es)) (hs : starEach (e :: es) X.env = (false, eval e X.env) :: starEach es X.env) : PA X (e :: es) (tAa Φ X.KW (E :: Es)) := by
  refine ⟨fun p pins s σ H Q I h => ?_⟩
  obtain ⟨Se, Ge, He, S, c, ρ, G, sr, r, c', hev, q⟩ := h
  simp only [eva] at hev
  replace hev := M.bind_some hev
  obtain ⟨x, c1, h1, hev⟩ := hev
  replace hev := M.bind_some hev
  obtain ⟨y, c2, h2, hev⟩ := hev
  replace hev := M.bind_some hev
  obtain ⟨rs, c3, h3, hev⟩ := hev
  obtain ⟨e2, hok, hxy⟩ := Sl.fr_ok h2
  subst e2
  cases hev
  refine (pa_cons he hr hs).run p pins s σ H Q I ⟨Se, Ge, He, S, c, ρ, G, sr, x, _, h1, fun v1 G1 H1 n1 r1 => ?_⟩
  have fin : ∃ G1', Nxt S c2 G H G1' H1 ∧ RR X.KW S H G1' H1 v1 y := by
    rcases hxy with rfl | ⟨ds, rfl, rfl⟩
    · exact ⟨G1, n1, r1⟩
    · exact r1.freeze n1
  obtain ⟨G1', n1', r1'⟩ := fin
  refine ⟨Se, Ge, He, S, _, ρ, G1', sr.step n1', rs, _, h3, fun vs G2 H2 n2 hv ha => ?_⟩
  refine q _ _ _ (n1'.trans n2) (fun G3 H3 k3 s3 => .cons ((r1'.mono n2.kp).mono k3) (RRs.base n1'.kp.dm (hv G3 H3 k3 s3))) ?_
  rw [List.all_cons, hok, Bool.true_and]
  exact ha
theorem e_tup {es : List Expr} {Es : List Ex} {k : Nat} (h : PA X es (tAk Φ X.KW Es)) : PE X (.Tuple es k pos) (tE Φ X.KW (.tup Es)) := by
  refine ⟨fun pins s σ H Q I hw => ?_⟩
  obtain ⟨Se, Ge, He, S, c, ρ, G, sr, r, c', hev, q⟩ := hw
  simp only [ev] at hev
  replace hev := M.bind_some hev
  obtain ⟨ds, c1, h1, hev⟩ := hev
  split at hev
  · rename_i hz
    cases hev
    refine (pe_tup h).run pins s σ H Q I ⟨Se, Ge, He, S, c, ρ, G, sr, ds, _, h1, fun vs G1 H1 n1 hd => ⟨by rw [dpAll_length hd]; exact hz, ?_⟩⟩
    exact (q.after n1).tup n1.sub n1.sta hd
  · cases hev
theorem e_lst {es : List Expr} {Es : List Ex} (h : PA X es (tAk Φ X.KW Es)) : PE X (.List es pos) (tE Φ X.KW (.lst Es)) := by
  refine ⟨fun pins s σ H Q I hw => ?_⟩
  obtain ⟨Se, Ge, He, S, c, ρ, G, sr, r, c', hev, q⟩ := hw
  simp only [ev] at hev
  replace hev := M.bind_some hev
  obtain ⟨ds, c1, h1, hev⟩ := hev
  split at hev
  · rename_i hz
    cases hev
    refine (pe_lst h).run pins s σ H Q I ⟨Se, Ge, He, S, c, ρ, G, sr, ds, _, h1, fun vs G1 H1 n1 hd => ⟨by rw [dpAll_length hd]; exact hz, ?_⟩⟩
    exact (q.after n1).lst n1.sub n1.sta hd
  · cases hev
end
end SB
/-! Calls, slices, comprehensions. -/
namespace SB
open PySem PySem.Spec PyProof.Rows L2

/-- a def's promise -/
def spF (K : KW) (g : Fn) : Sp := fun vs H Q _ => ∃ S c G args r c', Same G H ∧ Sta S c G H ∧ RRs K S H G H vs args ∧ args.all argOk = true ∧ g args c = some (r, c') ∧ Then K S c' G H r Q
/-- the built-in names that the small language uses -/
def bltNames : List Str := ["len", "all", "any", "list", "tuple", "min", "max", "sum", "sorted", "str", "int", "bool", "isinstance", "range", "enumerate", "zip", "set"]
structure TabOk (P : Program) (w : World) (K : KW) (mg : Str → Option Value) (base : Heap) (k : Nat) (Φ : Tab) : Prop where
  fn : ∀ x g, Φ.fn x = some g → ∃ f fd ps, mg x = some (.ref f) ∧ PySem.W.keepIn K (.ref f) = true ∧ Binds K fd ps [] ∧ FnOk P w K mg base CX0 k f fd ps (spF K g)
  gl : ∀ x d, Φ.gl x = some d → ∃ u v, mg x = some u ∧ RelV v u ∧ Dq K (fun _ => none) v d
  gd : ∀ x kvs, Φ.gd x = some kvs → ∃ d es n, mg x = some (.ref d) ∧ KDict K w d es n ∧ ∀ z, ∃ r, PySem.W.nsIn K d z = some r ∧ (match kvs.lookup z with | none => r = none | some i => ∃ t, r = some (.int i t))
  bl : ∀ x ∈ bltNames, mg x = none
theorem TabOk.mono {P : Program} {w : World} {K : KW} {mg : Str → Option Value} {base : Heap} {j k : Nat} {Φ : Tab} (t : TabOk P w K mg base j Φ) (h : j ≤ k) : TabOk P w K mg base k Φ :=
  ⟨fun x g e => let ⟨f, fd, ps, h1, h2, h3, h4⟩ := t.fn x g e; ⟨f, fd, ps, h1, h2, h3, h4.mono h⟩, t.gl, t.gd, t.bl⟩
section
variable {X : Cx} {Φ : Tab} {a b e : Expr} {A B E : Ex} {pos p : Pos} {k : Nat}

theorem e_call {x : Str} {es : List Expr} {Es : List Ex} (T : TabOk X.prog X.w X.KW X.mg X.base k Φ) (hr : Room k X.A) (hg : Gl X x) (hdb : (x == ("__debug__" : Str)) = false) (ha : PA X (e :: es) (tAa Φ X.KW Es))
    (he : starEach (e :: es) X.env = (false, eval e X.env) :: starEach es X.env) (hpl : (backTo pos (starEach es X.env)).any (·.1) = false) : PE X (.Call (.Name x p) (e :: es) [] pos) (tE Φ X.KW (.call x Es)) := by
  cases hf : Φ.fn x with
  | none =>
    refine ⟨fun pins s σ H Q I h => ?_⟩
    obtain ⟨Se, Ge, He, S, c, ρ, G, sr, r, c', hev, q⟩ := h
    simp only [ev] at hev
    replace hev := M.bind_some hev
    obtain ⟨rs, c1, h1, hev⟩ := hev
    replace hev := M.bind_some hev
    obtain ⟨g, c2, h2, hev⟩ := hev
    rw [hf] at h2
    cases h2
  | some g =>
    obtain ⟨f, fd, ps, h1, h2, h3, h4⟩ := T.fn x g hf
    refine ⟨fun pins s σ H Q I h => ?_⟩
    obtain ⟨Se, Ge, He, S, c, ρ, G, sr, r, c', hev, q⟩ := h
    simp only [ev] at hev
    replace hev := M.bind_some hev
    obtain ⟨rs, c1, h5, hev⟩ := hev
    rw [hf, ofO_some, pure_bind] at hev
    refine (pe_call h4 hr hg h1 h2 h3 .nil pass0 ha hdb he hpl).run pins s σ H Q I ⟨Se, Ge, He, S, c, ρ, G, sr, rs, c1, h5, fun vs G1 H1 n1 hv hok => ?_⟩
    show spF X.KW g (vs ++ []) H1 Q E0
    rw [List.append_nil]
    refine ⟨S, c1, G1, rs, r, c', n1.sub, n1.sta, ?_, hok, hev, q.after n1⟩
    have q1 := hv G1 H1 .refl n1.sub
    -- no argument is owned: the base does not matter
    clear hv hev h5
    induction q1 with
    | nil => exact .nil
    | cons h t ih =>
      rw [List.all_cons, Bool.and_eq_true] at hok
      refine .cons ?_ (ih hok.2)
      rename_i y _ _
      cases y with
      | ow d => cases hok.1
      | _ => exact h

theorem e_blt {f : Bf} {es : List Expr} {Es : List Ex} (T : TabOk X.prog X.w X.KW X.mg X.base k Φ) (hc : X.calm = true) (hu : X.A.units + 67 < cLine) (hg : Gl X f.nm) (ha : PA X (e :: es) (tAr Φ X.KW Es))
    (he : starEach (e :: es) X.env = (false, eval e X.env) :: starEach es X.env) (hpl : (backTo pos (starEach es X.env)).any (·.1) = false) : PE X (.Call (.Name f.nm p) (e :: es) [] pos) (tE Φ X.KW (.blt f Es)) := by
  have key : ∀ {r : List V → Hp → VK → Prop}, r = rC X.KW (bltD f) → PE X (.Call (.Name f.nm p) (e :: es) [] pos) (tCB r (tAr Φ X.KW Es)) → PE X (.Call (.Name f.nm p) (e :: es) [] pos) (tE Φ X.KW (.blt f Es)) := by
    intro r er h
    subst er
    refine ⟨fun pins s σ H Q I hw => ?_⟩
    obtain ⟨Se, Ge, He, S, c, ρ, G, sr, z, c', hev, q⟩ := hw
    simp only [ev] at hev
    replace hev := M.bind_some hev
    obtain ⟨ds, c1, h1, hev⟩ := hev
    obtain ⟨h5, h6⟩ := ofO_run hev
    simp only at h5 h6
    subst h6
    refine h.run pins s σ H Q I ⟨Se, Ge, He, S, c, ρ, G, sr, ds, _, h1, fun vs G1 H1 n1 hv => ?_⟩
    exact ⟨S, G1, _, ds, z, n1.sub, n1.sta, hv G1 H1 .refl n1.sub, h5, q.after n1⟩
  have no : (∀ ds, bltD f ds = none) → PE X (.Call (.Name f.nm p) (e :: es) [] pos) (tE Φ X.KW (.blt f Es)) := by
    intro hn
    refine ⟨fun pins s σ H Q I hw => ?_⟩
    obtain ⟨Se, Ge, He, S, c, ρ, G, sr, z, c', hev, q⟩ := hw
    simp only [ev] at hev
    replace hev := M.bind_some hev
    obtain ⟨ds, c1, h1, hev⟩ := hev
    rw [hn] at hev
    cases hev
  have m : ∀ x, x ∈ bltNames → X.mg x = none := T.bl
  cases f with
  | len => exact key rfl (pe_callB callD_len hg (m _ (by decide +kernel)) (by decide +kernel) ha (by decide) (by decide) he hpl)
  | all => exact key rfl (pe_callB (callD_all hc) hg (m _ (by decide +kernel)) (by decide +kernel) ha (by decide) (by decide) he hpl)
  | any => exact key rfl (pe_callB (callD_any hc) hg (m _ (by decide +kernel)) (by decide +kernel) ha (by decide) (by decide) he hpl)
  | sum => exact key rfl (pe_callB (callD_sum hc) hg (m _ (by decide +kernel)) (by decide +kernel) ha (by decide) (by decide) he hpl)
  | min => exact key rfl (pe_callB (callD_min hc) hg (m _ (by decide +kernel)) (by decide +kernel) ha (by decide) (by decide) he hpl)
  | sorted => exact key rfl (pe_callB (callD_sorted hc hu) hg (m _ (by decide +kernel)) (by decide +kernel) ha (by decide) (by decide) he hpl)
  | list => exact key rfl (pe_callTy (callD_list hc) hg (m _ (by decide +kernel)) (by decide +kernel) ha (by decide) (by decide) he hpl)
  | tuple => exact key rfl (pe_callTy callD_tuple hg (m _ (by decide +kernel)) (by decide +kernel) ha (by decide) (by decide) he hpl)
  | max => exact key rfl (pe_callB (callD_max hc) hg (m _ (by decide +kernel)) (by decide +kernel) ha (by decide) (by decide) he hpl)
  | str => exact key rfl (pe_callTy callD_str hg (m _ (by decide +kernel)) (by decide +kernel) ha (by decide) (by decide) he hpl)
  | int => exact key rfl (pe_callTy callD_int hg (m _ (by decide +kernel)) (by decide +kernel) ha (by decide) (by decide) he hpl)
/-- len(state) -/
theorem e_lenS {i : Nat} (T : TabOk X.prog X.w X.KW X.mg X.base k Φ) (hg : Gl X "len") (ha : PE X e (tVar i)) (hs : starEach [e] X.env = (false, eval e X.env) :: starEach [] X.env) : PE X (.Call (.Name "len" p) [e] [] pos) (tE Φ X.KW (.lenS i)) := by
  have h := pe_callB (X := X) (p := p) (pos := pos) call_len_seq hg (T.bl _ (by decide +kernel)) (by decide +kernel) (pa_cons ha pa_nil hs) (by decide) (by decide) hs rfl
  refine ⟨fun pins s σ H Q I hw => ?_⟩
  obtain ⟨Se, Ge, He, S, c, ρ, G, sr, z, c', hev, q⟩ := hw
  simp only [ev] at hev
  replace hev := M.bind_some hev
  obtain ⟨sl, c1, h1, hev⟩ := hev
  replace h1 := ofO2 h1
  obtain ⟨h1, e1⟩ := h1
  subst e1
  replace hev := M.bind_some hev
  obtain ⟨u, c2, h2, hev⟩ := hev
  replace h2 := ofO2 h2
  obtain ⟨h2, e2⟩ := h2
  subst e2
  cases sl with
  | st =>
    obtain ⟨v, e3, a, e4, e5⟩ := sr.slot i _ (slAt_some h1)
    obtain ⟨hG, n, e6, hH⟩ := sr.sta.out e4
    subst e6
    cases hev
    subst e5
    refine h.run pins s σ H Q I ⟨.ref a, e3, a, _, rfl, .inl (.inl (.inl hH)), ?_⟩
    rw [List.length_replicate]
    exact q.plain sr.sub sr.sta (.int _)
  | _ => cases h2
/-! ### isinstance -/
def rIsa (K : KW) (T : Ty) : List V → Hp → VK → Prop := fun vs H Q => ∃ G v d, vs = [v, .ty T.nm] ∧ Same G H ∧ Vw K G H v d ∧ Q (.bl (isaD T d)) H
theorem cr_isa (T : Ty) : CallR X (.builtin "isinstance") (rIsa X.KW T) := by
  intro pins s σ H vs us Q I r h
  obtain ⟨G, v, d, rfl, sm, hv, q⟩ := h
  obtain ⟨u, u2, rfl, r1, r2⟩ := vals2 r
  cases r2
  exact callD_isa T I sm hv r1 q
theorem Ty.boot (T : Ty) : bootBuiltins (Str.ofString T.nm) = some (.type T.nm) := by cases T <;> decide +kernel
theorem Ty.mem (T : Ty) : Str.ofString T.nm ∈ bltNames := by cases T <;> decide +kernel
theorem Ty.ok (T : Ty) : Str.ofString T.nm ≠ "__name__" ∧ (Str.ofString T.nm == ("__debug__" : Str)) = false := by cases T <;> decide +kernel
theorem e_isa {T : Ty} {p1 p2 : Pos} (Tb : TabOk X.prog X.w X.KW X.mg X.base k Φ) (hg : Gl X "isinstance") (hT : Gl X (Str.ofString T.nm)) (ha : PE X a (tE Φ X.KW A)) (hs : starEach [a, .Name (Str.ofString T.nm) p1] X.env = (false, eval a X.env) :: starEach [.Name (Str.ofString T.nm) p1] X.env) :
    PE X (.Call (.Name "isinstance" p2) [a, .Name (Str.ofString T.nm) p1] [] pos) (tE Φ X.KW (.isa A T)) := by
  have pt : PE X (.Name (Str.ofString T.nm) p1) (tC (.ty T.nm)) := pe_bltn (u := .type T.nm) hT (Tb.bl _ T.mem) T.boot rfl T.ok.1 T.ok.2
  have h := pe_callB (X := X) (p := p2) (pos := pos) (cr_isa T) hg (Tb.bl _ (by decide +kernel)) (by decide +kernel) (pa_cons ha (pa_cons pt pa_nil) hs) (by decide) (by decide) hs rfl
  refine ⟨fun pins s σ H Q I hw => ?_⟩
  obtain ⟨Se, Ge, He, S, c, ρ, G, sr, z, c', hev, q⟩ := hw
  simp only [ev] at hev
  replace hev := M.bind_some hev
  obtain ⟨x, c1, h1, hev⟩ := hev
  replace hev := M.bind_some hev
  obtain ⟨d, c2, h2, hev⟩ := hev
  have e2 := M.rd_some h2
  subst e2
  cases hev
  refine h.run pins s σ H Q I ⟨Se, Ge, He, S, c, ρ, G, sr, x, _, h1, fun v G1 H1 n1 r1 => ?_⟩
  exact ⟨G1, v, d, rfl, n1.sub, (r1.vw n1.sub h2).1, q _ _ _ n1 (.bl _)⟩
/-! ### globals -/
theorem e_gl {x : Str} (Tb : TabOk X.prog X.w X.KW X.mg X.base k Φ) (hg : Gl X x) (hdb : (x == ("__debug__" : Str)) = false) : PE X (.Name x pos) (tE Φ X.KW (.gl x)) := by
  cases hx : Φ.gl x with
  | none =>
    refine ⟨fun pins s σ H Q I hw => ?_⟩
    obtain ⟨Se, Ge, He, S, c, ρ, G, sr, z, c', hev, q⟩ := hw
    simp only [ev, hx] at hev
    cases hev
  | some d =>
    obtain ⟨u, v, hm, hr, hd⟩ := Tb.gl x d hx
    refine e_const (pe_glob hg hm hr hdb) (fun G => dp_mono (fun _ _ e => by cases e) _ hd) fun ρ => ?_
    simp only [ev, hx]
    rfl
theorem e_inG {x : Str} {ng : Bool} {p1 : Pos} (Tb : TabOk X.prog X.w X.KW X.mg X.base k Φ) (hg : Gl X x) (hdb : (x == ("__debug__" : Str)) = false) (ha : PE X a (tE Φ X.KW A)) :
    PE X (.Compare a [if ng then .NotIn else .In] [.Name x p1] pos) (tE Φ X.KW (.inG ng A x)) ∧ PT X (.Compare a [if ng then .NotIn else .In] [.Name x p1] pos) (tT Φ X.KW (.inG ng A x)) := by
  cases hx : Φ.gd x with
  | none =>
    constructor
    · refine ⟨fun pins s σ H Q I hw => ?_⟩
      obtain ⟨Se, Ge, He, S, c, ρ, G, sr, z, c', hev, q⟩ := hw
      simp only [ev] at hev
      replace hev := M.bind_some hev
      obtain ⟨y, c1, h1, hev⟩ := hev
      replace hev := M.bind_some hev
      obtain ⟨d, c2, h2, hev⟩ := hev
      replace hev := M.bind_some hev
      obtain ⟨w, c3, h3, hev⟩ := hev
      replace hev := M.bind_some hev
      obtain ⟨kv, c4, h4, hev⟩ := hev
      rw [hx] at h4
      cases h4
    · refine ⟨fun pins s σ H Q I hw => ?_⟩
      obtain ⟨Se, Ge, He, S, c, ρ, G, sr, z, c', hev, q⟩ := hw
      obtain ⟨z, hev, hz⟩ := tst_some hev
      simp only [ev] at hev
      replace hev := M.bind_some hev
      obtain ⟨y, c1, h1, hev⟩ := hev
      replace hev := M.bind_some hev
      obtain ⟨d, c2, h2, hev⟩ := hev
      replace hev := M.bind_some hev
      obtain ⟨w, c3, h3, hev⟩ := hev
      replace hev := M.bind_some hev
      obtain ⟨kv, c4, h4, hev⟩ := hev
      rw [hx] at h4
      cases h4
  | some kvs =>
    obtain ⟨d0, es, n, hm, D, hget⟩ := Tb.gd x kvs hx
    have pn : PE X (.Name x p1) (tC (.ref d0)) := pe_glob (u := .ref d0) hg hm rfl hdb
    have op : OpR X (compareOp (if ng then .NotIn else .In)) (fun x y H Q => ∃ (z : Str), x = .str z ∧ y = .ref d0 ∧ Q (.bl (ng != (kvs.lookup z).isSome)) H) := by
      intro pins s σ H x y v u Q I rx ry h
      obtain ⟨z, rfl, rfl, q⟩ := h
      obtain ⟨r, hr, hk⟩ := hget z
      have e1 : r.isSome = (kvs.lookup z).isSome := by
        cases hl : kvs.lookup z with
        | none => rw [hl] at hk; rw [hk]; rfl
        | some i => rw [hl] at hk; obtain ⟨t, rfl⟩ := hk; rfl
      cases ng with
      | false => exact op_in_kd D pins s σ H _ _ v u Q I rx ry ⟨z, r, rfl, rfl, hr, by rw [e1]; simpa using q⟩
      | true => exact op_notIn_kd D pins s σ H _ _ v u Q I rx ry ⟨z, r, rfl, rfl, hr, by rw [e1]; simpa using q⟩
    have bm : behindInMarks (if ng then CmpOp.NotIn else CmpOp.In) (.Name x p1) = false := by cases ng <;> rfl
    have inv : ∀ {ρ : Rho} {c c' : Option Nat} {z : Sl}, ev Φ (.inG ng A x) ρ c = some (z, c') → ∃ y w, ev Φ A ρ c = some (y, c') ∧ y.rd c' = some (.str w, c') ∧ z = .fz (.bool (ng != (kvs.lookup w).isSome)) := by
      intro ρ c c' z hev
      simp only [ev] at hev
      replace hev := M.bind_some hev
      obtain ⟨y, c1, h1, hev⟩ := hev
      replace hev := M.bind_some hev
      obtain ⟨d, c2, h2, hev⟩ := hev
      have e2 := M.rd_some h2
      subst e2
      replace hev := M.bind_some hev
      obtain ⟨w, c3, h3, hev⟩ := hev
      obtain ⟨h4, e4⟩ := ofO2 h3
      subst e4
      have e5 := strOf_some h4
      subst e5
      rw [hx, ofO_some, pure_bind] at hev
      cases hev
      exact ⟨y, w, h1, h2, rfl⟩
    constructor
    · refine ⟨fun pins s σ H Q I hw => ?_⟩
      obtain ⟨Se, Ge, He, S, c, ρ, G, sr, z, c', hev, q⟩ := hw
      obtain ⟨y, w, h1, h2, rfl⟩ := inv hev
      refine (pe_cmpR op ha pn bm).run pins s σ H Q I ⟨Se, Ge, He, S, c, ρ, G, sr, y, _, h1, fun v G1 H1 n1 r1 => ?_⟩
      exact ⟨w, (r1.vw n1.sub h2).1, rfl, q _ _ _ n1 (.bl _)⟩
    · refine ⟨fun pins s σ H Q I hw => ?_⟩
      obtain ⟨Se, Ge, He, S, c, ρ, G, sr, t, c', hev, q⟩ := hw
      obtain ⟨z, hev, hz⟩ := tst_some hev
      obtain ⟨y, w, h1, h2, rfl⟩ := inv hev
      cases hz
      refine (pt_cmpR op ha pn bm).run pins s σ H Q I ⟨Se, Ge, He, S, c, ρ, G, sr, y, _, h1, fun v G1 H1 n1 r1 => ?_⟩
      exact ⟨w, (r1.vw n1.sub h2).1, rfl, _, rfl, q _ _ n1⟩
theorem e_getG {x : Str} {p1 : Pos} (Tb : TabOk X.prog X.w X.KW X.mg X.base k Φ) (hg : Gl X x) (hdb : (x == ("__debug__" : Str)) = false) (ha : PE X a (tE Φ X.KW A)) (hs : PlainIx a) :
    PE X (.Subscript (.Name x p1) a pos) (tE Φ X.KW (.getG x A)) := by
  refine ⟨fun pins s σ H Q I hw => ?_⟩
  obtain ⟨Se, Ge, He, S, c, ρ, G, sr, z, c', hev, q⟩ := hw
  simp only [ev] at hev
  replace hev := M.bind_some hev
  obtain ⟨y, c1, h1, hev⟩ := hev
  replace hev := M.bind_some hev
  obtain ⟨d, c2, h2, hev⟩ := hev
  have e2 := M.rd_some h2
  subst e2
  replace hev := M.bind_some hev
  obtain ⟨w, c3, h3, hev⟩ := hev
  obtain ⟨h4, e4⟩ := ofO2 h3
  subst e4
  have e5 := strOf_some h4
  subst e5
  replace hev := M.bind_some hev
  obtain ⟨kvs, c5, h5, hev⟩ := hev
  obtain ⟨hx, e6⟩ := ofO2 h5
  subst e6
  replace hev := M.bind_some hev
  obtain ⟨i, c7, h7, hev⟩ := hev
  obtain ⟨hi, e8⟩ := ofO2 h7
  subst e8
  cases hev
  obtain ⟨d0, es, n, hm, D, hget⟩ := Tb.gd x kvs hx
  obtain ⟨r, hr, hk⟩ := hget w
  rw [hi] at hk
  obtain ⟨t, rfl⟩ := hk
  have pn : PE X (.Name x p1) (tC (.ref d0)) := pe_glob (u := .ref d0) hg hm rfl hdb
  refine (pe_ix ix_kdict pn ha hs).run pins s σ H Q I ⟨Se, Ge, He, S, c, ρ, G, sr, y, _, h1, fun v G1 H1 n1 r1 => ?_⟩
  exact ⟨d0, w, .int i, rfl, (r1.vw n1.sub h2).1, ⟨es, n, .int i t, D.at_, D.lit, hr, ⟨t, rfl⟩⟩, q _ _ _ n1 (.int _)⟩
/-! ### slices -/
def tO (Φ : Tab) (K : KW) (Es : List Ex) : TO := fun σ H Q => ∃ Se Ge He S c ρ G, SR K Se Ge He S c ρ σ G H ∧ ∃ o c', (do let l ← evr Φ Es ρ; optI l) c = some (o, c') ∧ ∀ G' H', Nxt S c' G H G' H' → Q o H'
theorem o_none : PO X none (tO Φ X.KW []) := by
  refine ⟨fun pins s σ H Q I hw => ?_⟩
  obtain ⟨Se, Ge, He, S, c, ρ, G, sr, z, c', hev, q⟩ := hw
  simp only [evr] at hev
  cases hev
  exact po_none.run pins s σ H Q I (q _ _ (.refl sr.sub sr.sta))
theorem o_some (ha : PE X a (tE Φ X.KW A)) : PO X (some a) (tO Φ X.KW [A]) := by
  refine ⟨fun pins s σ H Q I hw => ?_⟩
  obtain ⟨Se, Ge, He, S, c, ρ, G, sr, z, c', hev, q⟩ := hw
  simp only [evr] at hev
  replace hev := M.bind_some hev
  obtain ⟨l, c1, h1, hev⟩ := hev
  replace h1 := M.bind_some h1
  obtain ⟨x, c2, h2, h1⟩ := h1
  replace h1 := M.bind_some h1
  obtain ⟨d, c3, h3, h1⟩ := h1
  have e3 := M.rd_some h3
  subst e3
  cases h1
  cases d with
  | int i =>
    cases hev
    refine (po_some ha).run pins s σ H Q I ⟨Se, Ge, He, S, c, ρ, G, sr, x, _, h2, fun v G1 H1 n1 r1 => ?_⟩
    exact ⟨i, (r1.vw n1.sub h3).1, q _ _ n1⟩
  | _ => cases hev
theorem e_sl {lo hi : Option Expr} {Lo Hi : List Ex} {p2 : Pos} (ha : PE X a (tE Φ X.KW A)) (hl : PO X lo (tO Φ X.KW Lo)) (hh : PO X hi (tO Φ X.KW Hi)) : PE X (.Subscript a (.Slice lo hi none p2) pos) (tE Φ X.KW (.sl A Lo Hi)) := by
  refine ⟨fun pins s σ H Q I hw => ?_⟩
  obtain ⟨Se, Ge, He, S, c, ρ, G, sr, z, c', hev, q⟩ := hw
  simp only [ev] at hev
  replace hev := M.bind_some hev
  obtain ⟨x, c1, h1, hev⟩ := hev
  replace hev := M.bind_some hev
  obtain ⟨d, c2, h2, hev⟩ := hev
  replace hev := M.bind_some hev
  obtain ⟨l, c3, h3, hev⟩ := hev
  replace hev := M.bind_some hev
  obtain ⟨lo', c4, h4, hev⟩ := hev
  replace hev := M.bind_some hev
  obtain ⟨u, c5, h5, hev⟩ := hev
  replace hev := M.bind_some hev
  obtain ⟨hi', c6, h6, hev⟩ := hev
  have e2 := M.rd_some h2
  subst e2
  obtain ⟨h7, h8⟩ := ofO_run hev
  simp only at h7 h8
  subst h8
  have k1 : (do let l ← evr Φ Lo ρ; optI l) c2 = some (lo', c4) := by rw [M.bind_run, h3]; exact h4
  have k2 : (do let l ← evr Φ Hi ρ; optI l) c4 = some (hi', c') := by rw [M.bind_run, h5]; exact h6
  refine (pe_slice slD_ok ha hl hh).run pins s σ H Q I ⟨Se, Ge, He, S, c, ρ, G, sr, x, _, h1, fun v G1 H1 n1 r1 => ⟨Se, Ge, He, S, _, ρ, G1, sr.step n1, lo', _, k1, fun G2 H2 n2 => ⟨Se, Ge, He, S, _, ρ, G2, (sr.step n1).step n2, hi', _, k2, fun G3 H3 n3 => ?_⟩⟩⟩
  exact ⟨S, G3, _, d, z, n3.sub, n3.sta, (((r1.mono n2.kp).mono n3.kp).vw n3.sub h2).1, h7, q.after (n1.trans (n2.trans n3))⟩
/-! ### list(range(..)), tuple(range(..)) -/

/-! ### {..}.get(a, b) -/
theorem lastOf_mergeK (x : Str) : ∀ (ks : List (Str × Int)) (acc : List (Key × V)) (o : Option Int), valV acc (.inr x) = o.map V.int →
    valV (mergeK acc (ks.map fun p => ((Sum.inr p.1 : Key), V.int p.2))) (.inr x) = (ks.foldl (fun o p => if x = p.1 then some p.2 else o) o).map V.int
  | [], acc, o, h => h
  | p :: ks, acc, o, h => by
    show valV (mergeK (putK acc (.inr p.1) (.int p.2)) (ks.map fun p => ((Sum.inr p.1 : Key), V.int p.2))) (.inr x) = _
    rw [List.foldl_cons]
    refine lastOf_mergeK x ks _ _ ?_
    rw [valV_put]
    by_cases hx : x = p.1
    · subst hx
      simp
    · have : ¬ ((Sum.inr x : Key) = .inr p.1) := fun e => hx (Sum.inr.inj e)
      rw [if_neg this, if_neg hx]
      exact h
end
end SB
/-! Sets of tuples of any keys: their making, their sorting. -/
namespace SB
open PySem PySem.Spec PyProof.Rows L2

/-- the tuple at b is the key k -/
def KeyAt (h : Heap) (k : NestedKey) (b : Addr) : Prop := NestedIs h k (.ref b) ∧ k.depth ≤ 8
theorem KeyAt.inj {h : Heap} {j k : NestedKey} {b : Addr} (x : KeyAt h j b) (y : KeyAt h k b) : j = k := NestedIs.inj _ _ _ x.1 y.1
theorem KeyAt.kept {h h' : Heap} {k : NestedKey} {b : Addr} (x : KeyAt h k b) (hk : ∀ c o, h.get? c = some o → h'.get? c = some o) : KeyAt h' k b := ⟨NestedIs.at (fun a o vs n e _ => hk a o e) k _ x.1, x.2⟩
/-- a key's tuples are no sets -/
theorem KeyAt.apart {h h' : Heap} {k : NestedKey} {a b : Addr} {o : Obj} {es : Array (Int × Value)} {ep : Nat} {t : SetTable} (x : KeyAt h k b) (ho : h.get? a = some o) (hd : o.data = .set es ep t) (hs : Heap.SameBut a h h') : KeyAt h' k b := by
  refine ⟨NestedIs.at (fun c u vs n e q => ?_) k _ x.1, x.2⟩
  have hne : c ≠ a := fun z => by
    subst z
    rw [ho] at e
    cases e
    rw [hd] at q
    cases q
  exact (hs.2 c hne).trans e
section
variable {P : Program} {w : World}
/-- v is of no class statement -/
def Tame (P : Program) (w : World) (n : Nat) (s : Shared) (v : Value) : Prop := ∀ (A : Around) (E : Value → Shared → Prop) (Q : Bool → Shared → Prop), Q false s → wpAny (model P w) A (ofAClassStatement n v) Q E s
/-- whether the hash of v is by value: either word -/
def HashAsk (P : Program) (w : World) (n : Nat) (s : Shared) (v : Value) : Prop := ∀ (A : Around) (E : Value → Shared → Prop) (Q : Bool → Shared → Prop), (∀ b, Q b s) → wpAny (model P w) A (hashByValue n v) Q E s
theorem tame_plain {n : Nat} {s : Shared} {v : Value} (h : ∀ a, v ≠ .ref a) : Tame P w n s v := fun A E Q q => by
  have e : ofAClassStatement n v = pure false := by
    cases v with
    | ref a => exact absurd rfl (h a)
    | _ => cases n <;> rfl
  rw [e]
  exact wpAny_pure q
theorem tame_tuple {n : Nat} {s : Shared} {a : Addr} {o : Obj} {vs : Array Value} {m : Nat} (ho : s.heap.get? a = some o) (hc : o.cls = .type "tuple") (hd : o.data = .seq vs m) (hq : ∀ v ∈ vs.toList, Tame P w n s v) : Tame P w (n + 1) s (.ref a) := fun A E Q q => by
  unfold ofAClassStatement
  refine wpAny_bind (wpAny_typeOf (show s.TypeIs (.ref a) "tuple" from ⟨o, ho, hc⟩) ?_)
  dsimp only
  have e : (("tuple" : String) == "tuple") = true := by decide
  simp only [e, if_true, Bool.not_true, Bool.false_eq_true, if_false]
  try refine wpAny_bind (wpAny_pure ?_)
  try simp only [Bool.not_true, Bool.false_eq_true, if_false]
  show wpAny _ _ (seqItems? (.ref a) >>= _) _ _ s
  refine wpAny_bind (wpAny_seqItems ho hd ?_)
  dsimp only
  refine wpAny_bind ?_
  show wpAny _ _ (forIn vs _ _) _ _ s
  rw [← Array.forIn_toList]
  refine wpAny_forIn_list _ (fun rest r s' => r.1 = none ∧ s' = s ∧ ∀ v ∈ rest, Tame P w n s v) _ ?_ ?_ _ _ ⟨rfl, rfl, hq⟩
  · rintro v rest r s' ⟨_, rfl, hall⟩
    refine wpAny_bind (hall v List.mem_cons_self _ _ _ ?_)
    simp only [Bool.false_eq_true, if_false]
    exact wpAny_pure ⟨rfl, rfl, fun u hu => hall u (List.mem_cons_of_mem _ hu)⟩
  · rintro ⟨r1, r2⟩ s' ⟨hr, rfl, _⟩
    simp only at hr
    subst hr
    exact wpAny_pure q
theorem ask_plain {n : Nat} {s : Shared} {k : NestedKey} {v : Value} (x : NestedIs s.heap k v) (h : ∀ a, v ≠ .ref a) : HashAsk P w n s v := fun A E Q q => by
  cases x with
  | tup _ _ _ _ => exact absurd rfl (h _)
  | none => cases n <;> exact wpAny_pure (q _)
  | bool _ => cases n <;> exact wpAny_pure (q _)
  | int _ _ => cases n <;> exact wpAny_pure (q _)
  | text _ _ => cases n <;> exact wpAny_pure (q _)
theorem ask_tuple {n : Nat} {s : Shared} {a : Addr} {o : Obj} {vs : Array Value} {m : Nat} (ho : s.heap.get? a = some o) (hc : o.cls = .type "tuple") (hd : o.data = .seq vs m) (hq : ∀ v ∈ vs.toList, HashAsk P w n s v) : HashAsk P w (n + 1) s (.ref a) := fun A E Q q => by
  unfold hashByValue
  refine wpAny_bind (wpAny_specialOf (show s.TypeIs (.ref a) "tuple" from ⟨o, ho, hc⟩) F.slot_tuple_hash.lookup ?_)
  show wpAny _ _ (seqItems? (.ref a) >>= _) _ _ s
  refine wpAny_bind (wpAny_seqItems ho hd ?_)
  refine wpAny_bind ?_
  show wpAny _ _ (forIn vs _ _) _ _ s
  rw [← Array.forIn_toList]
  refine wpAny_forIn_list _ (fun rest r s' => r.1 = none ∧ s' = s ∧ ∀ v ∈ rest, HashAsk P w n s v) _ ?_ ?_ _ _ ⟨rfl, rfl, hq⟩
  · rintro v rest r s' ⟨_, rfl, hall⟩
    refine wpAny_bind (hall v List.mem_cons_self _ _ _ fun b => ?_)
    cases b with
    | true =>
      simp only [Bool.not_true, Bool.false_eq_true, if_false]
      exact wpAny_pure ⟨rfl, rfl, fun u hu => hall u (List.mem_cons_of_mem _ hu)⟩
    | false =>
      simp only [Bool.not_false, if_true]
      exact wpAny_pure (wpAny_pure (q false))
  · rintro ⟨r1, r2⟩ s' ⟨hr, rfl, _⟩
    simp only at hr
    subst hr
    exact wpAny_pure (q true)
mutual
theorem tame_key : ∀ (k : NestedKey) (v : Value) (n : Nat) (s : Shared), NestedIs s.heap k v → k.depth ≤ n → Tame P w n s v ∧ HashAsk P w n s v
  | .none, _, n, s, x, _ => by cases x; exact ⟨tame_plain (fun _ z => nomatch z), ask_plain .none fun _ z => nomatch z⟩
  | .num i, _, n, s, x, _ => by
    cases x with
    | bool e => exact ⟨tame_plain (fun _ z => nomatch z), ask_plain (.bool e) fun _ z => nomatch z⟩
    | int _ t => exact ⟨tame_plain (fun _ z => nomatch z), ask_plain (.int _ t) fun _ z => nomatch z⟩
  | .text y, _, n, s, x, _ => by cases x; exact ⟨tame_plain (fun _ z => nomatch z), ask_plain (.text _ _) fun _ z => nomatch z⟩
  | .tup ks, _, n, s, x, hn => by
    cases x with
    | tup hg hc hd hk =>
      simp only [NestedKey.depth] at hn
      cases n with
      | zero => omega
      | succ n =>
        have all := tame_keys ks _ n s hk (by omega)
        exact ⟨tame_tuple hg hc hd fun v hv => (all v hv).1, ask_tuple hg hc hd fun v hv => (all v hv).2⟩
theorem tame_keys : ∀ (ks : List NestedKey) (vs : List Value) (n : Nat) (s : Shared), NestedAll s.heap ks vs → NestedKey.depthAll ks ≤ n → ∀ v ∈ vs, Tame P w n s v ∧ HashAsk P w n s v
  | [], _, n, s, x, _, v, hv => by cases x; cases hv
  | k :: ks, _, n, s, x, hn, v, hv => by
    cases x with
    | cons x1 x2 =>
      simp only [NestedKey.depthAll] at hn
      rcases List.mem_cons.mp hv with e | hv
      · rw [e]; exact tame_key k _ n s x1 (by omega)
      · exact tame_keys ks _ n s x2 (by omega) v hv
end
end
section
variable {P : Program} {w : World} {A : Around} {E : Value → Shared → Prop} {s : Shared}
theorem KeyAt.eq {j k : NestedKey} {a b : Addr} {Q : Bool → Shared → Prop} (hu : A.units + 8 < cLine) (x : KeyAt s.heap j a) (y : KeyAt s.heap k b) (q : Q (decide (j = k)) s) : wpAny (model P w) A (eqBool (.ref a) (.ref b)) Q E s :=
  eqAt_key j k A s _ _ x.1 y.1 (by have := x.2; omega) _ _ _ _ (by rw [← NestedKey.decide_eq]; exact q)
/-- a search among keys shows nothing -/
theorem unseen {k : NestedKey} {b : Addr} {Q : Bool → Shared → Prop} (hk : KeyAt s.heap k b) {ys : List Value} (hy : ∀ y ∈ ys, ∃ k' c, y = Value.ref c ∧ KeyAt s.heap k' c) (q : Q false s) : wpAny (model P w) A (searchCouldBeSeen (.ref b) ys) Q E s := by
  unfold searchCouldBeSeen
  refine wpAny_bind ?_
  refine wpAny_forIn_list _ (fun rest r s' => r.1 = none ∧ s' = s ∧ ∀ y ∈ rest, ∃ k' c, y = Value.ref c ∧ KeyAt s.heap k' c) _ ?_ ?_ _ _ ⟨rfl, rfl, hy⟩
  · rintro v rest r s' ⟨_, rfl, hall⟩
    obtain ⟨k', c, rfl, hc⟩ := hall v List.mem_cons_self
    have more : ∀ y ∈ rest, ∃ k' c, y = Value.ref c ∧ KeyAt s'.heap k' c := fun u hu' => hall u (List.mem_cons_of_mem _ hu')
    dsimp only
    by_cases hv : (b == c || (carriedByValue (.ref b) && carriedByValue (.ref c))) = true
    · exact wp_if_pos hv (wpAny_pure ⟨rfl, rfl, more⟩)
    · refine wp_if_neg hv (wpAny_bind (quiet_key k _ 8 s' hk.1 hk.2 _ _ _ ?_))
      simp only [Bool.not_true, Bool.false_eq_true, if_false]
      refine wpAny_bind (quiet_key k' _ 8 s' hc.1 hc.2 _ _ _ ?_)
      simp only [Bool.not_true, Bool.false_eq_true, if_false]
      refine wpAny_bind ((tame_key k _ 8 s' hk.1 hk.2).1 _ _ _ ?_)
      simp only [Bool.false_eq_true, if_false]
      refine wpAny_bind ((tame_key k' _ 8 s' hc.1 hc.2).1 _ _ _ ?_)
      simp only [Bool.false_eq_true, if_false]
      exact wpAny_pure ⟨rfl, rfl, more⟩
  · rintro ⟨r1, r2⟩ s' ⟨hr, rfl, _⟩
    simp only at hr
    subst hr
    exact wpAny_pure q
/-! ### the set -/
abbrev Rows := List (Addr × NestedKey)
def rowN (w : World) (L : Rows) : List (Int × Value) := L.map fun p => (p.2.hash w, Value.ref p.1)
abbrev hashN (w : World) (L : Rows) : List Int := L.map fun p => p.2.hash w
structure SetN (P : Program) (w : World) (h : Heap) (a : Addr) (L : Rows) (es : Array (Int × Value)) (ep : Nat) (t : SetTable) : Prop where
  ob : ∃ o, h.get? a = some o ∧ o.ExactSet ∧ o.data = .set es ep t
  rows : es.toList = rowN w L
  tab : L2.TabOk t (hashN w L)
  nd : (L.map (·.2)).Nodup
  tup : ∀ p ∈ L, KeyAt h p.2 p.1
  led : w.params.followText "set-order" = true ∨ t.led = true
  room : L.length * 5 < t.mask * 3
  few : L.length < 64
variable {a : Addr} {L : Rows} {es : Array (Int × Value)} {ep : Nat} {t : SetTable}
theorem rowN_size (hr : es.toList = rowN w L) : es.size = L.length := by
  have h := congrArg List.length hr
  rwa [Array.length_toList, rowN, List.length_map] at h
theorem SetN.fits (R : SetN P w s.heap a L es ep t) : t.fits es.size = true := by
  have h1 := R.tab.sz
  have h2 := rowN_size R.rows
  have h3 := R.room
  rw [List.length_map] at h1
  unfold SetTable.fits SetTable.fill
  rw [R.tab.dm, Bool.and_eq_true, beq_iff_eq, decide_eq_true_eq]
  exact ⟨by omega, by show t.place.size + 0 ≤ t.mask; omega⟩
theorem rowN_get (hr : es.toList = rowN w L) {i : Nat} {p : Addr × NestedKey} (h : L[i]? = some p) : es[i]? = some (p.2.hash w, Value.ref p.1) := by
  rw [← Array.getElem?_toList, hr, rowN, List.getElem?_map, h]
  rfl
theorem SetN.odd (R : SetN P w s.heap a L es ep t) : ¬ t.gaveWay = true := by
  unfold SetTable.gaveWay
  rw [mask_odd R.tab.mok]
  decide
/-- the state of a search after c steps -/
abbrev wayS (m : Nat) (h : Int) (c : Nat) : SetTable.Probe := nth m (runAt m (SetTable.bits h % (m + 1)) (SetTable.bits h)) c
theorem no_dummy (m : Nat) : ∀ (n : Nat) (p : SetTable.Probe), p.dummy = none → (nth m p n).dummy = none
  | 0, _, h => h
  | n + 1, p, h => no_dummy m n (adv m p) (by unfold adv; split <;> exact h)
/-- the search, from the c-th step of its way on -/
theorem seek (R : SetN P w s.heap a L es ep t) {x : Addr} {k : NestedKey} (hx : KeyAt s.heap k x) (hu : A.units + 8 < cLine) {K : Nat} (hKf : K < 10 * SetTable.turns t.mask)
    (hK : way t.mask (k.hash w) K ∉ t.place.toList) (hKb : ∀ c, c < K → way t.mask (k.hash w) c ∈ t.place.toList) {Q : SetFound → Shared → Prop}
    (hin : k ∈ L.map (·.2) → Q (.there none) s) (hout : k ∉ L.map (·.2) → Q (.free (way t.mask (k.hash w) K) false) s) :
    ∀ (f c : Nat) (stand : Option SetTable.Probe), stand.getD (t.probeStart (k.hash w)) = wayS t.mask (k.hash w) c → c ≤ K → K - c < f →
      (∀ (i : Nat) p, L[i]? = some p → p.2 = k → ∃ c', c ≤ c' ∧ c' < K ∧ t.place.toList[i]? = some (way t.mask (k.hash w) c')) →
      wpAny (model P w) A (setSearchFrom a (.ref x) (k.hash w) true f stand) Q E s
  | 0, c, stand, _, _, hf, _ => absurd hf (Nat.not_lt_zero _)
  | f + 1, c, stand, hst, hc, hf, hre => by
    obtain ⟨o, ho, hex, hd⟩ := R.ob
    rw [setSearchFrom_succ]
    refine wpAny_bind (wpAny_setState_of ho hd R.fits ?_); dsimp only
    refine wp_if_neg R.odd ?_
    try refine wpAny_bind (wpAny_pure ?_)
    generalize hh : k.hash w = hk at *
    have sh : ∀ q, nth t.mask (wayS t.mask hk c) q = wayS t.mask hk (c + q) := fun q => (nth_add t.mask c _ q).symm
    have e1 : ∀ q, (nth t.mask (wayS t.mask hk c) q).j = way t.mask hk (c + q) := fun q => congrArg SetTable.Probe.j (sh q)
    have spec := go_spec t R.tab.ris R.tab.dm (fun i => (es[i]?.map (·.1)).getD 0) hk (10 * SetTable.turns t.mask) (K - c) _ (no_dummy t.mask c _ rfl) (by omega)
      (fun q hq => by rw [e1]; exact hKb (c + q) (by omega)) (by rw [e1, show c + (K - c) = K by omega]; exact hK)
    have hashAt : ∀ (i : Nat) p, L[i]? = some p → (es[i]?.map (·.1)).getD 0 = p.2.hash w := fun i p hp => by
      rw [rowN_get R.rows hp]
      rfl
    rcases spec with ⟨q, i, hq, hi, _, hno, hpr⟩ | ⟨hno, hpr⟩
    · have met : t.probe (fun i => (es[i]?.map (·.1)).getD 0) hk (stand.getD (t.probeStart hk)) = some (.candidate (way t.mask hk (c + q)) i (wayS t.mask hk (c + (q + 1)))) := by
        rw [hst, ← e1, ← sh]
        exact hpr
      rw [met]; dsimp only
      rw [e1] at hi
      have hil : i < L.length := by
        have h1 := (List.getElem?_eq_some_iff.mp hi).1
        have h2 := R.tab.sz
        rw [List.length_map] at h2
        rw [Array.length_toList] at h1
        omega
      obtain ⟨p, hp⟩ : ∃ p, L[i]? = some p := ⟨_, List.getElem?_eq_getElem hil⟩
      have hmem : p ∈ L := List.mem_of_getElem? hp
      have rest : wpAny (model P w) A (searchRest a (.ref x) hk true f es t (way t.mask hk (c + q)) i (wayS t.mask hk (c + (q + 1)))) Q E s := by
        unfold searchRest
        rw [rowN_get R.rows hp]; dsimp only
        refine wpAny_bind (wpAny_holding ((R.tup p hmem).eq hu hx ?_))
        refine wpAny_bind (wpAny_setState_of ho hd R.fits ?_); dsimp only
        by_cases hkk : p.2 = k
        · exact wp_if_pos (by simp [hkk]) (wpAny_pure (hin (List.mem_map.mpr ⟨p, hmem, hkk⟩)))
        · refine wp_if_neg (by simp [hkk]) ?_
          try refine wpAny_bind (wpAny_pure ?_)
          rw [sameMem]; dsimp only
          have hsl : t.slot (way t.mask hk (c + q)) = .live i := slot_live R.tab.ris hi
          simp only [if_true, hsl, rowN_get R.rows hp]
          refine wpAny_bind (wpAny_isSame_ref_self (wpAny_bind (wpAny_pure ?_)))
          simp only [if_true]
          refine wp_if_neg (by simp [hkk]) ?_
          have ih := seek R hx hu hKf (by rw [hh]; exact hK) (by rw [hh]; exact hKb) (Q := Q) hin (by rw [hh]; exact hout) f (c + (q + 1)) (some (wayS t.mask hk (c + (q + 1)))) (by rw [hh]; rfl) (by omega) (by omega)
          rw [hh] at ih
          refine ih fun i0 p0 h0 hk0 => ?_
          obtain ⟨c', a1, a2, a3⟩ := hre i0 p0 h0 hk0
          have hne : c' ≠ c + q := fun ec => by
            rw [ec] at a3
            have s0 := slot_live R.tab.ris a3
            rw [hsl] at s0
            injection s0 with s0
            rw [← s0, hp] at h0
            exact hkk ((congrArg Prod.snd (Option.some.inj h0)).trans hk0)
          have hge : ¬ c' < c + q := fun z => by
            refine hno (c' - c) i0 (by omega) (by rw [e1, show c + (c' - c) = c' by omega]; exact a3) ?_
            rw [← hh, ← hk0]
            exact hashAt i0 p0 h0
          exact ⟨c', by omega, a2, a3⟩
      by_cases hl : t.led = true
      · refine wp_if_neg (by simp [hl]) ?_
        try refine wpAny_bind (wpAny_pure ?_)
        exact rest
      · refine wp_if_pos (by simp [hl]) (wpAny_bind (unseen hx (fun y hy => ?_) ?_))
        · obtain ⟨e, he, ee⟩ := List.mem_map.mp hy
          have he1 : e ∈ es ∧ e.1 = hk := by simpa using he
          have he2 : e ∈ es.toList := by simpa using he1.1
          rw [R.rows] at he2
          obtain ⟨p2, hp2, e2⟩ := List.mem_map.mp he2
          exact ⟨p2.2, p2.1, by rw [← ee, ← e2], R.tup p2 hp2⟩
        · refine wp_if_neg (by decide) ?_
          try refine wpAny_bind (wpAny_pure ?_)
          exact rest
    · have met : t.probe (fun i => (es[i]?.map (·.1)).getD 0) hk (stand.getD (t.probeStart hk)) = some (.empty (way t.mask hk K) none) := by
        have e2 : way t.mask hk K = (nth t.mask (wayS t.mask hk c) (K - c)).j := by
          rw [e1, show c + (K - c) = K by omega]
        rw [hst, e2]
        exact hpr
      rw [met]; dsimp only
      refine wpAny_pure (hout fun hm => ?_)
      obtain ⟨p0, h0, hk0⟩ := List.mem_map.mp hm
      obtain ⟨i0, hi0, e0⟩ := List.getElem_of_mem h0
      have h00 : L[i0]? = some p0 := by rw [List.getElem?_eq_getElem hi0, e0]
      obtain ⟨c', a1, a2, a3⟩ := hre i0 p0 h00 hk0
      refine hno (c' - c) i0 (by omega) (by rw [e1, show c + (c' - c) = c' by omega]; exact a3) ?_
      rw [← hh, ← hk0]
      exact hashAt i0 p0 h00
theorem seek_all (R : SetN P w s.heap a L es ep t) {x : Addr} {k : NestedKey} (hx : KeyAt s.heap k x) (hu : A.units + 8 < cLine) {Q : SetFound → Shared → Prop} (hin : k ∈ L.map (·.2) → Q (.there none) s)
    (hout : ∀ K, k ∉ L.map (·.2) → way t.mask (k.hash w) K ∉ t.place.toList → (∀ c, c < K → way t.mask (k.hash w) c ∈ t.place.toList) → Q (.free (way t.mask (k.hash w) K) false) s) :
    wpAny (model P w) A (setSearch a (.ref x) (k.hash w) true) Q E s := by
  have hroom := R.room
  obtain ⟨K, hKf, hK, hKb⟩ := R.tab.first (by rw [List.length_map]; omega) (k.hash w)
  have hbig : 10 * SetTable.turns t.mask ≤ 1420 := by
    unfold SetTable.turns
    rcases R.tab.mok with e | e | e <;> omega
  unfold setSearch
  refine seek R hx hu hKf hK hKb hin (fun hn => hout K hn hK hKb) 100000 0 none rfl (Nat.zero_le _) (by omega) fun i p hp hk => ?_
  have hi : (hashN w L)[i]? = some (k.hash w) := by
    rw [List.getElem?_map, hp, ← hk]
    rfl
  have hil : i < t.place.toList.length := by
    have h1 := (List.getElem?_eq_some_iff.mp hp).1
    have h2 := R.tab.sz
    rw [List.length_map] at h2
    rw [Array.length_toList]
    omega
  have hj := List.getElem?_eq_getElem hil
  obtain ⟨c, hc, e⟩ := R.tab.before hK hi hj
  exact ⟨c, Nat.zero_le _, hc, by rw [hj, e]⟩
end
end SB
/-! Sets of tuples of any keys: one is put in. -/
namespace SB
open PySem PySem.Spec PyProof.Rows L2

theorem range_pick {α : Type} : ∀ L : List α, (List.range L.length).filterMap (fun i => L[i]?) = L
  | [] => rfl
  | x :: L => by
    have ih := range_pick L
    rw [List.length_cons, List.range_succ_eq_map, List.filterMap_cons]
    simp only [List.getElem?_cons_zero, List.filterMap_map]
    exact congrArg (x :: ·) ih
theorem order_any {α β γ : Type} (f : α → β) (g : β → γ) (z : γ) (L : List α) (es : Array β) (order : Array Nat) (hr : es.toList = L.map f) (hp : order.toList.Perm (List.range L.length)) :
    ∃ L2 : List α, (order.filterMap (es[·]?)).toList = L2.map f ∧ L2.Perm L ∧ (L2.map fun p => g (f p)) = order.toList.map fun i => (es.map g).getD i z := by
  have ent : ∀ i : Nat, es[i]? = (L[i]?).map f := fun i => by rw [← Array.getElem?_toList, hr, List.getElem?_map]
  refine ⟨order.toList.filterMap fun i => L[i]?, ?_, ?_, ?_⟩
  · rw [Array.toList_filterMap, List.map_filterMap]
    exact congrArg (fun h => List.filterMap h order.toList) (funext ent)
  · have := hp.filterMap fun i => L[i]?
    rw [range_pick] at this
    exact this
  · have key : ∀ l : List Nat, (∀ i ∈ l, i < L.length) → ((l.filterMap fun i => L[i]?).map fun p => g (f p)) = l.map fun i => (es.map g).getD i z := by
      intro l
      induction l with
      | nil => intro _; rfl
      | cons i l ih =>
        intro hl
        have hi := hl i List.mem_cons_self
        have e := ih fun j hj => hl j (List.mem_cons_of_mem _ hj)
        have e2 : (es.map g).getD i z = g (f L[i]) := by
          rw [Array.getD_eq_getD_getElem?, Array.getElem?_map, ent i, List.getElem?_eq_getElem hi]
          rfl
        rw [List.filterMap_cons, List.getElem?_eq_getElem hi, List.map_cons, List.map_cons, e, e2]
    exact key _ fun i hi => List.mem_range.mp (hp.mem_iff.mp hi)
theorem tab_like {t t2 : SetTable} {hs : List Int} (T : L2.TabOk t hs) (h1 : t2.place = t.place) (h2 : t2.dummies = t.dummies) (h3 : t2.mask = t.mask) : L2.TabOk t2 hs := by
  refine ⟨by rw [h1]; exact T.ris, by rw [h2]; exact T.dm, by rw [h1]; exact T.sz, by rw [h3]; exact T.mok, ?_, ?_⟩
  · rw [h1, h3]; exact T.bd
  · rw [h1, h3]; exact T.reach
section
variable {P : Program} {w : World} {A : Around} {E : Value → Shared → Prop} {s : Shared} {a : Addr} {L : Rows} {es : Array (Int × Value)} {ep : Nat} {t : SetTable}
/-- all is laid anew, in a larger table -/
theorem relayN {o : Obj} (ho : s.heap.get? a = some o) (hex : o.ExactSet) (hd : o.data = .set es ep t) (hrows : es.toList = rowN w L) (hsz : t.place.size = es.size) (hdm : t.dummies = #[]) (hfl : es.size ≤ t.mask)
    (nd : (L.map (·.2)).Nodup) (tup : ∀ p ∈ L, KeyAt s.heap p.2 p.1) (ld : w.params.followText "set-order" = true ∨ t.led = true) (few : L.length < 64) {wanted M : Nat}
    (hw : SetTable.sizeAbove wanted - 1 = M) (hM : MaskOk M) (hw2 : SetTable.sizeAbove wanted ≤ 128) (hn : L.length * 5 < M * 3) {Q : Unit → Shared → Prop}
    (hQ : ∀ h' L' es' ep' t', Heap.SameBut a s.heap h' → SetN P w h' a L' es' ep' t' → L'.Perm L → Q () { s with heap := h' }) : wpAny (model P w) A (setRelay a wanted) Q E s := by
  have hsl : es.size = L.length := rowN_size hrows
  have hfits : t.fits es.size = true := by
    unfold SetTable.fits SetTable.fill
    rw [hdm, Bool.and_eq_true, beq_iff_eq, decide_eq_true_eq]
    exact ⟨hsz, by show t.place.size + 0 ≤ t.mask; omega⟩
  obtain ⟨t', order, e, hp, T, em, el, ep', ed⟩ := relaid_ok t (hs := es.map (·.1)) (wanted := wanted) hw hM (by rw [Array.size_map, hsl]; omega)
  rw [Array.size_map, hsl] at hp
  obtain ⟨L2, r1, r2, r3⟩ := order_any (fun p : Addr × NestedKey => (p.2.hash w, Value.ref p.1)) (fun q => q.1) 0 L es order hrows hp
  have r3' : hashN w L2 = order.toList.map fun i => (es.map (·.1)).getD i 0 := r3
  rw [← r3'] at T
  have hs2 : (order.filterMap (es[·]?)).size = es.size := by
    have h := congrArg List.length r1
    rw [Array.length_toList, List.length_map, r2.length_eq] at h
    omega
  rw [setRelay_eq]
  refine wpAny_bind (wpAny_setState_of ho hd hfits ?_); dsimp only
  refine wp_if_neg (by rw [sizeLine_eq]; omega) ?_
  try refine wpAny_bind (wpAny_pure ?_)
  rw [e]; dsimp only
  refine wpAny_bind (wp_if_neg (by rw [hs2]; simp) ?_)
  try refine wpAny_bind (wpAny_pure ?_)
  refine wpAny_pure ?_; dsimp only
  refine wpAny_storeSet_of ho hd ?_ (by rw [hs2, hsl, sizeLine_eq]; omega)
  have sb : Heap.SameBut a s.heap (s.heap.update a (Obj.putSet (order.filterMap (es[·]?)) t')) := Heap.SameBut.update ..
  refine hQ _ L2 (order.filterMap (es[·]?)) (ep + 1) t' sb ⟨⟨_, store_at ho hd, ⟨hex.1, hex.2.1, hex.2.2⟩, rfl⟩, r1, T, (r2.map (·.2)).nodup_iff.mpr nd, fun p hpm => (tup p (r2.mem_iff.mp hpm)).apart ho hd sb, by rw [el]; exact ld, ?_, by rw [r2.length_eq]; exact few⟩ r2
  rw [r2.length_eq, em]
  exact hn
/-- one key is put in -/
theorem addN (R : SetN P w s.heap a L es ep t) {x : Addr} {k : NestedKey} (hx : KeyAt s.heap k x) (hu : A.units + 8 < cLine) (hfew : L.length + 1 < 64) {Q : Bool → Shared → Prop}
    (hQ : ∀ b h' L' es' ep' t', Heap.SameBut a s.heap h' → SetN P w h' a L' es' ep' t' → (k ∈ L.map (·.2) → L' = L) → (k ∉ L.map (·.2) → L'.Perm ((x, k) :: L)) → Q b { s with heap := h' }) :
    wpAny (model P w) A (setAddHashed a (.ref x) (k.hash w)) Q E s := by
  obtain ⟨o, ho, hex, hd⟩ := R.ob
  have hsl := rowN_size R.rows
  have hroom := R.room
  unfold setAddHashed
  refine wpAny_holding ?_
  rw [show (100000 : Nat) = 99999 + 1 from rfl, setAddHashedIn_succ]
  refine wpAny_bind (wpAny_setState_of ho hd R.fits ?_); dsimp only
  refine wp_if_neg (by simp [byScan, Value.scannable]) ?_
  try refine wpAny_bind (wpAny_pure ?_)
  refine wpAny_bind (seek_all R hx hu (fun hm => ?_) fun K hm hK hb => ?_)
  · exact wpAny_pure (hQ false s.heap L es ep t (Heap.SameBut.refl a s.heap) R (fun _ => rfl) fun z => absurd hm z)
  · dsimp only
    refine wpAny_bind (wpAny_setState_of ho hd R.fits ?_); dsimp only
    obtain ⟨q1, q2, q3, q4, q5, q6, q7, q8, q9⟩ := R.tab.put hK hb
    generalize hpt : t.put (way t.mask (k.hash w) K) = pt at q1 q3 q4 q5 q6 q7 q8 q9 ⊢
    obtain ⟨t1, p⟩ := pt
    dsimp only at q1 q3 q4 q5 q6 q7 q8 q9 ⊢
    subst q1
    have ins : (SetTable.insertAt es (SetTable.below t.place (way t.mask (k.hash w) K)) (k.hash w, Value.ref x)).toList = rowN w (L.take (SetTable.below t.place (way t.mask (k.hash w) K)) ++ (x, k) :: L.drop (SetTable.below t.place (way t.mask (k.hash w) K))) := by
      rw [SetTable.toList_insertAt, R.rows, rowN, rowN, List.map_append, List.map_cons, List.map_take, List.map_drop]
    generalize hpp : SetTable.below t.place (way t.mask (k.hash w) K) = p at q2 q3 ins ⊢
    have pm : (L.take p ++ (x, k) :: L.drop p).Perm ((x, k) :: L) := put_perm L p (x, k)
    have hlen : (L.take p ++ (x, k) :: L.drop p).length = L.length + 1 := pm.length_eq
    have hhs : hashN w (L.take p ++ (x, k) :: L.drop p) = (hashN w L).take p ++ k.hash w :: (hashN w L).drop p := by
      rw [hashN, List.map_append, List.map_cons, List.map_take, List.map_drop]
    rw [← hhs] at q3
    have nd1 : ((L.take p ++ (x, k) :: L.drop p).map (·.2)).Nodup := by
      refine (pm.map (·.2)).nodup_iff.mpr ?_
      rw [List.map_cons]
      exact List.nodup_cons.mpr ⟨hm, R.nd⟩
    have hes : (SetTable.insertAt es p (k.hash w, Value.ref x)).size = L.length + 1 := by rw [rowN_size ins, hlen]
    generalize SetTable.insertAt es p (k.hash w, Value.ref x) = es1 at ins hes ⊢
    generalize L.take p ++ (x, k) :: L.drop p = L1 at pm hlen q3 nd1 ins
    rw [List.length_map] at q9
    have fin : ∀ t2 : SetTable, t2.place = t1.place → t2.dummies = t1.dummies → t2.mask = t1.mask → t2.led = t1.led →
        wpAny (model P w) A (storeSet a es1 t2 >>= fun _ => if (!false && t2.tooFull) = true then (setRelay a (SetTable.grown (es.size + 1)) >>= fun _ => pure true) else pure true) Q E s := by
      intro t2 g1 g2 g3 g4
      have T2 := tab_like q3 g1 g2 g3
      have ld2 : w.params.followText "set-order" = true ∨ t2.led = true := by rw [g4, q5]; exact R.led
      refine wpAny_bind (wpAny_storeSet_of ho hd ?_ (by rw [hes, sizeLine_eq]; omega))
      have sb : Heap.SameBut a s.heap (s.heap.update a (Obj.putSet es1 t2)) := Heap.SameBut.update ..
      have ho1 := store_at (es' := es1) (t' := t2) ho hd
      generalize s.heap.update a (Obj.putSet es1 t2) = h1 at sb ho1 ⊢
      have tup1 : ∀ p ∈ L1, KeyAt h1 p.2 p.1 := fun p hp => by
        rcases List.mem_cons.mp (pm.mem_iff.mp hp) with e | hp
        · rw [e]; exact hx.apart ho hd sb
        · exact (R.tup p hp).apart ho hd sb
      have fl : t2.fill = L.length + 1 := by
        rw [← q9]
        unfold SetTable.fill
        rw [g1, g2]
      have m2 : t2.mask = t.mask := g3.trans q4
      by_cases hf : t2.tooFull = true
      · have full : (L.length + 1) * 5 ≥ t2.mask * 3 := by
          have h := hf
          unfold SetTable.tooFull at h
          rw [decide_eq_true_eq, fl] at h
          exact h
        refine wp_if_pos (by simp [hf]) (wpAny_bind ?_)
        rw [hsl]
        have sz1 : t2.place.size = es1.size := by
          have h := T2.sz
          rw [List.length_map, hlen] at h
          rw [h, hes]
        have two : (t.mask = 7 ∧ L.length = 4) ∨ (t.mask = 31 ∧ L.length = 18) := by
          rcases R.tab.mok with e | e | e
          · left; rw [m2, e] at full; rw [e] at hroom; exact ⟨e, by omega⟩
          · right; rw [m2, e] at full; rw [e] at hroom; exact ⟨e, by omega⟩
          · exfalso; rw [m2, e] at full; omega
        have go : ∀ M, SetTable.sizeAbove (SetTable.grown (L.length + 1)) - 1 = M → MaskOk M → SetTable.sizeAbove (SetTable.grown (L.length + 1)) ≤ 128 → (L.length + 1) * 5 < M * 3 →
            wpAny (model P w) A (setRelay a (SetTable.grown (L.length + 1))) (fun _ s' => wpAny (model P w) A (pure true) Q E s') E { s with heap := h1 } := fun M a1 a2 a3 a4 =>
          relayN (s := { s with heap := h1 }) ho1 ⟨hex.1, hex.2.1, hex.2.2⟩ rfl ins sz1 T2.dm (by rw [hes, m2]; rcases two with ⟨e, e2⟩ | ⟨e, e2⟩ <;> omega) nd1 tup1 ld2 (by rw [hlen]; exact hfew) a1 a2 a3 (by rw [hlen]; exact a4) fun h2 L2 es2 ep2 t2 sb2 R2 pm2 =>
            wpAny_pure (hQ true h2 L2 es2 ep2 t2 (sb.trans sb2) R2 (fun z => absurd z hm) fun _ => pm2.trans pm)
        rcases two with ⟨_, e2⟩ | ⟨_, e2⟩
        · exact go 31 (by rw [e2, size_20]) (.inr (.inl rfl)) (by rw [e2, size_20]; decide) (by omega)
        · exact go 127 (by rw [e2, size_76]) (.inr (.inr rfl)) (by rw [e2, size_76]; decide) (by omega)
      · refine wp_if_neg (by simp [hf]) ?_
        refine wpAny_pure (hQ true h1 L1 es1 (ep + 1) t2 sb ⟨⟨_, ho1, ⟨hex.1, hex.2.1, hex.2.2⟩, rfl⟩, ins, T2, nd1, tup1, ld2, ?_, by rw [hlen]; exact hfew⟩ (fun z => absurd z hm) fun _ => pm)
        have h := hf
        unfold SetTable.tooFull at h
        rw [decide_eq_true_eq, fl] at h
        rw [hlen]
        omega
    by_cases hp : t1.plain = true
    · refine wp_if_pos hp (wpAny_bind ((tame_key k _ 8 s hx.1 hx.2).2 _ _ _ fun b => ?_))
      cases b with
      | true => exact fin t1 rfl rfl rfl rfl
      | false => exact fin { t1 with plain := false } rfl rfl rfl rfl
    · exact wp_if_neg hp (wpAny_bind (wpAny_pure (fin t1 rfl rfl rfl rfl)))
end
end SB
/-! Sets of tuples of any keys: set(list), sorted(set). -/
namespace SB
open PySem PySem.Spec PyProof.Rows L2

/-- what the set has of the first i items -/
structure Has (ks : Rows) (i : Nat) (L : Rows) : Prop where
  sub : ∀ p ∈ L, p ∈ ks.take i
  all : ∀ p ∈ ks.take i, p.2 ∈ L.map (·.2)
  len : L.length ≤ i
theorem Has.zero (ks : Rows) : Has ks 0 [] := ⟨fun p h => (by cases h), fun p h => (by simp at h), Nat.le_refl _⟩
theorem Has.old {ks L : Rows} {i : Nat} {x : Addr × NestedKey} (g : Has ks i L) (h : ks[i]? = some x) (hm : x.2 ∈ L.map (·.2)) : Has ks (i + 1) L := by
  refine ⟨fun p hp => ?_, fun p hp => ?_, Nat.le_succ_of_le g.len⟩
  · rw [take_next h]
    exact List.mem_append_left _ (g.sub p hp)
  · rw [take_next h, List.mem_append, List.mem_singleton] at hp
    rcases hp with z | z
    · exact g.all p z
    · rw [z]; exact hm
theorem Has.new {ks L L' : Rows} {i : Nat} {x : Addr × NestedKey} (g : Has ks i L) (h : ks[i]? = some x) (pm : L'.Perm (x :: L)) : Has ks (i + 1) L' := by
  refine ⟨fun p hp => ?_, fun p hp => ?_, by rw [pm.length_eq, List.length_cons]; exact Nat.succ_le_succ g.len⟩
  · rw [take_next h, List.mem_append, List.mem_singleton]
    rcases List.mem_cons.mp (pm.mem_iff.mp hp) with e | z
    · exact .inr e
    · exact .inl (g.sub p z)
  · rw [(pm.map (·.2)).mem_iff, List.map_cons, List.mem_cons]
    rw [take_next h, List.mem_append, List.mem_singleton] at hp
    rcases hp with z | z
    · exact .inr (g.all p z)
    · exact .inl (by rw [z])
section
variable {P : Program} {w : World} {A : Around} {E : Value → Shared → Prop} {s : Shared}
theorem SetN.keep {h h' : Heap} {a : Addr} {L : Rows} {es : Array (Int × Value)} {ep : Nat} {t : SetTable} (R : SetN P w h a L es ep t) (ha : ∀ o, h.get? a = some o → h'.get? a = some o) (ht : ∀ p ∈ L, KeyAt h' p.2 p.1) : SetN P w h' a L es ep t :=
  let ⟨o, ho, r⟩ := R.ob
  ⟨⟨o, ha o ho, r⟩, R.rows, R.tab, R.nd, ht, R.led, R.room, R.few⟩
/-- an empty set that was just made -/
abbrev bareSet (w : World) : Obj := { cls := .type "set", dict := none, data := .set #[] 0 (.fresh 0 0 (!w.params.followText "set-order")) }
theorem setN_bare {h : Heap} {a : Addr} (ho : h.get? a = some (bareSet w)) : SetN P w h a [] #[] 0 (.fresh 0 0 (!w.params.followText "set-order")) := by
  refine ⟨⟨_, ho, ⟨rfl, rfl, rfl⟩, rfl⟩, rfl, ⟨List.Pairwise.nil, rfl, rfl, .inl rfl, fun x hx => (by cases hx), fun i h j hi => (by simp at hi)⟩, List.nodup_nil, fun p hp => (by cases hp), ?_, by show 0 * 5 < 7 * 3; decide, by show 0 < 64; decide⟩
  show _ ∨ (!w.params.followText "set-order") = true
  cases w.params.followText "set-order"
  · exact .inr rfl
  · exact .inl rfl
/-- the loop of set.update -/
theorem fillN {I : Addr} {fp wr : List Addr} {G : Array GenState → Array GenState → Prop} {n : Nat} {Pv : Nat → Value → Prop} {St : Nat → Shared → Prop} {R : Result → Shared → Prop}
    (W : WalksS P w A.in1 I fp wr G n Pv St) (S : Addr) (hSf : S ∉ fp) (ks : Rows) (hn : n = ks.length) (hfew : ks.length < 64) (hval : ∀ i v, Pv i v → ∃ p, ks[i]? = some p ∧ v = .ref p.1)
    (h0 : Heap) (hk : ∀ p ∈ ks, KeyAt h0 p.2 p.1) (hS0 : h0.get? S = none) (hw0 : ∀ b ∈ wr, h0.get? b = none) (hu : A.in1.units + 8 < cLine) :
    ∀ (k i : Nat) (s : Shared), n - i = k → i ≤ n → St i s → (∀ b o, h0.get? b = some o → s.heap.get? b = some o) → (∃ L es ep t, SetN P w s.heap S L es ep t ∧ Has ks i L) →
      (∀ s' L es ep t, Moved (S :: wr) G s s' → SetN P w s'.heap S L es ep t → Has ks n L → (∀ b o, h0.get? b = some o → s'.heap.get? b = some o) → R (.ok (.ret .none)) s') →
      codeAny (model P w) A (.builtin "set.update.loop" ⟨[.ref S, .ref I], []⟩) R s := by
  have hSw : S ∉ wr := fun h => hSf (W.sub _ h)
  have hsub : ∀ b ∈ wr, b ∈ S :: wr := fun b hb => List.mem_cons_of_mem _ hb
  have keepM : ∀ {s s' : Shared}, Moved wr G s s' → (∀ b o, h0.get? b = some o → s.heap.get? b = some o) → ∀ b o, h0.get? b = some o → s'.heap.get? b = some o := fun hm hkp b o e =>
    hm.heap b o (fun hb => by rw [hw0 b hb] at e; cases e) (hkp b o e)
  have within : ∀ {i : Nat} {L : Rows}, Has ks i L → ∀ p ∈ L, p ∈ ks := fun g p hp => List.mem_of_mem_take (g.sub p hp)
  intro k
  induction k with
  | zero =>
    intro i s hk' hi hst hkp ⟨L, es, ep, t, hS, g⟩ hR
    obtain rfl : i = n := by omega
    refine codeAny_builtin F.entry_set_update_loop ?_
    rw [Around.under_plainId F.plain_set_update_loop _]
    show wpAny _ A.in1 (pyNext (.ref I) >>= _) _ _ s
    refine wpAny_bind (W.done s _ _ hst fun s' hm => ?_)
    have kp' := keepM hm hkp
    show wpAny _ A.in1 (ret Value.none) _ _ s'
    exact wpAny_pure (hR s' L es ep t (hm.mono hsub) (hS.keep (fun o e => hm.heap S o hSw e) fun p hp => (hk p (within g p hp)).kept kp') g kp')
  | succ k ih =>
    intro i s hk' hi hst hkp ⟨L, es, ep, t, hS, g⟩ hR
    have hlt : i < n := by omega
    refine codeAny_builtin F.entry_set_update_loop ?_
    rw [Around.under_plainId F.plain_set_update_loop _]
    show wpAny _ A.in1 (pyNext (.ref I) >>= _) _ _ s
    refine wpAny_bind (W.item i s _ _ hlt hst fun v s' hP hst' hm => ?_)
    obtain ⟨p, hp, rfl⟩ := hval i v hP
    have kp' := keepM hm hkp
    have hS' : SetN P w s'.heap S L es ep t := hS.keep (fun o e => hm.heap S o hSw e) fun q hq => (hk q (within g q hq)).kept kp'
    have hx : KeyAt s'.heap p.2 p.1 := (hk p (List.mem_of_getElem? hp)).kept kp'
    show wpAny _ A.in1 (holding [Value.ref p.1] (setAdd S (.ref p.1)) >>= _) _ _ s'
    refine wpAny_bind (wpAny_holding ?_)
    unfold setAdd
    refine wpAny_holding (wpAny_bind (pyHash_key p.2 _ _ _ _ hx.1 (by have := hx.2; omega) ?_))
    refine addN (s := { s' with toks := s'.toks + p.2.draws }) hS' hx hu (by have := g.len; omega) fun b h' L' es' ep' t' hsb hS2 c1 c2 => ?_
    have g' : Has ks (i + 1) L' := by
      rcases Classical.em (p.2 ∈ L.map (·.2)) with c | c
      · rw [c1 c]; exact g.old hp c
      · exact g.new hp (c2 c)
    have kp2 : ∀ b o, h0.get? b = some o → h'.get? b = some o := fun b o e => (hsb.2 b (fun z => by rw [z, hS0] at e; cases e)).trans (kp' b o e)
    refine wpAny_pure ⟨plainId_quiet F.plain_set_update_loop _, ih (i + 1) _ (by omega) hlt (W.frame _ s' _ _ hst' (Nat.le_add_right _ _) fun b hb o e => ?_) kp2 ⟨L', es', ep', t', hS2, g'⟩ fun s'' L2 es2 ep2 t2 hm'' hS'' g'' kp'' => ?_⟩
    · rw [hsb.2 b (fun h : b = S => hSf (by rw [← h]; exact hb))]; exact e
    · refine hR s'' L2 es2 ep2 t2 (Moved.trans W.gtrans ((hm.mono hsub).then_heap (Nat.le_add_right _ _) fun b o hb e => ?_) hm'') hS'' g'' kp''
      rw [hsb.2 b (fun h : b = S => hb (by rw [h]; exact List.mem_cons_self))]; exact e
set_option maxHeartbeats 3200000 in
/-- set(xs), xs a list of such tuples -/
theorem makeN {l : Addr} {items : Array Value} (ks : Rows) {Q : Value → Shared → Prop} (hh : A.handled = none) (hl : s.heap.IsList l items) (hit : items.toList = ks.map fun p => Value.ref p.1)
    (hk : ∀ p ∈ ks, KeyAt s.heap p.2 p.1) (hfew : ks.length < 64) (hu : A.units + 12 < cLine)
    (h : ∀ (h' : Heap) (tk : Nat) L es ep t, SetN P w h' s.heap.objs.size L es ep t → Has ks ks.length L → (∀ b o, s.heap.get? b = some o → h'.get? b = some o) → Q (.ref s.heap.objs.size) { s with heap := h', toks := tk }) :
    wpAny (model P w) A (call (.type "set") [.ref l]) Q E s := by
  have isz : items.size = ks.length := by
    have q := congrArg List.length hit
    rwa [Array.length_toList, List.length_map] at q
  obtain ⟨c, tl, hmro⟩ := F.called_set.mro
  have hmade := F.called_set.made; have hsub := F.called_set.sub
  refine wpAny_call (codeAny_of_tree ?_)
  show wpAny _ _ (callAny (.type "set") _) _ _ _
  refine wpAny_pure ⟨Code.quiet_builtin _ (by decide +kernel), codeAny_builtin F.entry_type_call ?_⟩
  rw [Around.under_plain (weight_type_call_type "set" [.ref l] []) rfl]
  have h1 := F.called_set.notType; have h2 := F.called_set.canCreate
  have hct := F.typeCall_set_1 (.ref l)
  repeat (any_goals (first | assumption | wp_step))
  refine codeAny_mono (code_set_led1 (.ref l) (E := E) (Q₁ := fun obj s₁ => obj = .ref s.heap.objs.size ∧ s₁ = { s with heap := s.heap.push (bareSet w) }) ⟨rfl, rfl⟩) fun r s₁ hr => ?_
  cases r with
  | error e => exact hr
  | ok fl =>
    cases fl with
    | ret obj =>
      obtain ⟨rfl, rfl⟩ := hr
      have hS : (s.heap.push (bareSet w)).get? s.heap.objs.size = some (bareSet w) := Heap.get?_push_size _ rfl
      have hT : Shared.TypeIs { s with heap := s.heap.push (bareSet w) } (.ref s.heap.objs.size) "set" := ⟨_, hS, rfl⟩
      have hli := F.called_set.init.lookup; have hbi := F.called_set.init.bind (.ref s.heap.objs.size)
      repeat (any_goals (first | assumption | wp_step))
      refine codeAny_mono (codeAny_call_builtin (R := wants (fun r s₂ => r = .none ∧ ∃ h' tk L es ep t, s₂ = { s with heap := h', toks := tk } ∧ SetN P w h' s.heap.objs.size L es ep t ∧ Has ks ks.length L ∧
          (∀ b o, s.heap.get? b = some o → h'.get? b = some o)) E) F.called_set.init.plain F.entry_set_init (check_set_init_1 hT ?_)) fun r₂ s₂ hr₂ => ?_
      · obtain ⟨⟨ocls, odict, odata, oslots⟩, hol, hcl, nl, hdl⟩ := hl
        simp only at hcl hdl
        subst hcl hdl
        have hol' : (s.heap.push (bareSet w)).get? l = some { cls := .type "list", dict := odict, data := .seq items nl, slots := oslots } := Heap.get?_push_of_some _ hol
        have hsls := F.sub_list_set; have hslf := F.sub_list_frozenset
        have hne : (Value.type "list" == Value.type "dict") = false := by decide
        have hl1 : (s.heap.push (bareSet w)).IsList l items := ⟨_, hol', rfl, nl, rfl⟩
        unfold Builtin.«set.__init__» noKeywords Builtin.Frozenset.updateFrom
        generalize hPI : pyIter = PI
        wp_walk
        subst hPI
        refine wpAny_pyIter_list hl1 (wpAny_bind (wpAny_runValue ?_))
        have hlS : l < s.heap.objs.size := Heap.lt_size hol
        have hh3 : A.in1.in1.in1.handled = none := by simp [hh]
        have hz1 : (s.heap.push (bareSet w)).objs.size = s.heap.objs.size + 1 := Heap.size_push ..
        have hneI : l ≠ (s.heap.push (bareSet w)).objs.size := by rw [hz1]; exact Nat.ne_of_lt (Nat.lt_succ_of_lt hlS)
        have hSf : s.heap.objs.size ∉ [(s.heap.push (bareSet w)).objs.size, l] := by
          rw [hz1]; simp only [List.mem_cons, List.mem_singleton, List.not_mem_nil, or_false, not_or]
          exact ⟨Nat.ne_of_lt (Nat.lt_succ_self _), Nat.ne_of_gt hlS⟩
        have hval : ∀ (i : Nat) (v : Value), items[i]? = some v → ∃ p, ks[i]? = some p ∧ v = .ref p.1 := fun i v hv => by
          have q : items.toList[i]? = some v := by rw [Array.getElem?_toList]; exact hv
          rw [hit, List.getElem?_map] at q
          obtain ⟨p, hp, e⟩ := Option.map_eq_some_iff.mp q
          exact ⟨p, hp, e.symm⟩
        have out : ∀ b, s.heap.objs.size ≤ b → s.heap.get? b = none := fun b hb => by
          cases q : s.heap.get? b with
          | none => rfl
          | some o => exact absurd (Nat.lt_of_lt_of_le (Heap.lt_size q) hb) (Nat.lt_irrefl _)
        refine fillN ((Walks.list hh3 _ l hneI items).toS) s.heap.objs.size hSf ks isz hfew hval s.heap hk (out _ (Nat.le_refl _)) (fun b hb => out b (by rw [List.mem_singleton.mp hb, hz1]; exact Nat.le_succ _)) (by simp only [Around.in1_units]; omega) (items.size - 0) 0 _ (by omega) (Nat.zero_le _)
          ⟨⟨_, Heap.get?_push_size _ rfl, rfl, rfl⟩, (hl1.push _)⟩ (fun b o e => Heap.get?_push_of_some _ (Heap.get?_push_of_some _ e)) ?hS0 ?hR
        case hS0 => exact ⟨[], #[], 0, _, setN_bare (Heap.get?_push_of_some _ hS), Has.zero ks⟩
        case hR =>
          intro s' L es ep t hm hS' g' hkp
          obtain ⟨h', g2, d', tk', os'⟩ := s'
          obtain rfl : g2 = s.gens := hm.gens
          obtain rfl : d' = s.drawn := hm.drawn
          obtain rfl : os' = s.os := hm.os
          show wpAny _ _ _ _ _ _
          refine wpAny_pure ?_
          show wpAny _ _ (ret Value.none) _ _ _
          rw [isz] at g'
          exact wpAny_pure ⟨rfl, h', tk', L, es, ep, t, rfl, hS', g', hkp⟩
      · cases r₂ with
        | error e => exact hr₂
        | ok fl₂ =>
          cases fl₂ with
          | ret r =>
            obtain ⟨rfl, h', tk, L, es, ep, t, rfl, hS', g', hk'⟩ := hr₂
            repeat (any_goals (first | assumption | wp_step))
            exact h _ _ _ _ _ _ hS' g' hk'
          | _ => exact hr₂.elim
    | _ => exact hr.elim
set_option maxHeartbeats 3200000 in
/-- set(xs), xs a tuple of such tuples -/
theorem makeT {l : Addr} {items : Array Value} (ks : Rows) {Q : Value → Shared → Prop} (hh : A.handled = none) (hl : s.heap.IsTuple l items) (hit : items.toList = ks.map fun p => Value.ref p.1)
    (hk : ∀ p ∈ ks, KeyAt s.heap p.2 p.1) (hfew : ks.length < 64) (hu : A.units + 12 < cLine)
    (h : ∀ (h' : Heap) (tk : Nat) L es ep t, SetN P w h' s.heap.objs.size L es ep t → Has ks ks.length L → (∀ b o, s.heap.get? b = some o → h'.get? b = some o) → Q (.ref s.heap.objs.size) { s with heap := h', toks := tk }) :
    wpAny (model P w) A (call (.type "set") [.ref l]) Q E s := by
  have isz : items.size = ks.length := by
    have q := congrArg List.length hit
    rwa [Array.length_toList, List.length_map] at q
  obtain ⟨c, tl, hmro⟩ := F.called_set.mro
  have hmade := F.called_set.made; have hsub := F.called_set.sub
  refine wpAny_call (codeAny_of_tree ?_)
  show wpAny _ _ (callAny (.type "set") _) _ _ _
  refine wpAny_pure ⟨Code.quiet_builtin _ (by decide +kernel), codeAny_builtin F.entry_type_call ?_⟩
  rw [Around.under_plain (weight_type_call_type "set" [.ref l] []) rfl]
  have h1 := F.called_set.notType; have h2 := F.called_set.canCreate
  have hct := F.typeCall_set_1 (.ref l)
  repeat (any_goals (first | assumption | wp_step))
  refine codeAny_mono (code_set_led1 (.ref l) (E := E) (Q₁ := fun obj s₁ => obj = .ref s.heap.objs.size ∧ s₁ = { s with heap := s.heap.push (bareSet w) }) ⟨rfl, rfl⟩) fun r s₁ hr => ?_
  cases r with
  | error e => exact hr
  | ok fl =>
    cases fl with
    | ret obj =>
      obtain ⟨rfl, rfl⟩ := hr
      have hS : (s.heap.push (bareSet w)).get? s.heap.objs.size = some (bareSet w) := Heap.get?_push_size _ rfl
      have hT : Shared.TypeIs { s with heap := s.heap.push (bareSet w) } (.ref s.heap.objs.size) "set" := ⟨_, hS, rfl⟩
      have hli := F.called_set.init.lookup; have hbi := F.called_set.init.bind (.ref s.heap.objs.size)
      repeat (any_goals (first | assumption | wp_step))
      refine codeAny_mono (codeAny_call_builtin (R := wants (fun r s₂ => r = .none ∧ ∃ h' tk L es ep t, s₂ = { s with heap := h', toks := tk } ∧ SetN P w h' s.heap.objs.size L es ep t ∧ Has ks ks.length L ∧
          (∀ b o, s.heap.get? b = some o → h'.get? b = some o)) E) F.called_set.init.plain F.entry_set_init (check_set_init_1 hT ?_)) fun r₂ s₂ hr₂ => ?_
      · obtain ⟨⟨ocls, odict, odata, oslots⟩, hol, hcl, nl, hdl⟩ := hl
        simp only at hcl hdl
        subst hcl hdl
        have hol' : (s.heap.push (bareSet w)).get? l = some { cls := .type "tuple", dict := odict, data := .seq items nl, slots := oslots } := Heap.get?_push_of_some _ hol
        have hsls := F.sub_tuple_set; have hslf := F.sub_tuple_frozenset
        have hne : (Value.type "tuple" == Value.type "dict") = false := by decide
        have hl1 : (s.heap.push (bareSet w)).IsTuple l items := ⟨_, hol', rfl, nl, rfl⟩
        unfold Builtin.«set.__init__» noKeywords Builtin.Frozenset.updateFrom
        generalize hPI : pyIter = PI
        wp_walk
        subst hPI
        refine wpAny_pyIter_tuple hl1 (wpAny_bind (wpAny_runValue ?_))
        have hlS : l < s.heap.objs.size := Heap.lt_size hol
        have hh3 : A.in1.in1.in1.handled = none := by simp [hh]
        have hz1 : (s.heap.push (bareSet w)).objs.size = s.heap.objs.size + 1 := Heap.size_push ..
        have hneI : l ≠ (s.heap.push (bareSet w)).objs.size := by rw [hz1]; exact Nat.ne_of_lt (Nat.lt_succ_of_lt hlS)
        have hSf : s.heap.objs.size ∉ [(s.heap.push (bareSet w)).objs.size, l] := by
          rw [hz1]; simp only [List.mem_cons, List.mem_singleton, List.not_mem_nil, or_false, not_or]
          exact ⟨Nat.ne_of_lt (Nat.lt_succ_self _), Nat.ne_of_gt hlS⟩
        have hval : ∀ (i : Nat) (v : Value), items[i]? = some v → ∃ p, ks[i]? = some p ∧ v = .ref p.1 := fun i v hv => by
          have q : items.toList[i]? = some v := by rw [Array.getElem?_toList]; exact hv
          rw [hit, List.getElem?_map] at q
          obtain ⟨p, hp, e⟩ := Option.map_eq_some_iff.mp q
          exact ⟨p, hp, e.symm⟩
        have out : ∀ b, s.heap.objs.size ≤ b → s.heap.get? b = none := fun b hb => by
          cases q : s.heap.get? b with
          | none => rfl
          | some o => exact absurd (Nat.lt_of_lt_of_le (Heap.lt_size q) hb) (Nat.lt_irrefl _)
        refine fillN ((Walks.tuple hh3 _ l hneI items).toS) s.heap.objs.size hSf ks isz hfew hval s.heap hk (out _ (Nat.le_refl _)) (fun b hb => out b (by rw [List.mem_singleton.mp hb, hz1]; exact Nat.le_succ _)) (by simp only [Around.in1_units]; omega) (items.size - 0) 0 _ (by omega) (Nat.zero_le _)
          ⟨⟨_, Heap.get?_push_size _ rfl, rfl, rfl⟩, (hl1.push _)⟩ (fun b o e => Heap.get?_push_of_some _ (Heap.get?_push_of_some _ e)) ?hS0 ?hR
        case hS0 => exact ⟨[], #[], 0, _, setN_bare (Heap.get?_push_of_some _ hS), Has.zero ks⟩
        case hR =>
          intro s' L es ep t hm hS' g' hkp
          obtain ⟨h', g2, d', tk', os'⟩ := s'
          obtain rfl : g2 = s.gens := hm.gens
          obtain rfl : d' = s.drawn := hm.drawn
          obtain rfl : os' = s.os := hm.os
          show wpAny _ _ _ _ _ _
          refine wpAny_pure ?_
          show wpAny _ _ (ret Value.none) _ _ _
          rw [isz] at g'
          exact wpAny_pure ⟨rfl, h', tk', L, es, ep, t, rfl, hS', g', hkp⟩
      · cases r₂ with
        | error e => exact hr₂
        | ok fl₂ =>
          cases fl₂ with
          | ret r =>
            obtain ⟨rfl, h', tk, L, es, ep, t, rfl, hS', g', hk'⟩ := hr₂
            repeat (any_goals (first | assumption | wp_step))
            exact h _ _ _ _ _ _ hS' g' hk'
          | _ => exact hr₂.elim
    | _ => exact hr.elim
end
end SB
/-! set(xs), xs a list of ints. -/
namespace SB
open PySem PySem.Spec PyProof.Rows L2
section
variable {P : Program} {w : World} {A : Around} {E : Value → Shared → Prop} {s : Shared}
set_option maxHeartbeats 3200000 in
theorem makeI {l : Addr} {items : Array Value} (ns : List Int) {Q : Value → Shared → Prop} (hh : A.handled = none) (hl : s.heap.IsList l items) (hit : IntsAre items.toList ns)
    (hb : ns.length + 1 < scanBound)
    (h : ∀ (h' : Heap) (tk c : Nat), SetR w h' s.heap.objs.size (fun j => decide (j ∈ ns)) c → c ≤ ns.length → (∀ b o, s.heap.get? b = some o → h'.get? b = some o) → Q (.ref s.heap.objs.size) { s with heap := h', toks := tk }) :
    wpAny (model P w) A (call (.type "set") [.ref l]) Q E s := by
  have isz : items.size = ns.length := by
    have q := IntsAre.length hit
    rwa [Array.length_toList] at q
  obtain ⟨c, tl, hmro⟩ := F.called_set.mro
  have hmade := F.called_set.made; have hsub := F.called_set.sub
  refine wpAny_call (codeAny_of_tree ?_)
  show wpAny _ _ (callAny (.type "set") _) _ _ _
  refine wpAny_pure ⟨Code.quiet_builtin _ (by decide +kernel), codeAny_builtin F.entry_type_call ?_⟩
  rw [Around.under_plain (weight_type_call_type "set" [.ref l] []) rfl]
  have h1 := F.called_set.notType; have h2 := F.called_set.canCreate
  have hct := F.typeCall_set_1 (.ref l)
  repeat (any_goals (first | assumption | wp_step))
  refine codeAny_mono (code_set_led1 (.ref l) (E := E) (Q₁ := fun obj s₁ => obj = .ref s.heap.objs.size ∧ s₁ = { s with heap := s.heap.push (bareSet w) }) ⟨rfl, rfl⟩) fun r s₁ hr => ?_
  cases r with
  | error e => exact hr
  | ok fl =>
    cases fl with
    | ret obj =>
      obtain ⟨rfl, rfl⟩ := hr
      have hS : (s.heap.push (bareSet w)).get? s.heap.objs.size = some (bareSet w) := Heap.get?_push_size _ rfl
      have hT : Shared.TypeIs { s with heap := s.heap.push (bareSet w) } (.ref s.heap.objs.size) "set" := ⟨_, hS, rfl⟩
      have hli := F.called_set.init.lookup; have hbi := F.called_set.init.bind (.ref s.heap.objs.size)
      repeat (any_goals (first | assumption | wp_step))
      refine codeAny_mono (codeAny_call_builtin (R := wants (fun r s₂ => r = .none ∧ ∃ h' tk c, s₂ = { s with heap := h', toks := tk } ∧ SetR w h' s.heap.objs.size (fun j => decide (j ∈ ns)) c ∧ c ≤ ns.length ∧
          (∀ b o, s.heap.get? b = some o → h'.get? b = some o)) E) F.called_set.init.plain F.entry_set_init (check_set_init_1 hT ?_)) fun r₂ s₂ hr₂ => ?_
      · obtain ⟨⟨ocls, odict, odata, oslots⟩, hol, hcl, nl, hdl⟩ := hl
        simp only at hcl hdl
        subst hcl hdl
        have hol' : (s.heap.push (bareSet w)).get? l = some { cls := .type "list", dict := odict, data := .seq items nl, slots := oslots } := Heap.get?_push_of_some _ hol
        have hsls := F.sub_list_set; have hslf := F.sub_list_frozenset
        have hne : (Value.type "list" == Value.type "dict") = false := by decide
        have hl1 : (s.heap.push (bareSet w)).IsList l items := ⟨_, hol', rfl, nl, rfl⟩
        unfold Builtin.«set.__init__» noKeywords Builtin.Frozenset.updateFrom
        generalize hPI : pyIter = PI
        wp_walk
        subst hPI
        refine wpAny_pyIter_list hl1 (wpAny_bind (wpAny_runValue ?_))
        have hlS : l < s.heap.objs.size := Heap.lt_size hol
        have hh3 : A.in1.in1.in1.handled = none := by simp [hh]
        have hz1 : (s.heap.push (bareSet w)).objs.size = s.heap.objs.size + 1 := Heap.size_push ..
        have hneI : l ≠ (s.heap.push (bareSet w)).objs.size := by rw [hz1]; exact Nat.ne_of_lt (Nat.lt_succ_of_lt hlS)
        have hSf : s.heap.objs.size ∉ [(s.heap.push (bareSet w)).objs.size, l] := by
          rw [hz1]; simp only [List.mem_cons, List.mem_singleton, List.not_mem_nil, or_false, not_or]
          exact ⟨Nat.ne_of_lt (Nat.lt_succ_self _), Nat.ne_of_gt hlS⟩
        have hval : ∀ (i : Nat) (v : Value), items[i]? = some v → ∃ k t, ns[i]? = some k ∧ v = .int k t := fun i v hv => by
          have hi : i < ns.length := by rw [← isz]; exact (Array.getElem?_eq_some_iff.mp hv).1
          obtain ⟨t, e⟩ := PyProof.Rows.IntsAre.int_at hit i v (by rw [Array.getElem?_toList]; exact hv)
          refine ⟨ns[i], t, List.getElem?_eq_getElem hi, e.trans ?_⟩
          rw [List.getD_eq_getElem?_getD, List.getElem?_eq_getElem hi]; rfl
        refine set_update_ints ((Walks.list hh3 _ l hneI items).toS) s.heap.objs.size hSf ns isz hb hval (items.size - 0) 0 _ (by omega) (Nat.zero_le _) ⟨⟨_, Heap.get?_push_size _ rfl, rfl, rfl⟩, (hl1.push _)⟩ ?hS0 ?hR
        case hS0 => exact ⟨0, Nat.le_refl 0, setR_new_at (Heap.get?_push_of_some _ hS)⟩
        case hR =>
          intro s' c' hm g' hS'
          obtain ⟨h', g2, d', tk', os'⟩ := s'
          obtain rfl : g2 = s.gens := hm.gens
          obtain rfl : d' = s.drawn := hm.drawn
          obtain rfl : os' = s.os := hm.os
          show wpAny _ _ _ _ _ _
          refine wpAny_pure ?_
          show wpAny _ _ (ret Value.none) _ _ _
          rw [isz] at g'
          refine wpAny_pure ⟨rfl, h', tk', c', rfl, hS', g', fun b o e => ?_⟩
          have lo := Heap.lt_size e
          refine hm.heap b o ?_ (Heap.get?_push_of_some _ (Heap.get?_push_of_some _ e))
          rw [hz1]
          simp only [List.mem_cons, List.not_mem_nil, or_false, not_or]
          exact ⟨Nat.ne_of_lt lo, Nat.ne_of_lt (Nat.lt_succ_of_lt lo)⟩
      · cases r₂ with
        | error e => exact hr₂
        | ok fl₂ =>
          cases fl₂ with
          | ret r =>
            obtain ⟨rfl, h', tk, c', rfl, hS', g', hk'⟩ := hr₂
            repeat (any_goals (first | assumption | wp_step))
            exact h _ _ _ hS' g' hk'
          | _ => exact hr₂.elim
    | _ => exact hr.elim
end
end SB
/-! sorted(set(xs)) over the hand layer. -/
namespace SB
open PySem PySem.Spec PyProof.Rows L2

mutual
theorem keyOf_data : ∀ (d : D) {k : NestedKey}, keyOf d = some k → k.data = d
  | .int i, _, h => by cases h; rfl
  | .str x, _, h => by cases h; rfl
  | .tuple ds, _, h => by
    rw [keyOf] at h
    obtain ⟨ks, e, rfl⟩ := Option.map_eq_some_iff.mp h
    rw [NestedKey.data, keysOf_data ds e]
  | .none, _, h => by cases h
  | .bool _, _, h => by cases h
  | .list _, _, h => by cases h
  | .dict _, _, h => by cases h
theorem keysOf_data : ∀ (ds : List D) {ks : List NestedKey}, keysOf ds = some ks → NestedKey.datas ks = ds
  | [], _, h => by cases h; rfl
  | d :: ds, _, h => by
    rw [keysOf] at h
    split at h
    · rename_i k ks e1 e2
      cases h
      rw [NestedKey.datas, keyOf_data d e1, keysOf_data ds e2]
    · cases h
end
section
variable {X : Cx} {pins : List (Addr × Obj)} {σ : L2.St} {H : Hp} {s : Shared}
mutual
theorem Dq.key (I : Inv X pins σ H s) : ∀ (d : D) {k : NestedKey} {v : V} {u : Value}, Dq X.KW H v d → keyOf d = some k → RelV v u → NestedIs s.heap k u
  | .int i, _, _, _, h, e, r => by
    cases h; cases e
    obtain ⟨t, rfl⟩ := r
    exact .int i t
  | .str x, _, _, _, h, e, r => by
    cases h; cases e
    obtain ⟨t, rfl⟩ := r
    exact .text x t
  | .tuple ds, _, _, _, h, e, r => by
    rw [keyOf] at e
    obtain ⟨ks, e', rfl⟩ := Option.map_eq_some_iff.mp e
    cases h with
    | tup hs ha =>
      cases r
      obtain ⟨its, rv, ⟨o, ho, hc, n, hd⟩, _⟩ := I.tuple hs
      exact .tup ho hc hd (by simpa using DqAll.keys I ds ha e' rv)
  | .none, _, _, _, _, e, _ => by cases e
  | .bool _, _, _, _, _, e, _ => by cases e
  | .list _, _, _, _, _, e, _ => by cases e
  | .dict _, _, _, _, _, e, _ => by cases e
theorem DqAll.keys (I : Inv X pins σ H s) : ∀ (ds : List D) {ks : List NestedKey} {vs : List V} {us : List Value}, DqAll X.KW H vs ds → keysOf ds = some ks → Vals vs us → NestedAll s.heap ks us
  | [], _, _, _, h, e, r => by
    cases h; cases e; cases r
    exact .nil
  | d :: ds, _, _, _, h, e, r => by
    rw [keysOf] at e
    split at e
    · rename_i k ks e1 e2
      cases e
      cases h with
      | cons h1 h2 =>
        cases r with
        | cons r1 r2 => exact .cons (Dq.key I d h1 e1 r1) (DqAll.keys I ds h2 e2 r2)
    · cases e
end
end
/-- the set at a, without its tuples -/
structure SetW (w : World) (h : Heap) (a : Addr) (L : Rows) : Prop where
  ex : ∃ (es : Array (Int × Value)) (ep : Nat) (t : SetTable), (∃ o, h.get? a = some o ∧ o.ExactSet ∧ o.data = .set es ep t) ∧ es.toList = rowN w L ∧ L2.TabOk t (hashN w L) ∧ (L.map (·.2)).Nodup ∧
    (w.params.followText "set-order" = true ∨ t.led = true) ∧ L.length * 5 < t.mask * 3 ∧ L.length < 64
def SetOb (w : World) (a : Addr) (L : Rows) : HO := .ext fun h => SetW w h a L
theorem SetN.w {P : Program} {w : World} {h : Heap} {a : Addr} {L : Rows} {es : Array (Int × Value)} {ep : Nat} {t : SetTable} (R : SetN P w h a L es ep t) : SetW w h a L := ⟨es, ep, t, R.ob, R.rows, R.tab, R.nd, R.led, R.room, R.few⟩
theorem SetW.full {P : Program} {w : World} {h : Heap} {a : Addr} {L : Rows} (R : SetW w h a L) (ht : ∀ p ∈ L, KeyAt h p.2 p.1) : ∃ es ep t, SetN P w h a L es ep t :=
  let ⟨es, ep, t, h1, h2, h3, h4, h6, h7, h8⟩ := R.ex
  ⟨es, ep, t, h1, h2, h3, h4, ht, h6, h7, h8⟩
theorem setOb_new {P : Program} {w : World} {H : Hp} {h : Heap} {a : Addr} {L : Rows} (R : SetW w h a L) : ObjOk P w H h a (SetOb w a L) := by
  have ⟨es, ep, t, ⟨o, ho, r⟩, q⟩ := R.ex
  refine ⟨R, ⟨o, ho⟩, fun h1 h2 p k => ?_⟩
  have ⟨es', ep', t', ⟨o', ho', r'⟩, q'⟩ := SetW.ex p
  exact ⟨es', ep', t', ⟨o', k o' ho', r'⟩, q'⟩
theorem refsN : ∀ {ks : Rows} {us : List Value}, Vals (ks.map fun p => V.ref p.1) us → us = ks.map fun p => Value.ref p.1
  | [], _, .nil => rfl
  | p :: ks, _, .cons r t => by
    cases r
    rw [refsN t]
    rfl
theorem valsN : ∀ (ks : Rows), Vals (ks.map fun p => V.ref p.1) (ks.map fun p => Value.ref p.1)
  | [] => .nil
  | p :: ks => .cons rfl (valsN ks)
mutual
/-- a key's data hold no list -/
theorem key_bare {h : Heap} : ∀ (k : NestedKey) {v : Value} {as : List Addr}, Reads h v k.data as → as = []
  | .none, _, _, r => by cases r; rfl
  | .num _, _, _, r => by cases r; rfl
  | .text _, _, _, r => by cases r; rfl
  | .tup ks, _, _, r => by
    cases r with
    | tuple _ _ _ r => exact keys_bare ks r
theorem keys_bare {h : Heap} : ∀ (ks : List NestedKey) {vs : List Value} {as : List Addr}, ReadsAll h vs (NestedKey.datas ks) as → as = []
  | [], _, _, r => by cases r; rfl
  | k :: ks, _, _, r => by
    cases r with
    | cons r1 r2 => rw [key_bare k r1, keys_bare ks r2]; rfl
end
section
variable {X : Cx}
/-- a tuple that is the key k -/
def DqK (K : KW) (H : Hp) (p : Addr × NestedKey) : Prop := ∃ d, Dq K H (.ref p.1) d ∧ keyOf d = some p.2 ∧ p.2.depth ≤ 8
theorem DqK.at {pins : List (Addr × Obj)} {σ : L2.St} {H : Hp} {s : Shared} {p : Addr × NestedKey} (I : Inv X pins σ H s) (h : DqK X.KW H p) : KeyAt s.heap p.2 p.1 :=
  let ⟨d, h1, h2, h3⟩ := h
  ⟨Dq.key I d h1 h2 rfl, h3⟩
def rSetN (K : KW) (w : World) : List V → Hp → VK → Prop := fun xs H Q => ∃ (l : Addr) (ks : Rows), xs = [V.ref l] ∧ (SqL K H l (ks.map fun p => V.ref p.1) ∨ SqT K H l (ks.map fun p => V.ref p.1)) ∧ (∀ p ∈ ks, DqK K H p) ∧ ks.length < 64 ∧
  ∀ a L, H a = none → (∀ p ∈ L, p ∈ ks) → (∀ p ∈ ks, p.2 ∈ L.map (·.2)) → (L.map (·.2)).Nodup → Q (.ref a) (upd H a (SetOb w a L))
theorem cr_setN (hc : X.calm = true) (hu : X.A.units + 64 < cLine) : CallR X (.type "set") (rSetN X.KW X.w) := by
  intro pins s σ H xs us Q I r h
  obtain ⟨l, ks, rfl, hl, hk, hf, q⟩ := h
  rw [Vals.ref1 r]
  have hn : H s.heap.objs.size = none := I.hok.fresh (Nat.le_refl _)
  have fin : ∀ (h' : Heap) (tk : Nat) L es ep t, SetN X.prog X.w h' s.heap.objs.size L es ep t → Has ks ks.length L → (∀ b o, s.heap.get? b = some o → h'.get? b = some o) → EP X pins σ Q (.ref s.heap.objs.size) { s with heap := h', toks := tk } := by
    intro h' tk L es ep t R g k
    refine ⟨.ref s.heap.objs.size, upd H s.heap.objs.size (SetOb X.w s.heap.objs.size L), I.laid (t' := tk) k (Nat.le_refl _) (setOb_new R.w), rfl, q _ L hn (fun p hp => ?_) (fun p hp => ?_) R.nd⟩
    · exact List.mem_of_mem_take (g.sub p hp)
    · exact g.all p (by rw [List.take_length]; exact hp)
  rcases hl with hl | hl
  · obtain ⟨its, rv, pl, hz⟩ := I.list hl
    exact makeN (P := X.prog) (w := X.w) ks (I.ok.hd hc) pl.isList (by simpa using refsN rv) (fun p hp => (hk p hp).at I) hf (by omega) fin
  · obtain ⟨its, rv, pl, hz⟩ := I.tuple hl
    exact makeT (P := X.prog) (w := X.w) ks (I.ok.hd hc) pl (by simpa using refsN rv) (fun p hp => (hk p hp).at I) hf (by omega) fin
/-- sorted(set) -/
def rSortN (K : KW) (w : World) : List V → Hp → VK → Prop := fun vs H Q => ∃ (a : Addr) (L : Rows), vs = [V.ref a] ∧ H a = some (SetOb w a L) ∧ (∀ p ∈ L, DqK K H p) ∧ PySem.W.AllAlike (L.map fun p => p.2.data) ∧ PySem.W.Sortable (L.map fun p => p.2.data) ∧
  ∀ (L1 : Rows) (p : Addr), L1.Perm L → H p = none → Q (.ref p) (upd H p (.lst ((L1.mergeSort (PySem.W.dataLe false fun q : Addr × NestedKey => q.2.data)).map fun q => V.ref q.1)))
theorem each_rows {R : Value → (Addr × NestedKey) → Prop} : ∀ (L : Rows), (∀ p ∈ L, R (.ref p.1) p) → PySem.W.EachIs R (L.map fun p => Value.ref p.1) L
  | [], _ => .nil
  | p :: L, h => .cons (h p List.mem_cons_self) (each_rows L fun q hq => h q (List.mem_cons_of_mem _ hq))
theorem rows_each : ∀ {out : List Value} {L : Rows}, PySem.W.EachIs (fun v (p : Addr × NestedKey) => v = .ref p.1) out L → out = L.map fun p => Value.ref p.1
  | _, _, .nil => rfl
  | _, _, .cons h t => by rw [h, rows_each t]; rfl
mutual
theorem depth_data : ∀ k : NestedKey, k.data.depth = k.depth
  | .none => rfl
  | .num _ => rfl
  | .text _ => rfl
  | .tup ks => by rw [NestedKey.data, NestedKey.depth, PyData.depth, depth_datas ks]
theorem depth_datas : ∀ ks : List NestedKey, PyData.depthAll (NestedKey.datas ks) = NestedKey.depthAll ks
  | [] => rfl
  | k :: ks => by rw [NestedKey.datas, NestedKey.depthAll, PyData.depthAll, depth_data k, depth_datas ks]
end
theorem perm_rows {L : Rows} {vs : List Value} (pm : vs.Perm (L.map fun q => Value.ref q.1)) : ∃ L1 : Rows, vs = L1.map (fun q => Value.ref q.1) ∧ L1.Perm L := by
  generalize hm : (L.map fun q => Value.ref q.1) = ms at pm
  induction pm generalizing L with
  | nil => exact ⟨[], rfl, by rw [List.map_eq_nil_iff.mp hm]⟩
  | cons x p ih =>
    cases L with
    | nil => cases hm
    | cons q L =>
      rw [List.map_cons] at hm
      injection hm with h1 h2
      obtain ⟨L1, e1, p1⟩ := ih h2
      exact ⟨q :: L1, by rw [List.map_cons, h1, e1], p1.cons q⟩
  | swap x y l =>
    match L, hm with
    | q :: r :: L, hm =>
      rw [List.map_cons, List.map_cons] at hm
      injection hm with h1 h2
      injection h2 with h2 h3
      exact ⟨r :: q :: L, by rw [List.map_cons, List.map_cons, h1, h2, h3], List.Perm.swap _ _ _⟩
    | [], hm => cases hm
    | [_], hm => cases hm
  | trans p1 p2 ih1 ih2 =>
    obtain ⟨L2, e2, q2⟩ := ih2 hm
    obtain ⟨L1, e1, q1⟩ := ih1 e2.symm
    exact ⟨L1, e1, q1.trans q2⟩
theorem cr_sortN (hc : X.calm = true) (hu : X.A.units + 67 < cLine) : CallR X (.builtin "sorted") (rSortN X.KW X.w) := by
  intro pins s σ H vs us Q I r h
  obtain ⟨a, L, rfl, ha, hk, hal, hso, q⟩ := h
  have R0 : SetW X.w s.heap a L := (I.hok a _ ha).1
  obtain ⟨es, ep, t, R⟩ := R0.full (P := X.prog) fun p hp => (hk p hp).at I
  rw [Vals.ref1 r]
  obtain ⟨o, ho, hex, hd⟩ := R.ob
  have hfew := R.few
  have hsz := rowN_size R.rows
  refine Calls.call_function_entry kind_sorted plain_sorted entry_sorted (args_sorted1 _) ?_
  unfold Builtin.«sorted»
  refine wpAny_bind (m := checkCount "sorted" 1 1 _) (wpAny_pure ?_)
  refine wpAny_bind (collect_set (A := X.A.in1) (I.ok.hd hc) ⟨o, ho, hex.1, hd⟩ R.fits (by unfold scanBound; omega) R.tab.ris R.led fun s1 vs k1 hz g1 o1 pm => ?_)
  have hes : es.toList.map (·.2) = L.map fun q => Value.ref q.1 := by
    rw [R.rows, rowN, List.map_map]
    rfl
  rw [hes] at pm
  -- some order of the rows
  obtain ⟨L1, e1, pL⟩ := perm_rows pm
  subst e1
  have hl1 : L1.length = L.length := pL.length_eq
  refine wpAny_bind (wpAny_newList ?_ (by rw [List.length_map, sizeLine_eq]; omega))
  have hoL : (s1.heap.push (seqObj "list" (L1.map fun q => Value.ref q.1).toArray 0)).get? s1.heap.objs.size = some (seqObj "list" (L1.map fun q => Value.ref q.1).toArray 0) := Heap.get?_push_size _ rfl
  have dp : (L1.map fun p => p.2.data).Perm (L.map fun p => p.2.data) := pL.map _
  have al1 : PySem.W.AllAlike (L1.map fun p => p.2.data) := fun d hd e he => hal d (dp.mem_iff.mp hd) e (dp.mem_iff.mp he)
  have so1 : PySem.W.Sortable (L1.map fun p => p.2.data) := by
    rcases hso with h | h
    · exact .inl fun d hd => h d (dp.mem_iff.mp hd)
    · exact .inr fun d hd => h d (dp.mem_iff.mp hd)
  refine wpAny_bind (wpAny_holding (PySem.W.list_sort_data (s := { s1 with heap := s1.heap.push (seqObj "list" (L1.map fun q => Value.ref q.1).toArray 0) }) (R := fun v (p : Addr × NestedKey) => v = .ref p.1) (enc := fun p : Addr × NestedKey => p.2.data) hoL (each_rows L1 fun p _ => rfl) (each_rows L1 fun p hp => ?_) al1 so1 (by rw [sizeLine_eq]; omega) (fun p hp => ?_) fun out hout eo => ?_))
  · obtain ⟨d, h1, h2, h3⟩ := hk p (pL.mem_iff.mp hp)
    have e := keyOf_data d h2
    obtain ⟨as, rd⟩ := Dp.reads I _ _ _ (Dq.dp _ h1) (show RelV (.ref p.1) (.ref p.1) from rfl)
    rw [← e] at rd
    refine ⟨as, PyProof.Rows.Reads.keeps (fun b u e => Heap.get?_push_of_some _ (k1 b u e)) rd, fun hm => ?_⟩
    rw [key_bare _ rd] at hm
    cases hm
  · obtain ⟨d, h1, h2, h3⟩ := hk p (pL.mem_iff.mp hp)
    rw [depth_data]
    show X.A.in1.units + 1 + p.2.depth < cLine
    simp only [Around.in1_units]
    omega
  · have e2 := rows_each eo
    obtain ⟨c, hcx⟩ := sortedHeap_at (vs := L1.map fun q => Value.ref q.1) (out := out.toArray) hoL
    have hn : H s1.heap.objs.size = none := I.hok.fresh hz
    have hlen : ((L1.mergeSort (PySem.W.dataLe false fun q : Addr × NestedKey => q.2.data)).map fun q => V.ref q.1).length ≤ sizeLine := by
      rw [List.length_map, List.length_mergeSort, sizeLine_eq]; omega
    have keep : ∀ b u, s.heap.get? b = some u → (sortedHeap (s1.heap.push (seqObj "list" (L1.map fun q => Value.ref q.1).toArray 0)) s1.heap.objs.size (L1.map fun q => Value.ref q.1) out.toArray).get? b = some u := fun b u e => by
      have q := k1 b u e
      have hlt := Heap.lt_size q
      rw [sortedHeap_old (Nat.ne_of_lt hlt) (by rw [size_push']; exact Nat.lt_succ_of_lt hlt)]
      exact Heap.get?_push_of_some _ q
    have hv : Vals ((L1.mergeSort (PySem.W.dataLe false fun q : Addr × NestedKey => q.2.data)).map fun q => V.ref q.1) out := by rw [e2]; exact valsN _
    generalize hhe : sortedHeap (s1.heap.push (seqObj "list" (L1.map fun q => Value.ref q.1).toArray 0)) s1.heap.objs.size (L1.map fun q => Value.ref q.1) out.toArray = hp2 at keep hcx
    have J : Inv X pins σ (upd H s1.heap.objs.size (.lst ((L1.mergeSort (PySem.W.dataLe false fun q : Addr × NestedKey => q.2.data)).map fun q => V.ref q.1))) { s with heap := hp2, gens := s1.gens, drawn := s1.drawn, toks := s1.toks } :=
      I.call (ch := []) (Un.laid keep hz hn) (I.hok.laid keep hz ⟨hlen, out, c, hv, hcx⟩) (by rw [g1]; exact I.bare) (fun _ z => nomatch z)
    refine wpAny_pure ⟨_, rfl, ?_⟩
    have es : ({ s1 with heap := hp2 } : Shared) = { s with heap := hp2, gens := s1.gens, drawn := s1.drawn, toks := s1.toks } := by
      cases s1
      cases s
      cases o1
      rfl
    show EP X pins σ Q _ ({ s1 with heap := hp2 } : Shared)
    rw [es]
    exact ⟨.ref s1.heap.objs.size, _, J, rfl, q L1 _ pL hn⟩
end
end SB
/-! sorted(set(..)). -/
namespace SB
open PySem PySem.Spec PyProof.Rows L2

section
variable {X : Cx} {Φ : Tab} {a b e : Expr} {A B E : Ex} {pos p : Pos} {k : Nat}
/-- set(t), t a tuple of ints -/
def rSetI (K : PySem.W.Frag) (w : World) : List V → Hp → VK → Prop := fun xs H Q => ∃ (l : Addr) (ns : List Int), xs = [.ref l] ∧ (SqT K H l (ns.map V.int) ∨ SqL K H l (ns.map V.int)) ∧ ns.length < 63 ∧
  ∀ q c, H q = none → c ≤ ns.length → Q (.ref q) (upd H q (SetO w q (fun j => decide (j ∈ ns)) c))
theorem cr_setI (hc : X.calm = true) : CallR X (.type "set") (rSetI X.KW X.w) := by
  intro pins s σ H xs us Q I r h
  obtain ⟨l, ns, rfl, hT, hl, q⟩ := h
  rw [Vals.ref1 r]
  have fin : ∀ (h' : Heap) (tk c : Nat), SetR X.w h' s.heap.objs.size (fun j => decide (j ∈ ns)) c → c ≤ ns.length → (∀ b o, s.heap.get? b = some o → h'.get? b = some o) → EP X pins σ Q (.ref s.heap.objs.size) { s with heap := h', toks := tk } :=
    fun h' tk c R hcn kk => ⟨.ref _, upd H s.heap.objs.size (SetO X.w s.heap.objs.size (fun j => decide (j ∈ ns)) c), I.laid (t' := tk) kk (Nat.le_refl _) (setO_new R), rfl, q _ c (I.hok.fresh (Nat.le_refl _)) hcn⟩
  rcases hT with hT | hT
  · obtain ⟨its, rv, pt, _⟩ := I.tuple hT
    exact call_set_tupI ns (I.ok.hd hc) pt (ints_of_vals rv) (by unfold scanBound; omega) fin
  · obtain ⟨its, rv, pl, _⟩ := I.list hT
    exact makeI ns (I.ok.hd hc) pl.isList (ints_of_vals rv) (by unfold scanBound; omega) fin
/-! ### tuples of keys -/
theorem rows_of {K : KW} {H : Hp} : ∀ {xs : List D} {vs : List V} {ks : List NestedKey}, DqAll K H vs xs → keysOf xs = some ks → (ks.all fun k => decide (k.depth ≤ 8)) = true → xs.all isTupNE = true →
    ∃ L : Rows, vs = L.map (fun p => V.ref p.1) ∧ ks = L.map (·.2) ∧ ∀ p ∈ L, DqK K H p
  | [], _, _, h, e, _, _ => by
    cases h; cases e
    exact ⟨[], rfl, rfl, fun p hp => (by cases hp)⟩
  | d :: ds, _, _, h, e, h8, ht => by
    rw [keysOf] at e
    split at e
    · rename_i k ks e1 e2
      cases e
      rw [List.all_cons, Bool.and_eq_true] at h8 ht
      cases h with
      | cons h1 h2 =>
        obtain ⟨L, g1, g2, g3⟩ := rows_of h2 e2 h8.2 ht.2
        cases d with
        | tuple xs =>
          have h1' := h1
          cases h1 with
          | @tup a ws _ hs ha =>
            refine ⟨(a, k) :: L, by rw [List.map_cons, g1], by rw [List.map_cons, g2], fun p hp => ?_⟩
            rcases List.mem_cons.mp hp with rfl | hp
            · exact ⟨_, h1', e1, of_decide_eq_true h8.1⟩
            · exact g3 p hp
        | _ => cases ht.1
    · cases e
theorem dataLe_pair (l : List D) : (l.mergeSort (PySem.W.dataLe false id)).Pairwise (fun a b => PySem.W.dataLe false id a b = true) := by
  have T : PySem.W.TotalLe (PySem.W.dataLe false (id : D → D)) := PySem.W.sortLe_total _ false _
  exact List.pairwise_mergeSort (fun a b c => T.trans a b c) (fun a b => by simpa using T.total a b) l
theorem strict_eq : ∀ {ys zs : List D}, strictD ys = true → zs.Pairwise (fun a b => PySem.W.dataLe false id a b = true) → zs.Perm ys → zs = ys
  | [], zs, _, _, p => List.perm_nil.mp p
  | y :: ys, [], _, _, p => absurd p.length_eq (by simp)
  | y :: ys, z :: zs, hs, hp, p => by
    rw [strictD, Bool.and_eq_true] at hs
    rw [List.pairwise_cons] at hp
    have e : z = y := by
      rcases List.mem_cons.mp (p.mem_iff.mp List.mem_cons_self) with e | m
      · exact e
      · rcases List.mem_cons.mp (p.mem_iff.mpr List.mem_cons_self) with e | m'
        · exact e.symm
        · have h1 := hp.1 y m'
          have h2 := List.all_eq_true.mp hs.1 z m
          have h3 : PySem.W.dataLe false id z y = !PySem.W.dataLt y z := rfl
          rw [h3, h2] at h1
          cases h1
    subst e
    rw [strict_eq hs.2 hp.2 p.cons_inv]
theorem sortK_of {L1 L : Rows} {ks : List NestedKey} (p : L1.Perm L) (hn : (L.map (·.2)).Nodup) (h1 : ∀ k ∈ L.map (·.2), k ∈ ks) (h2 : ∀ k ∈ ks, k ∈ L.map (·.2)) (hs : strictD (sortK ks) = true) :
    ((L1.mergeSort (PySem.W.dataLe false fun q : Addr × NestedKey => q.2.data)).map fun q => q.2.data) = sortK ks := by
  have e : ((L1.mergeSort (PySem.W.dataLe false fun q : Addr × NestedKey => q.2.data)).map fun q => q.2.data) = (L1.map fun q => q.2.data).mergeSort (PySem.W.dataLe false id) := PySem.W.sort_maps _ fun a _ b _ => rfl
  rw [e]
  refine strict_eq hs (dataLe_pair _) ?_
  refine (List.mergeSort_perm _ _).trans (List.Perm.trans ?_ (List.mergeSort_perm _ _).symm)
  have nd : ks.eraseDups.Nodup := nodup_dedupK _ _ (Nat.le_refl _)
  have pk : (L.map (·.2)).Perm ks.eraseDups := (List.perm_ext_iff_of_nodup hn nd).mpr fun k => ⟨fun h => List.mem_eraseDups.mpr (h1 k h), fun h => h2 k (List.mem_eraseDups.mp h)⟩
  have q1 := (p.map (·.2)).trans pk
  have q2 := q1.map NestedKey.data
  rw [List.map_map] at q2
  exact q2
theorem keys_data {ks : List NestedKey} {xs : List D} (h : keysOf xs = some ks) : ks.map NestedKey.data = xs := by
  have e := keysOf_data xs h
  have : ∀ l : List NestedKey, NestedKey.datas l = l.map NestedKey.data := fun l => by
    induction l with
    | nil => rfl
    | cons k l ih => rw [NestedKey.datas, ih]; rfl
  rw [← this]
  exact e
/-- sorted(set(xs)), by its reading -/
theorem sset_keys {c : Option Nat} {S : Option Addr} {G H : Hp} {Q : VK} {l : Addr} {vs : List V} {xs : List D} {z : Sl} (n : Nxt S c G H G H) (hl : SqL X.K H l vs ∨ SqT X.K H l vs) (hd : DqAll X.KW G vs xs) (hz : ssetK xs = some z) (q : Then X.KW S c G H z Q) :
    rSetN X.KW X.w [.ref l] H fun v H1 => rSortN X.KW X.w [v] H1 Q := by
  unfold ssetK at hz
  cases hk : keysOf xs with
  | none => rw [hk] at hz; cases hz
  | some ks =>
    rw [hk] at hz
    simp only at hz
    split at hz
    · rename_i hc
      obtain ⟨h64, h8, ht, hal, hst⟩ := hc
      cases hz
      obtain ⟨rows, e1, e2, hr⟩ := rows_of (dpAll_mono n.sub _ hd) hk h8 ht
      have hlen : rows.length < 64 := by rw [e2, List.length_map] at h64; exact h64
      subst e1
      refine ⟨l, rows, rfl, hl, hr, hlen, fun a L ha hsub hall hnd => ?_⟩
      have n2 : Nxt S c G H G (upd H a (SetOb X.w a L)) := .newO n.sub n.sta ha
      have hdata : ks.map NestedKey.data = xs := keys_data hk
      have hmem : ∀ p ∈ L, p.2.data ∈ xs := fun p hp => by
        rw [← hdata, e2, List.map_map]
        exact List.mem_map.mpr ⟨p, hsub p hp, rfl⟩
      refine ⟨a, L, rfl, upd_same, fun p hp => ?_, fun d hd e he => ?_, .inl fun d hd => ?_, fun L1 p pL hp => ?_⟩
      · obtain ⟨d, g1, g2, g3⟩ := hr p (hsub p hp)
        exact ⟨d, dp_mono (fun b o eb => by rw [upd_ne (ne_of_none eb ha)]; exact eb) _ g1, g2, g3⟩
      · obtain ⟨p1, m1, rfl⟩ := List.mem_map.mp hd
        obtain ⟨p2, m2, rfl⟩ := List.mem_map.mp he
        exact List.all_eq_true.mp (List.all_eq_true.mp hal _ (hmem p1 m1)) _ (hmem p2 m2)
      · obtain ⟨p1, m1, rfl⟩ := List.mem_map.mp hd
        have q1 := List.all_eq_true.mp ht _ (hmem p1 m1)
        generalize p1.2.data = d at q1
        cases d with
        | tuple ys =>
          cases ys with
          | nil => cases q1
          | cons x r => exact ⟨x, r, rfl⟩
        | _ => cases q1
      · have es : ((L1.mergeSort (PySem.W.dataLe false fun q : Addr × NestedKey => q.2.data)).map fun q => q.2.data) = sortK ks := sortK_of pL hnd (fun k hk' => by
          obtain ⟨p1, m1, rfl⟩ := List.mem_map.mp hk'
          rw [e2]
          exact List.mem_map.mpr ⟨p1, hsub p1 m1, rfl⟩) (fun k hk' => by
          rw [e2] at hk'
          obtain ⟨p1, m1, rfl⟩ := List.mem_map.mp hk'
          exact hall p1 m1) hst
        rw [← es] at q
        have n3 : Nxt S c G (upd H a (SetOb X.w a L)) G (upd (upd H a (SetOb X.w a L)) p (.lst ((L1.mergeSort (PySem.W.dataLe false fun q : Addr × NestedKey => q.2.data)).map fun q => V.ref q.1))) := .newO n2.sub n2.sta hp
        refine q _ _ _ (n2.trans n3) ⟨p, rfl, ?_, gne n2.sub hp, sne n2.sta hp, _, upd_same, ?_⟩
        · cases hh : H p with
          | none => rfl
          | some o => exact absurd hp (n2.kp.dm p (by rw [hh]; exact fun z => nomatch z))
        · have mm : ∀ r ∈ L1.mergeSort (PySem.W.dataLe false fun q : Addr × NestedKey => q.2.data), Dq X.KW G (V.ref r.1) r.2.data := fun r hr' => by
            have m1 : r ∈ rows := hsub r (pL.mem_iff.mp (List.mem_mergeSort.mp hr'))
            obtain ⟨i, hi, ei⟩ := List.getElem_of_mem m1
            have g1 : xs[i]? = some r.2.data := by
              rw [← hdata, e2, List.map_map, List.getElem?_map, List.getElem?_eq_getElem hi, ei]
              rfl
            obtain ⟨v, g2, g3⟩ := dpAll_get hd g1
            rw [List.getElem?_map, List.getElem?_eq_getElem hi, ei] at g2
            cases g2
            exact g3
          generalize L1.mergeSort (PySem.W.dataLe false fun q : Addr × NestedKey => q.2.data) = l at mm
          induction l with
          | nil => exact .nil
          | cons r l ih => exact .cons (mm r List.mem_cons_self) (ih fun r' hr' => mm r' (List.mem_cons_of_mem _ hr'))
    · cases hz
theorem e_sset {p1 p2 p3 : Pos} (T : TabOk X.prog X.w X.KW X.mg X.base k Φ) (hc : X.calm = true) (hu : X.A.units + 67 < cLine) (hg : Gl X "sorted") (hg2 : Gl X "set") (ha : PE X e (tE Φ X.KW E)) (hs : starEach [e] X.env = (false, eval e X.env) :: starEach [] X.env) :
    PE X (.Call (.Name "sorted" p1) [.Call (.Name "set" p2) [e] [] p3] [] pos) (tE Φ X.KW (.sset E)) := by
  have h1 := pe_callTy (X := X) (p := p2) (pos := p3) ((cr_setI hc).or (cr_setN hc (by omega))) hg2 (T.bl _ (by decide +kernel)) (by decide +kernel) (pa_cons ha pa_nil hs) (by decide) (by decide) hs rfl
  have h2 := pe_callB (X := X) (p := p1) (pos := pos) ((cr_sortedSet hc).or (cr_sortN hc hu)) hg (T.bl _ (by decide +kernel)) (by decide +kernel) (pa_cons h1 pa_nil rfl) (by decide) (by decide) rfl rfl
  refine ⟨fun pins s σ H Q I hw => ?_⟩
  obtain ⟨Se, Ge, He, S, c, ρ, G, sr, z, c', hev, q⟩ := hw
  simp only [ev] at hev
  replace hev := M.bind_some hev
  obtain ⟨x, c1, g1, hev⟩ := hev
  replace hev := M.bind_some hev
  obtain ⟨d, c2, g2, hev⟩ := hev
  have e2 := M.rd_some g2
  subst e2
  obtain ⟨g3, g4⟩ := ofO2 hev
  subst g4
  cases d with
  | tuple xs =>
    cases hi : intsOf xs with
    | none =>
      simp only [ssetD, hi] at g3
      refine h2.run pins s σ H Q I ⟨Se, Ge, He, S, c, ρ, G, sr, x, _, g1, fun v G1 H1 n1 r1 => ?_⟩
      obtain ⟨l, vs, rfl, hT, hd⟩ := (r1.vw n1.sub g2).1
      refine .inr ?_
      have := sset_keys (X := X) (.refl n1.sub n1.sta) (.inr (same_sqT n1.sub hT)) hd g3 (q.after n1)
      obtain ⟨l', ks, a1, a2, a3, a4, a5⟩ := this
      exact ⟨l', ks, a1, a2, a3, a4, fun a L b1 b2 b3 b4 => .inr (a5 a L b1 b2 b3 b4)⟩
    | some ns =>
      simp only [ssetD, hi] at g3
      split at g3
      · rename_i hlen
        cases g3
        refine h2.run pins s σ H Q I ⟨Se, Ge, He, S, c, ρ, G, sr, x, _, g1, fun v G1 H1 n1 r1 => ?_⟩
        obtain ⟨l, vs, rfl, hT, hd⟩ := (r1.vw n1.sub g2).1
        have ev : vs = ns.map V.int := ints_dq hi hd
        subst ev
        refine .inl ⟨l, ns, rfl, .inl (same_sqT n1.sub hT), hlen, fun q1 c3 hq hc3 => ?_⟩
        have n2 : Nxt S _ G1 H1 G1 (upd H1 q1 (SetO X.w q1 (fun j => decide (j ∈ ns)) c3)) := .newO n1.sub n1.sta hq
        refine .inl ⟨q1, _, c3, rfl, upd_same, by omega, fun ms q2 hp hm hl hq2 => ?_⟩
        have em : ms = sortU ns := rising_eq hp (sort_lt ns) fun k => by rw [hm k, sort_mem, decide_eq_true_eq]
        subst em
        have n3 : Nxt S _ G1 _ G1 (upd (upd H1 q1 (SetO X.w q1 (fun j => decide (j ∈ ns)) c3)) q2 (.lst ((sortU ns).map V.int))) := .newO n2.sub n2.sta hq2
        have nn := n1.trans (n2.trans n3)
        refine q _ _ _ nn ⟨q2, rfl, ?_, gne n2.sub hq2, sne n2.sta hq2, _, upd_same, ?_⟩
        · cases hh : H q2 with
          | none => rfl
          | some o => exact absurd hq2 ((n1.trans n2).kp.dm q2 (by rw [hh]; exact fun z => nomatch z))
        · clear hp hm hl nn n3
          generalize sortU ns = l
          induction l with
          | nil => exact .nil
          | cons a l ih => exact .cons (.int a) ih
      · cases g3
  | list xs =>
    cases hi : intsOf xs with
    | none =>
      simp only [ssetD, hi] at g3
      refine h2.run pins s σ H Q I ⟨Se, Ge, He, S, c, ρ, G, sr, x, _, g1, fun v G1 H1 n1 r1 => ?_⟩
      obtain ⟨l, vs, rfl, hT, hd⟩ := (r1.vw n1.sub g2).1
      refine .inr ?_
      have := sset_keys (X := X) (.refl n1.sub n1.sta) (.inl hT) hd g3 (q.after n1)
      obtain ⟨l', ks, a1, a2, a3, a4, a5⟩ := this
      exact ⟨l', ks, a1, a2, a3, a4, fun a L b1 b2 b3 b4 => .inr (a5 a L b1 b2 b3 b4)⟩
    | some ns =>
      simp only [ssetD, hi] at g3
      split at g3
      · rename_i hlen
        cases g3
        refine h2.run pins s σ H Q I ⟨Se, Ge, He, S, c, ρ, G, sr, x, _, g1, fun v G1 H1 n1 r1 => ?_⟩
        obtain ⟨l, vs, rfl, hT, hd⟩ := (r1.vw n1.sub g2).1
        have ev : vs = ns.map V.int := ints_dq hi hd
        subst ev
        refine .inl ⟨l, ns, rfl, .inr hT, hlen, fun q1 c3 hq hc3 => ?_⟩
        have n2 : Nxt S _ G1 H1 G1 (upd H1 q1 (SetO X.w q1 (fun j => decide (j ∈ ns)) c3)) := .newO n1.sub n1.sta hq
        refine .inl ⟨q1, _, c3, rfl, upd_same, by omega, fun ms q2 hp hm hl hq2 => ?_⟩
        have em : ms = sortU ns := rising_eq hp (sort_lt ns) fun k => by rw [hm k, sort_mem, decide_eq_true_eq]
        subst em
        have n3 : Nxt S _ G1 _ G1 (upd (upd H1 q1 (SetO X.w q1 (fun j => decide (j ∈ ns)) c3)) q2 (.lst ((sortU ns).map V.int))) := .newO n2.sub n2.sta hq2
        have nn := n1.trans (n2.trans n3)
        refine q _ _ _ nn ⟨q2, rfl, ?_, gne n2.sub hq2, sne n2.sta hq2, _, upd_same, ?_⟩
        · cases hh : H q2 with
          | none => rfl
          | some o => exact absurd hq2 ((n1.trans n2).kp.dm q2 (by rw [hh]; exact fun z => nomatch z))
        · clear hp hm hl nn n3
          generalize sortU ns = l
          induction l with
          | nil => exact .nil
          | cons a l ih => exact .cons (.int a) ih
      · cases g3
  | _ => simp [ssetD] at g3
end
end SB
/-! Methods of built-in types, slices backwards, len(set(..)). -/
namespace SB
open PySem PySem.Spec PyProof.Rows L2

section
open HT
variable {prog : Program} {w : World} {A : Around} {E : Value → Shared → Prop} {s : Shared}
theorem applied_rev2 {sl : Addr} {vl vu vs : Value} {n : Nat} {Q : Int × Int × Nat → Shared → Prop} (hn : 2 ≤ n) (hs : s.heap.IsSliceOf sl vl vu vs) (pl : IsPart vl (some 1)) (pu : IsPart vu none) (ps : IsPart vs (some (-1)))
    (h : Q (1, -1, 2) s) : wpAny (model prog w) A (Builtin.Slice.sliceApplied (.ref sl) (pure (n : Int))) Q E s := by
  obtain ⟨os, hos, hcs, hds⟩ := id hs
  unfold Builtin.Slice.sliceApplied Builtin.Slice.sliceFields
  refine wpAny_bind (wpAny_bind (wpAny_field hos hds (x := vl) rfl (wpAny_bind (wpAny_field hos hds (x := vu) rfl (wpAny_bind (wpAny_field hos hds (x := vs) rfl (wpAny_pure ?_)))))))
  refine wpAny_bind (slicePart_ ps ?_)
  show wpAny _ _ (if ((-1 : Int) == 0) = true then _ else _) _ _ s
  rw [if_neg (by decide)]
  refine wpAny_bind (slicePart_ pl (wpAny_bind (slicePart_ pu (wpAny_bind (wpAny_pure ?_)))))
  show wpAny _ _ (match Builtin.Slice.sliceAdjust (some 1) none (-1) (n : Int) with | (lo, hi) => pure (lo, (-1 : Int), Builtin.Slice.slicePlaces lo hi (-1))) _ _ s
  have e : Builtin.Slice.sliceAdjust (some 1) none (-1) (n : Int) = (1, -1) := by
    unfold Builtin.Slice.sliceAdjust
    have h1 : ((-1 : Int) < 0) := by decide
    have h2 : ¬ ((1 : Int) < 0) := by decide
    simp only [h1, h2, if_true, if_false]
    refine Prod.ext ?_ rfl
    show min (1 : Int) ((n : Int) - 1) = 1
    omega
  rw [e]
  have p : Builtin.Slice.slicePlaces 1 (-1) (-1) = 2 := by decide +kernel
  show wpAny _ _ (pure ((1 : Int), (-1 : Int), Builtin.Slice.slicePlaces 1 (-1) (-1))) _ _ s
  rw [p]
  exact wpAny_pure h
theorem getItem_tuple_rev2 {t sl : Addr} {a b : Value} {l : List Value} {vl vu vs : Value} {Q : Value → Shared → Prop} (ht : IsTup s.heap t (a :: b :: l).toArray) (hs : s.heap.IsSliceOf sl vl vu vs) (pl : IsPart vl (some 1)) (pu : IsPart vu none) (ps : IsPart vs (some (-1)))
    (h : Q (.ref s.heap.objs.size) { s with heap := s.heap.push { cls := .type "tuple", data := .seq #[b, a] } }) : wpAny (model prog w) A (getItem (.ref t) (.ref sl)) Q E s := by
  have htake : sizeOk (.seq #[b, a]) := by
    show 2 ≤ sizeLine
    rw [sizeLine_eq]
    decide
  obtain ⟨os, hos, hcs, hds⟩ := id hs
  have hTs : s.TypeIs (.ref sl) "slice" := ⟨os, hos, hcs⟩
  unfold getItem
  try with_reducible refine wpAny_holding ?_
  first | refine wpAny_bind (wpAny_pure ?_) | skip
  refine wpAny_bind (wpAny_sequenceKey ht.typeIs (by decide) ?_)
  refine wpAny_bind (wpAny_callSpecial?_slot (name := Str.ofString "__getitem__") ht.typeIs PyProof.Rows.slot_tuple_getitem
    (wpAny_call_entry PyProof.Rows.slot_tuple_getitem ht.typeIs entry_tuple_getitem ?_ (args_tuple_getitem _ _)))
  show wpAny _ _ (Builtin.Tuple.tupleItemsOf (.ref t) >>= _) _ _ s
  refine wpAny_bind (tupleItemsOf_ ht ?_)
  refine wpAny_bind (wpAny_typeOf hTs ?_)
  rw [if_pos (by decide)]
  refine wpAny_bind (applied_rev2 (by rw [List.size_toArray]; simp) hs pl pu ps ?_)
  show wpAny _ _ (if (((1 : Int) == 0) && (-1 : Int) == 1 && 2 == (a :: b :: l).toArray.size) = true then _ else _) _ _ s
  rw [if_neg (by simp)]
  have e : ((List.range 2).filterMap fun (m : Nat) => (a :: b :: l).toArray[((1 : Int) + (m : Int) * (-1)).toNat]?).toArray = #[b, a] := by
    have hr : List.range 2 = [0, 1] := by decide
    rw [hr]
    simp
  rw [e]
  first
    | exact wpAny_bind (m := Builtin.Tuple.tupleExact _) (wpAny_newObj_type (wpAny_pure ⟨_, rfl, wpAny_pure h⟩) htake)
    | exact wpAny_bind (m := Builtin.Tuple.tupleExact _) (wpAny_newObj_type (wpAny_bind (wpAny_pure (wpAny_pure ⟨_, rfl, wpAny_pure h⟩))) htake)
    | exact wpAny_bind (wpAny_bind (m := Builtin.Tuple.tupleExact _) (wpAny_newObj_type (wpAny_pure (wpAny_pure ⟨_, rfl, wpAny_pure h⟩)) htake))
    | exact wpAny_bind (wpAny_bind (m := Builtin.Tuple.tupleExact _) (wpAny_newObj_type (wpAny_pure ⟨_, rfl, wpAny_pure h⟩) htake))
theorem fm_congr {α β : Type} {f g : α → Option β} : ∀ {l : List α}, (∀ x ∈ l, f x = g x) → l.filterMap f = l.filterMap g
  | [], _ => rfl
  | x :: l, h => by
    rw [List.filterMap_cons, List.filterMap_cons, h x List.mem_cons_self, fm_congr fun y hy => h y (List.mem_cons_of_mem _ hy)]
theorem applied_rev {sl : Addr} {vl vu vs : Value} {n : Nat} {Q : Int × Int × Nat → Shared → Prop} (hs : s.heap.IsSliceOf sl vl vu vs) (pl : IsPart vl none) (pu : IsPart vu none) (ps : IsPart vs (some (-1)))
    (h : Q ((n : Int) - 1, -1, n) s) : wpAny (model prog w) A (Builtin.Slice.sliceApplied (.ref sl) (pure (n : Int))) Q E s := by
  obtain ⟨os, hos, hcs, hds⟩ := id hs
  unfold Builtin.Slice.sliceApplied Builtin.Slice.sliceFields
  refine wpAny_bind (wpAny_bind (wpAny_field hos hds (x := vl) rfl (wpAny_bind (wpAny_field hos hds (x := vu) rfl (wpAny_bind (wpAny_field hos hds (x := vs) rfl (wpAny_pure ?_)))))))
  refine wpAny_bind (slicePart_ ps ?_)
  show wpAny _ _ (if ((-1 : Int) == 0) = true then _ else _) _ _ s
  rw [if_neg (by decide)]
  refine wpAny_bind (slicePart_ pl (wpAny_bind (slicePart_ pu (wpAny_bind (wpAny_pure ?_)))))
  show wpAny _ _ (match Builtin.Slice.sliceAdjust none none (-1) (n : Int) with | (lo, hi) => pure (lo, (-1 : Int), Builtin.Slice.slicePlaces lo hi (-1))) _ _ s
  have e : Builtin.Slice.sliceAdjust none none (-1) (n : Int) = ((n : Int) - 1, -1) := rfl
  rw [e]
  have p : Builtin.Slice.slicePlaces ((n : Int) - 1) (-1) (-1) = n := by
    unfold Builtin.Slice.slicePlaces
    rw [if_neg (by decide)]
    by_cases hn : (n : Int) - 1 > -1
    · rw [if_pos hn]
      have e1 : ((n : Int) - 1 - -1 - 1) / (- -1) = (n : Int) - 1 := by
        rw [show (- -1 : Int) = 1 by decide, Int.ediv_one]
        omega
      rw [e1]
      omega
    · rw [if_neg hn]
      omega
  show wpAny _ _ (pure ((n : Int) - 1, (-1 : Int), Builtin.Slice.slicePlaces ((n : Int) - 1) (-1) (-1))) _ _ s
  rw [p]
  exact wpAny_pure h
theorem getItem_tuple_rev {t sl : Addr} {its : List Value} {vl vu vs : Value} {Q : Value → Shared → Prop} (ht : IsTup s.heap t its.toArray) (hz : its.length ≤ sizeLine) (hs : s.heap.IsSliceOf sl vl vu vs) (pl : IsPart vl none) (pu : IsPart vu none) (ps : IsPart vs (some (-1)))
    (h : Q (.ref s.heap.objs.size) { s with heap := s.heap.push { cls := .type "tuple", data := .seq its.reverse.toArray } }) : wpAny (model prog w) A (getItem (.ref t) (.ref sl)) Q E s := by
  have htake : sizeOk (.seq its.reverse.toArray) := by
    show its.reverse.toArray.size ≤ sizeLine
    rw [List.size_toArray, List.length_reverse]
    exact hz
  obtain ⟨os, hos, hcs, hds⟩ := id hs
  have hTs : s.TypeIs (.ref sl) "slice" := ⟨os, hos, hcs⟩
  unfold getItem
  try with_reducible refine wpAny_holding ?_
  first | refine wpAny_bind (wpAny_pure ?_) | skip
  refine wpAny_bind (wpAny_sequenceKey ht.typeIs (by decide) ?_)
  refine wpAny_bind (wpAny_callSpecial?_slot (name := Str.ofString "__getitem__") ht.typeIs PyProof.Rows.slot_tuple_getitem
    (wpAny_call_entry PyProof.Rows.slot_tuple_getitem ht.typeIs entry_tuple_getitem ?_ (args_tuple_getitem _ _)))
  show wpAny _ _ (Builtin.Tuple.tupleItemsOf (.ref t) >>= _) _ _ s
  refine wpAny_bind (tupleItemsOf_ ht ?_)
  refine wpAny_bind (wpAny_typeOf hTs ?_)
  rw [if_pos (by decide)]
  refine wpAny_bind (applied_rev hs pl pu ps ?_)
  show wpAny _ _ (if ((((its.toArray.size : Nat) : Int) - 1 == 0) && (-1 : Int) == 1 && its.toArray.size == its.toArray.size) = true then _ else _) _ _ s
  rw [if_neg (by simp)]
  have e : ((List.range its.toArray.size).filterMap fun (m : Nat) => its.toArray[((((its.toArray.size : Nat) : Int) - 1) + (m : Int) * (-1)).toNat]?).toArray = its.reverse.toArray := by
    have e1 : (List.range its.toArray.size).filterMap (fun (m : Nat) => its.toArray[((((its.toArray.size : Nat) : Int) - 1) + (m : Int) * (-1)).toNat]?) = ((List.range its.toArray.size).map fun k => its.toArray.size - 1 - k).filterMap (its.toArray[·]?) := by
      rw [List.filterMap_map]
      refine fm_congr fun m hm => ?_
      have := List.mem_range.mp hm
      show _ = its.toArray[its.toArray.size - 1 - m]?
      rw [show ((((its.toArray.size : Nat) : Int) - 1) + (m : Int) * (-1)).toNat = its.toArray.size - 1 - m by omega]
    rw [e1, PySem.W.krv_range, List.filterMap_reverse, PySem.W.krv_all]
  rw [e]
  first
    | exact wpAny_bind (m := Builtin.Tuple.tupleExact _) (wpAny_newObj_type (wpAny_pure ⟨_, rfl, wpAny_pure h⟩) htake)
    | exact wpAny_bind (m := Builtin.Tuple.tupleExact _) (wpAny_newObj_type (wpAny_bind (wpAny_pure (wpAny_pure ⟨_, rfl, wpAny_pure h⟩))) htake)
    | exact wpAny_bind (wpAny_bind (m := Builtin.Tuple.tupleExact _) (wpAny_newObj_type (wpAny_pure (wpAny_pure ⟨_, rfl, wpAny_pure h⟩)) htake))
    | exact wpAny_bind (wpAny_bind (m := Builtin.Tuple.tupleExact _) (wpAny_newObj_type (wpAny_pure ⟨_, rfl, wpAny_pure h⟩) htake))
end
section
variable {X : Cx} {Φ : Tab} {a b e : Expr} {A B E : Ex} {pos p : Pos} {k : Nat}
/-! ### x[::-1] -/
def SlM (X : Cx) (r : V → Hp → VK → Prop) : Prop :=
  ∀ (pins : List (Addr × Obj)) (s : Shared) (σ : L2.St) (H : Hp) (x : V) (v vl vu vs : Value) (sl : Addr) (Q : VK), Inv X pins σ H s → RelV x v → s.heap.IsSliceOf sl vl vu vs → IsPart vl none → IsPart vu none → IsPart vs (some (-1)) → r x H Q →
    ∃ T id, typeLookup (.type T) "__getitem__" = pure (some (.builtin id)) ∧ s.TypeIs v T ∧ wpAny (model X.prog X.w) X.A (getItem v (.ref sl)) (EP X pins σ Q) X.xe s
theorem pe_revG {r : V → Hp → VK → Prop} {te : TE} {j : Nat} {p1 p2 p3 : Pos} (hr : SlM X r) (he : PE X e te) : PE X (.Subscript e (.Slice none none (some (.UnaryOp .USub (.Constant (.int 1) j p1) p2)) p3) pos) (fun σ H Q => te σ H fun x H1 => r x H1 Q) := by
  refine ⟨fun pins s σ H Q I h => ?_⟩
  refine Subscript_ (thn (he.run pins s σ H _ I h) fun v s1 ⟨x, H1, I1, r1, q1⟩ => ?_)
  have hst : PO X (some (.UnaryOp .USub (.Constant (.int 1) j p1) p2)) (tPart (tUn (rU fun i => .int (-i)) (tC (.int 1)))) := po_some (pe_un un_neg pe_int)
  refine wpAny_Slice (thn (po_none.run pins s1 σ H1 (fun o H2 => o = none ∧ H2 = H1) I1 ⟨rfl, rfl⟩) fun vl s2 ⟨l, H2, I2, pl, el, e2⟩ => ?_)
  subst el e2
  refine thn (po_none.run pins s2 σ H2 (fun o H3 => o = none ∧ H3 = H2) I2 ⟨rfl, rfl⟩) fun vu s3 ⟨u, H3, I3, pu, eu, e3⟩ => ?_
  subst eu e3
  refine thn (hst.run pins s3 σ H3 (fun o H4 => o = some (-1) ∧ H4 = H3) I3 ⟨1, rfl, -1, rfl, rfl, rfl⟩) fun vs s4 ⟨o, H4, I4, ps, eo, e4⟩ => ?_
  subst eo e4
  have I5 : Inv X pins σ H4 { s4 with heap := s4.heap.push { cls := .type "slice", data := .fields #[vl, vu, vs] } } := I4.kept (t' := s4.toks) fun b ob q => Heap.get?_push_of_some _ q
  obtain ⟨T, id, hT, ht, hg⟩ := hr pins _ σ H4 x v vl vu vs s4.heap.objs.size Q I5 r1 (Heap.IsSliceOf.new _ vl vu vs) pl pu ps q1
  show wpAny (model X.prog X.w) X.A (subscriptTail e (.Slice none none (some (.UnaryOp .USub (.Constant (.int 1) j p1) p2)) p3) v (.ref s4.heap.objs.size)) (EP X pins σ Q) X.xe { s4 with heap := s4.heap.push { cls := .type "slice", data := .fields #[vl, vu, vs] } }
  exact tail_any (ops := [v, .ref s4.heap.objs.size]) ht hT hg (by with_unfolding_all rfl)
theorem rev_idx (n : Nat) (cs : Array Nat) (h : cs.size = n) : (Builtin.Str.strSliceIndices none none (-1) n).filterMap (cs[·]?) = cs.toList.reverse := by
  have e : Builtin.Str.strSliceIndices none none (-1) n = (List.range n).map fun k => n - 1 - k := PySem.W.krv_sliceRange n
  rw [e, PySem.W.krv_range, List.filterMap_reverse, ← h, PySem.W.krv_all]
def rRevD (K : KW) : V → Hp → VK → Prop := fun x H Q => ∃ S G c d s, Same G H ∧ Sta S c G H ∧ Vw K G H x d ∧ revD d = some s ∧ Then K S c G H s Q
theorem dpAll_reverse {K : KW} {G : Hp} : ∀ {ds : List D} {vs : List V}, DqAll K G vs ds → DqAll K G vs.reverse ds.reverse
  | [], _, h => by cases h; exact .nil
  | d :: ds, _, h => by
    cases h with
    | cons h1 h2 =>
      rw [List.reverse_cons, List.reverse_cons]
      exact dpAll_append (dpAll_reverse h2) (.cons h1 .nil)
theorem slM_rev : SlM X (rRevD X.KW) := by
  intro pins s σ H x v vl vu vs sl Q I rx hs pl pu ps h
  obtain ⟨S, G, c, d, t, sm, st, hx, ht, q⟩ := h
  cases d <;> simp only [revD, reduceCtorEq, Option.some.injEq] at ht
  · cases hx
    split at ht
    · rename_i z hz
      cases ht
      obtain ⟨tk, rfl⟩ := rx
      obtain ⟨os, hos, hcs, hds⟩ := hs
      obtain ⟨l, rfl, el⟩ := IsPart.raw pl
      obtain ⟨u, rfl, eu⟩ := IsPart.raw pu
      obtain ⟨st', rfl, es⟩ := IsPart.raw ps
      refine ⟨"str", _, F.slot_str_getitem.lookup, typeIs_str _ _ _, wpAny_getItem_str_slice (l := l) (u := u) (st := st') ⟨os, hos, hcs, hds⟩ (by rw [es]; rfl) ?_⟩
      unfold sliceMade slicePicked
      rw [el, eu, es]
      show Made.post (Made.str ⟨((Builtin.Str.strSliceIndices none none (-1) z.length).filterMap (z.cps[·]?)).toArray⟩) (EP X pins σ Q) s
      rw [rev_idx z.length z.cps rfl]
      refine ⟨?_, .str _, H, I.tok _, ⟨_, rfl⟩, q.plain sm st (.str _)⟩
      show (z.cps.toList.reverse.toArray).size ≤ sizeLine
      rw [List.size_toArray, List.length_reverse, Array.length_toList]
      exact hz
    · cases ht
  · subst ht
    obtain ⟨aa, ws, rfl, h1, h2⟩ := hx
    cases rx
    obtain ⟨its, r, hl, hz⟩ := I.list h1
    have hlen := r.length
    refine ⟨"list", _, PySem.slot_list_getitem.lookup, hl.isList.typeIs, wpAny_getItem_list_slice hl.isList hs pl pu ps (by decide) ?_ (by rw [List.size_toArray]; omega)⟩
    rw [PySem.W.krv_pick]
    refine ⟨.ref _, _, I.laid (t' := s.toks) (o := .lst ws.reverse) (fun b ob q => Heap.get?_push_of_some _ q) (Nat.le_refl _) ?_, rfl, q.lst sm st (dpAll_reverse h2) _ (I.hok.fresh (Nat.le_refl _))⟩
    exact ⟨by rw [List.length_reverse]; exact hz, _, 0, r.reverse, Heap.get?_push_size _ rfl⟩
  · subst ht
    obtain ⟨aa, ws, rfl, h1, h2⟩ := hx
    cases rx
    obtain ⟨its, r, ht, hz⟩ := I.tuple (same_sqT sm h1)
    have hlen := r.length
    refine ⟨"tuple", _, PyProof.Rows.slot_tuple_getitem.lookup, ht.typeIs, getItem_tuple_rev ht (by omega) hs pl pu ps ?_⟩
    refine ⟨.ref _, _, I.laid (t' := s.toks) (o := .tup ws.reverse) (fun b ob q => Heap.get?_push_of_some _ q) (Nat.le_refl _) ?_, rfl, q.tup sm st (dpAll_reverse h2) _ (I.hok.fresh (Nat.le_refl _))⟩
    exact ⟨by rw [List.length_reverse]; exact hz, _, r.reverse, IsTup.new _ _⟩
theorem e_rev {j : Nat} {p1 p2 p3 : Pos} (ha : PE X a (tE Φ X.KW A)) : PE X (.Subscript a (.Slice none none (some (.UnaryOp .USub (.Constant (.int 1) j p1) p2)) p3) pos) (tE Φ X.KW (.rev A)) := by
  refine ⟨fun pins s σ H Q I hw => ?_⟩
  obtain ⟨Se, Ge, He, S, c, ρ, G, sr, z, c', hev, q⟩ := hw
  simp only [ev] at hev
  replace hev := M.bind_some hev
  obtain ⟨x, c1, h1, hev⟩ := hev
  replace hev := M.bind_some hev
  obtain ⟨d, c2, h2, hev⟩ := hev
  obtain rfl := M.rd_some h2
  obtain ⟨h5, rfl⟩ := ofO2 hev
  refine (pe_revG slM_rev ha).run pins s σ H Q I ⟨Se, Ge, He, S, c, ρ, G, sr, x, _, h1, fun v G1 H1 n1 r1 => ?_⟩
  exact ⟨S, G1, _, d, z, n1.sub, n1.sta, (r1.vw n1.sub h2).1, h5, q.after n1⟩
/-! ### x[1::-1] -/
def SlM2 (X : Cx) (r : V → Hp → VK → Prop) : Prop :=
  ∀ (pins : List (Addr × Obj)) (s : Shared) (σ : L2.St) (H : Hp) (x : V) (v vl vu vs : Value) (sl : Addr) (Q : VK), Inv X pins σ H s → RelV x v → s.heap.IsSliceOf sl vl vu vs → IsPart vl (some 1) → IsPart vu none → IsPart vs (some (-1)) → r x H Q →
    ∃ T id, typeLookup (.type T) "__getitem__" = pure (some (.builtin id)) ∧ s.TypeIs v T ∧ wpAny (model X.prog X.w) X.A (getItem v (.ref sl)) (EP X pins σ Q) X.xe s
theorem pe_rev2G {r : V → Hp → VK → Prop} {te : TE} {j j2 : Nat} {p0 p1 p2 p3 : Pos} (hr : SlM2 X r) (he : PE X e te) : PE X (.Subscript e (.Slice (some (.Constant (.int 1) j2 p0)) none (some (.UnaryOp .USub (.Constant (.int 1) j p1) p2)) p3) pos) (fun σ H Q => te σ H fun x H1 => r x H1 Q) := by
  refine ⟨fun pins s σ H Q I h => ?_⟩
  refine Subscript_ (thn (he.run pins s σ H _ I h) fun v s1 ⟨x, H1, I1, r1, q1⟩ => ?_)
  have hlo : PO X (some (.Constant (.int 1) j2 p0)) (tPart (tC (.int 1))) := po_some pe_int
  have hst : PO X (some (.UnaryOp .USub (.Constant (.int 1) j p1) p2)) (tPart (tUn (rU fun i => .int (-i)) (tC (.int 1)))) := po_some (pe_un un_neg pe_int)
  refine wpAny_Slice (thn (hlo.run pins s1 σ H1 (fun o H2 => o = some 1 ∧ H2 = H1) I1 ⟨1, rfl, rfl, rfl⟩) fun vl s2 ⟨l, H2, I2, pl, el, e2⟩ => ?_)
  subst el e2
  refine thn (po_none.run pins s2 σ H2 (fun o H3 => o = none ∧ H3 = H2) I2 ⟨rfl, rfl⟩) fun vu s3 ⟨u, H3, I3, pu, eu, e3⟩ => ?_
  subst eu e3
  refine thn (hst.run pins s3 σ H3 (fun o H4 => o = some (-1) ∧ H4 = H3) I3 ⟨1, rfl, -1, rfl, rfl, rfl⟩) fun vs s4 ⟨o, H4, I4, ps, eo, e4⟩ => ?_
  subst eo e4
  have I5 : Inv X pins σ H4 { s4 with heap := s4.heap.push { cls := .type "slice", data := .fields #[vl, vu, vs] } } := I4.kept (t' := s4.toks) fun b ob q => Heap.get?_push_of_some _ q
  obtain ⟨T, id, hT, ht, hg⟩ := hr pins _ σ H4 x v vl vu vs s4.heap.objs.size Q I5 r1 (Heap.IsSliceOf.new _ vl vu vs) pl pu ps q1
  show wpAny (model X.prog X.w) X.A (subscriptTail e (.Slice (some (.Constant (.int 1) j2 p0)) none (some (.UnaryOp .USub (.Constant (.int 1) j p1) p2)) p3) v (.ref s4.heap.objs.size)) (EP X pins σ Q) X.xe { s4 with heap := s4.heap.push { cls := .type "slice", data := .fields #[vl, vu, vs] } }
  exact tail_any (ops := [v, .ref s4.heap.objs.size]) ht hT hg (by with_unfolding_all rfl)
theorem pick2 (a b : Value) (l : List Value) : slicePick (a :: b :: l).toArray (some 1) none (some (-1)) = #[b, a] := by
  have hb : sliceBounds (some 1) none (some (-1)) (a :: b :: l).toArray.size = (1, -1, -1) := by
    have hs : (a :: b :: l).toArray.size = l.length + 2 := by simp
    rw [hs]
    have h1 : ¬ ((-1 : Int) > 0) := by decide
    have h2 : ¬ ((1 : Int) < 0) := by decide
    unfold sliceBounds
    simp only [Option.getD_some, h1, h2, if_false]
    refine Prod.ext ?_ rfl
    show max (-1 : Int) (min 1 (((l.length + 2 : Nat) : Int) - 1)) = 1
    omega
  unfold slicePick
  rw [hb]
  have hr : sliceRange 1 (-1) (-1) = [1, 0] := by decide +kernel
  show ((sliceRange 1 (-1) (-1)).filterMap ((a :: b :: l).toArray[·]?)).toArray = _
  rw [hr]
  simp
def rRev2D (K : KW) : V → Hp → VK → Prop := fun x H Q => ∃ S G c d s, Same G H ∧ Sta S c G H ∧ Vw K G H x d ∧ rev2D d = some s ∧ Then K S c G H s Q
theorem slM_rev2 : SlM2 X (rRev2D X.KW) := by
  intro pins s σ H x v vl vu vs sl Q I rx hs pl pu ps h
  obtain ⟨S, G, c, d, t, sm, st, hx, ht, q⟩ := h
  cases d with
  | list ds =>
    match ds, ht, hx with
    | [], ht, _ => cases ht
    | [_], ht, _ => cases ht
    | d1 :: d2 :: ds, ht, hx =>
      cases ht
      obtain ⟨aa, ws, rfl, h1, h2⟩ := hx
      cases rx
      cases h2 with
      | @cons v1 vs1 _ _ k1 h2 =>
        cases h2 with
        | @cons v2 vs2 _ _ k2 h2 =>
          obtain ⟨its, r, hl, hz⟩ := I.list h1
          cases r with
          | @cons _ u1 _ us1 r1 r =>
            cases r with
            | @cons _ u2 _ us2 r2 r =>
              have hlen := r.length
              refine ⟨"list", _, PySem.slot_list_getitem.lookup, hl.isList.typeIs, wpAny_getItem_list_slice hl.isList hs pl pu ps (by decide) ?_ (by rw [List.size_toArray]; simp only [List.length_cons] at *; omega)⟩
              rw [pick2]
              refine ⟨.ref _, _, I.laid (t' := s.toks) (o := .lst [v2, v1]) (fun b ob q => Heap.get?_push_of_some _ q) (Nat.le_refl _) ?_, rfl, q.lst sm st (.cons k2 (.cons k1 .nil)) _ (I.hok.fresh (Nat.le_refl _))⟩
              exact ⟨by rw [sizeLine_eq]; exact (by decide : 2 ≤ 16777216), _, 0, .cons r2 (.cons r1 .nil), Heap.get?_push_size _ rfl⟩
  | tuple ds =>
    match ds, ht, hx with
    | [], ht, _ => cases ht
    | [_], ht, _ => cases ht
    | d1 :: d2 :: ds, ht, hx =>
      cases ht
      obtain ⟨aa, ws, rfl, h1, h2⟩ := hx
      cases rx
      cases h2 with
      | @cons v1 vs1 _ _ k1 h2 =>
        cases h2 with
        | @cons v2 vs2 _ _ k2 h2 =>
          obtain ⟨its, r, ht, hz⟩ := I.tuple (same_sqT sm h1)
          cases r with
          | @cons _ u1 _ us1 r1 r =>
            cases r with
            | @cons _ u2 _ us2 r2 r =>
              refine ⟨"tuple", _, PyProof.Rows.slot_tuple_getitem.lookup, ht.typeIs, getItem_tuple_rev2 ht hs pl pu ps ?_⟩
              refine ⟨.ref _, _, I.laid (t' := s.toks) (o := .tup [v2, v1]) (fun b ob q => Heap.get?_push_of_some _ q) (Nat.le_refl _) ?_, rfl, q.tup sm st (.cons k2 (.cons k1 .nil)) _ (I.hok.fresh (Nat.le_refl _))⟩
              exact ⟨by rw [sizeLine_eq]; exact (by decide : 2 ≤ 16777216), _, .cons r2 (.cons r1 .nil), IsTup.new _ _⟩
  | _ => cases ht
theorem e_rev2 {j j2 : Nat} {p0 p1 p2 p3 : Pos} (ha : PE X a (tE Φ X.KW A)) : PE X (.Subscript a (.Slice (some (.Constant (.int 1) j2 p0)) none (some (.UnaryOp .USub (.Constant (.int 1) j p1) p2)) p3) pos) (tE Φ X.KW (.rev2 A)) := by
  refine ⟨fun pins s σ H Q I hw => ?_⟩
  obtain ⟨Se, Ge, He, S, c, ρ, G, sr, z, c', hev, q⟩ := hw
  simp only [ev] at hev
  replace hev := M.bind_some hev
  obtain ⟨x, c1, h1, hev⟩ := hev
  replace hev := M.bind_some hev
  obtain ⟨d, c2, h2, hev⟩ := hev
  obtain rfl := M.rd_some h2
  obtain ⟨h5, rfl⟩ := ofO2 hev
  refine (pe_rev2G slM_rev2 ha).run pins s σ H Q I ⟨Se, Ge, He, S, c, ρ, G, sr, x, _, h1, fun v G1 H1 n1 r1 => ?_⟩
  exact ⟨S, G1, _, d, z, n1.sub, n1.sta, (r1.vw n1.sub h2).1, h5, q.after n1⟩
/-! ### methods -/
def rM (K : KW) (g : D → List D → Option Sl) : V → List V → Hp → VK → Prop := fun x xs H Q => ∃ S G c d ds s, Same G H ∧ Sta S c G H ∧ Vw K G H x d ∧ VwA K G H xs ds ∧ g d ds = some s ∧ Then K S c G H s Q
theorem strs_dq {K : KW} {G : Hp} : ∀ {ds : List D} {ns : List Str} {vs : List V}, strsOf ds = some ns → DqAll K G vs ds → vs = ns.map V.str
  | [], ns, _, e, h => by
    cases h
    cases e
    rfl
  | d :: ds, ns, _, e, h => by
    cases h with
    | cons h1 h2 =>
      cases d with
      | str b =>
        cases h1
        cases q : strsOf ds with
        | none => simp only [strsOf, q, Option.map_none, reduceCtorEq] at e
        | some cs =>
          simp only [strsOf, q, Option.map_some, Option.some.injEq] at e
          subst e
          rw [strs_dq q h2]
          rfl
      | _ => simp only [strsOf, reduceCtorEq] at e
theorem dq_strs {K : KW} {G : Hp} : ∀ ys : List Str, DqAll K G (ys.map V.str) (ys.map .str)
  | [] => .nil
  | y :: ys => .cons (.str y) (dq_strs ys)
theorem mtD_join : MtR X "str.join" (rM X.KW (methD .join)) := by
  intro pins s σ H x xs v us Q I rx rs h
  obtain ⟨S, G, c, d, ds, t, sm, st, hx, hxs, ht, q⟩ := h
  cases d with
  | str z =>
    cases hx
    match ds, hxs, ht with
    | [.list ys], hxs, ht =>
      obtain ⟨y, rfl, pp, ws, rfl, g1, g2⟩ := vwA1 hxs
      cases e : strsOf ys with
      | none => simp only [methD, e, reduceCtorEq] at ht
      | some zs =>
        simp only [methD, e] at ht
        split at ht
        · rename_i hz
          cases ht
          rw [strs_dq e g2] at g1
          exact mt_join pins s σ H _ _ v us Q I rx rs ⟨z, pp, zs, rfl, rfl, .inl g1, hz, q.plain sm st (.str _)⟩
        · cases ht
    | [.tuple ys], hxs, ht =>
      obtain ⟨y, rfl, pp, ws, rfl, g1, g2⟩ := vwA1 hxs
      cases e : strsOf ys with
      | none => simp only [methD, e, reduceCtorEq] at ht
      | some zs =>
        simp only [methD, e] at ht
        split at ht
        · rename_i hz
          cases ht
          rw [strs_dq e g2] at g1
          exact mt_join pins s σ H _ _ v us Q I rx rs ⟨z, pp, zs, rfl, rfl, .inr (same_sqT sm g1), hz, q.plain sm st (.str _)⟩
        · cases ht
    | [.none], _, ht => cases ht
    | [.bool _], _, ht => cases ht
    | [.int _], _, ht => cases ht
    | [.str _], _, ht => cases ht
    | [.dict _], _, ht => cases ht
    | [], _, ht => cases ht
    | y :: _ :: _, _, ht => cases y <;> cases ht
  | _ => simp only [methD, reduceCtorEq] at ht
theorem mtD_count : MtR X "str.count" (rM X.KW (methD .count)) := by
  intro pins s σ H x xs v us Q I rx rs h
  obtain ⟨S, G, c, d, ds, t, sm, st, hx, hxs, ht, q⟩ := h
  cases d with
  | str z =>
    cases hx
    match ds, hxs, ht with
    | [.str y], hxs, ht =>
      obtain ⟨_, rfl, rfl⟩ := vwA1 hxs
      cases ht
      exact mt_count pins s σ H _ _ v us Q I rx rs ⟨z, y, rfl, rfl, q.plain sm st (.int _)⟩
    | [.none], _, ht => cases ht
    | [.bool _], _, ht => cases ht
    | [.int _], _, ht => cases ht
    | [.list _], _, ht => cases ht
    | [.tuple _], _, ht => cases ht
    | [.dict _], _, ht => cases ht
    | [], _, ht => cases ht
    | y :: _ :: _, _, ht => cases y <;> cases ht
  | _ => simp only [methD, reduceCtorEq] at ht
theorem mtD_split : MtR X "str.split" (rM X.KW (methD .split)) := by
  intro pins s σ H x xs v us Q I rx rs h
  obtain ⟨S, G, c, d, ds, t, sm, st, hx, hxs, ht, q⟩ := h
  cases d with
  | str z =>
    cases hx
    match ds, hxs, ht with
    | [.str y], hxs, ht =>
      obtain ⟨_, rfl, rfl⟩ := vwA1 hxs
      simp only [methD] at ht
      split at ht
      · rename_i hz
        cases ht
        refine mt_split pins s σ H _ _ v us Q I rx rs ⟨z, y, rfl, rfl, hz.1, hz.2, ?_⟩
        exact fun p hp => q.lst sm st (dq_strs _) p hp
      · cases ht
    | [.none], _, ht => cases ht
    | [.bool _], _, ht => cases ht
    | [.int _], _, ht => cases ht
    | [.list _], _, ht => cases ht
    | [.tuple _], _, ht => cases ht
    | [.dict _], _, ht => cases ht
    | [], _, ht => cases ht
    | y :: _ :: _, _, ht => cases y <;> cases ht
  | _ => simp only [methD, reduceCtorEq] at ht
theorem idxD_ok {d : D} : ∀ {ds : List D} {i : Nat}, idxD d ds = some i → (∃ z, ds[i]? = some z ∧ PyData.eqv z d = true) ∧ ∀ m z, m < i → ds[m]? = some z → PyData.eqv z d = false
  | [], i, h => by cases h
  | e :: ds, i, h => by
    rw [idxD] at h
    split at h
    · rename_i hz
      cases h
      exact ⟨⟨e, rfl, hz⟩, fun m z hm => absurd hm (Nat.not_lt_zero _)⟩
    · rename_i hz
      obtain ⟨j, hj, rfl⟩ := Option.map_eq_some_iff.mp h
      obtain ⟨⟨z, h1, h2⟩, h3⟩ := idxD_ok hj
      refine ⟨⟨z, h1, h2⟩, fun m w hm hw => ?_⟩
      cases m with
      | zero =>
        cases hw
        exact Bool.eq_false_iff.mpr hz
      | succ m => exact h3 m w (by omega) hw
theorem mtD_index (hu : X.A.units + 65 < cLine) : MtR X "list.index" (rM X.KW (methD .index)) := by
  intro pins s σ H x xs v us Q I rx rs h
  obtain ⟨S, G, c, d, ds, t, sm, st, hx, hxs, ht, q⟩ := h
  cases d with
  | list ys =>
    match ds, hxs, ht with
    | [w], hxs, ht =>
      obtain ⟨y, rfl, hy⟩ := vwA1 hxs
      simp only [methD] at ht
      split at ht
      · rename_i hz
        rw [Bool.and_eq_true] at hz
        obtain ⟨i, hi, rfl⟩ := Option.map_eq_some_iff.mp ht
        obtain ⟨⟨z, h1, h2⟩, h3⟩ := idxD_ok hi
        have hx' := Dq.dp _ (hx.dp sm)
        obtain ⟨aa, ws, rfl, _, _⟩ := hx
        exact mt_indexD hu pins s σ H _ _ v us Q I rx rs ⟨aa, y, w, ys, i, z, rfl, rfl, hx', Dq.dp _ (hy.dp sm), hz.2, hz.1, h1, h2, h3, q.plain sm st (.int _)⟩
      · cases ht
    | [], _, ht => cases ht
    | _ :: _ :: _, _, ht => cases ht
  | _ => simp only [methD, reduceCtorEq] at ht
/-- a method of texts, with one argument -/
theorem e_m1 {m : Mf} {id : String} {apos : Pos} (slot : Slot "str" m.nm id) (ty : typeOf (.builtin id) = pure (.type "method_descriptor")) (rule : MtR X id (rM X.KW (methD m))) (hm : ∀ d ds r, methD m d ds = some r → ∃ z, d = .str z)
    (ha : PE X a (tE Φ X.KW A)) (hb : PE X b (tE Φ X.KW B)) (hs : starEach [b] X.env = [(false, eval b X.env)]) (hbase : attributeBase a m.nm X.env (eval a X.env) = eval a X.env) (hline : (apos.endLine == pos.line) = true) :
    PE X (.Call (.Attribute a m.nm apos) [b] [] pos) (tE Φ X.KW (.meth m A [B])) := by
  refine ⟨fun pins s σ H Q I hw => ?_⟩
  obtain ⟨Se, Ge, He, S, c, ρ, G, sr, r, c', hev, q⟩ := hw
  simp only [ev, evr, bind_assoc, pure_bind] at hev
  replace hev := M.bind_some hev
  obtain ⟨x, c1, h1, hev⟩ := hev
  replace hev := M.bind_some hev
  obtain ⟨d, c2, h2, hev⟩ := hev
  replace hev := M.bind_some hev
  obtain ⟨y, c3, h3, hev⟩ := hev
  replace hev := M.bind_some hev
  obtain ⟨d2, c4, h4, hev⟩ := hev
  obtain rfl := M.rd_some h2
  obtain rfl := M.rd_some h4
  obtain ⟨h5, rfl⟩ := ofO2 hev
  refine (pe_m1 slot ty rule ha hb hs hbase hline).run pins s σ H Q I ⟨Se, Ge, He, S, c, ρ, G, sr, x, _, h1, fun v1 G1 H1 n1 r1 => ⟨?_, Se, Ge, He, S, _, ρ, G1, sr.step n1, y, _, h3, fun v2 G2 H2 n2 r2 => ?_⟩⟩
  · obtain ⟨z, rfl⟩ := hm _ _ _ h5
    exact ⟨z, (r1.vw n1.sub h2).1⟩
  · exact ⟨S, G2, _, d, [d2], r, n2.sub, n2.sta, ((r1.mono n2.kp).vw n2.sub h2).1, .cons (r2.vw n2.sub h4).1 .nil, h5, q.after (n1.trans n2)⟩
theorem e_index {apos : Pos} (hu : X.A.units + 65 < cLine) (ha : PE X a (tE Φ X.KW A)) (hb : PE X b (tE Φ X.KW B)) (hs : starEach [b] X.env = (false, eval b X.env) :: starEach [] X.env) (hbase : attributeBase a "index" X.env (eval a X.env) = eval a X.env)
    (hline : (apos.endLine == pos.line) = true) : PE X (.Call (.Attribute a "index" apos) [b] [] pos) (tE Φ X.KW (.meth .index A [B])) := by
  have hfew : ((backTo pos (starEach [b] X.env)).all (fun x => !x.1) && (backToKw pos (keywordEach [] X.env)).all (fun x => x.1.isSome) && decide ([b].length + ([] : List Keyword).length + (if ([] : List Keyword).isEmpty then 0 else 1) < 30)) = true := by
    rw [hs]
    rfl
  have h := pe_bm (cpos := pos) (apos := apos) PySem.F.plainAttrs_list PySem.F.slot_list_index PySem.F.type_list_index (mtD_index hu) ha (pa_cons hb pa_nil hs) hbase hfew hline hs rfl
  refine ⟨fun pins s σ H Q I hw => ?_⟩
  obtain ⟨Se, Ge, He, S, c, ρ, G, sr, r, c', hev, q⟩ := hw
  simp only [ev, evr, bind_assoc, pure_bind] at hev
  replace hev := M.bind_some hev
  obtain ⟨x, c1, h1, hev⟩ := hev
  replace hev := M.bind_some hev
  obtain ⟨d, c2, h2, hev⟩ := hev
  replace hev := M.bind_some hev
  obtain ⟨y, c3, h3, hev⟩ := hev
  replace hev := M.bind_some hev
  obtain ⟨d2, c4, h4, hev⟩ := hev
  obtain rfl := M.rd_some h2
  obtain rfl := M.rd_some h4
  obtain ⟨h5, rfl⟩ := ofO2 hev
  refine h.run pins s σ H Q I ⟨Se, Ge, He, S, c, ρ, G, sr, x, _, h1, fun v1 G1 H1 n1 r1 => ⟨?_, Se, Ge, He, S, _, ρ, G1, sr.step n1, y, _, h3, fun v2 G2 H2 n2 r2 => ?_⟩⟩
  · cases d with
    | list ys =>
      obtain ⟨aa, ws, rfl, g1, _⟩ := (r1.vw n1.sub h2).1
      exact .inl ⟨rfl, ws, g1⟩
    | _ => simp only [methD, reduceCtorEq] at h5
  · exact ⟨S, G2, _, d, [d2], r, n2.sub, n2.sta, ((r1.mono n2.kp).vw n2.sub h2).1, .cons (r2.vw n2.sub h4).1 .nil, h5, q.after (n1.trans n2)⟩
theorem hm_join : ∀ d ds r, methD .join d ds = some r → ∃ z, d = .str z := by
  intro d ds r h
  cases d <;> simp only [methD, reduceCtorEq] at h
  exact ⟨_, rfl⟩
theorem hm_count : ∀ d ds r, methD .count d ds = some r → ∃ z, d = .str z := by
  intro d ds r h
  cases d <;> simp only [methD, reduceCtorEq] at h
  exact ⟨_, rfl⟩
theorem hm_split : ∀ d ds r, methD .split d ds = some r → ∃ z, d = .str z := by
  intro d ds r h
  cases d <;> simp only [methD, reduceCtorEq] at h
  exact ⟨_, rfl⟩
/-- the methods that are known -/
def mOk : Mf → Bool
  | .join => true
  | .count => true
  | .split => true
  | .index => true
  | _ => false
theorem e_meth {m : Mf} {apos : Pos} (hmo : mOk m = true) (hu : X.A.units + 67 < cLine) (ha : PE X a (tE Φ X.KW A)) (hb : PE X b (tE Φ X.KW B)) (hs : starEach [b] X.env = (false, eval b X.env) :: starEach [] X.env)
    (hbase : ∀ n, attributeBase a n X.env (eval a X.env) = eval a X.env) (hline : (apos.endLine == pos.line) = true) : PE X (.Call (.Attribute a m.nm apos) [b] [] pos) (tE Φ X.KW (.meth m A [B])) := by
  cases m with
  | join => exact e_m1 F.slot_str_join F.type_str_join mtD_join hm_join ha hb hs (hbase _) hline
  | count => exact e_m1 F.slot_str_count F.type_str_count mtD_count hm_count ha hb hs (hbase _) hline
  | split => exact e_m1 F.slot_str_split F.type_str_split mtD_split hm_split ha hb hs (hbase _) hline
  | index => exact e_index (by omega) ha hb hs (hbase _) hline
  | _ => cases hmo
end
end SB
/-! Ranges as lists, displays asked at once, targets, comprehensions. -/
namespace SB
open PySem PySem.Spec PyProof.Rows L2
section
variable {X : Cx} {Φ : Tab} {a b e : Expr} {A B E : Ex} {pos p : Pos} {k : Nat}
theorem dq_rng {K : KW} {G : Hp} : ∀ (l : List Nat) (f : Nat → Int), DqAll K G (l.map fun i => V.int (f i)) (l.map fun i => .int (f i))
  | [], _ => .nil
  | i :: l, f => .cons (.int _) (dq_rng l f)
theorem rgV_dq {K : KW} {G : Hp} (i j : Int) : DqAll K G (rgV i j) ((List.range (j - i).toNat).map fun k => .int (i + ((k : Nat) : Int))) := dq_rng _ _
theorem rng_body {Es : List Ex} {l : Bool} {ρ : Rho} {c c' : Option Nat} {z : Sl} (hev : ev Φ (.rng l Es) ρ c = some (z, c')) : ∃ ds xs, evr Φ Es ρ c = some (ds, c') ∧ iterD .range ds = some xs ∧ z = (if l then .ow (.list xs) else .fz (.tuple xs)) := by
  simp only [ev] at hev
  replace hev := M.bind_some hev
  obtain ⟨ds, c1, h1, hev⟩ := hev
  replace hev := M.bind_some hev
  obtain ⟨xs, c2, h2, hev⟩ := hev
  obtain ⟨h5, h6⟩ := ofO_run h2
  simp only at h5 h6
  subst h6
  cases l with
  | true => cases hev; exact ⟨ds, xs, h1, h5, rfl⟩
  | false => cases hev; exact ⟨ds, xs, h1, h5, rfl⟩
theorem e_rng1 {l : Bool} {p1 p2 : Pos} (T : TabOk X.prog X.w X.KW X.mg X.base k Φ) (hc : X.calm = true) (hl : Gl X (if l then "list" else "tuple")) (hr : Gl X "range") (ha : PE X a (tE Φ X.KW A)) (hs : starEach [a] X.env = (false, eval a X.env) :: starEach [] X.env) :
    PE X (.Call (.Name (if l then "list" else "tuple") p1) [.Call (.Name "range" p2) [a] [] p] [] pos) (tE Φ X.KW (.rng l [A])) := by
  have rg : PRg X (.Call (.Name "range" p2) [a] [] p) (tRg1 (tE Φ X.KW A)) := prg_1 hr (T.bl _ (by decide +kernel)) ha hs
  refine ⟨fun pins s σ H Q I hw => ?_⟩
  obtain ⟨Se, Ge, He, S, c, ρ, G, sr, z, c', hev, q⟩ := hw
  obtain ⟨ds, xs, h1, h2, hz⟩ := rng_body hev
  simp only [evr] at h1
  replace h1 := M.bind_some h1
  obtain ⟨x, c2, h3, h1⟩ := h1
  replace h1 := M.bind_some h1
  obtain ⟨d, c3, h4, h1⟩ := h1
  have e3 := M.rd_some h4
  subst e3
  cases h1
  cases d <;> simp only [iterD, reduceCtorEq] at h2
  rename_i j
  split at h2
  · rename_i hj
    cases h2
    have ok : RgOk 0 j := by
      have := hj.1
      rw [sizeLine_eq] at this
      exact ⟨by omega, by omega, by omega, by omega, by omega⟩
    have dq : ∀ G, DqAll X.KW G (rgV 0 j) ((List.range j.toNat).map fun i => .int ((i : Nat) : Int)) := fun G => by
      have := rgV_dq (K := X.KW) (G := G) 0 j
      simpa using this
    cases l with
    | true =>
      subst hz
      refine (pe_listRg hc hl (T.bl _ (by decide +kernel)) rg).run pins s σ H Q I ⟨Se, Ge, He, S, c, ρ, G, sr, x, _, h3, fun v G1 H1 n1 r1 => ?_⟩
      exact ⟨j, (r1.vw n1.sub h4).1, ok, (q.after n1).lst n1.sub n1.sta (dq _)⟩
    | false =>
      subst hz
      refine (pe_tupRg hc hl (T.bl _ (by decide +kernel)) rg).run pins s σ H Q I ⟨Se, Ge, He, S, c, ρ, G, sr, x, _, h3, fun v G1 H1 n1 r1 => ?_⟩
      exact ⟨j, (r1.vw n1.sub h4).1, ok, (q.after n1).tup n1.sub n1.sta (dq _)⟩
  · cases h2
theorem e_rng2 {l : Bool} {p1 p2 : Pos} (T : TabOk X.prog X.w X.KW X.mg X.base k Φ) (hc : X.calm = true) (hl : Gl X (if l then "list" else "tuple")) (hr : Gl X "range") (ha : PE X a (tE Φ X.KW A)) (hb : PE X b (tE Φ X.KW B)) (hs : starEach [a, b] X.env = (false, eval a X.env) :: starEach [b] X.env)
    (hs2 : starEach [b] X.env = (false, eval b X.env) :: starEach [] X.env) (hp : (backTo p (starEach [b] X.env)).any (·.1) = false) :
    PE X (.Call (.Name (if l then "list" else "tuple") p1) [.Call (.Name "range" p2) [a, b] [] p] [] pos) (tE Φ X.KW (.rng l [A, B])) := by
  have rg : PRg X (.Call (.Name "range" p2) [a, b] [] p) (tRg2 (tE Φ X.KW A) (tE Φ X.KW B)) := prg_2 hr (T.bl _ (by decide +kernel)) ha hb hs hs2 hp
  refine ⟨fun pins s σ H Q I hw => ?_⟩
  obtain ⟨Se, Ge, He, S, c, ρ, G, sr, z, c', hev, q⟩ := hw
  obtain ⟨ds, xs, h1, h2, hz⟩ := rng_body hev
  simp only [evr] at h1
  replace h1 := M.bind_some h1
  obtain ⟨x, c2, h3, h1⟩ := h1
  replace h1 := M.bind_some h1
  obtain ⟨d, c3, h4, h1⟩ := h1
  have e3 := M.rd_some h4
  subst e3
  replace h1 := M.bind_some h1
  obtain ⟨l2, c5, h5, h1⟩ := h1
  replace h5 := M.bind_some h5
  obtain ⟨y, c6, h6, h5⟩ := h5
  replace h5 := M.bind_some h5
  obtain ⟨d2, c7, h7, h5⟩ := h5
  have e7 := M.rd_some h7
  subst e7
  cases h5
  cases h1
  cases d <;> cases d2 <;> simp only [iterD, reduceCtorEq] at h2
  rename_i i j
  split at h2
  · rename_i hj
    cases h2
    have ok : RgOk i j := by
      have := hj.2.2.2.2
      rw [sizeLine_eq] at this
      exact ⟨by omega, by omega, by omega, by omega, by omega⟩
    cases l with
    | true =>
      subst hz
      refine (pe_listRg hc hl (T.bl _ (by decide +kernel)) rg).run pins s σ H Q I ⟨Se, Ge, He, S, c, ρ, G, sr, x, _, h3, fun v G1 H1 n1 r1 => ⟨Se, Ge, He, S, _, ρ, G1, sr.step n1, y, _, h6, fun v2 G2 H2 n2 r2 => ?_⟩⟩
      exact ⟨i, j, ((r1.mono n2.kp).vw n2.sub h4).1, (r2.vw n2.sub h7).1, ok, (q.after (n1.trans n2)).lst n2.sub n2.sta (rgV_dq _ _)⟩
    | false =>
      subst hz
      refine (pe_tupRg hc hl (T.bl _ (by decide +kernel)) rg).run pins s σ H Q I ⟨Se, Ge, He, S, c, ρ, G, sr, x, _, h3, fun v G1 H1 n1 r1 => ⟨Se, Ge, He, S, _, ρ, G1, sr.step n1, y, _, h6, fun v2 G2 H2 n2 r2 => ?_⟩⟩
      exact ⟨i, j, ((r1.mono n2.kp).vw n2.sub h4).1, (r2.vw n2.sub h7).1, ok, (q.after (n1.trans n2)).tup n2.sub n2.sta (rgV_dq _ _)⟩
  · cases h2
/-! ### {..}.get(a, b) -/
/-- written keys and values -/
inductive DispE : List (Option Expr) → List Expr → List (Str × Int) → Prop
  | nil : DispE [] [] []
  | cons {x : Str} {i : Int} {j1 j2 : Nat} {p1 p2 : Pos} {ks : List (Option Expr)} {vs : List Expr} {l : List (Str × Int)} : DispE ks vs l → DispE (some (.Constant (.str x) j1 p1) :: ks) (.Constant (.int i) j2 p2 :: vs) ((x, i) :: l)
def dispT (l : List (Str × Int)) : List (TE × TE) := l.map fun q => (tC (.str q.1), tC (.int q.2))
theorem DispE.pps {ks : List (Option Expr)} {vs : List Expr} {l : List (Str × Int)} (h : DispE ks vs l) : PPs X pos ks vs (dispT l) := by
  induction h with
  | nil => exact pps_nil
  | cons _ ih => exact pps_cons pe_str pe_int ih
theorem DispE.len {ks : List (Option Expr)} {vs : List Expr} {l : List (Str × Int)} (h : DispE ks vs l) : ks.length = l.length ∧ vs.length = l.length ∧ ks.all (·.isSome) = true := by
  induction h with
  | nil => exact ⟨rfl, rfl, rfl⟩
  | cons _ ih => exact ⟨congrArg (· + 1) ih.1, congrArg (· + 1) ih.2.1, by simpa using ih.2.2⟩
theorem disp_pairs {σ : L2.St} {H : Hp} {Q : List (V × V) → Hp → Prop} : ∀ (l : List (Str × Int)), Q (l.map fun q => (V.str q.1, V.int q.2)) H → tPairs (dispT l) σ H Q
  | [], q => q
  | p :: l, q => disp_pairs (Q := fun ps H3 => Q ((V.str p.1, V.int p.2) :: ps) H3) l q
theorem e_dget {ks : List (Option Expr)} {vs : List Expr} {l : List (Str × Int)} {p1 apos : Pos} (hu : X.A.units + 1 < cLine) (hd : DispE ks vs l) (h0 : l ≠ []) (h15 : l.length ≤ 15) (ha : PE X a (tE Φ X.KW A)) (hb : PE X b (tE Φ X.KW B)) (m : M2 X (.Dict ks vs p1) "get" apos a b pos) :
    PE X (.Call (.Attribute (.Dict ks vs p1) "get" apos) [a, b] [] pos) (tE Φ X.KW (.dget l A B)) := by
  obtain ⟨l1, l2, l3⟩ := hd.len
  have pd : PE X (.Dict ks vs p1) (tDisp (dispT l)) := pe_disp hd.pps l3 (l1.trans l2.symm) (fun e => h0 (List.eq_nil_of_length_eq_zero (by rw [← l1, e]; rfl))) (by rw [l1]; exact h15)
  refine ⟨fun pins s σ H Q I hw => ?_⟩
  obtain ⟨Se, Ge, He, S, c, ρ, G, sr, z, c', hev, q⟩ := hw
  simp only [ev] at hev
  replace hev := M.bind_some hev
  obtain ⟨x, c1, h1, hev⟩ := hev
  replace hev := M.bind_some hev
  obtain ⟨d, c2, h2, hev⟩ := hev
  replace hev := M.bind_some hev
  obtain ⟨y, c3, h3, hev⟩ := hev
  replace hev := M.bind_some hev
  obtain ⟨d2, c4, h4, hev⟩ := hev
  have e2 := M.rd_some h2
  subst e2
  have e4 := M.rd_some h4
  subst e4
  replace hev := M.bind_some hev
  obtain ⟨w, c5, h5, hev⟩ := hev
  obtain ⟨h6, e6⟩ := ofO2 h5
  subst e6
  have e7 := strOf_some h6
  subst e7
  replace hev := M.bind_some hev
  obtain ⟨j, c8, h8, hev⟩ := hev
  obtain ⟨h9, e9⟩ := ofO2 h8
  subst e9
  have e10 := intOf_some h9
  subst e10
  cases hev
  refine (pe_dget2 hu pd ha hb m).run pins s σ H Q I ?_
  intro p0 hp0
  refine disp_pairs l ⟨upd_same, l.map fun q => ((Sum.inr q.1 : Key), V.int q.2), ?_, by rw [List.length_map]; exact h15, ?_⟩
  · rw [List.map_map]; rfl
  · rw [upd_upd]
    have n0 : Nxt S c G H G (upd H p0 (.dK (mergeK [] (l.map fun q => ((Sum.inr q.1 : Key), V.int q.2))))) := .newO sr.sub sr.sta hp0
    refine ⟨p0, rfl, .inl ⟨_, .inl upd_same⟩, Se, Ge, He, S, c, ρ, G, sr.step n0, x, _, h1, fun v1 G1 H1 n1 r1 => ⟨Se, Ge, He, S, _, ρ, G1, (sr.step n0).step n1, y, _, h3, fun v2 G2 H2 n2 r2 => ?_⟩⟩
    have hS0 : S ≠ some p0 := sne sr.sta hp0
    have at2 := n2.kp.kh _ _ hS0 (n1.kp.kh _ _ hS0 (upd_same (H := H) (a := p0) (o := .dK (mergeK [] (l.map fun q => ((Sum.inr q.1 : Key), V.int q.2))))))
    have ev1 : v1 = .str w := ((r1.mono n2.kp).vw n2.sub h2).1
    have ev2 : v2 = .int j := (r2.vw n2.sub h4).1
    subst ev1 ev2
    refine ⟨_, .inl ⟨_, .inr w, .inl at2, rfl, rfl⟩, ?_⟩
    rw [lastOf_mergeK w l [] none rfl]
    have en : ∀ o : Option Int, (o.map V.int).getD (V.int j) = V.int (o.getD j) := fun o => by cases o <;> rfl
    rw [en]
    exact q _ _ _ (n0.trans (n1.trans n2)) (.int _)

/-! ### targets -/
def setAllV : List Nat → List V → L2.St → L2.St
  | i :: is, v :: vs, σ => setAllV is vs (σ.set i (some v))
  | _, _, σ => σ
/-- names, and their places -/
inductive NamesE (X : Cx) : List Expr → List Nat → Prop
  | nil : NamesE X [] []
  | cons {x : Str} {p : Pos} {i : Nat} {es : List Expr} {is : List Nat} : X.N[i]? = some x → Loc X.env.scope x → (X.fn x = true ∨ X.env.scope.names.lookup x = some .local) → NamesE X es is → NamesE X (.Name x p :: es) (i :: is)
def gAll (is : List Nat) : TGs := fun vs σ H Q => vs.length = is.length ∧ Q (setAllV is vs σ) H
theorem NamesE.pgs (hN : X.N.Nodup) {es : List Expr} {is : List Nat} (h : NamesE X es is) : PGs X es (gAll is) := by
  induction h with
  | nil =>
    refine ⟨fun pins s σ H vs us Q I r h => ?_⟩
    obtain ⟨hl, h⟩ := h
    have e : vs = [] := List.eq_nil_of_length_eq_zero hl
    subst e
    exact pgs_nil.run pins s σ H [] us Q I r ⟨rfl, h⟩
  | cons h1 h2 h3 _ ih =>
    refine ⟨fun pins s σ H vs us Q I r h => ?_⟩
    obtain ⟨hl, h⟩ := h
    cases vs with
    | nil => cases hl
    | cons v vr => exact (pgs_cons (pg_name hN h1 h2 h3) ih).run pins s σ H _ us Q I r ⟨v, vr, rfl, Nat.succ.inj hl, h⟩
theorem NamesE.each {es : List Expr} {is : List Nat} (h : NamesE X es is) : (assignEach es X.env).length = is.length ∧ (assignEach es X.env).findIdx? (·.1) = none ∧ (assignEach es X.env).any (·.1) = false := by
  induction h with
  | nil => exact ⟨rfl, rfl, rfl⟩
  | cons h1 h2 h3 _ ih =>
    refine ⟨congrArg (· + 1) ih.1, ?_, ih.2.2⟩
    show List.findIdx? (·.1) ((false, _) :: assignEach _ X.env) = none
    rw [List.findIdx?_cons]
    simp [ih.2.1]
/-- one target of the small language -/
inductive TgE (X : Cx) : Expr → List Nat → Bool → Prop
  | one {x : Str} {p : Pos} {i : Nat} : X.N[i]? = some x → Loc X.env.scope x → (X.fn x = true ∨ X.env.scope.names.lookup x = some .local) → TgE X (.Name x p) [i] true
  | tup {es : List Expr} {is : List Nat} {k : Nat} {p : Pos} : NamesE X es is → TgE X (.Tuple es k p) is false
def gTg (K : KW) (is : List Nat) : Bool → TG
  | true => fun v σ H Q => ∃ i, is = [i] ∧ Q (σ.set i (some v)) H
  | false => fun v σ H Q => gTup K is.length (gAll is) v σ H Q ∨ gUnl K is.length (gAll is) v σ H Q
theorem TgE.pg (hc : X.calm = true) (hN : X.N.Nodup) {t : Expr} {is : List Nat} {one : Bool} (h : TgE X t is one) : PG X t (gTg X.KW is one) := by
  cases h with
  | one h1 h2 h3 =>
    refine ⟨fun pins s σ H v u Q I r h => ?_⟩
    obtain ⟨i, e, h⟩ := h
    cases e
    exact (pg_name hN h1 h2 h3).run pins s σ H v u Q I r h
  | tup h =>
    refine ⟨fun pins s σ H v u Q I r hw => ?_⟩
    rcases hw with hw | hw
    · exact (pg_tup hc (h.pgs hN) h.each.1 h.each.2.1).run pins s σ H v u Q I r hw
    · exact (pg_unl hc (h.pgs hN) h.each.1 h.each.2.1).run pins s σ H v u Q I r hw
theorem SR.setAll {K : KW} {Se S : Option Addr} {c : Option Nat} {Ge He G H : Hp} : ∀ {is : List Nat} {vs : List V} {ds : List D} {ρ : Rho} {σ : L2.St}, SR K Se Ge He S c ρ σ G H → DqAll K G vs ds → vs.length = is.length → SR K Se Ge He S c (setAll is ds ρ) (setAllV is vs σ) G H
  | [], vs, ds, ρ, σ, sr, h, hl => by
    have e : vs = [] := List.eq_nil_of_length_eq_zero hl
    subst e
    cases h
    exact sr
  | i :: is, vs, ds, ρ, σ, sr, h, hl => by
    cases vs with
    | nil => cases hl
    | cons v vr =>
      cases h with
      | cons h1 h2 =>
        exact SR.setAll (is := is) (sr.putF h1) h2 (Nat.succ.inj hl)
/-- a target is stored -/
theorem SR.target {K : KW} {Se S : Option Addr} {c : Option Nat} {Ge He G H : Hp} {ρ ρ1 : Rho} {σ : L2.St} {is : List Nat} {one : Bool} {d : D} {v : V} {Q : L2.St → Hp → Prop} (sr : SR K Se Ge He S c ρ σ G H) (hd : Dq K G v d) (hb : bindT one is d ρ = some ρ1)
    (q : ∀ σ1, SR K Se Ge He S c ρ1 σ1 G H → (∃ vs, σ1 = setAllV is vs σ) → Q σ1 H) : gTg K is one v σ H Q := by
  unfold bindT at hb
  cases one with
  | true =>
    rw [if_pos rfl] at hb
    match is, hb, q with
    | [i], hb, q =>
      cases hb
      exact ⟨i, rfl, q _ (sr.putF hd) ⟨[v], rfl⟩⟩
    | [], hb, _ => cases hb
    | _ :: _ :: _, hb, _ => cases hb
  | false =>
    rw [if_neg Bool.false_ne_true] at hb
    cases d with
    | tuple ds =>
      simp only at hb
      split at hb
      · rename_i hl
        cases hb
        cases hd with
        | tup hs ha =>
          rename_i a xs
          have hlx : xs.length = is.length := (dpAll_length ha).trans hl
          exact .inl ⟨a, xs, rfl, same_sqT sr.sub hs, hlx, hlx, q _ (sr.setAll ha hlx) ⟨xs, rfl⟩⟩
      · cases hb
    | list ds =>
      simp only at hb
      split at hb
      · rename_i hl
        cases hb
        cases hd with
        | lst hs ha =>
          rename_i a xs
          have hlx : xs.length = is.length := (dpAll_length ha).trans hl
          exact .inr ⟨a, xs, rfl, sr.sub.seq hs, hlx, hlx, q _ (sr.setAll ha hlx) ⟨xs, rfl⟩⟩
      · cases hb
    | _ => cases hb
theorem SR.targetV {K : KW} {Se S : Option Addr} {c : Option Nat} {Ge He G H : Hp} {ρ ρ1 : Rho} {σ : L2.St} {is : List Nat} {d : D} {v : V} {Q : L2.St → Hp → Prop} (sr : SR K Se Ge He S c ρ σ G H) (hd : Vw K G H v d) (hb : bindT false is d ρ = some ρ1)
    (q : ∀ σ1, SR K Se Ge He S c ρ1 σ1 G H → (∃ vs, σ1 = setAllV is vs σ) → Q σ1 H) : gTg K is false v σ H Q := by
  unfold bindT at hb
  rw [if_neg Bool.false_ne_true] at hb
  cases d with
  | tuple ds =>
    simp only at hb
    split at hb
    · rename_i hl
      cases hb
      obtain ⟨a, xs, rfl, hs, ha⟩ := hd
      have hlx : xs.length = is.length := (dpAll_length ha).trans hl
      exact .inl ⟨a, xs, rfl, same_sqT sr.sub hs, hlx, hlx, q _ (sr.setAll ha hlx) ⟨xs, rfl⟩⟩
    · cases hb
  | list ds =>
    simp only at hb
    split at hb
    · rename_i hl
      cases hb
      obtain ⟨a, xs, rfl, hs, ha⟩ := hd
      have hlx : xs.length = is.length := (dpAll_length ha).trans hl
      exact .inr ⟨a, xs, rfl, hs, hlx, hlx, q _ (sr.setAll ha hlx) ⟨xs, rfl⟩⟩
    · cases hb
  | _ => cases hb
/-! ### comprehensions -/
theorem wipe_set {σ : L2.St} {i : Nat} {o : Option V} : ∀ {vs : List Nat}, i ∈ vs → wipe (σ.set i o) vs = wipe σ vs
  | [], h => by cases h
  | v :: vs, h => by
    show (wipe (σ.set i o) vs).set v none = (wipe σ vs).set v none
    by_cases hi : i ∈ vs
    · rw [wipe_set hi]
    · rcases List.mem_cons.mp h with rfl | h
      · have key : ∀ (ws : List Nat) (τ : L2.St), i ∉ ws → wipe (τ.set i o) ws = (wipe τ ws).set i o := by
          intro ws
          induction ws with
          | nil => intro τ _; rfl
          | cons w ws ih =>
            intro τ hn
            rw [List.mem_cons, not_or] at hn
            show (wipe (τ.set i o) ws).set w none = ((wipe τ ws).set w none).set i o
            rw [ih τ hn.2, List.set_comm _ _ hn.1]
        rw [key vs σ hi, List.set_set]
      · exact absurd h hi
theorem wipe_setAll : ∀ {is : List Nat} {vs : List V} {σ : L2.St} {ow : List Nat}, (∀ i ∈ is, i ∈ ow) → wipe (setAllV is vs σ) ow = wipe σ ow
  | [], _, _, _, _ => rfl
  | _ :: _, [], _, _, _ => rfl
  | i :: is, v :: vs, σ, ow, h => by
    show wipe (setAllV is vs (σ.set i (some v))) ow = _
    rw [wipe_setAll fun j hj => h j (List.mem_cons_of_mem _ hj), wipe_set (h i List.mem_cons_self)]
theorem wipe_wipe (σ : L2.St) (ow : List Nat) : wipe (wipe σ ow) ow = wipe σ ow := by
  have key : ∀ (ws : List Nat), (∀ i ∈ ws, i ∈ ow) → wipe (wipe σ ws) ow = wipe σ ow := by
    intro ws
    induction ws with
    | nil => intro _; rfl
    | cons w ws ih =>
      intro h
      show wipe ((wipe σ ws).set w none) ow = _
      rw [wipe_set (h w List.mem_cons_self), ih fun i hi => h i (List.mem_cons_of_mem _ hi)]
  exact key ow fun _ h => h
theorem SR.wipe {K : KW} {Se S : Option Addr} {c : Option Nat} {Ge He G H : Hp} {ρ : Rho} {σ : L2.St} (sr : SR K Se Ge He S c ρ σ G H) : ∀ ow : List Nat, SR K Se Ge He S c (wipeR ρ ow) (L2.wipe σ ow) G H
  | [] => sr
  | i :: ow => by
    have ih := sr.wipe ow
    refine ⟨ih.sub, ih.sta, ih.kp, ih.ss, by show ((L2.wipe σ ow).set i none).length = ((wipeR ρ ow).set i none).length; rw [List.length_set, List.length_set]; exact ih.len, fun j x e => ?_, fun j l d d' a h1 h2 h3 h4 => ?_⟩
    · obtain ⟨hj, e⟩ := set_none_cases e
      obtain ⟨v, e1, h⟩ := ih.slot j x e
      exact ⟨v, by show ((L2.wipe σ ow).set i none)[j]? = _; rw [List.getElem?_set_ne (Ne.symm hj)]; exact e1, h⟩
    · have h1' := set_none_cases h1
      have h2' := set_none_cases h2
      have e3 : (L2.wipe σ ow)[j]? = some (some (.ref a)) := by
        have : ((L2.wipe σ ow).set i none)[j]? = _ := h3
        rw [List.getElem?_set_ne (Ne.symm h1'.1)] at this
        exact this
      have e4 : (L2.wipe σ ow)[l]? = some (some (.ref a)) := by
        have : ((L2.wipe σ ow).set i none)[l]? = _ := h4
        rw [List.getElem?_set_ne (Ne.symm h2'.1)] at this
        exact this
      exact ih.inj j l d d' a h1'.2 h2'.2 e3 e4
def tTs (Φ : Tab) (K : KW) (Es : List Ex) : TT := fun σ H Q => ∃ Se Ge He S c ρ G, SR K Se Ge He S c ρ σ G H ∧ ∃ b c', evc Φ Es ρ c = some (b, c') ∧ ∀ G' H', Nxt S c' G H G' H' → Q b H'
theorem ts_nil : PTs X [] (tTs Φ X.KW []) := by
  refine ⟨fun pins s σ H Q I hw => ?_⟩
  obtain ⟨Se, Ge, He, S, c, ρ, G, sr, z, c', hev, q⟩ := hw
  simp only [evc] at hev
  cases hev
  exact pts_nil.run pins s σ H Q I (q _ _ (.refl sr.sub sr.sta))
theorem ts_one (ha : PT X a (tT Φ X.KW A)) : PTs X [a] (tTs Φ X.KW [A]) := by
  refine ⟨fun pins s σ H Q I hw => ?_⟩
  obtain ⟨Se, Ge, He, S, c, ρ, G, sr, z, c', hev, q⟩ := hw
  simp only [evc] at hev
  exact (pts_one ha).run pins s σ H Q I ⟨Se, Ge, He, S, c, ρ, G, sr, z, c', hev, q⟩
/-- a comprehension's turn -/
def turnM (Φ : Tab) (elt : Ex) (own tg : List Nat) (one : Bool) (cond : List Ex) (ρ : Rho) (d : D) : M (Option D) :=
  do
    let ρ1 ← ofO (bindT one tg d (wipeR ρ own))
    let t ← evc Φ cond ρ1
    if t then do let y ← ev Φ elt ρ1; let e ← y.kp; pure (some e) else pure none
theorem comp_ev {elt : Ex} {own tg : List Nat} {one : Bool} {ik : IK} {args cond : List Ex} {ρ : Rho} {c c' : Option Nat} {z : Sl} (h : ev Φ (.comp elt own tg one ik args cond) ρ c = some (z, c')) :
    ∃ ds c1 xs ys, evr Φ args ρ c = some (ds, c1) ∧ iterD ik ds = some xs ∧ turns (turnM Φ elt own tg one cond ρ) xs c1 = some (ys, c') ∧ z = .ow (.list ys) := by
  simp only [ev] at h
  replace h := M.bind_some h
  obtain ⟨ds, c1, h1, h⟩ := h
  replace h := M.bind_some h
  obtain ⟨xs, c2, h2, h⟩ := h
  obtain ⟨h3, h4⟩ := ofO_run h2
  simp only at h3 h4
  subst h4
  replace h := M.bind_some h
  obtain ⟨ys, c3, h5, h⟩ := h
  cases h
  exact ⟨ds, _, xs, ys, h1, h3, h5, rfl⟩
theorem turns_cons {f : D → M (Option D)} {d : D} {ds ys : List D} {c c' : Option Nat} (h : turns f (d :: ds) c = some (ys, c')) : ∃ o c1 r, f d c = some (o, c1) ∧ turns f ds c1 = some (r, c') ∧ ys = (match o with | some y => y :: r | none => r) := by
  simp only [turns] at h
  replace h := M.bind_some h
  obtain ⟨o, c1, h1, h⟩ := h
  replace h := M.bind_some h
  obtain ⟨r, c2, h2, h⟩ := h
  cases h
  exact ⟨o, c1, r, h1, h2, rfl⟩
/-- the state of a comprehension after i turns: its list at D -/
structure CS (K : KW) (Φ : Tab) (S : Option Addr) (c' : Option Nat) (f : D → M (Option D)) (xs ys : List D) (G1 H1 : Hp) (D : Addr) (i : Nat) (H : Hp) : Prop where
  ex : ∃ G c acc ds rest, Same G H ∧ Sta S c G H ∧ Kp S G1 H1 G H ∧ H D = some (.lst acc) ∧ G D = none ∧ DqAll K G acc ds ∧ acc.length ≤ i ∧ i ≤ xs.length ∧ turns f (xs.drop i) c = some (rest, c') ∧ ys = ds ++ rest
theorem e_comp {elt : Ex} {own tg : List Nat} {one : Bool} {ik : IK} {args cond : List Ex} {ex tx ix : Expr} {ifs : List Expr} {scope : Scope} {ow : List (Str × Nat)} (hc : X.calm = true) (hN : X.N.Nodup) (how : ow.map (·.2) = own) (htg : ∀ i ∈ tg, i ∈ own)
    (hi : PI X tx ix (iD X.KW ik (tAr Φ X.KW args))) (ok : BlkOk X.N X.env.scope scope ow)
    (hg : ∀ (s : Shared) (H : Hp) (C : Addr) (cl : List (Str × Addr)) (fp : List Addr), PG (X.blk s H scope (compEnvC scope cl C X.env) fp) tx (gTg X.KW tg one))
    (ht : ∀ (s : Shared) (H : Hp) (C : Addr) (cl : List (Str × Addr)) (fp : List Addr), PTs (X.blk s H scope (compEnvC scope cl C X.env) fp) ifs (tTs Φ X.KW cond))
    (he : ∀ (s : Shared) (H : Hp) (C : Addr) (cl : List (Str × Addr)) (fp : List Addr), PE (X.blk s H scope (compEnvC scope cl C X.env) fp) ex (tE Φ X.KW elt)) (hs : ∀ x, foldedSetIterable ix X.env x = pure x)
    {σ : L2.St} {H : Hp} {Q : VK} (hw : tE Φ X.KW (.comp elt own tg one ik args cond) σ H Q) : tLc (iD X.KW ik (tAr Φ X.KW args)) (gTg X.KW tg one) (tTs Φ X.KW cond) (tE Φ X.KW elt) (ow.map (·.2)) σ H Q := by
  obtain ⟨Se, Ge, He, S, c, ρ, G, sr, z, c', hev, q⟩ := hw
  obtain ⟨ds, c1, xs, ys, h1, h2, h3, rfl⟩ := comp_ev hev
  rw [how]
  refine ⟨Se, Ge, He, S, c, ρ, G, sr, ds, c1, h1, fun vs G1 H1 n1 hv => ⟨G1, ds, xs, n1.sub, hv G1 H1 .refl n1.sub, h2, fun J jd hsz D hD => ?_⟩⟩
  have hSD : S ≠ some D := sne n1.sta hD
  have sr1 := sr.step n1
  refine ⟨fun i m H => m = xs.length - i ∧ CS X.KW Φ S c' (turnM Φ elt own tg one cond ρ) xs ys G1 H1 D i H, ⟨xs.length, rfl, ?_⟩, ?_⟩
  · have n0 : Nxt S c1 G1 H1 G1 (upd H1 D (.lst [])) := .newO n1.sub n1.sta hD
    exact ⟨G1, c1, [], [], ys, n0.sub, n0.sta, n0.kp, upd_same, gne n1.sub hD, .nil, Nat.zero_le _, Nat.zero_le _, h3, rfl⟩
  · rintro i m H2 ⟨rfl, ⟨G2, c2, acc, as, rest, sm2, st2, kp2, hacc, hGD, hdq, hai, hix, htr, hys⟩⟩
    have hvw : VwA X.KW G2 H2 vs ds := hv G2 H2 kp2 sm2
    by_cases hlx : i < xs.length
    · refine .inr ⟨jd.go i G2 H2 sm2 hvw hlx, fun H' => CS X.KW Φ S c' (turnM Φ elt own tg one cond ρ) xs ys G1 H1 D (i + 1) H', fun H' h' => ⟨xs.length - (i + 1), by omega, rfl, h'⟩, fun x H3 y => ?_⟩
      obtain ⟨d, G3, hd, hn3, hdx⟩ := jd.yld i G2 H2 x H3 sm2 hvw y hlx
      have n3 := hn3 S c2 st2
      have hdrop : xs.drop i = d :: xs.drop (i + 1) := by
        obtain ⟨hl, e⟩ := List.getElem?_eq_some_iff.mp hd
        rw [List.drop_eq_getElem_cons hl, e]
      rw [hdrop] at htr
      obtain ⟨o, c4, r, hf, htr2, hrest⟩ := turns_cons htr
      unfold turnM at hf
      replace hf := M.bind_some hf
      obtain ⟨ρ1, c3, hb, hf⟩ := hf
      replace hb := ofO2 hb
      obtain ⟨hb, e3⟩ := hb
      subst e3
      · replace hf := M.bind_some hf
        obtain ⟨t, c5, h5, hf⟩ := hf
        have sr3 : SR X.KW Se Ge He S c3 (wipeR ρ own) (L2.wipe σ own) G3 H3 := by
          have s2 : SR X.KW Se Ge He S c3 ρ σ G2 H2 := sr1.step ⟨sm2, st2, kp2⟩
          exact (s2.step n3).wipe own
        refine sr3.target hdx hb fun σ1 sr4 hσ1 => ?_
        obtain ⟨ws, rfl⟩ := hσ1
        refine ⟨by rw [wipe_setAll htg, wipe_wipe], Se, Ge, He, S, _, ρ1, G3, sr4, t, c5, h5, fun G4 H4 n4 => ?_⟩
        cases t with
        | false =>
          rw [if_neg Bool.false_ne_true] at hf ⊢
          cases hf
          have n24 := n3.trans n4
          refine ⟨G4, _, acc, as, r, n4.sub, n4.sta, kp2.trans n24.kp, n24.kp.kh _ _ hSD hacc, (n24.kp.kn D (by rw [hacc]; exact fun z => nomatch z)).trans hGD, dpAll_mono n24.kp.kg _ hdq, by omega, by omega, htr2, by rw [hys, hrest]⟩
        | true =>
          rw [if_pos rfl] at hf ⊢
          replace hf := M.bind_some hf
          obtain ⟨y1, c6, h6, hf⟩ := hf
          replace hf := M.bind_some hf
          obtain ⟨e1, c7, h7, hf⟩ := hf
          obtain ⟨e7, _⟩ := Sl.kp_ok h7
          subst e7
          cases hf
          refine ⟨Se, Ge, He, S, c5, ρ1, G4, sr4.step n4, y1, _, h6, fun v5 G5 H5 n5 r5 => ?_⟩
          obtain ⟨G5', n5', hd5⟩ := r5.keep n5 h7
          have n25 := n3.trans (n4.trans n5')
          have hD5 : H5 D = some (.lst acc) := n25.kp.kh _ _ hSD hacc
          have hG5 : G5' D = none := (n25.kp.kn D (by rw [hacc]; exact fun z => nomatch z)).trans hGD
          refine ⟨acc, hD5, by omega, G5', _, acc ++ [v5], as ++ [e1], r, ?_, ?_, ?_, upd_same, hG5, dpAll_append (dpAll_mono n25.kp.kg _ hdq) (.cons hd5 .nil), by rw [List.length_append, List.length_singleton]; omega, by omega, htr2, by rw [hys, hrest]; simp⟩
          · intro b u eb
            rw [upd_ne (ne_of_none eb hG5)]
            exact n25.sub b u eb
          · have t5 := n25.sta
            cases S with
            | none =>
              cases c4 with
              | none => trivial
              | some n => exact t5.elim
            | some a =>
              obtain ⟨g1, n, rfl, g2⟩ := t5.out rfl
              have hne : a ≠ D := fun e => hSD (by rw [e])
              exact ⟨g1, by rw [upd_ne hne]; exact g2⟩
          · have kk := kp2.trans n25.kp
            refine ⟨fun b u nb eb => ?_, kk.kg, kk.kn, fun b hb => ?_⟩
            · rw [upd_ne (ne_of_none eb hD)]
              exact kk.kh b u nb eb
            · by_cases hbD : b = D
              · subst hbD; rw [upd_same]; exact fun z => nomatch z
              · rw [upd_ne hbD]; exact kk.dm b hb
    · have ei : i = xs.length := by omega
      subst ei
      rw [List.drop_length] at htr
      cases htr
      rw [List.append_nil] at hys
      subst hys
      refine .inl ⟨jd.stop _ G2 H2 sm2 hvw rfl, q _ G2 H2 ⟨sm2, st2, n1.kp.trans kp2⟩ ⟨D, rfl, ?_, hGD, hSD, acc, hacc, hdq⟩⟩
      cases hq : H D with
      | none => rfl
      | some o => exact absurd hD (n1.kp.dm D (by rw [hq]; exact fun z => nomatch z))
end
end SB
/-! Statements. -/
namespace SB
open PySem PySem.Spec PyProof.Rows L2

/-- what follows a statement -/
def Aft (K : KW) (Se : Option Addr) (Ge He : Hp) (c : Option Nat) (Dn : Ends) (G0 : Hp) : Fl → Prop
  | .nx ρ => ∀ S σ G H, SR K Se Ge He S c ρ σ G H → Same G0 G → Dn.nx σ H
  | .rt r => ∀ S v G H, Same G H → Sta S c G H → Kp Se Ge He G H → (Se = S ∨ (Se = none ∧ ∃ p, S = some p ∧ He p = none)) → RR K S He G H v r → Dn.rt v H
def tS (Φ : Tab) (K : KW) (st : SB.St) : TS := fun Dn σ H => ∃ Se Ge He S c ρ G, SR K Se Ge He S c ρ σ G H ∧ ∃ fl c', ex Φ st ρ c = some (fl, c') ∧ Aft K Se Ge He c' Dn G fl
def tSs (Φ : Tab) (K : KW) (ss : List SB.St) : TS := fun Dn σ H => ∃ Se Ge He S c ρ G, SR K Se Ge He S c ρ σ G H ∧ ∃ fl c', exs Φ ss ρ c = some (fl, c') ∧ Aft K Se Ge He c' Dn G fl
theorem Aft.after {K : KW} {Se : Option Addr} {Ge He : Hp} {c : Option Nat} {Dn : Ends} {G0 G1 : Hp} {fl : Fl} (q : Aft K Se Ge He c Dn G0 fl) (s : Same G0 G1) : Aft K Se Ge He c Dn G1 fl := by
  cases fl with
  | nx ρ => exact fun S σ G H sr h => q S σ G H sr (s.trans h)
  | rt r => exact q
section
variable {X : Cx} {Φ : Tab} {a b e : Expr} {A B E : Ex} {pos p : Pos} {k : Nat}
theorem slen {pins : List (Addr × Obj)} {σ : L2.St} {H : Hp} {s : Shared} (I : Inv X pins σ H s) {i : Nat} {x : Str} (hi : X.N[i]? = some x) : i < σ.length := by
  rw [I.len]
  exact (List.getElem?_eq_some_iff.mp hi).1
theorem SR.d0 {K : KW} {Se S : Option Addr} {c : Option Nat} {Ge He G H : Hp} {ρ : Rho} {σ : L2.St} (s : SR K Se Ge He S c ρ σ G H) : ∀ b, He b ≠ none → H b ≠ none := s.kp.dm
theorem s_asg {i : Nat} {x : Str} {te : TE} {p' : Pos} (h : PS X (.Assign [.Name x p'] e pos) (tAsg te (gName i))) (hte : ∀ σ H Q, tE Φ X.KW E σ H Q → te σ H Q) (hi : X.N[i]? = some x) : PS X (.Assign [.Name x p'] e pos) (tS Φ X.KW (.asg i E)) := by
  refine ⟨fun pins s σ H Dn I hw => ?_⟩
  obtain ⟨Se, Ge, He, S, c, ρ, G, sr, fl, c', hev, q⟩ := hw
  have hiσ := slen I hi
  simp only [ex] at hev
  replace hev := M.bind_some hev
  obtain ⟨r, c1, h1, hev⟩ := hev
  replace hev := M.bind_some hev
  obtain ⟨y, c2, h2, hev⟩ := hev
  replace h2 := ofO2 h2
  obtain ⟨h2, e2⟩ := h2
  subst e2
  cases hev
  refine h.run pins s σ H Dn I (hte σ H _ ⟨Se, Ge, He, S, c, ρ, G, sr, r, _, h1, fun v G1 H1 n1 r1 => ?_⟩)
  show Dn.nx (σ.set i (some v)) H1
  cases r with
  | fz d =>
    cases h2
    exact q _ _ _ _ ((sr.step n1).putF r1) n1.kp.kg
  | ow d =>
    cases h2
    exact q _ _ _ _ ((sr.step n1).putO sr.d0 (fun j e a h1 h2 => sr.there h1 h2) r1) n1.kp.kg
  | bw d => cases h2
  | st => cases h2
theorem s_mv {i j : Nat} {x y : Str} {p' p2 : Pos} (hN : X.N.Nodup) (hi : X.N[i]? = some x) (hx : Loc X.env.scope x) (hf : X.fn x = true ∨ X.env.scope.names.lookup x = some .local) (he : PE X (.Name y p2) (tVar j)) : PS X (.Assign [.Name x p'] (.Name y p2) pos) (tS Φ X.KW (.mv i j)) := by
  refine ⟨fun pins s σ H Dn I hw => ?_⟩
  obtain ⟨Se, Ge, He, S, c, ρ, G, sr, fl, c', hev, q⟩ := hw
  have hiσ := slen I hi
  simp only [ex] at hev
  replace hev := M.bind_some hev
  obtain ⟨z, c2, h2, hev⟩ := hev
  replace h2 := ofO2 h2
  obtain ⟨h2, e2⟩ := h2
  subst e2
  replace hev := M.bind_some hev
  obtain ⟨d, c3, h3, hev⟩ := hev
  replace h3 := ofO2 h3
  obtain ⟨h3, e3⟩ := h3
  subst e3
  cases hev
  have hj := slAt_some h2
  cases z with
  | ow d1 =>
    cases h3
    obtain ⟨v, e1, hv⟩ := sr.slot j _ hj
    refine (ps_set (i := i) hN hi hx he rfl hf).run pins s σ H Dn I ⟨v, e1, ?_⟩
    refine q _ _ _ _ ((sr.drop j).put hv fun d' _ l e b hl h1 h2 hvb => ?_) (Same.refl _)
    obtain ⟨hlj, h1⟩ := set_none_cases h1
    subst hvb
    exact hlj (sr.inj l j e d b h1 hj h2 e1)
  | _ => cases h3
theorem s_asgT {tg : Expr} {is : List Nat} (he : PE X e (tE Φ X.KW E)) (hg : PG X tg (gTg X.KW is false)) (hs : swapsWithSole [tg] e pos.line X.env = pure false) (hw : swappedStores [tg] e X.env = pure none)
    (h1 : (assignEach [tg] X.env).map (·.2) = [assign tg X.env]) : PS X (.Assign [tg] e pos) (tS Φ X.KW (.asgT is E)) := by
  refine ⟨fun pins s σ H Dn I hw' => ?_⟩
  obtain ⟨Se, Ge, He, S, c, ρ, G, sr, fl, c', hev, q⟩ := hw'
  simp only [ex] at hev
  replace hev := M.bind_some hev
  obtain ⟨r, c1, h2, hev⟩ := hev
  replace hev := M.bind_some hev
  obtain ⟨d, c2, h3, hev⟩ := hev
  have e3 := M.rd_some h3
  subst e3
  replace hev := M.bind_some hev
  obtain ⟨ρ1, c4, hb, hev⟩ := hev
  replace hb := ofO2 hb
  obtain ⟨hb, e4⟩ := hb
  subst e4
  · cases hev
    refine (ps_asg he hg hs hw h1).run pins s σ H Dn I ⟨Se, Ge, He, S, c, ρ, G, sr, r, _, h2, fun v G1 H1 n1 r1 => ?_⟩
    exact (sr.step n1).targetV (r1.vw n1.sub h3).1 hb fun σ1 s1 _ => q _ _ _ _ s1 n1.kp.kg
theorem keepS_ok {x y : Sl} (h : keepS x = some y) : x = y ∧ ∃ d, y = .fz d ∨ y = .ow d := by
  cases x with
  | fz d => cases h; exact ⟨rfl, d, .inl rfl⟩
  | ow d => cases h; exact ⟨rfl, d, .inr rfl⟩
  | _ => cases h
theorem evo2 {ρ : Rho} {c c' : Option Nat} {rs : List Sl} (h : evo Φ [A, B] ρ c = some (rs, c')) : ∃ x y c1, ev Φ A ρ c = some (x, c1) ∧ ev Φ B ρ c1 = some (y, c') ∧ rs = [x, y] ∧ (∃ d, x = .fz d ∨ x = .ow d) ∧ ∃ d, y = .fz d ∨ y = .ow d := by
  have one : ∀ {E : Ex} {es : List Ex} {c c' : Option Nat} {rs : List Sl}, evo Φ (E :: es) ρ c = some (rs, c') → ∃ x r c1, ev Φ E ρ c = some (x, c1) ∧ evo Φ es ρ c1 = some (r, c') ∧ rs = x :: r ∧ ∃ d, x = .fz d ∨ x = .ow d := by
    intro E es c c' rs h
    simp only [evo] at h
    replace h := M.bind_some h
    obtain ⟨x, c1, h1, h⟩ := h
    replace h := M.bind_some h
    obtain ⟨y, c2, h2, h⟩ := h
    replace h2 := ofO2 h2
    obtain ⟨h2, e2⟩ := h2
    subst e2
    obtain ⟨e3, hk⟩ := keepS_ok h2
    subst e3
    replace h := M.bind_some h
    obtain ⟨r, c3, h3, h⟩ := h
    cases h
    exact ⟨_, _, _, h1, h3, rfl, hk⟩
  obtain ⟨x, r, c1, h1, h2, rfl, k1⟩ := one h
  obtain ⟨y, r, c2, h3, h4, rfl, k2⟩ := one h2
  simp only [evo] at h4
  cases h4
  exact ⟨x, y, c1, h1, h3, rfl, k1, k2⟩
/-- a value that an expression has just given, stored -/
theorem SR.putR {K : KW} {Se S : Option Addr} {c : Option Nat} {Ge He G H H0 : Hp} {ρ : Rho} {σ : L2.St} {i : Nat} {v : V} {r : Sl} (s : SR K Se Ge He S c ρ σ G H) (hr : ∃ d, r = .fz d ∨ r = .ow d) (d0 : ∀ b, He b ≠ none → H0 b ≠ none)
    (d1 : ∀ (j : Nat) e a, ρ[j]? = some (some (.ow e)) → σ[j]? = some (some (.ref a)) → H0 a ≠ none) (h : RR K S H0 G H v r) : SR K Se Ge He S c (ρ.set i (some r)) (σ.set i (some v)) G H := by
  obtain ⟨d, rfl | rfl⟩ := hr
  · exact s.putF h
  · exact s.putO d0 d1 h
theorem s_par2 {i j : Nat} {x y : Str} {px py pt : Pos} {kt k2 : Nat} {pt2 : Pos} (hc : X.calm = true) (hN : X.N.Nodup) (hi : X.N[i]? = some x) (hj : X.N[j]? = some y) (hij : i ≠ j)
    (hx : X.env.scope.names.lookup x = some .local) (hy : X.env.scope.names.lookup y = some .local) (ha : PE X a (tE Φ X.KW A)) (hb : PE X b (tE Φ X.KW B)) (hs1 : starEach [a, b] X.env = (false, eval a X.env) :: starEach [b] X.env) (hs2 : starEach [b] X.env = (false, eval b X.env) :: starEach [] X.env)
    (hw : swappedStores [.Tuple [.Name x px, .Name y py] kt pt] (.Tuple [a, b] k2 pt2) X.env = pure (some [x, y])) :
    PS X (.Assign [.Tuple [.Name x px, .Name y py] kt pt] (.Tuple [a, b] k2 pt2) pos) (tS Φ X.KW (.par [i, j] [A, B])) := by
  refine ⟨fun pins s σ H Dn I hw' => ?_⟩
  obtain ⟨Se, Ge, He, S, c, ρ, G, sr, fl, c', hev, q⟩ := hw'
  have hiσ := slen I hi
  have hjσ := slen I hj
  simp only [ex] at hev
  replace hev := M.bind_some hev
  obtain ⟨rs, c1, h1, hev⟩ := hev
  obtain ⟨u, w, c2, h2, h3, rfl, k1, k2⟩ := evo2 h1
  cases hev
  refine (ps_par (i := i) (j := j) hc hN hi hj hij hx hy (pa_cons ha (pa_cons hb pa_nil hs2) hs1) hw rfl).run pins s σ H Dn I ⟨Se, Ge, He, S, c, ρ, G, sr, u, c2, h2, fun v1 G1 H1 n1 r1 => ⟨Se, Ge, He, S, c2, ρ, G1, sr.step n1, w, _, h3, fun v2 G2 H2 n2 r2 => ?_⟩⟩
  refine ⟨v1, v2, rfl, ?_⟩
  have s2 := (sr.step n1).step n2
  have r1' := r1.mono n2.kp
  have s3 := s2.putR (i := i) k1 sr.d0 (fun l e a g1 g2 => sr.there g1 g2) r1'
  refine q _ _ _ _ (s3.putR (i := j) k2 (fun b hb => (n1.kp.dm b (sr.d0 b hb))) (fun l e a g1 g2 => ?_) r2) (n1.trans n2).kp.kg
  rcases set_cases g1 with ⟨rfl, g3⟩ | ⟨hl, g3⟩
  · rw [List.getElem?_set_self hiσ] at g2
    cases g2
    subst g3
    obtain ⟨a', ea, _, _, _, ho⟩ := r1
    cases ea
    exact own_there ho
  · rw [List.getElem?_set_ne (Ne.symm hl)] at g2
    exact n1.kp.dm a (sr.there g3 g2)
theorem s_init {i : Nat} {x : Str} {p' p2 : Pos} (hN : X.N.Nodup) (hi : X.N[i]? = some x) (hx : Loc X.env.scope x) (hf : X.fn x = true ∨ X.env.scope.names.lookup x = some .local) : PS X (.Assign [.Name x p'] (.List [] p2) pos) (tS Φ X.KW (.init i)) := by
  refine ⟨fun pins s σ H Dn I hw => ?_⟩
  obtain ⟨Se, Ge, He, S, c, ρ, G, sr, fl, c', hev, q⟩ := hw
  have hiσ := slen I hi
  simp only [ex] at hev
  replace hev := M.bind_some hev
  obtain ⟨u, c1, h1, hev⟩ := hev
  cases c with
  | some n => cases h1
  | none =>
    cases h1
    cases hev
    have hS : S = none := by
      cases S with
      | none => rfl
      | some a => exact sr.sta.elim
    subst hS
    have hSe : Se = none := by
      rcases sr.ss with e | ⟨e, _⟩
      · exact e
      · exact e
    refine (ps_set (i := i) hN hi hx (pe_lst pa_nil) rfl hf).run pins s σ H Dn I ⟨Nat.zero_le _, fun p0 hp0 => ?_⟩
    have n0 : Nxt none none G H G (upd H p0 (.lst [])) := .newO sr.sub sr.sta hp0
    have hHe : He p0 = none := by
      cases hq : He p0 with
      | none => rfl
      | some o => exact absurd hp0 (sr.d0 p0 (by rw [hq]; exact fun z => nomatch z))
    have nep : ∀ {j : Nat} {e : D} {b : Addr}, ρ[j]? = some (some (.ow e)) → σ[j]? = some (some (.ref b)) → b ≠ p0 := fun {j e b} h1 h2 z => sr.there h1 h2 (by rw [z]; exact hp0)
    have s1 := sr.step n0
    refine q (some p0) _ G _ ⟨s1.sub, ⟨gne sr.sub hp0, upd_same⟩, s1.kp, .inr ⟨hSe, p0, rfl, hHe⟩, by rw [List.length_set, List.length_set]; exact s1.len, fun j z ez => ?_, fun j l d d' b g1 g2 g3 g4 => ?_⟩ (Same.refl _)
    · rcases set_cases ez with ⟨rfl, rfl⟩ | ⟨hj, ez⟩
      · exact ⟨_, List.getElem?_set_self hiσ, p0, rfl, rfl⟩
      · obtain ⟨v, e1, hv⟩ := s1.slot j z ez
        refine ⟨v, by rw [List.getElem?_set_ne (Ne.symm hj)]; exact e1, ?_⟩
        cases z with
        | fz d => exact hv
        | ow d =>
          obtain ⟨b, rfl, k0, kg, _, ko⟩ := hv
          exact ⟨b, rfl, k0, kg, fun z => nep ez e1 (Option.some.inj z).symm, ko⟩
        | bw d =>
          obtain ⟨b, rfl, k0, _, ko⟩ := hv
          exact ⟨b, rfl, k0, fun z => k0 (by rw [← Option.some.inj z]; exact hHe), ko⟩
        | st =>
          obtain ⟨b, e, _⟩ := hv
          cases e
    · rcases set_cases g1 with ⟨_, z⟩ | ⟨hj, g1⟩
      · cases z
      · rcases set_cases g2 with ⟨_, z⟩ | ⟨hl, g2⟩
        · cases z
        · rw [List.getElem?_set_ne (Ne.symm hj)] at g3
          rw [List.getElem?_set_ne (Ne.symm hl)] at g4
          exact s1.inj j l d d' b g1 g2 g3 g4
theorem s_aug {op : Operator} {i : Nat} {x : Str} {p' : Pos} (hop : op = .Add ∨ op = .Mult) (hN : X.N.Nodup) (hi : X.N[i]? = some x) (hx : Loc X.env.scope x) (hf : X.fn x = true ∨ X.env.scope.names.lookup x = some .local) (he : PE X e (tE Φ X.KW E)) :
    PS X (.AugAssign (.Name x p') op e pos) (tS Φ X.KW (.aug op i E)) := by
  refine ⟨fun pins s σ H Dn I hw => ?_⟩
  obtain ⟨Se, Ge, He, S, c, ρ, G, sr, fl, c', hev, q⟩ := hw
  have hiσ := slen I hi
  simp only [ex] at hev
  replace hev := M.bind_some hev
  obtain ⟨sl, c0, h0, hev⟩ := hev
  replace h0 := ofO2 h0
  obtain ⟨h0, e0⟩ := h0
  subst e0
  have hsl := slAt_some h0
  replace hev := M.bind_some hev
  obtain ⟨d, c1, h1, hev⟩ := hev
  replace hev := M.bind_some hev
  obtain ⟨y, c2, h2, hev⟩ := hev
  replace hev := M.bind_some hev
  obtain ⟨d2, c3, h3, hev⟩ := hev
  replace hev := M.bind_some hev
  obtain ⟨z, c4, h4, hev⟩ := hev
  have e1 := M.rd_some h1
  subst e1
  have e3 := M.rd_some h3
  subst e3
  obtain ⟨h5, h6⟩ := ofO2 h4
  subst h6
  cases hev
  have key : ∃ m n, d = .int m ∧ d2 = .int n ∧ binD op d d2 = some (.fz z) := by
    unfold augD at h5
    split at h5
    · rename_i m n w e3
      cases h5
      exact ⟨m, n, rfl, rfl, e3⟩
    · cases h5
  obtain ⟨m, n, rfl, rfl, h5⟩ := key
  obtain ⟨v, ev1, hv⟩ := sr.slot i sl hsl
  have hvi : v = .int m := by
    cases sl with
    | fz d => cases h1; cases hv; rfl
    | ow d => cases d <;> cases h1
    | bw d => cases d <;> cases h1
    | st => cases h1
  subst hvi
  rcases hop with rfl | rfl
  · simp only [binD, Option.some.injEq, Sl.fz.injEq] at h5
    subst h5
    refine (ps_aug (i := i) (op := .Add) hN hi hx he ip_add hf).run pins s σ H Dn I ⟨_, ev1, Se, Ge, He, S, _, ρ, G, sr, y, _, h2, fun v2 G2 H2 n2 r2 => ?_⟩
    exact ⟨m, n, rfl, (r2.vw n2.sub h3).1, q _ _ _ _ ((sr.step n2).putF (.int _)) n2.kp.kg⟩
  · simp only [binD] at h5
    split at h5
    · rename_i hz
      simp only [Option.some.injEq, Sl.fz.injEq] at h5
      subst h5
      refine (ps_aug (i := i) (op := .Mult) hN hi hx he (fun pins s σ H x y v u Q => iop_mul pins s σ H x y v u Q) hf).run pins s σ H Dn I ⟨_, ev1, Se, Ge, He, S, _, ρ, G, sr, y, _, h2, fun v2 G2 H2 n2 r2 => ?_⟩
      exact ⟨m, n, rfl, (r2.vw n2.sub h3).1, hz, q _ _ _ _ ((sr.step n2).putF (.int _)) n2.kp.kg⟩
    · cases h5
/-! ### the lists of a def -/
theorem own_lst {K : KW} {Se S : Option Addr} {c : Option Nat} {Ge He G H : Hp} {ρ : Rho} {σ : L2.St} {i : Nat} {ds : List D} (s : SR K Se Ge He S c ρ σ G H) (h : ρ[i]? = some (some (.ow (.list ds)))) : ∃ a vs, σ[i]? = some (some (.ref a)) ∧ H a = some (.lst vs) ∧ DqAll K G vs ds := by
  obtain ⟨v, e1, a, rfl, _, _, _, vs, ho, hd⟩ := s.slot i _ h
  exact ⟨a, vs, e1, ho, hd⟩
/-- the object of a slot as it stands later -/
theorem lst_at {K : KW} {Se S : Option Addr} {c : Option Nat} {Ge He G H : Hp} {ρ : Rho} {σ : L2.St} {i : Nat} {a : Addr} {ds : List D} (s : SR K Se Ge He S c ρ σ G H) (h : ρ[i]? = some (some (.ow (.list ds)))) (ha : σ[i]? = some (some (.ref a))) : ∃ vs, H a = some (.lst vs) ∧ DqAll K G vs ds := by
  obtain ⟨a', vs, e1, ho, hd⟩ := own_lst s h
  rw [ha] at e1
  cases e1
  exact ⟨vs, ho, hd⟩
theorem slot_st {K : KW} {Se S : Option Addr} {c : Option Nat} {Ge He G H : Hp} {ρ : Rho} {σ : L2.St} {i : Nat} (s : SR K Se Ge He S c ρ σ G H) (h : ρ[i]? = some (some .st)) : ∃ a n, S = some a ∧ σ[i]? = some (some (.ref a)) ∧ c = some n ∧ H a = some (.lst (List.replicate n (.int 0))) := by
  obtain ⟨v, e1, a, rfl, rfl⟩ := s.slot i _ h
  obtain ⟨_, n, rfl, h2⟩ := s.sta.out rfl
  exact ⟨a, n, rfl, e1, rfl, h2⟩
theorem replicate_snoc (n : Nat) : List.replicate n (V.int 0) ++ [V.int 0] = List.replicate (n + 1) (V.int 0) := by
  rw [List.replicate_succ']
/-- one draw more -/
theorem SR.tick {K : KW} {Se : Option Addr} {a : Addr} {n : Nat} {Ge He G H : Hp} {ρ : Rho} {σ : L2.St} (s : SR K Se Ge He (some a) (some n) ρ σ G H) : SR K Se Ge He (some a) (some (n + 1)) ρ σ G (upd H a (.lst (List.replicate (n + 1) (.int 0)))) := by
  obtain ⟨ga, ha⟩ : G a = none ∧ H a = some (.lst (List.replicate n (.int 0))) := s.sta
  have nx : Nxt (some a) (some (n + 1)) G H G (upd H a (.lst (List.replicate (n + 1) (.int 0)))) := by
    refine ⟨fun b u e => ?_, ⟨ga, upd_same⟩, fun b u nb e => ?_, Same.refl _, fun _ _ => rfl, fun b hb => ?_⟩
    · rw [upd_ne (ne_of_none e ga)]; exact s.sub b u e
    · have : b ≠ a := fun z => nb (by rw [z])
      rw [upd_ne this]; exact e
    · by_cases hba : b = a
      · subst hba; rw [upd_same]; exact fun z => nomatch z
      · rw [upd_ne hba]; exact hb
  exact s.step nx
theorem owL_some {ρ : Rho} {i : Nat} {ds : List D} (h : owL ρ i = some ds) : ρ[i]? = some (some (.ow (.list ds))) := by
  unfold owL at h
  cases q : slAt ρ i with
  | none => rw [q] at h; cases h
  | some s =>
    rw [q] at h
    cases s with
    | ow d =>
      have e := lstOf_some (show lstOf d = some ds from h)
      subst e
      exact slAt_some q
    | _ => cases h
theorem s_app {i : Nat} {o : Expr} {apos p2 : Pos} (hN : X.N.Nodup) (ho : PE X o (tVar i)) (he : PE X e (tE Φ X.KW E)) (hbase : attributeBase o "append" X.env (eval o X.env) = eval o X.env) (hline : (apos.endLine == p2.line) = true) (hs : starEach [e] X.env = (false, eval e X.env) :: starEach [] X.env) :
    PS X (.Expr (.Call (.Attribute o "append" apos) [e] [] p2) pos) (tS Φ X.KW (.app i E)) := by
  have hfew : ((backTo p2 (starEach [e] X.env)).all (fun x => !x.1) && (backToKw p2 (keywordEach [] X.env)).all (fun x => x.1.isSome) && decide ([e].length + ([] : List Keyword).length + (if ([] : List Keyword).isEmpty then 0 else 1) < 30)) = true := by
    rw [hs]; rfl
  have pe := pe_bm (X := X) (apos := apos) (cpos := p2) PySem.F.plainAttrs_list PySem.F.slot_list_append PySem.F.type_list_append mt_append ho (pa_cons he pa_nil hs) hbase hfew hline hs rfl
  refine ⟨fun pins s σ H Dn I hw => ?_⟩
  obtain ⟨Se, Ge, He, S, c, ρ, G, sr, fl, c', hev, q⟩ := hw
  simp only [ex] at hev
  replace hev := M.bind_some hev
  obtain ⟨x, c1, h1, hev⟩ := hev
  replace hev := M.bind_some hev
  obtain ⟨d, c2, h2, hev⟩ := hev
  obtain ⟨e2, _⟩ := Sl.kp_ok h2
  subst e2
  replace hev := M.bind_some hev
  obtain ⟨sl, c0, h0, hev⟩ := hev
  replace h0 := ofO2 h0
  obtain ⟨h0, e0⟩ := h0
  subst e0
  have hi := slAt_some h0
  replace hev := M.bind_some hev
  obtain ⟨kk, c3, h3, hev⟩ := hev
  replace h3 := ofO2 h3
  obtain ⟨h3, e3⟩ := h3
  subst e3
  replace hev := M.bind_some hev
  obtain ⟨ρ', c4, h4, hev⟩ := hev
  cases hev
  cases kk with
  | some ds =>
    have e5 : sl = .ow (.list ds) := by
      cases sl with
      | ow d =>
        cases d with
        | list xs => cases h3; rfl
        | _ => cases h3
      | _ => cases h3
    subst e5
    unfold appTo at h4
    simp only at h4
    split at h4
    · rename_i hz
      cases h4
      obtain ⟨a, vs, ea, ha, hd⟩ := own_lst sr hi
      refine (ps_expr pe rfl).run pins s σ H Dn I ⟨.ref a, ea, .inl ⟨rfl, vs, .inl (.inl ha)⟩, Se, Ge, He, S, c, ρ, G, sr, x, _, h1, fun v G1 H1 n1 r1 => ?_⟩
      obtain ⟨G1', n1', hd1⟩ := r1.keep n1 h2
      have s1 := sr.step n1'
      obtain ⟨vs1, ha1, hdq1⟩ := lst_at s1 hi ea
      refine ⟨a, vs1, v, rfl, rfl, ha1, by rw [dpAll_length hdq1]; exact hz, ?_⟩
      exact q _ _ _ _ (s1.chg hi ea ⟨_, upd_same, dpAll_append hdq1 (.cons hd1 .nil)⟩) n1'.kp.kg
    · cases h4
  | none =>
    have e5 : sl = .st := by
      cases sl with
      | st => rfl
      | ow d =>
        cases d with
        | list xs => cases h3
        | _ => cases h3
      | _ => cases h3
    subst e5
    unfold appTo at h4
    replace h4 := M.bind_some h4
    obtain ⟨j, c5, h5, h4⟩ := h4
    replace h5 := ofO2 h5
    obtain ⟨h5, e6⟩ := h5
    subst e6
    have e7 := intOf_some h5
    subst e7
    split at h4
    · rename_i hj0
      subst hj0
      replace h4 := M.bind_some h4
      obtain ⟨t, c3, h3, h4⟩ := h4
      cases h4
      obtain ⟨a, n, rfl, ea, hc, ha⟩ := slot_st sr hi
      refine (ps_expr pe rfl).run pins s σ H Dn I ⟨.ref a, ea, .inl ⟨rfl, _, .inl (.inl ha)⟩, Se, Ge, He, some a, c, ρ, G, sr, x, _, h1, fun v G1 H1 n1 r1 => ?_⟩
      obtain ⟨G1', n1', hd1⟩ := r1.keep n1 h2
      have s1 := sr.step n1'
      obtain ⟨_, n2, hc2, ha2⟩ := n1'.sta.out rfl
      subst hc2
      unfold tickM at h3
      simp only at h3
      split at h3
      · rename_i hlt
        cases h3
        cases hd1
        refine ⟨a, _, .int 0, rfl, rfl, ha2, ?_, ?_⟩
        · rw [List.length_replicate, sizeLine_eq]; omega
        · rw [replicate_snoc]
          exact q _ _ _ _ s1.tick n1'.kp.kg
      · cases h3
    · cases h4
theorem list_extendW (l : Addr) (items : Array Value) (n : Nat) (b : Addr) (items2 : Array Value) (n2 : Nat) (od2 : Option Addr) (osl2 : Array (Option Value)) (hc0 : ¬(!items.isEmpty && Builtin.List.listTooLong (items.size + items2.size)) = true) (hc1 : items.size ≤ sizeLine) (hs2 : items.size + items2.size ≤ sizeLine + 1) :
    Meets (Builtin.«list.extend» ⟨[.ref l, .ref b], []⟩) (fun _ R s => s.heap.get? l = some { cls := .type "list", dict := none, data := .seq items n, slots := #[] } ∧ s.heap.get? b = some { cls := .type "list", dict := od2, data := .seq items2 n2, slots := osl2 } ∧ R (.ok (.ret Value.none)) { s with heap := s.heap.update l (Obj.mapSeq fun x => x ++ items2), toks := s.toks }) :=
  .of_wp fun prog w A R s h => by
    obtain ⟨hp, g, d, tk, os⟩ := s; obtain ⟨hl, hb, h⟩ := h; have f1 := AutoSeq1.idx_int; have f2 := AutoSeq1.sub_tuple_tuple; have f3 := AutoSeq1.sub_list_list; have f4 := AutoSeq1.sub_tuple_list; have f5 := AutoSeq1.sub_list_tuple;
    have hz' : (items ++ items2).size ≤ sizeLine + 1 := by rw [Array.size_append]; exact hs2
    wp_walk using (wpAny_updateSeq hl rfl (hz := hc1) (_hz' := hz')), AutoSeq1.wpAny_loadPart' hl, AutoSeq1.wpAny_loadPart' hb; exact ⟨_, rfl, h⟩
/-- list.extend of any list -/
def rExtR (K : KW) : V → List V → Hp → VK → Prop := fun x vs H Q => ∃ l b xs zs, x = .ref l ∧ vs = [.ref b] ∧ H l = some (.lst xs) ∧ SqL K H b zs ∧ xs.length + zs.length ≤ sizeLine ∧ Q .non (upd H l (.lst (xs ++ zs)))
theorem mt_extR : MtR X "list.extend" (rExtR X.KW) := by
  intro pins s σ H x vs v us Q I rx rv h
  obtain ⟨l, b, xs, zs, rfl, rfl, hH, hB, hz, q⟩ := h
  cases rx
  obtain ⟨u, rfl, ru⟩ := rv.one
  cases ru
  obtain ⟨z, its, n, r, hl, e⟩ := I.lstM hH
  obtain ⟨its2, n2, od2, osl2, r2, hl2, e2⟩ := sq_lst I hB
  have hsz : its.toArray.size + its2.toArray.size ≤ sizeLine := by rw [List.size_toArray, List.size_toArray]; omega
  have hlong : ¬ (!its.toArray.isEmpty && Builtin.List.listTooLong (its.toArray.size + its2.toArray.size)) = true := by
    rw [notLongL hsz, Bool.and_false]
    exact Bool.false_ne_true
  refine call_meets F.slot_list_extend ⟨_, e, rfl⟩ F.entry_list_extend (F.args_list_extend_2 _ _)
    (list_extendW l its.toArray n b its2.toArray n2 od2 osl2 hlong (by rw [List.size_toArray]; omega) (by omega)) ⟨e, e2, ?_⟩
  refine ⟨.non, _, I.lset (its' := its ++ its2) hH e (by simp) (r.append r2) ?_, rfl, q⟩
  rw [List.length_append]
  omega
theorem owOf_some {x : Sl} {d : D} (h : owOf x = some d) : x = .ow d := by
  cases x with
  | ow e => cases h; rfl
  | _ => cases h
theorem s_ext {i : Nat} {o : Expr} {apos p2 : Pos} (hN : X.N.Nodup) (ho : PE X o (tVar i)) (he : PE X e (tE Φ X.KW E)) (hbase : attributeBase o "extend" X.env (eval o X.env) = eval o X.env) (hline : (apos.endLine == p2.line) = true) (hs : starEach [e] X.env = (false, eval e X.env) :: starEach [] X.env) :
    PS X (.Expr (.Call (.Attribute o "extend" apos) [e] [] p2) pos) (tS Φ X.KW (.ext i E)) := by
  have hfew : ((backTo p2 (starEach [e] X.env)).all (fun x => !x.1) && (backToKw p2 (keywordEach [] X.env)).all (fun x => x.1.isSome) && decide ([e].length + ([] : List Keyword).length + (if ([] : List Keyword).isEmpty then 0 else 1) < 30)) = true := by
    rw [hs]; rfl
  have pe := pe_bm (X := X) (apos := apos) (cpos := p2) PySem.F.plainAttrs_list PySem.F.slot_list_extend PySem.F.type_list_extend mt_extR ho (pa_cons he pa_nil hs) hbase hfew hline hs rfl
  refine ⟨fun pins s σ H Dn I hw => ?_⟩
  obtain ⟨Se, Ge, He, S, c, ρ, G, sr, fl, c', hev, q⟩ := hw
  simp only [ex] at hev
  replace hev := M.bind_some hev
  obtain ⟨x, c1, h1, hev⟩ := hev
  replace hev := M.bind_some hev
  obtain ⟨d, c2, h2, hev⟩ := hev
  have e2 := M.rd_some h2
  subst e2
  replace hev := M.bind_some hev
  obtain ⟨es, c3, h3, hev⟩ := hev
  replace h3 := ofO2 h3
  obtain ⟨h3, e3⟩ := h3
  subst e3
  have e4 := lstOf_some h3
  subst e4
  replace hev := M.bind_some hev
  obtain ⟨ds, c5, h5, hev⟩ := hev
  replace h5 := ofO2 h5
  obtain ⟨h5, e5⟩ := h5
  subst e5
  have hi := owL_some h5
  · split at hev
    · rename_i hz
      cases hev
      obtain ⟨a, vs, ea, ha, hd⟩ := own_lst sr hi
      refine (ps_expr pe rfl).run pins s σ H Dn I ⟨.ref a, ea, .inl ⟨rfl, vs, .inl (.inl ha)⟩, Se, Ge, He, S, c, ρ, G, sr, _, _, h1, fun v G1 H1 n1 r1 => ?_⟩
      have s1 := sr.step n1
      obtain ⟨vs1, ha1, hdq1⟩ := lst_at s1 hi ea
      obtain ⟨b, ws, rfl, hb, hdb⟩ := (r1.vw n1.sub h2).1
      refine ⟨a, b, vs1, ws, rfl, rfl, ha1, hb, by rw [dpAll_length hdq1, dpAll_length hdb]; exact hz, ?_⟩
      exact q _ _ _ _ (s1.chg hi ea ⟨_, upd_same, dpAll_append hdq1 hdb⟩) n1.kp.kg
    · cases hev
theorem s_popA {i j : Nat} {x : Str} {o : Expr} {apos p2 p' : Pos} (hN : X.N.Nodup) (hi : X.N[i]? = some x) (hx : Loc X.env.scope x) (hf : X.fn x = true ∨ X.env.scope.names.lookup x = some .local) (ho : PE X o (tVar j)) (hbase : attributeBase o "pop" X.env (eval o X.env) = eval o X.env) (hline : (apos.endLine == p2.line) = true) (hij : i ≠ j) :
    PS X (.Assign [.Name x p'] (.Call (.Attribute o "pop" apos) [] [] p2) pos) (tS Φ X.KW (.popA i j)) := by
  have pe := pe_bm0 (X := X) (apos := apos) (cpos := p2) PySem.F.plainAttrs_list PySem.F.slot_list_pop PySem.F.type_list_pop mt_pop ho hbase hline
  refine ⟨fun pins s σ H Dn I hw => ?_⟩
  obtain ⟨Se, Ge, He, S, c, ρ, G, sr, fl, c', hev, q⟩ := hw
  have hiσ := slen I hi
  simp only [ex] at hev
  replace hev := M.bind_some hev
  obtain ⟨ds, c3, h3, hev⟩ := hev
  replace h3 := ofO2 h3
  obtain ⟨h3, e3⟩ := h3
  subst e3
  have hj := owL_some h3
  replace hev := M.bind_some hev
  obtain ⟨d, c4, hd0, hev⟩ := hev
  replace hd0 := ofO2 hd0
  obtain ⟨hd0, e4⟩ := hd0
  subst e4
  · · cases hev
      obtain ⟨a, vs, ea, ha, hd⟩ := own_lst sr hj
      have hlast : ds[ds.length - 1]? = some d := by rw [← List.getLast?_eq_getElem?]; exact hd0
      obtain ⟨v, hv, hdv⟩ := dpAll_get hd hlast
      refine (ps_set (i := i) hN hi hx pe rfl hf).run pins s σ H Dn I ⟨.ref a, ea, .inl ⟨rfl, vs, .inl (.inl ha)⟩, a, vs, v, rfl, rfl, ha, by rw [dpAll_length hd]; exact hv, ?_⟩
      have s1 := sr.chg (o := .lst vs.dropLast) (d' := .list ds.dropLast) hj ea ⟨_, upd_same, dpAll_dropLast hd⟩
      exact q _ _ _ _ (s1.putF hdv) (Same.refl _)
theorem s_appPop {i j : Nat} {o o2 : Expr} {apos p2 apos2 p3 : Pos} (hN : X.N.Nodup) (ho : PE X o (tVar i)) (ho2 : PE X o2 (tVar j)) (he : PE X e (tE Φ X.KW E)) (hb1 : attributeBase o "append" X.env (eval o X.env) = eval o X.env) (hl1 : (apos.endLine == p2.line) = true)
    (hb2 : attributeBase o2 "pop" X.env (eval o2 X.env) = eval o2 X.env) (hl2 : (apos2.endLine == p3.line) = true) (hs : starEach [e] X.env = (false, eval e X.env) :: starEach [] X.env) :
    PS X (.Expr (.Call (.Attribute o "append" apos) [.Call (.Attribute o2 "pop" apos2) [e] [] p3] [] p2) pos) (tS Φ X.KW (.appPop i j E)) := by
  have hfew : ((backTo p3 (starEach [e] X.env)).all (fun x => !x.1) && (backToKw p3 (keywordEach [] X.env)).all (fun x => x.1.isSome) && decide ([e].length + ([] : List Keyword).length + (if ([] : List Keyword).isEmpty then 0 else 1) < 30)) = true := by
    rw [hs]; rfl
  have pop := pe_bm (X := X) (apos := apos2) (cpos := p3) PySem.F.plainAttrs_list PySem.F.slot_list_pop PySem.F.type_list_pop mt_popAt ho2 (pa_cons he pa_nil hs) hb2 hfew hl2 hs rfl
  have pe := pe_bm (X := X) (apos := apos) (cpos := p2) PySem.F.plainAttrs_list PySem.F.slot_list_append PySem.F.type_list_append mt_append ho (pa_cons pop pa_nil rfl) hb1 rfl hl1 rfl rfl
  refine ⟨fun pins s σ H Dn I hw => ?_⟩
  obtain ⟨Se, Ge, He, S, c, ρ, G, sr, fl, c', hev, q⟩ := hw
  simp only [ex] at hev
  replace hev := M.bind_some hev
  obtain ⟨x, c1, h1, hev⟩ := hev
  replace hev := M.bind_some hev
  obtain ⟨d, c2, h2, hev⟩ := hev
  have e2 := M.rd_some h2
  subst e2
  replace hev := M.bind_some hev
  obtain ⟨kk, c3, h3, hev⟩ := hev
  replace h3 := ofO2 h3
  obtain ⟨h3, e3⟩ := h3
  subst e3
  have e4 := intOf_some h3
  subst e4
  replace hev := M.bind_some hev
  obtain ⟨xs, c5, h5, hev⟩ := hev
  replace h5 := ofO2 h5
  obtain ⟨h5, e5⟩ := h5
  subst e5
  have hi := owL_some h5
  replace hev := M.bind_some hev
  obtain ⟨ys, c6, h6, hev⟩ := hev
  replace h6 := ofO2 h6
  obtain ⟨h6, e6⟩ := h6
  subst e6
  have hj := owL_some h6
  replace hev := M.bind_some hev
  obtain ⟨y, c7, hy, hev⟩ := hev
  replace hy := ofO2 hy
  obtain ⟨hy, e7⟩ := hy
  subst e7
  · · split at hev
      · rename_i hz
        obtain ⟨z1, z2, z3, z4⟩ := hz
        cases hev
        obtain ⟨a, vs, ea, ha, hd⟩ := own_lst sr hi
        obtain ⟨b, ws, eb, hb, hdb⟩ := own_lst sr hj
        refine (ps_expr pe rfl).run pins s σ H Dn I ⟨.ref a, ea, .inl ⟨rfl, vs, .inl (.inl ha)⟩, ?_⟩
        show tBM X.KW "list" rPopAt (tVar j) (tCons (tE Φ X.KW E) tNil) σ H _
        refine ⟨.ref b, eb, .inl ⟨rfl, ws, .inl (.inl hb)⟩, Se, Ge, He, S, c, ρ, G, sr, x, _, h1, fun v G1 H1 n1 r1 => ?_⟩
        have s1 := sr.step n1
        obtain ⟨vs1, ha1, hdq1⟩ := lst_at s1 hi ea
        obtain ⟨ws1, hb1', hdb1⟩ := lst_at s1 hj eb
        have ev1 : v = .int kk := (r1.vw n1.sub h2).1
        subst ev1
        obtain ⟨w, hw, hdw⟩ := dpAll_get hdb1 hy
        have hkl : kk.toNat < ws1.length := (List.getElem?_eq_some_iff.mp hw).1
        refine ⟨b, ws1, kk, kk.toNat, w, rfl, rfl, hb1', by omega, by omega, seqIndex_of z1 (by omega), hw, ?_⟩
        have hab : a ≠ b := fun q => z3 (s1.inj i j _ _ a hi hj ea (by rw [eb, q]))
        have s2 := s1.chg (o := .lst (ws1.eraseIdx kk.toNat)) (d' := .list (ys.eraseIdx kk.toNat)) hj eb ⟨_, upd_same, dpAll_erase _ hdb1⟩
        have hi2 : (ρ.set j (some (.ow (.list (ys.eraseIdx kk.toNat)))))[i]? = some (some (.ow (.list xs))) := by
          rw [List.getElem?_set_ne (Ne.symm z3)]; exact hi
        refine ⟨a, vs1, w, rfl, rfl, by rw [upd_ne hab]; exact ha1, by rw [dpAll_length hdq1]; exact z4, ?_⟩
        exact q _ _ _ _ (s2.chg hi2 ea ⟨_, upd_same, dpAll_append hdq1 (.cons hdw .nil)⟩) n1.kp.kg
      · cases hev
theorem s_expr (he : PE X e (tE Φ X.KW E)) (hs : swapsWith e none pos.line X.env = pure false) : PS X (.Expr e pos) (tS Φ X.KW (.expr E)) := by
  refine ⟨fun pins s σ H Dn I hw => ?_⟩
  obtain ⟨Se, Ge, He, S, c, ρ, G, sr, fl, c', hev, q⟩ := hw
  simp only [ex] at hev
  replace hev := M.bind_some hev
  obtain ⟨x, c1, h1, hev⟩ := hev
  cases hev
  exact (ps_expr he hs).run pins s σ H Dn I ⟨Se, Ge, He, S, c, ρ, G, sr, x, _, h1, fun v G1 H1 n1 r1 => q _ _ _ _ (sr.step n1) n1.kp.kg⟩
theorem s_ret (he : PE X e (tE Φ X.KW E)) : PS X (.Return (some e) pos) (tS Φ X.KW (.ret E)) := by
  refine ⟨fun pins s σ H Dn I hw => ?_⟩
  obtain ⟨Se, Ge, He, S, c, ρ, G, sr, fl, c', hev, q⟩ := hw
  simp only [ex] at hev
  replace hev := M.bind_some hev
  obtain ⟨x, c1, h1, hev⟩ := hev
  replace hev := M.bind_some hev
  obtain ⟨y, c2, h2, hev⟩ := hev
  replace h2 := ofO2 h2
  obtain ⟨h2, e2⟩ := h2
  subst e2
  obtain ⟨e3, _⟩ := keepS_ok h2
  subst e3
  cases hev
  refine (ps_ret he).run pins s σ H Dn I ⟨Se, Ge, He, S, c, ρ, G, sr, x, _, h1, fun v G1 H1 n1 r1 => ?_⟩
  have s1 := sr.step n1
  exact q S v G1 H1 s1.sub s1.sta s1.kp s1.ss (r1.base sr.d0)
theorem s_retv {i : Nat} (he : PE X e (tVar i)) : PS X (.Return (some e) pos) (tS Φ X.KW (.retv i)) := by
  refine ⟨fun pins s σ H Dn I hw => ?_⟩
  obtain ⟨Se, Ge, He, S, c, ρ, G, sr, fl, c', hev, q⟩ := hw
  simp only [ex] at hev
  replace hev := M.bind_some hev
  obtain ⟨x, c1, h1, hev⟩ := hev
  replace h1 := ofO2 h1
  obtain ⟨h1, e1⟩ := h1
  subst e1
  replace hev := M.bind_some hev
  obtain ⟨y, c2, h2, hev⟩ := hev
  replace h2 := ofO2 h2
  obtain ⟨h2, e2⟩ := h2
  subst e2
  obtain ⟨e3, hk⟩ := keepS_ok h2
  subst e3
  cases hev
  obtain ⟨v, e1, hv⟩ := sr.slot i _ (slAt_some h1)
  refine (ps_ret he).run pins s σ H Dn I ⟨v, e1, q S v G H sr.sub sr.sta sr.kp sr.ss ?_⟩
  obtain ⟨d, rfl | rfl⟩ := hk
  · exact hv
  · exact hv
theorem s_pass : PS X (.Pass pos) (tS Φ X.KW .pass) := by
  refine ⟨fun pins s σ H Dn I hw => ?_⟩
  obtain ⟨Se, Ge, He, S, c, ρ, G, sr, fl, c', hev, q⟩ := hw
  simp only [ex] at hev
  cases hev
  exact ps_pass.run pins s σ H Dn I (q _ _ _ _ sr (Same.refl _))
theorem s_never {st : Stmt} : PS X st (tS Φ X.KW .never) := by
  refine ⟨fun pins s σ H Dn I hw => ?_⟩
  obtain ⟨Se, Ge, He, S, c, ρ, G, sr, fl, c', hev, q⟩ := hw
  simp only [ex] at hev
  cases hev
theorem s_if {cx : Expr} {C : Ex} {sa sb : List Stmt} {As Bs : List SB.St} (hc : PT X cx (tT Φ X.KW C)) (ha : PSs X sa (tSs Φ X.KW As)) (hb : PSs X sb (tSs Φ X.KW Bs)) : PS X (.If cx sa sb pos) (tS Φ X.KW (.ifs C As Bs)) := by
  refine ⟨fun pins s σ H Dn I hw => ?_⟩
  obtain ⟨Se, Ge, He, S, c, ρ, G, sr, fl, c', hev, q⟩ := hw
  simp only [ex] at hev
  replace hev := M.bind_some hev
  obtain ⟨x, c1, h1, hev⟩ := hev
  replace hev := M.bind_some hev
  obtain ⟨d, c2, h2, hev⟩ := hev
  replace hev := M.bind_some hev
  obtain ⟨t, c3, h3, hev⟩ := hev
  have e2 := M.rd_some h2
  subst e2
  obtain ⟨rfl, e3⟩ := M.asB_some h3
  subst e3
  refine (ps_if hc ha hb).run pins s σ H Dn I ⟨Se, Ge, He, S, c, ρ, G, sr, t, _, t_run h1 h2, fun G1 H1 n1 => ?_⟩
  cases t with
  | true =>
    rw [if_pos rfl] at hev ⊢
    exact ⟨Se, Ge, He, S, _, ρ, G1, sr.step n1, fl, _, hev, q.after n1.kp.kg⟩
  | false =>
    rw [if_neg Bool.false_ne_true] at hev ⊢
    exact ⟨Se, Ge, He, S, _, ρ, G1, sr.step n1, fl, _, hev, q.after n1.kp.kg⟩
theorem ss_nil : PSs X [] (tSs Φ X.KW []) := by
  refine ⟨fun pins s σ H Dn I hw => ?_⟩
  obtain ⟨Se, Ge, He, S, c, ρ, G, sr, fl, c', hev, q⟩ := hw
  simp only [exs] at hev
  cases hev
  exact pss_nil.run pins s σ H Dn I (q _ _ _ _ sr (Same.refl _))
theorem ss_cons {st : Stmt} {rest : List Stmt} {s0 : SB.St} {ss : List SB.St} (h1 : PS X st (tS Φ X.KW s0)) (h2 : PSs X rest (tSs Φ X.KW ss)) : PSs X (st :: rest) (tSs Φ X.KW (s0 :: ss)) := by
  refine ⟨fun pins s σ H Dn I hw => ?_⟩
  obtain ⟨Se, Ge, He, S, c, ρ, G, sr, fl, c', hev, q⟩ := hw
  simp only [exs] at hev
  replace hev := M.bind_some hev
  obtain ⟨f1, c1, h3, hev⟩ := hev
  refine (pss_cons h1 h2).run pins s σ H Dn I ⟨Se, Ge, He, S, c, ρ, G, sr, f1, c1, h3, ?_⟩
  cases f1 with
  | nx ρ1 => exact fun S1 σ1 G1 H1 sr1 g1 => ⟨Se, Ge, He, S1, c1, ρ1, G1, sr1, fl, c', hev, q.after g1⟩
  | rt v =>
    cases hev
    exact q
theorem frz_one {K : KW} {Se S : Option Addr} {c : Option Nat} {Ge He H : Hp} {σ : L2.St} : ∀ (is : List Nat) {ρ : Rho} {G : Hp}, SR K Se Ge He S c ρ σ G H → ∃ G', SR K Se Ge He S c (frzR is ρ) σ G' H ∧ Same G G'
  | [], ρ, G, sr => ⟨G, sr, Same.refl _⟩
  | i :: is, ρ, G, sr => by
    unfold frzR
    split
    · rename_i ds hi
      obtain ⟨a, vs, g1, s1⟩ := sr.frz hi
      obtain ⟨G', s2, g2⟩ := frz_one is s1
      exact ⟨G', s2, g1.trans g2⟩
    · exact frz_one is sr
theorem ss_frz {rest : List Stmt} {is : List Nat} {ss : List SB.St} (h2 : PSs X rest (tSs Φ X.KW ss)) : PSs X rest (tSs Φ X.KW (.frz is :: ss)) := by
  refine ⟨fun pins s σ H Dn I hw => ?_⟩
  obtain ⟨Se, Ge, He, S, c, ρ, G, sr, fl, c', hev, q⟩ := hw
  simp only [exs, ex] at hev
  rw [pure_bind] at hev
  obtain ⟨G', sr', g'⟩ := frz_one is sr
  exact h2.run pins s σ H Dn I ⟨Se, Ge, He, S, c, _, G', sr', fl, c', hev, q.after g'⟩
/-! ### loops -/
def tK (Φ : Tab) (K : KW) (E : Ex) : TE := fun σ H Q => ∃ Se Ge He S c ρ G, SR K Se Ge He S c ρ σ G H ∧ ∃ d c', (do let x ← ev Φ E ρ; x.kp) c = some (d, c') ∧ ∀ v G' H', Nxt S c' G H G' H' → Dq K G' v d → Q v H'
def tR1 (Φ : Tab) (K : KW) (E : Ex) : TE := fun σ H Q => ∃ Se Ge He S c ρ G, SR K Se Ge He S c ρ σ G H ∧ ∃ d c', (do let x ← ev Φ E ρ; x.rd) c = some (d, c') ∧
  ∀ v G' H', Nxt S c' G H G' H' → (∀ G2 H2, Kp S G' H' G2 H2 → Same G2 H2 → Vw K G2 H2 v d) → Q v H'
theorem e_keep (he : PE X e (tE Φ X.KW E)) : PE X e (tK Φ X.KW E) := by
  refine ⟨fun pins s σ H Q I hw => ?_⟩
  obtain ⟨Se, Ge, He, S, c, ρ, G, sr, d, c', hev, q⟩ := hw
  replace hev := M.bind_some hev
  obtain ⟨x, c1, h1, h2⟩ := hev
  obtain ⟨e2, _⟩ := Sl.kp_ok h2
  subst e2
  refine he.run pins s σ H Q I ⟨Se, Ge, He, S, c, ρ, G, sr, x, _, h1, fun v G1 H1 n1 r1 => ?_⟩
  obtain ⟨G2, n2, hd⟩ := r1.keep n1 h2
  exact q _ _ _ n2 hd
theorem e_read (he : PE X e (tE Φ X.KW E)) : PE X e (tR1 Φ X.KW E) := by
  refine ⟨fun pins s σ H Q I hw => ?_⟩
  obtain ⟨Se, Ge, He, S, c, ρ, G, sr, d, c', hev, q⟩ := hw
  replace hev := M.bind_some hev
  obtain ⟨x, c1, h1, h2⟩ := hev
  have e2 := M.rd_some h2
  subst e2
  refine he.run pins s σ H Q I ⟨Se, Ge, He, S, c, ρ, G, sr, x, _, h1, fun v G1 H1 n1 r1 => ?_⟩
  exact q _ _ _ n1 fun G2 H2 k2 s2 => ((r1.mono k2).vw s2 h2).1
theorem PI.imp {tg it : Expr} {wi wi' : TI} (h : PI X tg it wi) (f : ∀ σ H R, wi' σ H R → wi σ H R) : PI X tg it wi' := ⟨fun pins s σ H R I hw => h.run pins s σ H R I (f σ H R hw)⟩
theorem pi_seqK {tg : Expr} (he : PE X e (tE Φ X.KW E)) : PI X tg e (iD X.KW .seq (tAk Φ X.KW [E])) := by
  refine PI.imp (pi_seqD (e_keep he)) fun σ H R hw => ?_
  obtain ⟨Se, Ge, He, S, c, ρ, G, sr, ds, c', hev, q⟩ := hw
  simp only [evk] at hev
  replace hev := M.bind_some hev
  obtain ⟨x, c1, h1, hev⟩ := hev
  replace hev := M.bind_some hev
  obtain ⟨d, c2, h2, hev⟩ := hev
  rw [pure_bind] at hev
  cases hev
  refine ⟨Se, Ge, He, S, c, ρ, G, sr, d, c', by rw [M.bind_run, h1]; exact h2, fun v G1 H1 n1 hd => ?_⟩
  exact q _ _ _ n1 (.cons hd .nil)
theorem pi_seqR {tg : Expr} (he : PE X e (tE Φ X.KW E)) : PI X tg e (iD X.KW .seq (tAr Φ X.KW [E])) := by
  refine PI.imp (pi_seqD (e_read he)) fun σ H R hw => ?_
  obtain ⟨Se, Ge, He, S, c, ρ, G, sr, ds, c', hev, q⟩ := hw
  simp only [evr] at hev
  replace hev := M.bind_some hev
  obtain ⟨x, c1, h1, hev⟩ := hev
  replace hev := M.bind_some hev
  obtain ⟨d, c2, h2, hev⟩ := hev
  rw [pure_bind] at hev
  cases hev
  refine ⟨Se, Ge, He, S, c, ρ, G, sr, d, c', by rw [M.bind_run, h1]; exact h2, fun v G1 H1 n1 hv => ?_⟩
  exact q _ _ _ n1 fun G2 H2 k2 s2 => .cons (hv G2 H2 k2 s2) .nil
theorem dq_vwA {K : KW} {G H : Hp} (sm : Same G H) : ∀ {vs : List V} {ds : List D}, DqAll K G vs ds → VwA K G H vs ds
  | _, [], h => by cases h; exact .nil
  | _, d :: ds, h => by
    cases h with
    | cons h1 h2 => exact .cons (.of_dp sm h1) (dq_vwA sm h2)
theorem loop_cons {f : D → Rho → M Fl} {d : D} {ds : List D} {ρ : Rho} {c c' : Option Nat} {fl : Fl} (h : loop f (d :: ds) ρ c = some (fl, c')) : ∃ r c1, f d ρ c = some (r, c1) ∧ (match r with | .nx ρ' => loop f ds ρ' | .rt v => pure (.rt v)) c1 = some (fl, c') := by
  simp only [loop] at h
  exact M.bind_some h
theorem s_for {tg it : Expr} {is : List Nat} {one : Bool} {ik : IK} {args : List Ex} {body : List Stmt} {Bs : List SB.St} (hp : PassesOwn (model X.prog X.w) X.A X.env X.xe) (hc : X.calm = true) (hi : PI X tg it (iD X.KW ik (tAk Φ X.KW args))) (hg : PG X tg (gTg X.KW is one)) (hb : PSs X body (tSs Φ X.KW Bs))
    (hs : ∀ x, foldedSetIterable it X.env x = pure x) : PS X (.For tg it body [] pos) (tS Φ X.KW (.for is one ik args Bs)) := by
  refine ⟨fun pins s σ H Dn I hw => ?_⟩
  obtain ⟨Se, Ge, He, S, c, ρ, G, sr, fl, c', hev, q⟩ := hw
  simp only [ex] at hev
  replace hev := M.bind_some hev
  obtain ⟨ds, c1, h1, hev⟩ := hev
  replace hev := M.bind_some hev
  obtain ⟨xs, c2, h2, hev⟩ := hev
  replace h2 := ofO2 h2
  obtain ⟨h2, e2⟩ := h2
  subst e2
  refine (ps_for hp hc hi hg hb hs).run pins s σ H Dn I ⟨Se, Ge, He, S, c, ρ, G, sr, ds, _, h1, fun vs G1 H1 n1 hd => ⟨G1, ds, xs, n1.sub, dq_vwA n1.sub hd, h2, fun J jd hsz => ?_⟩⟩
  refine ⟨fun i m σ1 H2 => m = xs.length - i ∧ i ≤ xs.length ∧ ∃ S1 c3 ρ1 G2, SR X.KW Se Ge He S1 c3 ρ1 σ1 G2 H2 ∧ Same G1 G2 ∧ loop (fun d ρ => do
      let ρ1 ← ofO (bindT one is d ρ)
      exs Φ Bs ρ1) (xs.drop i) ρ1 c3 = some (fl, c'), ⟨xs.length, rfl, Nat.zero_le _, S, _, ρ, G1, sr.step n1, Same.refl _, hev⟩, ?_⟩
  rintro i m σ1 H2 ⟨rfl, hix, S1, c3, ρ1, G2, sr2, g2, hlp⟩
  have hvw : VwA X.KW G2 H2 vs ds := dq_vwA sr2.sub (dpAll_mono g2 _ hd)
  by_cases hlx : i < xs.length
  · have hd0 : xs[i]? = some xs[i] := List.getElem?_eq_getElem hlx
    rw [List.drop_eq_getElem_cons hlx] at hlp
    obtain ⟨r, c4, hf, hlp⟩ := loop_cons hlp
    replace hf := M.bind_some hf
    obtain ⟨ρ2, c5, hb0, hf⟩ := hf
    replace hb0 := ofO2 hb0
    obtain ⟨hb0, e5⟩ := hb0
    subst e5
    refine .inr ⟨jd.go i G2 H2 sr2.sub hvw hlx, fun σ' H' => ∃ S' ρ' G', r = .nx ρ' ∧ SR X.KW Se Ge He S' c4 ρ' σ' G' H' ∧ Same G1 G', fun σ' H' h' => ?_, fun x H3 y => ?_⟩
    · obtain ⟨S', ρ', G', rfl, sr', g'⟩ := h'
      exact ⟨xs.length - (i + 1), by omega, rfl, by omega, S', c4, ρ', G', sr', g', hlp⟩
    · obtain ⟨d, G3, hd1, hn3, hdx⟩ := jd.yld i G2 H2 x H3 sr2.sub hvw y hlx
      rw [hd0] at hd1
      cases hd1
      have n3 := hn3 S1 _ sr2.sta
      refine (sr2.step n3).target hdx hb0 fun σ2 sr3 hσ2 => ?_
      refine ⟨Se, Ge, He, S1, _, ρ2, G3, sr3, r, c4, hf, ?_⟩
      cases r with
      | nx ρ' => exact fun S' σ' G' H' sr' g' => ⟨S', ρ', G', rfl, sr', g2.trans (n3.kp.kg.trans g')⟩
      | rt v =>
        cases hlp
        exact q
  · have ei : i = xs.length := by omega
    subst ei
    rw [List.drop_length] at hlp
    cases hlp
    exact .inl ⟨jd.stop _ G2 H2 sr2.sub hvw rfl, q _ _ _ _ sr2 (n1.kp.kg.trans g2)⟩
end
end SB
/-! A loop over a list that the def owns; the name of the list is dead behind it. -/
namespace SB
open PySem PySem.Spec PyProof.Rows L2

section
variable {K : KW} {Se S : Option Addr} {c : Option Nat} {Ge He G H : Hp} {ρ : Rho} {σ : L2.St} {i : Nat} {ds : List D}
theorem set_none_at {j : Nat} {t : Sl} (h : (ρ.set i none)[j]? = some (some t)) : j ≠ i ∧ ρ[j]? = some (some t) := by
  rw [List.getElem?_set] at h
  split at h
  · split at h
    · cases h
    · cases h
  · rename_i q
    exact ⟨fun z => q z.symm, h⟩
/-- the list of a slot, lent to the loop -/
theorem SR.lend (s : SR K Se Ge He S c ρ σ G H) (h : ρ[i]? = some (some (.ow (.list ds)))) : ∃ a vs, σ[i]? = some (some (.ref a)) ∧ He a = none ∧ S ≠ some a ∧ H a = some (.lst vs) ∧ DqAll K G vs ds ∧ SR K Se Ge (upd He a (.lst vs)) S c (ρ.set i none) σ G H := by
  obtain ⟨v, e1, a, rfl, n1, n2, n3, vs, ho, hd⟩ := s.slot i _ h
  refine ⟨a, vs, e1, n1, n3, ho, hd, ?_⟩
  have up : ∀ b, b ≠ a → upd He a (.lst vs) b = He b := fun b q => upd_ne q
  refine ⟨s.sub, s.sta, ⟨fun b o n e => ?_, s.kp.kg, fun b e => ?_, fun b e => ?_⟩, ?_, by rw [List.length_set]; exact s.len, fun j t hj => ?_, fun j l d d' b g1 g2 g3 g4 => ?_⟩
  · by_cases q : b = a
    · subst q
      rw [upd_same] at e
      cases e
      exact ho
    · rw [up b q] at e
      exact s.kp.kh b o n e
  · by_cases q : b = a
    · subst q
      cases z : Ge b with
      | none => exact n2
      | some u =>
        have := s.kp.kg b u z
        rw [n2] at this
        cases this
    · rw [up b q] at e
      exact s.kp.kn b e
  · by_cases q : b = a
    · subst q
      rw [ho]
      simp
    · rw [up b q] at e
      exact s.kp.dm b e
  · rcases s.ss with z | ⟨z, p, z1, z2⟩
    · exact .inl z
    · refine .inr ⟨z, p, z1, ?_⟩
      have : p ≠ a := fun q => n3 (by rw [z1, q])
      rw [up p this]
      exact z2
  · obtain ⟨hl, hj'⟩ := set_none_at hj
    · obtain ⟨v, ev, sv⟩ := s.slot j t hj'
      refine ⟨v, ev, ?_⟩
      cases t with
      | fz d => exact sv
      | st => exact sv
      | ow d =>
        obtain ⟨b, rfl, m1, m2, m3, m4⟩ := sv
        have : b ≠ a := fun q => by
          subst q
          exact hl (s.inj j i d _ b hj' h ev e1)
        exact ⟨b, rfl, by rw [up b this]; exact m1, m2, m3, m4⟩
      | bw d =>
        obtain ⟨b, rfl, m1, m3, m4⟩ := sv
        have : b ≠ a := fun q => by
          subst q
          exact m1 n1
        exact ⟨b, rfl, by rw [up b this]; exact m1, m3, m4⟩
  · exact s.inj j l d d' b (set_none_at g1).2 (set_none_at g2).2 g3 g4
/-- the loan ends -/
theorem SR.unlend {a : Addr} {o : HO} (s : SR K Se Ge (upd He a o) S c ρ σ G H) (ha : He a = none) (hb : noBw ρ = true) : SR K Se Ge He S c ρ σ G H := by
  have up : ∀ b, b ≠ a → upd He a o b = He b := fun b q => upd_ne q
  have ne : ∀ b, He b ≠ none → b ≠ a := fun b h q => h (by rw [q]; exact ha)
  refine ⟨s.sub, s.sta, ⟨fun b u n e => ?_, s.kp.kg, fun b e => ?_, fun b e => ?_⟩, ?_, s.len, fun j t hj => ?_, s.inj⟩
  · exact s.kp.kh b u n (by rw [up b (ne b (by rw [e]; simp))]; exact e)
  · exact s.kp.kn b (by rw [up b (ne b e)]; exact e)
  · exact s.kp.dm b (by rw [up b (ne b e)]; exact e)
  · rcases s.ss with z | ⟨z, p, z1, z2⟩
    · exact .inl z
    · refine .inr ⟨z, p, z1, ?_⟩
      by_cases q : p = a
      · rw [q]; exact ha
      · rw [up p q] at z2
        exact z2
  · obtain ⟨v, ev, sv⟩ := s.slot j t hj
    refine ⟨v, ev, ?_⟩
    cases t with
    | fz d => exact sv
    | st => exact sv
    | ow d =>
      obtain ⟨b, rfl, m1, m2, m3, m4⟩ := sv
      refine ⟨b, rfl, ?_, m2, m3, m4⟩
      by_cases q : b = a
      · rw [q]; exact ha
      · rw [up b q] at m1
        exact m1
    | bw d =>
      have := List.all_eq_true.mp hb _ (List.mem_of_getElem? hj)
      cases this
end
section
variable {X : Cx} {Φ : Tab} {pos : Pos}
theorem s_forO {tg : Expr} {is : List Nat} {one : Bool} {i : Nat} {x : Str} {p' : Pos} {body : List Stmt} {Bs : List SB.St} (hp : PassesOwn (model X.prog X.w) X.A X.env X.xe) (hc : X.calm = true) (hi : PI X tg (.Name x p') (iD X.KW .seq (tCons (tVar i) tNil))) (hg : PG X tg (gTg X.KW is one)) (hb : PSs X body (tSs Φ X.KW Bs))
    (hs : ∀ y, foldedSetIterable (.Name x p') X.env y = pure y) : PS X (.For tg (.Name x p') body [] pos) (tS Φ X.KW (.forO is one i Bs)) := by
  refine ⟨fun pins s σ H Dn I hw => ?_⟩
  obtain ⟨Se, Ge, He, S, c, ρ, G, sr, fl, c', hev, q⟩ := hw
  simp only [ex] at hev
  replace hev := M.bind_some hev
  obtain ⟨xs, c1, h1, hev⟩ := hev
  replace h1 := ofO2 h1
  obtain ⟨h1, e1⟩ := h1
  subst e1
  replace hev := M.bind_some hev
  obtain ⟨r0, c2, hlp0, hev⟩ := hev
  obtain ⟨ρ9, rfl⟩ : ∃ ρ9, r0 = .nx ρ9 := by
    cases r0 with
    | nx ρ9 => exact ⟨ρ9, rfl⟩
    | rt v => cases hev
  simp only at hev
  split at hev
  · rename_i hbw
    cases hev
    obtain ⟨a, vs, ea, ha, hSa, hH, hd, sr1⟩ := sr.lend (owL_some h1)
    refine (ps_for hp hc hi hg hb hs).run pins s σ H Dn I ⟨.ref a, ea, G, [.list xs], xs, sr.sub, .cons (Vw.of_own ⟨vs, hH, hd⟩) .nil, rfl, fun J jd hsz => ?_⟩
    refine ⟨fun k m σ1 H2 => m = xs.length - k ∧ k ≤ xs.length ∧ ∃ S1 c3 ρ1 G2, SR X.KW Se Ge (upd He a (.lst vs)) S1 c3 ρ1 σ1 G2 H2 ∧ Same G G2 ∧ loop (fun d ρ => do
      let ρ1 ← ofO (bindT one is d ρ)
      exs Φ Bs ρ1) (xs.drop k) ρ1 c3 = some (.nx ρ9, c'), ⟨xs.length, rfl, Nat.zero_le _, S, _, _, G, sr1, Same.refl _, hlp0⟩, ?_⟩
    rintro k m σ1 H2 ⟨rfl, hix, S1, c3, ρ1, G2, sr2, g2, hlp⟩
    have hSe : Se ≠ some a := by
      rcases sr.ss with z | ⟨z, _⟩
      · rw [z]; exact hSa
      · rw [z]; simp
    have hH2 : H2 a = some (.lst vs) := sr2.kp.kh a _ hSe upd_same
    have hvw : VwA X.KW G2 H2 [.ref a] [.list xs] := .cons (Vw.of_own ⟨vs, hH2, dpAll_mono g2 _ hd⟩) .nil
    by_cases hlx : k < xs.length
    · have hd0 : xs[k]? = some xs[k] := List.getElem?_eq_getElem hlx
      rw [List.drop_eq_getElem_cons hlx] at hlp
      obtain ⟨r, c4, hf, hlp⟩ := loop_cons hlp
      replace hf := M.bind_some hf
      obtain ⟨ρ2, c5, hb0, hf⟩ := hf
      replace hb0 := ofO2 hb0
      obtain ⟨hb0, e5⟩ := hb0
      subst e5
      refine .inr ⟨jd.go k G2 H2 sr2.sub hvw hlx, fun σ' H' => ∃ S' ρ' G', r = .nx ρ' ∧ SR X.KW Se Ge (upd He a (.lst vs)) S' c4 ρ' σ' G' H' ∧ Same G G', fun σ' H' h' => ?_, fun y H3 yy => ?_⟩
      · obtain ⟨S', ρ', G', rfl, sr', g'⟩ := h'
        exact ⟨xs.length - (k + 1), by omega, rfl, by omega, S', c4, ρ', G', sr', g', hlp⟩
      · obtain ⟨d, G3, hd1, hn3, hdx⟩ := jd.yld k G2 H2 y H3 sr2.sub hvw yy hlx
        rw [hd0] at hd1
        cases hd1
        have n3 := hn3 S1 _ sr2.sta
        refine (sr2.step n3).target hdx hb0 fun σ2 sr3 hσ2 => ?_
        refine ⟨Se, Ge, upd He a (.lst vs), S1, _, ρ2, G3, sr3, r, c4, hf, ?_⟩
        cases r with
        | nx ρ' => exact fun S' σ' G' H' sr' g' => ⟨S', ρ', G', rfl, sr', g2.trans (n3.kp.kg.trans g')⟩
        | rt v => cases hlp
    · have ei : k = xs.length := by omega
      subst ei
      rw [List.drop_length] at hlp
      cases hlp
      exact .inl ⟨jd.stop _ G2 H2 sr2.sub hvw rfl, q _ _ _ _ (sr2.unlend ha hbw) g2⟩
  · cases hev
end
end SB
/-! Dicts whose keys are tuples: the rules. -/
namespace SB
open PySem PySem.Spec PyProof.Rows L2

/-- a key that stands in the heap -/
def KeyH (K : KW) (H : Hp) (b : Addr) (k : NestedKey) : Prop := ∃ d, Dq K H (.ref b) d ∧ keyT d = some k
/-- a dict with its keys -/
def NAt (K : KW) (H : Hp) (a : Addr) (xs : Ents2) : Prop := (∃ ep, H a = some (DOb K.w a xs ep)) ∧ ∀ x ∈ xs, KeyH K H x.2.1 x.1
theorem keyT_some {d : D} {k : NestedKey} (h : keyT d = some k) : keyOf d = some k ∧ k.depth ≤ 8 := by
  cases d with
  | tuple ds =>
    unfold keyT at h
    simp only at h
    split at h
    · rename_i ks e
      split at h
      · rename_i hd
        cases h
        exact ⟨by rw [keyOf, e]; rfl, hd⟩
      · cases h
    · cases h
  | _ => cases h
section
variable {X : Cx} {pins : List (Addr × Obj)} {σ : L2.St} {H : Hp} {s : Shared} {a b : Addr} {xs : Ents2} {k : NestedKey} {A : Around} {E : Value → Shared → Prop}
theorem KeyH.at (I : Inv X pins σ H s) (h : KeyH X.KW H b k) : (nestedKind X.prog X.w).is s.heap k b :=
  let ⟨d, h1, h2⟩ := h
  ⟨Dq.key I d h1 (keyT_some h2).1 rfl, (keyT_some h2).2⟩
theorem NAt.dd (I : Inv X pins σ H s) (n : NAt X.KW H a xs) : (a == sysModules) = false ∧ xs.length ≤ sizeLine ∧ s.heap.DictOfH (nestedKind X.prog X.w) a xs := by
  obtain ⟨⟨ep, n1⟩, n2⟩ := n
  have R : DictW X.w s.heap a xs ep := (I.hok a _ n1).1
  obtain ⟨h1, h2, o, es, ho, hx, hd, he, hn⟩ := R.ex
  exact ⟨h1, h2, o, es, ep, ho, hx, hd, he, fun x hx => (n2 x hx).at I, hn⟩
theorem NAt.noDict (I : Inv X pins σ H s) (h : ∃ ep, H a = some (DOb X.w a xs ep)) : s.TypeIs (.ref a) "dict" ∧ ∀ b, Value.ref a = .ref b → ∃ ob, s.heap.get? b = some ob ∧ ob.dict = none := by
  obtain ⟨ep, h⟩ := h
  have R : DictW X.w s.heap a xs ep := (I.hok a _ h).1
  obtain ⟨h1, h2, o, es, ho, hx, hd, he, hn⟩ := R.ex
  refine ⟨⟨o, ho, hx.1⟩, fun b q => ?_⟩
  cases q
  exact ⟨o, ho, hx.2.1⟩
theorem room8 (hu : A.units + 9 < cLine) : (nestedKind X.prog X.w).room A.in1 := by
  show A.in1.units + 8 < cLine
  simp only [Around.in1_units]
  omega
theorem n_getItem {p : Addr × Value} {Q : Value → Shared → Prop} (hu : A.units + 9 < cLine) (I : Inv X pins σ H s) (n : NAt X.KW H a xs) (kb : KeyH X.KW H b k) (l : atKey xs k = some p) (h : ∀ s', Inv X pins σ H s' → Q p.2 s') :
    wpAny (model X.prog X.w) A (getItem (.ref a) (.ref b)) Q E s := by
  obtain ⟨h1, h2, dd⟩ := n.dd I
  exact wpAny_getItem_heap (room8 hu) (kb.at I) dd l (h _ (I.tok _))
theorem n_in {Q : Value → Shared → Prop} (hu : A.units + 9 < cLine) (I : Inv X pins σ H s) (n : NAt X.KW H a xs) (kb : KeyH X.KW H b k) (h : ∀ s', Inv X pins σ H s' → Q (.bool (atKey xs k).isSome) s') :
    wpAny (model X.prog X.w) A (compareOp .In (.ref b) (.ref a)) Q E s := by
  obtain ⟨h1, h2, dd⟩ := n.dd I
  exact wpAny_in_heap (room8 hu) (kb.at I) h1 dd (h _ (I.tok _))
theorem n_notIn {Q : Value → Shared → Prop} (hu : A.units + 9 < cLine) (I : Inv X pins σ H s) (n : NAt X.KW H a xs) (kb : KeyH X.KW H b k) (h : ∀ s', Inv X pins σ H s' → Q (.bool (!(atKey xs k).isSome)) s') :
    wpAny (model X.prog X.w) A (compareOp .NotIn (.ref b) (.ref a)) Q E s := by
  obtain ⟨h1, h2, dd⟩ := n.dd I
  exact wpAny_notIn_heap (room8 hu) (kb.at I) h1 dd (h _ (I.tok _))
theorem stored_len (k : NestedKey) (b : Addr) (u : Value) : (storedH xs k b u).length ≤ xs.length + 1 := by
  unfold storedH
  split
  · rw [List.length_map]; omega
  · rw [List.length_append]; simp
theorem n_write {h' : Heap} {t' : Nat} {ys : Ents2} (I : Inv X pins σ H s) (n : ∃ ep, H a = some (DOb X.w a xs ep)) (h1 : (a == sysModules) = false) (hl : ys.length ≤ sizeLine) (hs : Heap.SameBut a s.heap h') (dd : h'.DictOfH (nestedKind X.prog X.w) a ys) :
    ∃ ep, Inv X pins σ (upd H a (DOb X.w a ys ep)) { s with heap := h', toks := t' } := by
  obtain ⟨q, es, ep, hq, h2, h3, h4, _, h5⟩ := dd
  obtain ⟨_, n⟩ := n
  exact ⟨ep, d_write I (by rw [n]; exact True.intro) hs ⟨q, hq⟩ (dob_new ⟨h1, hl, q, es, hq, h2, h3, h4, h5⟩)⟩
theorem n_setItem {u : Value} {Q : Unit → Shared → Prop} (hu : A.units + 9 < cLine) (I : Inv X pins σ H s) (n : NAt X.KW H a xs) (kb : KeyH X.KW H b k) (hl : xs.length < sizeLine) (h : ∀ s' ep, Inv X pins σ (upd H a (DOb X.w a (storedH xs k b u) ep)) s' → Q () s') :
    wpAny (model X.prog X.w) A (setItem (.ref a) (.ref b) u) Q E s := by
  obtain ⟨h1, h2, dd⟩ := n.dd I
  refine wpAny_setItem_heap (hsz := h2) (room8 hu) (kb.at I) dd fun h' dd' hs => ?_
  have := stored_len (xs := xs) k b u
  obtain ⟨ep, I2⟩ := n_write (t' := s.toks + (nestedKind X.prog X.w).draws k) I n.1 h1 (by omega) hs dd'
  exact h _ ep I2
theorem n_setd {u : Value} {Q : Value → Shared → Prop} (hu : A.units + 9 < cLine) (I : Inv X pins σ H s) (n : NAt X.KW H a xs) (kb : KeyH X.KW H b k) (hl : xs.length < sizeLine) (q1 : ∀ p, atKey xs k = some p → ∀ s', Inv X pins σ H s' → Q p.2 s')
    (q2 : atKey xs k = none → ∀ s' ep, Inv X pins σ (upd H a (DOb X.w a (storedH xs k b u) ep)) s' → Q u s') : wpAny (model X.prog X.w) A (call (.builtin "dict.setdefault") [.ref a, .ref b, u]) Q E s := by
  obtain ⟨h1, h2, dd⟩ := n.dd I
  refine call_setdefault_heap (hsz := h2) (room8 hu) (kb.at I) h1 dd (fun p hp => q1 p hp _ (I.tok _)) fun hn h' dd' hs => ?_
  have := stored_len (xs := xs) k b u
  obtain ⟨ep, I2⟩ := n_write (t' := s.toks + (nestedKind X.prog X.w).draws k) I n.1 h1 (by omega) hs dd'
  exact q2 hn _ ep I2
theorem n_get2 {u : Value} {Q : Value → Shared → Prop} (hu : A.units + 9 < cLine) (I : Inv X pins σ H s) (n : NAt X.KW H a xs) (kb : KeyH X.KW H b k) (h : ∀ s', Inv X pins σ H s' → Q (((atKey xs k).map (·.2)).getD u) s') :
    wpAny (model X.prog X.w) A (call (.builtin "dict.get") [.ref a, .ref b, u]) Q E s := by
  obtain ⟨h1, h2, dd⟩ := n.dd I
  exact call_meetsIn PySem.F.slot_dict_get dd.typeIs PySem.F.entry_dict_get (PySem.F.args_dict_get_3 _ _ _) (meetsH_dict_get_default (nestedKind X.prog X.w) a b h1 u) ⟨room8 hu, k, xs, kb.at I, dd, h _ (I.tok _)⟩
end
/-! ### readings -/
def rNGet (K : KW) : R2 := fun x y H Q => ∃ a xs b k p v, x = .ref a ∧ y = .ref b ∧ NAt K H a xs ∧ KeyH K H b k ∧ atKey xs k = some p ∧ RelV v p.2 ∧ Q v H
def rNIn (K : KW) (ng : Bool) : R2 := fun y x H Q => ∃ a xs b k, x = .ref a ∧ y = .ref b ∧ NAt K H a xs ∧ KeyH K H b k ∧ Q (.bl (ng != (atKey xs k).isSome)) H
def sNPut (K : KW) (td ty tv : TE) : TS := fun D σ H => tv σ H fun v H1 => td σ H1 fun x H2 => ty σ H2 fun y H3 => ∃ a xs b k, x = .ref a ∧ y = .ref b ∧ NAt K H3 a xs ∧ KeyH K H3 b k ∧ xs.length < sizeLine ∧ ∀ u ep, RelV v u → D.nx σ (upd H3 a (DOb K.w a (storedH xs k b u) ep))
def tNSetd (K : KW) (td ty tx : TE) : TE := fun σ H Q => td σ H fun x H1 => ∃ a, x = .ref a ∧ (∃ ys ep, H1 a = some (DOb K.w a ys ep)) ∧ ty σ H1 fun y H2 => tx σ H2 fun z H3 => ∃ xs b k, y = .ref b ∧ NAt K H3 a xs ∧ KeyH K H3 b k ∧ xs.length < sizeLine ∧
  (∀ p, atKey xs k = some p → ∃ v, RelV v p.2 ∧ Q v H3) ∧ (atKey xs k = none → ∀ u ep, RelV z u → Q z (upd H3 a (DOb K.w a (storedH xs k b u) ep)))
def tNGet2 (K : KW) (td ty tx : TE) : TE := fun σ H Q => td σ H fun x H1 => ∃ a, x = .ref a ∧ (∃ ys ep, H1 a = some (DOb K.w a ys ep)) ∧ ty σ H1 fun y H2 => tx σ H2 fun z H3 => ∃ xs b k, y = .ref b ∧ NAt K H3 a xs ∧ KeyH K H3 b k ∧
  (∀ u, RelV z u → ∃ v, RelV v (((atKey xs k).map (·.2)).getD u) ∧ Q v H3)
section
variable {X : Cx} {o i e f value : Expr} {pos pos' apos cpos : Pos} {td ty tv tx : TE}
theorem pe_nget (hu : X.A.units + 9 < cLine) (ho : PE X o td) (hi : PE X i ty) (hs : NoSl i) : PE X (.Subscript o i pos) (tOp (rNGet X.KW) td ty) := by
  refine ⟨fun pins s σ H Q I h => ?_⟩
  refine subD_of PySem.F.slot_dict_getitem.lookup hs (thn (ho.run pins s σ H _ I h) fun u s1 ⟨x, H1, I1, rx, q1⟩ => thn (hi.run pins s1 σ H1 _ I1 q1) fun iv s2 ⟨y, H2, I2, ry, a, xs, b, k, p, v, ex, ey, n, kb, l, rv, q2⟩ => ?_)
  subst ex ey
  obtain rfl : u = Value.ref a := rx
  obtain rfl : iv = Value.ref b := ry
  exact ⟨(NAt.noDict I2 n.1).1, n_getItem hu I2 n kb l fun s3 I3 => ⟨v, H2, I3, rv, q2⟩⟩
theorem op_nin {ng : Bool} (hu : X.A.units + 9 < cLine) : OpR X (compareOp (if ng then .NotIn else .In)) (rNIn X.KW ng) := by
  intro pins s σ H y x v u Q I ry rx h
  obtain ⟨a, xs, b, k, rfl, rfl, n, kb, q⟩ := h
  obtain rfl : v = Value.ref b := ry
  obtain rfl : u = Value.ref a := rx
  cases ng with
  | false => exact n_in hu I n kb fun s1 I1 => ⟨.bl (atKey xs k).isSome, H, I1, rfl, by simpa using q⟩
  | true => exact n_notIn hu I n kb fun s1 I1 => ⟨.bl (!(atKey xs k).isSome), H, I1, rfl, by simpa using q⟩
theorem ps_nput (hu : X.A.units + 9 < cLine) (ho : PE X o td) (hi : PE X i ty) (hv : PE X value tv) (hs : swapsWith value (some (.Subscript o i pos')) pos.line X.env = pure false) :
    PS X (.Assign [.Subscript o i pos'] value pos) (sNPut X.KW td ty tv) := by
  refine ⟨fun pins s σ H D I h => ?_⟩
  refine wpAny_Assign_Subscript (thn (hv.run pins s σ H _ I h) fun r s1 ⟨v, H1, I1, rv, q1⟩ => thn (ho.run pins s1 σ H1 _ I1 q1) fun u s2 ⟨x, H2, I2, rx, q2⟩ => thn (hi.run pins s2 σ H2 _ I2 q2) fun iv s3 ⟨y, H3, I3, ry, a, xs, b, k, ex, ey, n, kb, hl, q3⟩ => ?_) hs
  subst ex ey
  obtain rfl : u = Value.ref a := rx
  obtain rfl : iv = Value.ref b := ry
  exact n_setItem hu I3 n kb hl fun s4 ep I4 => ⟨σ, _, I4, q3 r ep rv⟩
theorem pe_nsetd (hu : X.A.units + 9 < cLine) (ho : PE X o td) (he : PE X e ty) (hf : PE X f tx) (m : M2 X o "setdefault" apos e f cpos) : PE X (.Call (.Attribute o "setdefault" apos) [e, f] [] cpos) (tNSetd X.KW td ty tx) := by
  refine ⟨fun pins s σ H Q I h => ?_⟩
  refine wpAny_Call_method m.base m.few m.line PySem.F.plainAttrs_dict PySem.F.slot_dict_setdefault PySem.F.type_dict_setdefault (thn (ho.run pins s σ H _ I h) fun u s1 ⟨x, H1, I1, rx, a, ex, ⟨ys, d⟩, q1⟩ => ?_)
  subst ex
  obtain rfl : u = Value.ref a := rx
  obtain ⟨t1, t2⟩ := NAt.noDict I1 d
  refine ⟨t1, t2, ?_⟩
  rw [m.trees]
  refine Calls.callWith_builtin rfl (Calls.evalArgs_plain (Calls.spliced_cons (thn (he.run pins s1 σ H1 _ I1 q1) fun iv s2 ⟨y, H2, I2, ry, q2⟩ =>
    Calls.spliced_cons (thn (hf.run pins s2 σ H2 _ I2 q2) fun fv s3 ⟨z, H3, I3, rz, xs, b, k, ey, n, kb, hl, q3, q4⟩ => Calls.spliced_nil ?_))))
  subst ey
  obtain rfl : iv = Value.ref b := ry
  exact n_setd hu I3 n kb hl (fun p hp s4 I4 => let ⟨v, rv, q⟩ := q3 p hp; ⟨v, _, I4, rv, q⟩) fun hn s4 ep I4 => ⟨z, _, I4, rz, q4 hn fv ep rz⟩
theorem pe_nget2 (hu : X.A.units + 9 < cLine) (ho : PE X o td) (he : PE X e ty) (hf : PE X f tx) (m : M2 X o "get" apos e f cpos) : PE X (.Call (.Attribute o "get" apos) [e, f] [] cpos) (tNGet2 X.KW td ty tx) := by
  refine ⟨fun pins s σ H Q I h => ?_⟩
  refine wpAny_Call_method m.base m.few m.line PySem.F.plainAttrs_dict PySem.F.slot_dict_get PySem.F.type_dict_get (thn (ho.run pins s σ H _ I h) fun u s1 ⟨x, H1, I1, rx, a, ex, ⟨ys, d⟩, q1⟩ => ?_)
  subst ex
  obtain rfl : u = Value.ref a := rx
  obtain ⟨t1, t2⟩ := NAt.noDict I1 d
  refine ⟨t1, t2, ?_⟩
  rw [m.trees]
  refine Calls.callWith_builtin rfl (Calls.evalArgs_plain (Calls.spliced_cons (thn (he.run pins s1 σ H1 _ I1 q1) fun iv s2 ⟨y, H2, I2, ry, q2⟩ =>
    Calls.spliced_cons (thn (hf.run pins s2 σ H2 _ I2 q2) fun fv s3 ⟨z, H3, I3, rz, xs, b, k, ey, n, kb, q3⟩ => Calls.spliced_nil ?_))))
  subst ey
  obtain rfl : iv = Value.ref b := ry
  exact n_get2 hu I3 n kb fun s4 I4 => let ⟨v, rv, q⟩ := q3 fv rz; ⟨v, _, I4, rv, q⟩
/-- {} -/
def tNNew (K : KW) : TE := fun _ H Q => ∀ p, H p = none → Q (.ref p) (upd H p (DOb K.w p [] 0))
theorem pe_nnew : PE X (.Dict [] [] pos) (tNNew X.KW) := ⟨fun pins s σ H Q I h =>
  wpAny_Dict_empty ⟨.ref s.heap.objs.size, _, I.laid (a := s.heap.objs.size) (o := DOb X.w s.heap.objs.size [] 0) (t' := s.toks) (fun _ _ q => Heap.get?_push_of_some _ q) (Nat.le_refl _)
    (dob_new ⟨beq_eq_false_iff_ne.mpr (Ne.symm (Nat.ne_of_lt I.big)), Nat.zero_le _, _, #[], Heap.get?_push_size _ rfl, ⟨rfl, rfl, rfl⟩, rfl, rfl, List.nodup_nil⟩), rfl, h _ (I.hok.fresh (Nat.le_refl _))⟩⟩
/-- len(d) -/
theorem cr_lenN : CallR X (.builtin "len") (fun vs H Q => ∃ a xs, vs = [V.ref a] ∧ NAt X.KW H a xs ∧ Q (.int xs.length) H) := by
  intro pins s σ H vs us Q I r h
  obtain ⟨a, xs, rfl, n, q⟩ := h
  rw [Vals.ref1 r]
  obtain ⟨h1, h2, dd⟩ := n.dd I
  exact call_len_dictH h1 dd (by rw [sizeLine_eq] at h2; omega) ⟨.int xs.length, H, I.tok _, ⟨_, rfl⟩, q⟩
/-- the keys of a dict and where they stand -/
def rowsOf (xs : Ents2) : Rows := xs.map fun x => (x.2.1, x.1)
def rSortDic (K : KW) : List V → Hp → VK → Prop := fun vs H Q => ∃ (a : Addr) (xs : Ents2) (ds ys : List D) (G : Hp), vs = [V.ref a] ∧ NAt K H a xs ∧ Same G H ∧ DqAll K G (xs.map fun x => V.ref x.2.1) ds ∧ sortD ds = some ys ∧
  ∀ zs (p : Addr), DqAll K G zs ys → H p = none → Q (.ref p) (upd H p (.lst zs))
theorem col_dic (hc : X.calm = true) {pins : List (Addr × Obj)} {σ : L2.St} {H : Hp} {s : Shared} {a : Addr} {xs : Ents2} (I : Inv X pins σ H s) (n : NAt X.KW H a xs) (Q' : List Value → Shared → Prop) (E' : Value → Shared → Prop)
    (q : ∀ h' tk vs, (∀ b o, s.heap.get? b = some o → h'.get? b = some o) → Vals (xs.map fun x => V.ref x.2.1) vs → Q' vs { s with heap := h', toks := tk }) : wpAny (model X.prog X.w) X.A.in1 (collect (.ref a)) Q' E' s := by
  obtain ⟨h1, h2, o, es, ep, ho, hx, hd, he, his, hn⟩ := n.dd I
  have l1 : es.size = xs.length := by
    have := congrArg List.length he
    rw [Array.length_toList, List.length_map] at this
    exact this
  refine PySem.W.kdu_collect (A := X.A.in1) (kdl_raw h1 hx hd) (I.ok.hd hc) ho (by omega) fun h' tk acc hk it => ?_
  have ea : acc.toList = xs.map fun x => Value.ref x.2.1 := by
    have hl : acc.toList.length = xs.length := by rw [Array.length_toList, it.1]; exact l1
    apply List.ext_getElem?
    intro j
    rw [List.getElem?_map]
    cases hj : acc.toList[j]? with
    | none =>
      have h1 := List.getElem?_eq_none_iff.mp hj
      rw [List.getElem?_eq_none (by omega)]
      all_goals rfl
    | some v =>
      obtain ⟨en, hen, hv⟩ := it.2 j v (by rw [← Array.getElem?_toList]; exact hj)
      have qe : es[j]? = (xs[j]?).map fun x => (⟨x.1.hash X.w, .ref x.2.1, x.2.2⟩ : DictEntry) := by
        rw [← Array.getElem?_toList, he, List.getElem?_map]
        rfl
      rw [hen] at qe
      cases hb : xs[j]? with
      | none =>
        rw [hb] at qe
        exact nomatch (show some en = none from qe)
      | some b =>
        rw [hb] at qe
        have e2 : en = ⟨b.1.hash X.w, .ref b.2.1, b.2.2⟩ := Option.some.inj qe
        rw [hv, e2]
        all_goals rfl
  refine q h' tk acc.toList hk ?_
  rw [ea]
  clear ea his hn he l1 h2 n q
  induction xs with
  | nil => exact .nil
  | cons x r ih => exact .cons rfl ih
theorem cr_sortDic (hc : X.calm = true) (hu : X.A.units + 67 < cLine) : CallR X (.builtin "sorted") (rSortDic X.KW) := by
  intro pins s σ H vs us Q I r h
  obtain ⟨a, xs, ds, ys, G, rfl, n, sm, hd, e, q⟩ := h
  rw [Vals.ref1 r]
  have hl : (xs.map fun x => V.ref x.2.1).length ≤ sizeLine := by
    rw [List.length_map]
    exact (n.dd I).2.1
  exact sorted_by hu I sm (col_dic hc I n) hd hl e q
end
end SB
/-! Dicts in slots: expressions, stores. -/
namespace SB
open PySem PySem.Spec PyProof.Rows L2

section
variable {K : KW} {G H : Hp} {kvs : KD} {xs : Ents2} {k : NestedKey}
theorem drel_keys (sm : Same G H) (h : Paired (DRel K G) kvs xs) : ∀ x ∈ xs, KeyH K H x.2.1 x.1 := by
  induction h with
  | nil => intro x hx; cases hx
  | @cons p q ps qs hq t ih =>
    intro x hx
    rcases List.mem_cons.mp hx with rfl | hx
    · exact ⟨p.1, dp_mono sm _ hq.2.1, hq.1⟩
    · exact ih x hx
theorem atKey_cons (x : NestedKey × Addr × Value) (xs : Ents2) (k : NestedKey) : atKey (x :: xs) k = if x.1 = k then some x.2 else atKey xs k := by
  unfold atKey
  rw [List.find?_cons]
  by_cases h : x.1 = k
  · simp [h]
  · simp [h]
theorem drel_get (h : Paired (DRel K G) kvs xs) (k : NestedKey) : match dGet k kvs with
    | some v => ∃ p y, atKey xs k = some p ∧ RelV y p.2 ∧ Dq K G y v
    | none => atKey xs k = none := by
  induction h with
  | nil => exact rfl
  | @cons p q ps qs hq t ih =>
    obtain ⟨h1, h2, y, h3, h4⟩ := hq
    rw [dGet, atKey_cons, h1]
    by_cases e : q.1 = k
    · rw [if_pos (by rw [e]), if_pos e]
      exact ⟨_, y, rfl, h3, h4⟩
    · rw [if_neg (fun z => e (Option.some.inj z)), if_neg e]
      exact ih
theorem drel_some (h : Paired (DRel K G) kvs xs) {v : D} (e : dGet k kvs = some v) : ∃ p y, atKey xs k = some p ∧ RelV y p.2 ∧ Dq K G y v := by
  have := drel_get h k
  rw [e] at this
  exact this
theorem drel_none (h : Paired (DRel K G) kvs xs) (e : dGet k kvs = none) : atKey xs k = none := by
  have := drel_get h k
  rw [e] at this
  exact this
theorem drel_isSome (h : Paired (DRel K G) kvs xs) : (atKey xs k).isSome = (dGet k kvs).isSome := by
  cases e : dGet k kvs with
  | none => rw [drel_none h e]; rfl
  | some v => obtain ⟨p, y, e2, _⟩ := drel_some h e; rw [e2]; rfl
theorem paired_app {α β : Type} {R : α → β → Prop} {l1 l2 : List α} {m1 m2 : List β} (h : Paired R l1 m1) (g : Paired R l2 m2) : Paired R (l1 ++ l2) (m1 ++ m2) := by
  induction h with
  | nil => exact g
  | cons hq t ih => exact .cons hq ih
theorem drel_map (h : Paired (DRel K G) kvs xs) {v : D} {u : Value} {y : V} (ru : RelV y u) (hy : Dq K G y v) : Paired (DRel K G) (kvs.map (fun p => if keyT p.1 = some k then (p.1, v) else p)) (xs.map (putAt k u)) := by
  induction h with
  | nil => exact .nil
  | @cons p q ps qs hq t ih =>
    refine .cons ?_ ih
    obtain ⟨h1, h2, y', h3, h4⟩ := hq
    show DRel K G (if keyT p.1 = some k then (p.1, v) else p) (if q.1 = k then (q.1, q.2.1, u) else q)
    by_cases e : q.1 = k
    · have e1 : keyT p.1 = some k := by rw [h1, e]
      rw [if_pos e1, if_pos e]
      exact ⟨h1, h2, y, ru, hy⟩
    · have e1 : ¬ keyT p.1 = some k := fun z => e (Option.some.inj (h1.symm.trans z))
      rw [if_neg e1, if_neg e]
      exact ⟨h1, h2, y', h3, h4⟩
theorem drel_put (h : Paired (DRel K G) kvs xs) {d v : D} {b : Addr} {u : Value} {y : V} (hk : keyT d = some k) (hb : Dq K G (.ref b) d) (ru : RelV y u) (hy : Dq K G y v) : Paired (DRel K G) (dPut k d v kvs) (storedH xs k b u) := by
  unfold dPut storedH
  rw [drel_isSome h]
  split
  · exact drel_map h ru hy
  · exact paired_app h (.cons ⟨hk, hb, y, ru, hy⟩ .nil)
end
theorem owK_some {ρ : Rho} {i : Nat} {kvs : KD} (h : owK ρ i = some kvs) : ρ[i]? = some (some (.ow (.dict kvs))) := by
  unfold owK at h
  split at h
  · rename_i e
    cases h
    exact slAt_some e
  · cases h
theorem bwK_some {ρ : Rho} {i : Nat} {kvs : KD} (h : bwK ρ i = some kvs) : ρ[i]? = some (some (.bw (.dict kvs))) := by
  unfold bwK at h
  split at h
  · rename_i e
    cases h
    exact slAt_some e
  · cases h
theorem fzOf_some {x : Sl} {d : D} (h : fzOf x = some d) : x = .fz d := by
  cases x with
  | fz e => cases h; rfl
  | _ => cases h
section
variable {K : KW} {Se S : Option Addr} {c : Option Nat} {Ge He G H : Hp} {ρ : Rho} {σ : L2.St} {i : Nat}
theorem own_dict {kvs : KD} (s : SR K Se Ge He S c ρ σ G H) (h : ρ[i]? = some (some (.ow (.dict kvs)))) : ∃ a xs, σ[i]? = some (some (.ref a)) ∧ (∃ ep, H a = some (DOb K.w a xs ep)) ∧ Paired (DRel K G) kvs xs := by
  obtain ⟨v, e1, a, rfl, _, _, _, vs, ho, hd⟩ := s.slot i _ h
  exact ⟨a, vs, e1, ho, hd⟩
theorem bor_dict {kvs : KD} (s : SR K Se Ge He S c ρ σ G H) (h : ρ[i]? = some (some (.bw (.dict kvs)))) : ∃ a xs, σ[i]? = some (some (.ref a)) ∧ (∃ ep, H a = some (DOb K.w a xs ep)) ∧ Paired (DRel K G) kvs xs := by
  obtain ⟨v, e1, a, rfl, _, _, vs, ho, hd⟩ := s.slot i _ h
  exact ⟨a, vs, e1, ho, hd⟩
theorem bict_at {kvs : KD} {a : Addr} (s : SR K Se Ge He S c ρ σ G H) (h : ρ[i]? = some (some (.bw (.dict kvs)))) (ha : σ[i]? = some (some (.ref a))) : ∃ xs, (∃ ep, H a = some (DOb K.w a xs ep)) ∧ Paired (DRel K G) kvs xs := by
  obtain ⟨a', vs, e1, ho, hd⟩ := bor_dict s h
  rw [ha] at e1
  cases e1
  exact ⟨vs, ho, hd⟩
/-- the object of a slot as it stands later -/
theorem dict_at {kvs : KD} {a : Addr} (s : SR K Se Ge He S c ρ σ G H) (h : ρ[i]? = some (some (.ow (.dict kvs)))) (ha : σ[i]? = some (some (.ref a))) : ∃ xs, (∃ ep, H a = some (DOb K.w a xs ep)) ∧ Paired (DRel K G) kvs xs := by
  obtain ⟨a', vs, e1, ho, hd⟩ := own_dict s h
  rw [ha] at e1
  cases e1
  exact ⟨vs, ho, hd⟩
end
theorem key_ref {K : KW} {G : Hp} {v : V} {d : D} {k : NestedKey} (h : Dq K G v d) (hk : keyT d = some k) : ∃ b, v = .ref b := by
  cases d with
  | tuple ds => cases h; exact ⟨_, rfl⟩
  | _ => cases hk
section
variable {X : Cx} {Φ : Tab} {a b e f : Expr} {A B E F : Ex} {pos p : Pos} {k : Nat} {i : Nat}
theorem e_dnew : PE X (.Dict [] [] pos) (tE Φ X.KW .dnew) := by
  refine ⟨fun pins s σ H Q I hw => ?_⟩
  obtain ⟨Se, Ge, He, S, c, ρ, G, sr, z, c', hev, q⟩ := hw
  simp only [ev] at hev
  cases hev
  exact pe_nnew.run pins s σ H Q I fun p hp => q _ G _ (.newO sr.sub sr.sta hp) ⟨p, rfl, hp, gne sr.sub hp, sne sr.sta hp, [], ⟨0, upd_same⟩, .nil⟩
theorem e_dlen (T : TabOk X.prog X.w X.KW X.mg X.base k Φ) (hg : Gl X "len") (ha : PE X e (tE Φ X.KW E)) (hs : starEach [e] X.env = (false, eval e X.env) :: starEach [] X.env) : PE X (.Call (.Name "len" p) [e] [] pos) (tE Φ X.KW (.dlen E)) := by
  have h := pe_callB (X := X) (p := p) (pos := pos) cr_lenN hg (T.bl _ (by decide +kernel)) (by decide +kernel) (pa_cons ha pa_nil hs) (by decide) (by decide) hs rfl
  refine ⟨fun pins s σ H Q I hw => ?_⟩
  obtain ⟨Se, Ge, He, S, c, ρ, G, sr, z, c', hev, q⟩ := hw
  simp only [ev] at hev
  replace hev := M.bind_some hev
  obtain ⟨x, c1, h1, hev⟩ := hev
  replace hev := M.bind_some hev
  obtain ⟨kvs, c2, h2, hev⟩ := hev
  replace h2 := ofO2 h2
  obtain ⟨h2, e2⟩ := h2
  subst e2
  cases hev
  refine h.run pins s σ H Q I ⟨Se, Ge, He, S, c, ρ, G, sr, x, _, h1, fun v G1 H1 n1 r1 => ?_⟩
  have key : ∃ d xs, v = .ref d ∧ (∃ ep, H1 d = some (DOb X.w d xs ep)) ∧ Paired (DRel X.KW G1) kvs xs := by
    cases x with
    | ow d =>
      cases d with
      | dict l =>
        cases h2
        obtain ⟨d, rfl, _, _, _, xs, o1, o2⟩ := r1
        exact ⟨d, xs, rfl, o1, o2⟩
      | _ => cases h2
    | bw d =>
      cases d with
      | dict l =>
        cases h2
        obtain ⟨d, rfl, _, xs, o1, o2⟩ := r1
        exact ⟨d, xs, rfl, o1, o2⟩
      | _ => cases h2
    | _ => cases h2
  obtain ⟨d, xs, rfl, o1, o2⟩ := key
  refine ⟨d, xs, rfl, ⟨o1, drel_keys n1.sub o2⟩, ?_⟩
  rw [← Paired.length o2]
  exact (q.after n1).plain n1.sub n1.sta (.int _)
theorem e_dsort (T : TabOk X.prog X.w X.KW X.mg X.base k Φ) (hc : X.calm = true) (hu : X.A.units + 67 < cLine) (hg : Gl X "sorted") (ha : PE X e (tVar i)) (hs : starEach [e] X.env = (false, eval e X.env) :: starEach [] X.env) : PE X (.Call (.Name "sorted" p) [e] [] pos) (tE Φ X.KW (.dsort i)) := by
  have h := pe_callB (X := X) (p := p) (pos := pos) (cr_sortDic hc hu) hg (T.bl _ (by decide +kernel)) (by decide +kernel) (pa_cons ha pa_nil hs) (by decide) (by decide) hs rfl
  refine ⟨fun pins s σ H Q I hw => ?_⟩
  obtain ⟨Se, Ge, He, S, c, ρ, G, sr, z, c', hev, q⟩ := hw
  simp only [ev] at hev
  replace hev := M.bind_some hev
  obtain ⟨kvs, c2, h2, hev⟩ := hev
  replace h2 := ofO2 h2
  obtain ⟨h2, e2⟩ := h2
  subst e2
  replace hev := M.bind_some hev
  obtain ⟨ys, c3, h3, hev⟩ := hev
  replace h3 := ofO2 h3
  obtain ⟨h3, e3⟩ := h3
  subst e3
  cases hev
  obtain ⟨d, xs, g1, g2, g3⟩ := own_dict sr (owK_some h2)
  unfold dsortD at h3
  have hk : DqAll X.KW G (xs.map fun x => V.ref x.2.1) (kvs.map (·.1)) := by
    clear h3 h2 g2 q
    induction g3 with
    | nil => exact .nil
    | cons h _ ih => exact .cons h.2.1 ih
  refine h.run pins s σ H Q I ⟨.ref d, g1, d, xs, _, ys, G, rfl, ⟨g2, drel_keys sr.sub g3⟩, sr.sub, hk, h3, fun zs p hz hp => ?_⟩
  exact q _ _ _ (.newO sr.sub sr.sta hp) ⟨p, rfl, hp, gne sr.sub hp, sne sr.sta hp, _, upd_same, hz⟩
theorem e_dat (hu : X.A.units + 67 < cLine) (ho : PE X e (tVar i)) (ha : PE X a (tE Φ X.KW A)) (hs : PlainIx a) : PE X (.Subscript e a pos) (tE Φ X.KW (.dat i A)) := by
  have h := pe_nget (X := X) (pos := pos) (by omega) ho ha hs
  refine ⟨fun pins s σ H Q I hw => ?_⟩
  obtain ⟨Se, Ge, He, S, c, ρ, G, sr, z, c', hev, q⟩ := hw
  simp only [ev] at hev
  replace hev := M.bind_some hev
  obtain ⟨kvs, c2, h2, hev⟩ := hev
  replace h2 := ofO2 h2
  obtain ⟨h2, e2⟩ := h2
  subst e2
  replace hev := M.bind_some hev
  obtain ⟨x, c1, h1, hev⟩ := hev
  replace hev := M.bind_some hev
  obtain ⟨d, c3, h3, hev⟩ := hev
  replace h3 := ofO2 h3
  obtain ⟨h3, e3⟩ := h3
  subst e3
  have e5 := fzOf_some h3
  subst e5
  replace hev := M.bind_some hev
  obtain ⟨kk, c4, h4, hev⟩ := hev
  replace h4 := ofO2 h4
  obtain ⟨h4, e4⟩ := h4
  subst e4
  replace hev := M.bind_some hev
  obtain ⟨v, c5, h5, hev⟩ := hev
  replace h5 := ofO2 h5
  obtain ⟨h5, e5⟩ := h5
  subst e5
  cases hev
  have hi := owK_some h2
  obtain ⟨ad, xs, g1, g2, g3⟩ := own_dict sr hi
  refine h.run pins s σ H Q I ⟨.ref ad, g1, Se, Ge, He, S, _, ρ, G, sr, _, _, h1, fun y G1 H1 n1 r1 => ?_⟩
  obtain ⟨xs1, o1, o2⟩ := dict_at (sr.step n1) hi g1
  obtain ⟨b, rfl⟩ := key_ref r1 h4
  obtain ⟨pp, w, z1, z2, z3⟩ := drel_some o2 h5
  exact ⟨ad, xs1, b, kk, pp, w, rfl, rfl, ⟨o1, drel_keys n1.sub o2⟩, ⟨d, dp_mono n1.sub _ r1, h4⟩, z1, z2, (q.after n1).plain n1.sub n1.sta z3⟩
theorem e_datB (hu : X.A.units + 67 < cLine) (ho : PE X e (tVar i)) (ha : PE X a (tE Φ X.KW A)) (hs : PlainIx a) : PE X (.Subscript e a pos) (tE Φ X.KW (.datB i A)) := by
  have h := pe_nget (X := X) (pos := pos) (by omega) ho ha hs
  refine ⟨fun pins s σ H Q I hw => ?_⟩
  obtain ⟨Se, Ge, He, S, c, ρ, G, sr, z, c', hev, q⟩ := hw
  simp only [ev] at hev
  replace hev := M.bind_some hev
  obtain ⟨kvs, c2, h2, hev⟩ := hev
  replace h2 := ofO2 h2
  obtain ⟨h2, e2⟩ := h2
  subst e2
  replace hev := M.bind_some hev
  obtain ⟨x, c1, h1, hev⟩ := hev
  replace hev := M.bind_some hev
  obtain ⟨d, c3, h3, hev⟩ := hev
  replace h3 := ofO2 h3
  obtain ⟨h3, e3⟩ := h3
  subst e3
  have e5 := fzOf_some h3
  subst e5
  replace hev := M.bind_some hev
  obtain ⟨kk, c4, h4, hev⟩ := hev
  replace h4 := ofO2 h4
  obtain ⟨h4, e4⟩ := h4
  subst e4
  replace hev := M.bind_some hev
  obtain ⟨v, c5, h5, hev⟩ := hev
  replace h5 := ofO2 h5
  obtain ⟨h5, e5⟩ := h5
  subst e5
  cases hev
  have hi := bwK_some h2
  obtain ⟨ad, xs, g1, g2, g3⟩ := bor_dict sr hi
  refine h.run pins s σ H Q I ⟨.ref ad, g1, Se, Ge, He, S, _, ρ, G, sr, _, _, h1, fun y G1 H1 n1 r1 => ?_⟩
  obtain ⟨xs1, o1, o2⟩ := bict_at (sr.step n1) hi g1
  obtain ⟨b, rfl⟩ := key_ref r1 h4
  obtain ⟨pp, w, z1, z2, z3⟩ := drel_some o2 h5
  exact ⟨ad, xs1, b, kk, pp, w, rfl, rfl, ⟨o1, drel_keys n1.sub o2⟩, ⟨d, dp_mono n1.sub _ r1, h4⟩, z1, z2, (q.after n1).plain n1.sub n1.sta z3⟩
theorem e_dgt {apos : Pos} (hu : X.A.units + 67 < cLine) (ho : PE X e (tVar i)) (ha : PE X a (tE Φ X.KW A)) (hb : PE X b (tE Φ X.KW B)) (m : M2 X e "get" apos a b pos) : PE X (.Call (.Attribute e "get" apos) [a, b] [] pos) (tE Φ X.KW (.dgt i A B)) := by
  have h := pe_nget2 (X := X) (by omega) ho ha hb m
  refine ⟨fun pins s σ H Q I hw => ?_⟩
  obtain ⟨Se, Ge, He, S, c, ρ, G, sr, z, c', hev, q⟩ := hw
  simp only [ev] at hev
  replace hev := M.bind_some hev
  obtain ⟨kvs, c2, h2, hev⟩ := hev
  replace h2 := ofO2 h2
  obtain ⟨h2, e2⟩ := h2
  subst e2
  replace hev := M.bind_some hev
  obtain ⟨x, c1, h1, hev⟩ := hev
  replace hev := M.bind_some hev
  obtain ⟨d, c3, h3, hev⟩ := hev
  replace h3 := ofO2 h3
  obtain ⟨h3, e3⟩ := h3
  subst e3
  have e5 := fzOf_some h3
  subst e5
  replace hev := M.bind_some hev
  obtain ⟨kk, c4, h4, hev⟩ := hev
  replace h4 := ofO2 h4
  obtain ⟨h4, e4⟩ := h4
  subst e4
  replace hev := M.bind_some hev
  obtain ⟨y, c5, h5, hev⟩ := hev
  replace hev := M.bind_some hev
  obtain ⟨zd, c6, h6, hev⟩ := hev
  replace h6 := ofO2 h6
  obtain ⟨h6, e6⟩ := h6
  subst e6
  have e7 := fzOf_some h6
  subst e7
  cases hev
  have hi := owK_some h2
  obtain ⟨ad, xs, g1, g2, g3⟩ := own_dict sr hi
  refine h.run pins s σ H Q I ⟨.ref ad, g1, ad, rfl, ⟨xs, g2⟩, Se, Ge, He, S, _, ρ, G, sr, _, _, h1, fun y1 G1 H1 n1 r1 => ⟨Se, Ge, He, S, _, ρ, G1, sr.step n1, _, _, h5, fun y2 G2 H2 n2 r2 => ?_⟩⟩
  have s2 := (sr.step n1).step n2
  obtain ⟨xs1, o1, o2⟩ := dict_at s2 hi g1
  obtain ⟨b, rfl⟩ := key_ref r1 h4
  have r1' : Dq X.KW G2 (.ref b) d := dp_mono n2.kp.kg _ r1
  refine ⟨xs1, b, kk, rfl, ⟨o1, drel_keys n2.sub o2⟩, ⟨d, dp_mono n2.sub _ r1', h4⟩, fun u ru => ?_⟩
  have n12 := n1.trans n2
  cases e : dGet kk kvs with
  | none =>
    rw [e] at q
    rw [drel_none o2 e]
    exact ⟨y2, ru, (q.after n12).plain n2.sub n2.sta r2⟩
  | some v =>
    rw [e] at q
    obtain ⟨pp, w, z1, z2, z3⟩ := drel_some o2 e
    rw [z1]
    exact ⟨w, z2, (q.after n12).plain n2.sub n2.sta z3⟩
theorem e_din {ng : Bool} (hu : X.A.units + 67 < cLine) (ha : PE X a (tE Φ X.KW A)) (ho : PE X e (tVar i)) (bm : behindInMarks (if ng then CmpOp.NotIn else CmpOp.In) e = false) :
    PE X (.Compare a [if ng then .NotIn else .In] [e] pos) (tE Φ X.KW (.din ng A i)) ∧ PT X (.Compare a [if ng then .NotIn else .In] [e] pos) (tT Φ X.KW (.din ng A i)) := by
  have op := op_nin (X := X) (ng := ng) (by omega)
  have inv : ∀ {ρ : Rho} {c c' : Option Nat} {z : Sl}, ev Φ (.din ng A i) ρ c = some (z, c') → ∃ d kk kvs, ev Φ A ρ c = some (.fz d, c') ∧ keyT d = some kk ∧ owK ρ i = some kvs ∧ z = .fz (.bool (ng != (dGet kk kvs).isSome)) := by
    intro ρ c c' z hev
    simp only [ev] at hev
    replace hev := M.bind_some hev
    obtain ⟨x, c1, h1, hev⟩ := hev
    replace hev := M.bind_some hev
    obtain ⟨d, c3, h3, hev⟩ := hev
    replace h3 := ofO2 h3
    obtain ⟨h3, e3⟩ := h3
    subst e3
    have e5 := fzOf_some h3
    subst e5
    replace hev := M.bind_some hev
    obtain ⟨kk, c4, h4, hev⟩ := hev
    replace h4 := ofO2 h4
    obtain ⟨h4, e4⟩ := h4
    subst e4
    replace hev := M.bind_some hev
    obtain ⟨kvs, c2, h2, hev⟩ := hev
    replace h2 := ofO2 h2
    obtain ⟨h2, e2⟩ := h2
    subst e2
    cases hev
    exact ⟨d, kk, kvs, h1, h4, h2, rfl⟩
  constructor
  · refine ⟨fun pins s σ H Q I hw => ?_⟩
    obtain ⟨Se, Ge, He, S, c, ρ, G, sr, z, c', hev, q⟩ := hw
    obtain ⟨d, kk, kvs, h1, h4, h2, rfl⟩ := inv hev
    have hi := owK_some h2
    obtain ⟨ad, xs, g1, g2, g3⟩ := own_dict sr hi
    refine (pe_cmpR op ha ho bm).run pins s σ H Q I ⟨Se, Ge, He, S, c, ρ, G, sr, _, _, h1, fun v G1 H1 n1 r1 => ⟨.ref ad, g1, ?_⟩⟩
    obtain ⟨xs1, o1, o2⟩ := dict_at (sr.step n1) hi g1
    obtain ⟨b, rfl⟩ := key_ref r1 h4
    refine ⟨ad, xs1, b, kk, rfl, rfl, ⟨o1, drel_keys n1.sub o2⟩, ⟨d, dp_mono n1.sub _ r1, h4⟩, ?_⟩
    rw [drel_isSome o2]
    exact q _ _ _ n1 (.bl _)
  · refine ⟨fun pins s σ H Q I hw => ?_⟩
    obtain ⟨Se, Ge, He, S, c, ρ, G, sr, t, c', hev, q⟩ := hw
    obtain ⟨z, hev, hz⟩ := tst_some hev
    obtain ⟨d, kk, kvs, h1, h4, h2, rfl⟩ := inv hev
    cases hz
    have hi := owK_some h2
    obtain ⟨ad, xs, g1, g2, g3⟩ := own_dict sr hi
    refine (pt_cmpR op ha ho bm).run pins s σ H Q I ⟨Se, Ge, He, S, c, ρ, G, sr, _, _, h1, fun v G1 H1 n1 r1 => ⟨.ref ad, g1, ?_⟩⟩
    obtain ⟨xs1, o1, o2⟩ := dict_at (sr.step n1) hi g1
    obtain ⟨b, rfl⟩ := key_ref r1 h4
    refine ⟨ad, xs1, b, kk, rfl, rfl, ⟨o1, drel_keys n1.sub o2⟩, ⟨d, dp_mono n1.sub _ r1, h4⟩, ?_⟩
    rw [drel_isSome o2]
    exact ⟨_, rfl, q _ _ n1⟩
theorem s_put {p' : Pos} (hu : X.A.units + 67 < cLine) (ho : PE X e (tVar i)) (ha : PE X a (tE Φ X.KW A)) (hb : PE X b (tE Φ X.KW B)) (hs : swapsWith b (some (.Subscript e a p')) pos.line X.env = pure false) :
    PS X (.Assign [.Subscript e a p'] b pos) (tS Φ X.KW (.put i A B)) := by
  have h := ps_nput (X := X) (pos := pos) (pos' := p') (by omega) ho ha hb hs
  refine ⟨fun pins s σ H Dn I hw => ?_⟩
  obtain ⟨Se, Ge, He, S, c, ρ, G, sr, fl, c', hev, q⟩ := hw
  simp only [ex] at hev
  replace hev := M.bind_some hev
  obtain ⟨x, c1, h1, hev⟩ := hev
  replace hev := M.bind_some hev
  obtain ⟨v, c2, h2, hev⟩ := hev
  replace h2 := ofO2 h2
  obtain ⟨h2, e2⟩ := h2
  subst e2
  have e2 := fzOf_some h2
  subst e2
  replace hev := M.bind_some hev
  obtain ⟨y, c3, h3, hev⟩ := hev
  replace hev := M.bind_some hev
  obtain ⟨d, c4, h4, hev⟩ := hev
  replace h4 := ofO2 h4
  obtain ⟨h4, e4⟩ := h4
  subst e4
  have e4 := fzOf_some h4
  subst e4
  replace hev := M.bind_some hev
  obtain ⟨kk, c5, h5, hev⟩ := hev
  replace h5 := ofO2 h5
  obtain ⟨h5, e5⟩ := h5
  subst e5
  replace hev := M.bind_some hev
  obtain ⟨kvs, c6, h6, hev⟩ := hev
  replace h6 := ofO2 h6
  obtain ⟨h6, e6⟩ := h6
  subst e6
  split at hev
  · rename_i hl
    cases hev
    have hi := owK_some h6
    obtain ⟨ad, xs, g1, g2, g3⟩ := own_dict sr hi
    refine h.run pins s σ H Dn I ⟨Se, Ge, He, S, c, ρ, G, sr, _, _, h1, fun y1 G1 H1 n1 r1 => ⟨.ref ad, g1, Se, Ge, He, S, _, ρ, G1, sr.step n1, _, _, h3, fun y2 G2 H2 n2 r2 => ?_⟩⟩
    have s2 := (sr.step n1).step n2
    obtain ⟨xs1, o1, o2⟩ := dict_at s2 hi g1
    obtain ⟨b, rfl⟩ := key_ref r2 h5
    refine ⟨ad, xs1, b, kk, rfl, rfl, ⟨o1, drel_keys n2.sub o2⟩, ⟨d, dp_mono n2.sub _ r2, h5⟩, by rw [← Paired.length o2]; exact hl, fun u ep ru => ?_⟩
    have r1' : Dq X.KW G2 y1 v := dp_mono n2.kp.kg _ r1
    exact q _ _ _ _ (s2.chg hi g1 ⟨_, ⟨_, upd_same⟩, drel_put o2 h5 r2 ru r1'⟩) (n1.trans n2).kp.kg
  · cases hev
theorem s_setd {apos p2 : Pos} (hu : X.A.units + 67 < cLine) (ho : PE X e (tVar i)) (ha : PE X a (tE Φ X.KW A)) (hb : PE X b (tE Φ X.KW B)) (m : M2 X e "setdefault" apos a b p2) :
    PS X (.Expr (.Call (.Attribute e "setdefault" apos) [a, b] [] p2) pos) (tS Φ X.KW (.setd i A B)) := by
  have h := pe_nsetd (X := X) (by omega) ho ha hb m
  refine ⟨fun pins s σ H Dn I hw => ?_⟩
  obtain ⟨Se, Ge, He, S, c, ρ, G, sr, fl, c', hev, q⟩ := hw
  simp only [ex] at hev
  replace hev := M.bind_some hev
  obtain ⟨y, c3, h3, hev⟩ := hev
  replace hev := M.bind_some hev
  obtain ⟨d, c4, h4, hev⟩ := hev
  replace h4 := ofO2 h4
  obtain ⟨h4, e4⟩ := h4
  subst e4
  have e4 := fzOf_some h4
  subst e4
  replace hev := M.bind_some hev
  obtain ⟨kk, c5, h5, hev⟩ := hev
  replace h5 := ofO2 h5
  obtain ⟨h5, e5⟩ := h5
  subst e5
  replace hev := M.bind_some hev
  obtain ⟨x, c1, h1, hev⟩ := hev
  replace hev := M.bind_some hev
  obtain ⟨v, c2, h2, hev⟩ := hev
  replace h2 := ofO2 h2
  obtain ⟨h2, e2⟩ := h2
  subst e2
  have e2 := fzOf_some h2
  subst e2
  replace hev := M.bind_some hev
  obtain ⟨kvs, c6, h6, hev⟩ := hev
  replace h6 := ofO2 h6
  obtain ⟨h6, e6⟩ := h6
  subst e6
  split at hev
  · rename_i hl
    cases hev
    have hi := owK_some h6
    obtain ⟨ad, xs, g1, g2, g3⟩ := own_dict sr hi
    refine (ps_expr h rfl).run pins s σ H Dn I ⟨.ref ad, g1, ad, rfl, ⟨xs, g2⟩, Se, Ge, He, S, c, ρ, G, sr, _, _, h3, fun y1 G1 H1 n1 r1 => ⟨Se, Ge, He, S, _, ρ, G1, sr.step n1, _, _, h1, fun y2 G2 H2 n2 r2 => ?_⟩⟩
    have s2 := (sr.step n1).step n2
    obtain ⟨xs1, o1, o2⟩ := dict_at s2 hi g1
    obtain ⟨b, rfl⟩ := key_ref r1 h5
    have r1' : Dq X.KW G2 (.ref b) d := dp_mono n2.kp.kg _ r1
    refine ⟨xs1, b, kk, rfl, ⟨o1, drel_keys n2.sub o2⟩, ⟨d, dp_mono n2.sub _ r1', h5⟩, by rw [← Paired.length o2]; exact hl, fun pp hp => ?_, fun hn u ep ru => ?_⟩
    · cases e : dGet kk kvs with
      | none =>
        rw [drel_none o2 e] at hp
        cases hp
      | some v' =>
        rw [e] at q
        obtain ⟨pp', w, z1, z2, z3⟩ := drel_some o2 e
        rw [z1] at hp
        cases hp
        have es : ρ.set i (some (.ow (.dict kvs))) = ρ := by
          obtain ⟨hlt, he⟩ := List.getElem?_eq_some_iff.mp hi
          rw [← he]
          exact List.set_getElem_self hlt
        simp only at q
        rw [es] at q
        exact ⟨w, z2, q _ _ _ _ s2 (n1.trans n2).kp.kg⟩
    · cases e : dGet kk kvs with
      | some v' =>
        obtain ⟨pp', w, z1, z2, z3⟩ := drel_some o2 e
        rw [z1] at hn
        cases hn
      | none =>
        rw [e] at q
        exact q _ _ _ _ (s2.chg hi g1 ⟨_, ⟨_, upd_same⟩, drel_put o2 h5 r1' ru r2⟩) (n1.trans n2).kp.kg
  · cases hev
end
end SB
/-! Lists by keys: a loop that fills them. -/
namespace SB
open PySem PySem.Spec PyProof.Rows L2

section
variable {K : KW} {Se S : Option Addr} {c : Option Nat} {Ge He G H : Hp} {ρ : Rho} {σ : L2.St}
/-- an object that no slot knows is changed -/
theorem SR.poke (s : SR K Se Ge He S c ρ σ G H) {a : Addr} {o : HO} (h0 : He a = none) (hg : G a = none) (hS : S ≠ some a) (hn : ∀ (l : Nat) d p, ρ[l]? = some (some (.ow d)) → σ[l]? = some (some (.ref p)) → p ≠ a) :
    SR K Se Ge He S c ρ σ G (upd H a o) := by
  have keep : ∀ b u, b ≠ a → H b = some u → (upd H a o) b = some u := fun b u n e => by rw [upd_ne n]; exact e
  refine ⟨fun b u e => keep b u (ne_of_none e hg) (s.sub b u e), ?_, ⟨fun b u n e => keep b u (ne_of_none e h0) (s.kp.kh b u n e), s.kp.kg, s.kp.kn, fun b n => ?_⟩, s.ss, s.len, fun j x e => ?_, s.inj⟩
  · have t := s.sta
    cases S with
    | none => cases c with
      | none => trivial
      | some n => exact t.elim
    | some p =>
      obtain ⟨h1, n, rfl, h2⟩ := t.out rfl
      have hp : p ≠ a := fun e => hS (by rw [e])
      exact ⟨h1, by rw [upd_ne hp]; exact h2⟩
  · have := s.kp.dm b n
    by_cases hb : b = a
    · subst hb; rw [upd_same]; exact fun q => nomatch q
    · rw [upd_ne hb]; exact this
  · obtain ⟨w, e1, h⟩ := s.slot j x e
    refine ⟨w, e1, ?_⟩
    cases x with
    | fz y => exact h
    | ow y =>
      obtain ⟨b, rfl, k0, kg, kS, ko⟩ := h
      have hb : b ≠ a := hn j y b e e1
      exact ⟨b, rfl, k0, kg, kS, ko.map (Same.refl _) fun u e => keep b u hb e⟩
    | bw y =>
      obtain ⟨b, rfl, k0, kS, ko⟩ := h
      have hb : b ≠ a := fun q => k0 (by rw [q]; exact h0)
      exact ⟨b, rfl, k0, kS, ko.map (Same.refl _) fun u e => keep b u hb e⟩
    | st => exact h
/-- an object that no slot knows is frozen -/
theorem SR.frzA (s : SR K Se Ge He S c ρ σ G H) {a : Addr} {o : HO} (ho : H a = some o) (h0 : He a = none) (hg : G a = none) (hS : S ≠ some a) (hn : ∀ (l : Nat) d p, ρ[l]? = some (some (.ow d)) → σ[l]? = some (some (.ref p)) → p ≠ a) :
    Same G (upd G a o) ∧ SR K Se Ge He S c ρ σ (upd G a o) H := by
  have sG : Same G (upd G a o) := fun b u e => by rw [upd_ne (ne_of_none e hg)]; exact e
  refine ⟨sG, fun b u e => ?_, ?_, ⟨s.kp.kh, s.kp.kg.trans sG, fun b n => ?_, s.kp.dm⟩, s.ss, s.len, fun j x e => ?_, s.inj⟩
  · by_cases hb : b = a
    · subst hb; rw [upd_same] at e; cases e; exact ho
    · rw [upd_ne hb] at e; exact s.sub b u e
  · have t := s.sta
    cases S with
    | none => cases c with
      | none => trivial
      | some n => exact t.elim
    | some p =>
      obtain ⟨h1, n, rfl, h2⟩ := t.out rfl
      have hp : p ≠ a := fun e => hS (by rw [e])
      exact ⟨by rw [upd_ne hp]; exact h1, h2⟩
  · have hb : b ≠ a := fun e => n (by rw [e]; exact h0)
    rw [upd_ne hb]; exact s.kp.kn b n
  · obtain ⟨w, e2, h⟩ := s.slot j x e
    refine ⟨w, e2, ?_⟩
    cases x with
    | fz y => exact dp_mono sG _ h
    | ow y =>
      obtain ⟨b, rfl, k0, kg, kS, ko⟩ := h
      have hb : b ≠ a := hn j y b e e2
      exact ⟨b, rfl, k0, by rw [upd_ne hb]; exact kg, kS, ko.map sG fun u e => e⟩
    | bw y =>
      obtain ⟨b, rfl, k0, kS, ko⟩ := h
      exact ⟨b, rfl, k0, kS, ko.map sG fun u e => e⟩
    | st => exact h
end
/-- an entry whose list is being filled; Hs: the heap when the loop began -/
def GRel (K : KW) (S : Option Addr) (Hs G H : Hp) (p : D × List D) (q : NestedKey × Addr × Value) : Prop :=
  keyT p.1 = some q.1 ∧ Dq K G (.ref q.2.1) p.1 ∧ ∃ b vs, q.2.2 = .ref b ∧ Hs b = none ∧ G b = none ∧ S ≠ some b ∧ H b = some (.lst vs) ∧ DqAll K G vs p.2
section
variable {K : KW} {S : Option Addr} {c : Option Nat} {Hs G H G' H' : Hp} {g : GD} {xs : Ents2} {k : NestedKey}
theorem GRel.step {p : D × List D} {q : NestedKey × Addr × Value} (h : GRel K S Hs G H p q) (n : Kp S G H G' H') : GRel K S Hs G' H' p q := by
  obtain ⟨h1, h2, b, vs, e, h3, h4, h5, h6, h7⟩ := h
  exact ⟨h1, dp_mono n.kg _ h2, b, vs, e, h3, (n.kn b (by rw [h6]; exact fun z => nomatch z)).trans h4, h5, n.kh b _ h5 h6, dpAll_mono n.kg _ h7⟩
theorem GRel.other {p : D × List D} {q : NestedKey × Addr × Value} {a : Addr} {o : HO} (h : GRel K S Hs G H p q) (hn : q.2.2 ≠ .ref a) : GRel K S Hs G (upd H a o) p q := by
  obtain ⟨h1, h2, b, vs, e, h3, h4, h5, h6, h7⟩ := h
  have hb : b ≠ a := fun z => hn (by rw [e, z])
  exact ⟨h1, h2, b, vs, e, h3, h4, h5, by rw [upd_ne hb]; exact h6, h7⟩
theorem grel_keys (sm : Same G H) (h : Paired (GRel K S Hs G H) g xs) : ∀ x ∈ xs, KeyH K H x.2.1 x.1 := by
  induction h with
  | nil => intro x hx; cases hx
  | @cons p q ps qs hq t ih =>
    intro x hx
    rcases List.mem_cons.mp hx with rfl | hx
    · exact ⟨p.1, dp_mono sm _ hq.2.1, hq.1⟩
    · exact ih x hx
theorem grel_hs (h : Paired (GRel K S Hs G H) g xs) : ∀ x ∈ xs, ∃ b, x.2.2 = .ref b ∧ Hs b = none := by
  induction h with
  | nil => intro x hx; cases hx
  | @cons p q ps qs hq t ih =>
    intro x hx
    rcases List.mem_cons.mp hx with rfl | hx
    · obtain ⟨_, _, b, vs, e, h3, _⟩ := hq
      exact ⟨b, e, h3⟩
    · exact ih x hx
theorem grel_other {a : Addr} {o : HO} (h : Paired (GRel K S Hs G H) g xs) (hn : ∀ x ∈ xs, x.2.2 ≠ .ref a) : Paired (GRel K S Hs G (upd H a o)) g xs := by
  induction h with
  | nil => exact .nil
  | @cons p q ps qs hq t ih => exact .cons (hq.other (hn q List.mem_cons_self)) (ih fun x hx => hn x (List.mem_cons_of_mem _ hx))
/-- the list at a key is lengthened -/
theorem grel_add (h : Paired (GRel K S Hs G H) g xs) (nd : (xs.map (·.2.2)).Nodup) {pp : Addr × Value} (l : atKey xs k = some pp) {key d : D} {y : V} (hy : Dq K G y d) :
    ∃ b vs, pp.2 = .ref b ∧ H b = some (.lst vs) ∧ Hs b = none ∧ G b = none ∧ S ≠ some b ∧ (∃ p ∈ g, p.2.length = vs.length) ∧ Paired (GRel K S Hs G (upd H b (.lst (vs ++ [y])))) (gAdd k key d g) xs := by
  induction h with
  | nil => cases l
  | @cons p q ps qs hq t ih =>
    rw [List.map_cons, List.nodup_cons] at nd
    rw [atKey_cons] at l
    by_cases e : q.1 = k
    · rw [if_pos e] at l
      cases l
      obtain ⟨h1, h2, b, vs, eb, h3, h4, h5, h6, h7⟩ := hq
      have e1 : keyT p.1 = some k := by rw [h1, e]
      refine ⟨b, vs, eb, h6, h3, h4, h5, ⟨p, List.mem_cons_self, (dpAll_length h7).symm⟩, ?_⟩
      rw [gAdd, if_pos e1]
      refine .cons ⟨h1, h2, b, _, eb, h3, h4, h5, upd_same, dpAll_append h7 (.cons hy .nil)⟩ (grel_other t fun x hx z => nd.1 ?_)
      rw [eb, ← z]
      exact List.mem_map.mpr ⟨x, hx, rfl⟩
    · rw [if_neg e] at l
      have e1 : ¬ keyT p.1 = some k := fun z => e (Option.some.inj (hq.1.symm.trans z))
      obtain ⟨b, vs, eb, h6, h3, h4, h5, ⟨p0, m0, l0⟩, h7⟩ := ih nd.2 l
      refine ⟨b, vs, eb, h6, h3, h4, h5, ⟨p0, List.mem_cons_of_mem _ m0, l0⟩, ?_⟩
      rw [gAdd, if_neg e1]
      refine .cons (hq.other fun z => nd.1 ?_) h7
      have : ∃ x ∈ qs, x.2 = pp := by
        unfold atKey at l
        obtain ⟨x, hx, e2⟩ := Option.map_eq_some_iff.mp l
        exact ⟨x, List.mem_of_find?_eq_some hx, e2⟩
      obtain ⟨x, hx, e2⟩ := this
      rw [z, ← eb, ← e2]
      exact List.mem_map.mpr ⟨x, hx, rfl⟩
theorem grel_fresh (h : Paired (GRel K S Hs G H) g xs) (l : atKey xs k = none) {key d : D} (hk : keyT key = some k) : gAdd k key d (g ++ [(key, [])]) = gAdd k key d g := by
  induction h with
  | nil =>
    show gAdd k key d [(key, [])] = [(key, [d])]
    rw [gAdd, if_pos hk]
    rfl
  | @cons p q ps qs hq t ih =>
    rw [atKey_cons] at l
    by_cases e : q.1 = k
    · rw [if_pos e] at l; cases l
    · rw [if_neg e] at l
      have e1 : ¬ keyT p.1 = some k := fun z => e (Option.some.inj (hq.1.symm.trans z))
      rw [List.cons_append, gAdd, if_neg e1, gAdd, if_neg e1, ih l]
theorem atKey_app {xs : Ents2} (l : atKey xs k = none) (p : Addr × Value) : atKey (xs ++ [(k, p)]) k = some p := by
  induction xs with
  | nil => rw [List.nil_append, atKey_cons, if_pos rfl]
  | cons x xs ih =>
    rw [atKey_cons] at l
    rw [List.cons_append, atKey_cons]
    by_cases e : x.1 = k
    · rw [if_pos e] at l; cases l
    · rw [if_neg e] at l ⊢
      exact ih l
theorem gAdd_len (k : NestedKey) (key d : D) : ∀ g : GD, (gAdd k key d g).length ≤ g.length + 1
  | [] => Nat.le_refl _
  | p :: g => by
    rw [gAdd]
    split
    · simp
    · have := gAdd_len k key d g
      simp only [List.length_cons]
      omega
theorem gAdd_each (k : NestedKey) (key d : D) : ∀ (g : GD) (n : Nat), (∀ p ∈ g, p.2.length ≤ n) → ∀ p ∈ gAdd k key d g, p.2.length ≤ n + 1
  | [], n, _, p, hp => by
    rcases List.mem_cons.mp hp with rfl | hp
    · simp
    · cases hp
  | q :: g, n, h, p, hp => by
    rw [gAdd] at hp
    split at hp
    · rcases List.mem_cons.mp hp with rfl | hp
      · have := h q List.mem_cons_self
        simp only [List.length_append, List.length_singleton]
        omega
      · have := h p (List.mem_cons_of_mem _ hp)
        omega
    · rcases List.mem_cons.mp hp with rfl | hp
      · have := h p List.mem_cons_self
        omega
      · exact gAdd_each k key d g n (fun r hr => h r (List.mem_cons_of_mem _ hr)) p hp
end
/-- all lists of a dict are frozen -/
theorem grel_frz {K : KW} {Se S : Option Addr} {c : Option Nat} {Ge He H Hs : Hp} {ρ : Rho} {σ : L2.St} (ad : Addr) (dm : ∀ b, He b ≠ none → Hs b ≠ none) (hso : ∀ (l : Nat) d p, ρ[l]? = some (some (.ow d)) → σ[l]? = some (some (.ref p)) → Hs p ≠ none) (had : Hs ad ≠ none) :
    ∀ {g : GD} {xs : Ents2} {G : Hp}, SR K Se Ge He S c ρ σ G H → Paired (GRel K S Hs G H) g xs → (xs.map (·.2.2)).Nodup → ∃ G', Same G G' ∧ SR K Se Ge He S c ρ σ G' H ∧ Paired (DRel K G') (gDict g) xs ∧ (∀ b, Hs b ≠ none → G' b = G b)
  | _, [], G, sr, h, _ => by
    cases h
    exact ⟨G, Same.refl _, sr, .nil, fun _ _ => rfl⟩
  | _, q :: qs, G, sr, h, nd => by
    cases h with
    | @cons p _ ps _ hq t =>
      rw [List.map_cons, List.nodup_cons] at nd
      obtain ⟨h1, h2, b, vs, eb, h3, h4, h5, h6, h7⟩ := hq
      have hne : ∀ {a}, Hs a ≠ none → a ≠ b := fun h z => h (by rw [z]; exact h3)
      have hb0 : He b = none := by
        cases e : He b with
        | none => rfl
        | some o => exact absurd h3 (dm b (by rw [e]; exact fun z => nomatch z))
      obtain ⟨sG, sr1⟩ := sr.frzA h6 hb0 h4 h5 fun l d p e1 e2 => hne (hso l d p e1 e2)
      have t1 : Paired (GRel K S Hs (upd G b (.lst vs)) H) ps qs := by
        have key : ∀ {l : GD} {m : Ents2}, Paired (GRel K S Hs G H) l m → (∀ x ∈ m, x.2.2 ≠ .ref b) → Paired (GRel K S Hs (upd G b (.lst vs)) H) l m := by
          intro l m h
          induction h with
          | nil => intro _; exact .nil
          | @cons p' q' ps' qs' hq' t' ih' =>
            intro hx
            refine .cons ?_ (ih' fun x hx' => hx x (List.mem_cons_of_mem _ hx'))
            obtain ⟨g1, g2, b', vs', eb', g3, g4, g5, g6, g7⟩ := hq'
            have hbb : b' ≠ b := fun z => hx q' List.mem_cons_self (by rw [eb', z])
            exact ⟨g1, dp_mono sG _ g2, b', vs', eb', g3, by rw [upd_ne hbb]; exact g4, g5, g6, dpAll_mono sG _ g7⟩
        refine key t fun x hx z => nd.1 ?_
        rw [eb, ← z]
        exact List.mem_map.mpr ⟨x, hx, rfl⟩
      obtain ⟨G', s2, sr2, pr, hk⟩ := grel_frz ad dm hso had sr1 t1 nd.2
      refine ⟨G', sG.trans s2, sr2, .cons ⟨h1, dp_mono (sG.trans s2) _ h2, .ref b, by rw [eb]; rfl, ?_⟩ pr, fun a ha => ?_⟩
      · exact .lst (.inl (.inl (s2 b _ upd_same))) (dpAll_mono (sG.trans s2) _ h7)
      · rw [hk a ha, upd_ne (hne ha)]
end SB
/-! Lists by keys: the loop. -/
namespace SB
open PySem PySem.Spec PyProof.Rows L2

theorem gloop_cons {f : D → Rho → M (Rho × D)} {d : D} {ds : List D} {ρ : Rho} {g : GD} {c c' : Option Nat} {r : Rho × GD} (h : gloop f (d :: ds) ρ g c = some (r, c')) : ∃ z k c1, f d ρ c = some (z, c1) ∧ keyT z.2 = some k ∧ gloop f ds z.1 (gAdd k z.2 d g) c1 = some (r, c') := by
  simp only [gloop] at h
  replace h := M.bind_some h
  obtain ⟨z, c1, h1, h⟩ := h
  replace h := M.bind_some h
  obtain ⟨k, c2, h2, h⟩ := h
  replace h2 := ofO2 h2
  obtain ⟨h2, e2⟩ := h2
  subst e2
  exact ⟨z, k, _, h1, h2, h⟩
/-- how it stands after some turns -/
def GN (K : KW) (Se S : Option Addr) (Ge He G1 H1 : Hp) (L i : Nat) (ad : Addr) (ρ' : Rho) (g' : GD) (lp : Option Nat → Prop) (σ' : L2.St) (H' : Hp) : Prop :=
  ∃ cN G' ys', lp cN ∧ SR K Se Ge He S cN ρ' σ' G' H' ∧ ρ'.length = L ∧ Same G1 G' ∧ (∀ b, H1 b ≠ none → H' b ≠ none) ∧ σ'[i]? = some (some (.ref ad)) ∧ (∃ ep, H' ad = some (DOb K.w ad ys' ep)) ∧ G' ad = none ∧ Paired (GRel K S H1 G' H') g' ys' ∧ (ys'.map (·.2.2)).Nodup ∧
    ∀ (l : Nat) d p, ρ'[l]? = some (some (.ow d)) → σ'[l]? = some (some (.ref p)) → H1 p ≠ none ∧ p ≠ ad
theorem grel_there {K : KW} {S : Option Addr} {Hs G H : Hp} {g : GD} {xs : Ents2} (h : Paired (GRel K S Hs G H) g xs) : ∀ x ∈ xs, ∃ b vs, x.2.2 = .ref b ∧ H b = some (.lst vs) := by
  induction h with
  | nil => intro x hx; cases hx
  | @cons p q ps qs hq t ih =>
    intro x hx
    rcases List.mem_cons.mp hx with rfl | hx
    · obtain ⟨_, _, b, vs, e, _, _, _, h6, _⟩ := hq
      exact ⟨b, vs, e, h6⟩
    · exact ih x hx
section
variable {X : Cx} {Φ : Tab} {e it : Expr} {E IT : Ex} {pos : Pos}
theorem s_grp {i o w : Nat} {xi xo xw : Str} {tg : Expr} {pO pa pf1 ap1 po2 pl cp1 pe1 pf2 po3 ps ap2 pw2 cp2 pe2 : Pos} (hp : PassesOwn (model X.prog X.w) X.A X.env X.xe) (hc : X.calm = true) (hu : X.A.units + 67 < cLine) (hN : X.N.Nodup)
    (hi : PI X tg it (iD X.KW .seq (tAk Φ X.KW [IT]))) (hg : PG X tg (gTg X.KW [w] true)) (hfs : ∀ x, foldedSetIterable it X.env x = pure x)
    (hxo : X.N[o]? = some xo) (hxi : X.N[i]? = some xi) (hxw : X.N[w]? = some xw) (hlo : Loc X.env.scope xo) (hfo : X.fn xo = true ∨ X.env.scope.names.lookup xo = some .local)
    (vi : ∀ p, PE X (.Name xi p) (tVar i)) (vo : ∀ p, PE X (.Name xo p) (tVar o)) (vw : ∀ p, PE X (.Name xw p) (tVar w))
    (he : PE X e (tE Φ X.KW E)) (hse : swapsWith e (some (.Name xo pO)) pa.line X.env = pure false) (hl1 : (ap1.endLine == cp1.line) = true) (hl2 : (ap2.endLine == cp2.line) = true) :
    PS X (.For tg it [.Assign [.Name xo pO] e pa, .Expr (.Call (.Attribute (.Name xi pf1) "setdefault" ap1) [.Name xo po2, .List [] pl] [] cp1) pe1, .Expr (.Call (.Attribute (.Subscript (.Name xi pf2) (.Name xo po3) ps) "append" ap2) [.Name xw pw2] [] cp2) pe2] [] pos) (tS Φ X.KW (.grp i o w IT E)) := by
  have b1 := ps_set (X := X) (i := o) (pos := pa) hN hxo hlo he hse hfo
  have b2 := ps_expr (pos := pe1) (pe_nsetd (X := X) (apos := ap1) (cpos := cp1) (by omega) (vi pf1) (vo po2) (pe_lst (pos := pl) pa_nil) ⟨rfl, rfl, hl1, rfl⟩) rfl
  have b3 := ps_expr (pos := pe2) (pe_bm (X := X) (apos := ap2) (cpos := cp2) PySem.F.plainAttrs_list PySem.F.slot_list_append PySem.F.type_list_append mt_append (pe_nget (X := X) (pos := ps) (by omega) (vi pf2) (vo po3) (fun _ _ => rfl)) (pa_cons (vw pw2) pa_nil rfl) rfl rfl hl2 rfl rfl) rfl
  have hb := pss_cons b1 (pss_cons b2 (pss_cons b3 pss_nil))
  refine ⟨fun pins s σ H Dn I hw => ?_⟩
  obtain ⟨Se, Ge, He, S, c, ρ, G, sr, fl, c', hev, q⟩ := hw
  have hiσ := slen I hxi
  have hoσ := slen I hxo
  have hwσ := slen I hxw
  simp only [ex] at hev
  replace hev := M.bind_some hev
  obtain ⟨kvs, c0, h0, hev⟩ := hev
  replace h0 := ofO2 h0
  obtain ⟨h0, e0⟩ := h0
  subst e0
  replace hev := M.bind_some hev
  obtain ⟨ds, c1, h1, hev⟩ := hev
  replace hev := M.bind_some hev
  obtain ⟨xs, c2, h2, hev⟩ := hev
  replace h2 := ofO2 h2
  obtain ⟨h2, e2⟩ := h2
  subst e2
  split at hev
  · rename_i hz
    obtain ⟨hz0, hzl, hio, hiw, how⟩ := hz
    subst hz0
    replace hev := M.bind_some hev
    obtain ⟨rr, c3, h3, hev⟩ := hev
    cases hev
    have hslot := owK_some h0
    generalize hff : (fun (d : D) (ρ : Rho) => (do
        let x ← ev Φ E (ρ.set w (some (.fz d)))
        let k ← ofO (fzOf x)
        pure ((ρ.set w (some (.fz d))).set o (some (.fz k)), k) : M (Rho × D))) = ff at h3
    refine (ps_for hp hc hi hg hb hfs).run pins s σ H Dn I ⟨Se, Ge, He, S, _, ρ, G, sr, ds, _, h1, fun vs G1 H1 n1 hd => ⟨G1, ds, xs, n1.sub, dq_vwA n1.sub hd, h2, fun J jd hsz => ?_⟩⟩
    have s1 := sr.step n1
    obtain ⟨v0, ev0, ad, rfl, ha0, haG, haS, ys0, ⟨ep0, haH⟩, hpr⟩ := s1.slot i _ hslot
    have ey0 : ys0 = [] := by cases hpr; rfl
    subst ey0
    have hH1ad : H1 ad ≠ none := by rw [haH]; exact fun z => nomatch z
    refine ⟨fun j m σ1 H2 => m = xs.length - j ∧ j ≤ xs.length ∧ ∃ ρ1 g, g.length ≤ j ∧ (∀ p ∈ g, p.2.length ≤ j) ∧ GN X.KW Se S Ge He G1 H1 ρ.length i ad ρ1 g (fun c4 => gloop ff (xs.drop j) ρ1 g c4 = some (rr, c')) σ1 H2, ?_, ?_⟩
    · refine ⟨xs.length, rfl, Nat.zero_le _, ρ.set i none, [], Nat.le_refl _, fun p hp => (nomatch hp), _, G1, [], h3, s1.drop i, List.length_set .., Same.refl _, fun _ h => h, ev0, ⟨_, haH⟩, haG, .nil, List.nodup_nil, fun l d p e1 e2 => ?_⟩
      obtain ⟨hl, e1⟩ := set_none_cases e1
      refine ⟨s1.there e1 e2, fun z => hl ?_⟩
      subst z
      exact s1.inj l i _ _ p e1 hslot e2 ev0
    · rintro j m σ1 H2 ⟨rfl, hjx, ρ1, g, hgl, hge, c4, G2, ys, hlp, sr2, hρl, g12, dm2, hσi, ⟨ep2, hdo⟩, hGad, hgr, hnd, hso⟩
      have hvw : VwA X.KW G2 H2 vs ds := dq_vwA sr2.sub (dpAll_mono g12 _ hd)
      by_cases hlx : j < xs.length
      · have hd0 : xs[j]? = some xs[j] := List.getElem?_eq_getElem hlx
        rw [List.drop_eq_getElem_cons hlx] at hlp
        obtain ⟨zz, kk, c5, hf, hkk, hlp⟩ := gloop_cons hlp
        rw [← hff] at hf
        replace hf := M.bind_some hf
        obtain ⟨x0, c6, hx0, hf⟩ := hf
        replace hf := M.bind_some hf
        obtain ⟨key, c7, hkey, hf⟩ := hf
        replace hkey := ofO2 hkey
        obtain ⟨hkey, e7⟩ := hkey
        subst e7
        have e7 := fzOf_some hkey
        subst e7
        cases hf
        simp only at hkk hlp
        generalize hxj : xs[j] = dj at hd0 hlp hx0
        refine .inr ⟨jd.go j G2 H2 sr2.sub hvw hlx, GN X.KW Se S Ge He G1 H1 ρ.length i ad ((ρ1.set w (some (.fz dj))).set o (some (.fz key))) (gAdd kk key dj g) (fun c4 => gloop ff (xs.drop (j + 1)) ((ρ1.set w (some (.fz dj))).set o (some (.fz key))) (gAdd kk key dj g) c4 = some (rr, c')), fun σ' H' h' => ?_, fun x H3 y => ?_⟩
        · refine ⟨xs.length - (j + 1), by omega, rfl, by omega, _, _, ?_, gAdd_each kk key dj g j hge, h'⟩
          have := gAdd_len kk key dj g
          omega
        · obtain ⟨d, G3, hd1, hn3, hdx⟩ := jd.yld j G2 H2 x H3 sr2.sub hvw y hlx
          rw [hd0] at hd1
          cases hd1
          have n3 := hn3 S _ sr2.sta
          have s3 := (sr2.step n3).putF (i := w) hdx
          have hl1σ : σ1.length = ρ.length := sr2.len.trans hρl
          have hlσ : σ.length = ρ.length := sr.len
          refine ⟨w, rfl, Se, Ge, He, S, _, _, G3, s3, _, _, hx0, fun v G4 H4 n4 r4 => ?_⟩
          obtain ⟨kb, rfl⟩ := key_ref r4 hkk
          have s4 := (s3.step n4).putF (i := o) r4
          have hσ4i : ((σ1.set w (some x)).set o (some (V.ref kb)))[i]? = some (some (.ref ad)) := by rw [List.getElem?_set_ne (Ne.symm hio), List.getElem?_set_ne (Ne.symm hiw)]; exact hσi
          have hσ4o : ((σ1.set w (some x)).set o (some (V.ref kb)))[o]? = some (some (.ref kb)) := List.getElem?_set_self (by rw [List.length_set]; omega)
          have hσ4w : ((σ1.set w (some x)).set o (some (V.ref kb)))[w]? = some (some x) := by rw [List.getElem?_set_ne how]; exact List.getElem?_set_self (by omega)
          have hso4 : ∀ (l : Nat) d p, ((ρ1.set w (some (Sl.fz dj))).set o (some (Sl.fz key)))[l]? = some (some (.ow d)) → ((σ1.set w (some x)).set o (some (V.ref kb)))[l]? = some (some (.ref p)) → H1 p ≠ none ∧ p ≠ ad := fun l d p e1 e2 => by
            rcases set_cases e1 with ⟨_, z⟩ | ⟨hl, e1⟩
            · cases z
            · rcases set_cases e1 with ⟨_, z⟩ | ⟨hl2, e1⟩
              · cases z
              · rw [List.getElem?_set_ne (Ne.symm hl), List.getElem?_set_ne (Ne.symm hl2)] at e2
                exact hso l d p e1 e2
          have k34 : Kp S G2 H2 G4 H4 := n3.kp.trans n4.kp
          have hgr4 : Paired (GRel X.KW S H1 G4 H4) g ys := Paired.mapP hgr fun p q r => r.step k34
          have hdo4 : H4 ad = some (DOb X.w ad ys ep2) := k34.kh ad _ haS hdo
          have hG4ad : G4 ad = none := (k34.kn ad (by rw [hdo]; exact fun z => nomatch z)).trans hGad
          have dm4 : ∀ b, H1 b ≠ none → H4 b ≠ none := fun b hb => k34.dm b (dm2 b hb)
          have hdx4 : Dq X.KW G4 x dj := dp_mono n4.kp.kg _ hdx
          have hylen : g.length = ys.length := Paired.length hgr4
          have hHeH1 : ∀ b, H1 b = none → He b = none := fun b hb => by
            cases e : He b with
            | none => rfl
            | some u => exact absurd hb (n1.kp.dm b (sr.d0 b (by rw [e]; exact fun z => nomatch z)))
          -- the third statement, from any state that has the key
          have third : ∀ (H5 : Hp) (ys' : Ents2) (g' : GD), SR X.KW Se Ge He S c' ((ρ1.set w (some (.fz dj))).set o (some (.fz key))) ((σ1.set w (some x)).set o (some (V.ref kb))) G4 H5 → True := fun _ _ _ _ => trivial
          clear third
          have third : ∀ (H5 : Hp) (ys' : Ents2) (g' : GD) (cN : Option Nat), gloop ff (xs.drop (j + 1)) ((ρ1.set w (some (.fz dj))).set o (some (.fz key))) (gAdd kk key dj g) cN = some (rr, c') → SR X.KW Se Ge He S cN ((ρ1.set w (some (.fz dj))).set o (some (.fz key))) ((σ1.set w (some x)).set o (some (V.ref kb))) G4 H5 → (∃ ep, H5 ad = some (DOb X.w ad ys' ep)) → Paired (GRel X.KW S H1 G4 H5) g' ys' → (ys'.map (·.2.2)).Nodup → (∀ p ∈ g', p.2.length ≤ j) → (atKey ys' kk).isSome = true → gAdd kk key dj g' = gAdd kk key dj g → (∀ b, H1 b ≠ none → H5 b ≠ none) →
              tBM X.K "list" rAppend (tOp (rNGet X.KW) (tVar i) (tVar o)) (tCons (tVar w) tNil) ((σ1.set w (some x)).set o (some (V.ref kb))) H5 fun _ H6 => GN X.KW Se S Ge He G1 H1 ρ.length i ad ((ρ1.set w (some (.fz dj))).set o (some (.fz key))) (gAdd kk key dj g) (fun c4 => gloop ff (xs.drop (j + 1)) ((ρ1.set w (some (.fz dj))).set o (some (.fz key))) (gAdd kk key dj g) c4 = some (rr, c')) ((σ1.set w (some x)).set o (some (V.ref kb))) H6 := by
            intro H5 ys' g' cN hlpN s5 hdo5 hgr5 hnd5 hge5 hat hga dm5
            obtain ⟨pp, hpp⟩ := Option.isSome_iff_exists.mp hat
            obtain ⟨b, ws, epp, hbH, hbs, hbG, hbS, ⟨p0, m0, l0⟩, hgr6⟩ := grel_add (key := key) hgr5 hnd5 hpp hdx4
            have hws : ws.length < sizeLine := by
              have := hge5 p0 m0
              omega
            have hab : ad ≠ b := fun z => hH1ad (by rw [z]; exact hbs)
            refine ⟨.ref ad, hσ4i, .ref kb, hσ4o, ad, ys', kb, kk, pp, .ref b, rfl, rfl, ⟨hdo5, grel_keys s5.sub hgr5⟩, ⟨key, dp_mono s5.sub _ r4, hkk⟩, hpp, by rw [epp]; rfl, .inl ⟨rfl, ws, .inl (.inl hbH)⟩, x, hσ4w, b, ws, x, rfl, rfl, hbH, hws, ?_⟩
            refine ⟨cN, G4, ys', hlpN, s5.poke (hHeH1 b hbs) hbG hbS (fun l d p e1 e2 z => (hso4 l d p e1 e2).1 (by rw [z]; exact hbs)), by rw [List.length_set, List.length_set]; exact hρl, g12.trans (n3.kp.kg.trans n4.kp.kg), fun a ha => ?_, hσ4i, by rw [upd_ne hab]; exact hdo5, hG4ad, by rw [← hga]; exact hgr6, hnd5, hso4⟩
            by_cases hab' : a = b
            · subst hab'; rw [upd_same]; exact fun z => nomatch z
            · rw [upd_ne hab']; exact dm5 a ha
          -- the second statement
          refine ⟨.ref ad, hσ4i, ad, rfl, ⟨ys, _, hdo4⟩, .ref kb, hσ4o, Nat.zero_le _, fun p0 hp0 => ?_⟩
          have n5 := Nxt.newO (o := .lst []) s4.sub s4.sta hp0
          have s5 := s4.step n5
          have hadp : ad ≠ p0 := ne_of_none hdo4 hp0
          have hH1p : H1 p0 = none := by
            cases e : H1 p0 with
            | none => rfl
            | some u => exact absurd hp0 (dm4 p0 (by rw [e]; exact fun z => nomatch z))
          have hdo5 : upd H4 p0 (.lst []) ad = some (DOb X.w ad ys ep2) := by rw [upd_ne hadp]; exact hdo4
          have hgr5 : Paired (GRel X.KW S H1 G4 (upd H4 p0 (.lst []))) g ys := Paired.mapP hgr4 fun p q r => r.step n5.kp
          have dm5 : ∀ b, H1 b ≠ none → upd H4 p0 (.lst []) b ≠ none := fun b hb => n5.kp.dm b (dm4 b hb)
          refine ⟨ys, kb, kk, rfl, ⟨⟨_, hdo5⟩, grel_keys n5.sub hgr5⟩, ⟨key, dp_mono n5.sub _ r4, hkk⟩, by omega, fun pp hpp => ?_, fun hn u ep ru => ?_⟩
          · obtain ⟨b, ws, epp, _⟩ := grel_add (key := key) hgr5 hnd hpp hdx4
            exact ⟨.ref b, by rw [epp]; rfl, third _ ys g _ hlp s5 ⟨_, hdo5⟩ hgr5 hnd hge (by rw [hpp]; rfl) rfl dm5⟩
          · obtain rfl : u = Value.ref p0 := ru
            rw [storedH_new hn]
            have hne : ∀ x ∈ ys, x.2.2 ≠ Value.ref ad := fun x hx z => by
              obtain ⟨b, e1, e2⟩ := grel_hs hgr5 x hx
              rw [e1] at z
              cases z
              exact hH1ad e2
            refine third _ (ys ++ [(kk, kb, .ref p0)]) (g ++ [(key, [])]) _ hlp (s5.poke ha0 hG4ad haS fun l d p e1 e2 => (hso4 l d p e1 e2).2) ⟨_, upd_same⟩ (paired_app (grel_other hgr5 hne) (.cons ⟨hkk, r4, p0, [], rfl, hH1p, gne s4.sub hp0, sne s4.sta hp0, by rw [upd_ne (Ne.symm hadp), upd_same], .nil⟩ .nil)) ?_ ?_ (by rw [atKey_app hn]; rfl) (grel_fresh hgr4 hn hkk) fun b hb => ?_
            · rw [List.map_append, List.nodup_append]
              refine ⟨hnd, by simp, fun a ha b hb z => ?_⟩
              rw [List.map_cons, List.map_nil, List.mem_singleton] at hb
              subst z
              obtain ⟨x, hx, e1⟩ := List.mem_map.mp ha
              obtain ⟨b', ws, e2, e3⟩ := grel_there hgr4 x hx
              rw [hb, e2] at e1
              cases e1
              rw [hp0] at e3
              cases e3
            · intro p hp
              rcases List.mem_append.mp hp with hp | hp
              · exact hge p hp
              · rw [List.mem_singleton] at hp
                subst hp
                exact Nat.zero_le _
            · by_cases hab' : b = ad
              · subst hab'; rw [upd_same]; exact fun z => nomatch z
              · rw [upd_ne hab']; exact dm5 b hb
      · have ei : j = xs.length := by omega
        subst ei
        rw [List.drop_length] at hlp
        cases hlp
        obtain ⟨G', sG, sr', pr, hk⟩ := grel_frz ad (fun b hb => n1.kp.dm b (sr.d0 b hb)) (fun l d p e1 e2 => (hso l d p e1 e2).1) hH1ad sr2 hgr hnd
        have es : σ1.set i (some (V.ref ad)) = σ1 := by
          obtain ⟨hlt, he'⟩ := List.getElem?_eq_some_iff.mp hσi
          rw [← he']
          exact List.set_getElem_self hlt
        have fin := sr'.put (i := i) (v := .ref ad) (r := .ow (.dict (gDict g))) ⟨ad, rfl, ha0, (hk ad hH1ad).trans hGad, haS, ys, ⟨_, hdo⟩, pr⟩ fun d _ l e' a hl e1 e2 z => (hso l e' a e1 e2).2 (by cases z; rfl)
        rw [es] at fin
        exact .inl ⟨jd.stop _ G2 H2 sr2.sub hvw rfl, q _ _ _ _ fin (n1.kp.kg.trans (g12.trans sG))⟩
  · cases hev
end
end SB
/-! A dict of one pair; several values stored through a tuple; xs[i] = e; xs.pop(i). -/
namespace SB
open PySem PySem.Spec PyProof.Rows L2

section
variable {K : KW} {S : Option Addr} {c c' : Option Nat} {G H G' H' G2 H2 H0 : Hp} {v : V} {d : D} {r : Sl}
theorem Nxt.write {p : Addr} {o : HO} (n : Nxt S c G H G' H') (h0 : H p = none) (hg : G' p = none) (hS : S ≠ some p) : Nxt S c G H G' (upd H' p o) := by
  refine ⟨fun b u e => by rw [upd_ne (ne_of_none e hg)]; exact n.sub b u e, ?_, fun b u nb e => by rw [upd_ne (ne_of_none e h0)]; exact n.kp.kh b u nb e, n.kp.kg, n.kp.kn, fun b hb => ?_⟩
  · have t := n.sta
    cases S with
    | none => cases c with
      | none => trivial
      | some m => exact t.elim
    | some a =>
      obtain ⟨h1, m, rfl, h2⟩ := t.out rfl
      have ha : a ≠ p := fun e => hS (by rw [e])
      exact ⟨h1, by rw [upd_ne ha]; exact h2⟩
  · have hbp : b ≠ p := fun e => hb (by rw [e]; exact h0)
    rw [upd_ne hbp]
    exact n.kp.dm b hb
/-- values that are handed over: the owned ones are new, and no two of them are one -/
inductive ROs (K : KW) (S : Option Addr) (H0 G H : Hp) : List V → List Sl → Prop
  | nil : ROs K S H0 G H [] []
  | cons {v : V} {vs : List V} {r : Sl} {rs : List Sl} : RR K S H0 G H v r → (∃ d, r = .fz d ∨ r = .ow d) → ROs K S H0 G H vs rs → (∀ d a, r = .ow d → v = .ref a → ∀ (j : Nat) e, rs[j]? = some (.ow e) → vs[j]? ≠ some (.ref a)) → ROs K S H0 G H (v :: vs) (r :: rs)
theorem ROs.base {vs : List V} {rs : List Sl} (h : ROs K S H2 G H vs rs) (d : ∀ b, H0 b ≠ none → H2 b ≠ none) : ROs K S H0 G H vs rs := by
  induction h with
  | nil => exact .nil
  | cons h1 h2 _ h4 ih => exact .cons (h1.base d) h2 ih h4
theorem ROs.mono {vs : List V} {rs : List Sl} (h : ROs K S H0 G H vs rs) (k : Kp S G H G' H') : ROs K S H0 G' H' vs rs := by
  induction h with
  | nil => exact .nil
  | cons h1 h2 _ h4 ih => exact .cons (h1.mono k) h2 ih h4
theorem ROs.len {vs : List V} {rs : List Sl} (h : ROs K S H0 G H vs rs) : vs.length = rs.length := by
  induction h with
  | nil => rfl
  | cons _ _ _ _ ih => exact congrArg (· + 1) ih
theorem ROs.new {vs : List V} {rs : List Sl} (h : ROs K S H0 G H vs rs) : ∀ {j : Nat} {e : D} {a : Addr}, rs[j]? = some (.ow e) → vs[j]? = some (.ref a) → H0 a = none := by
  induction h with
  | nil => intro j e a h; simp at h
  | cons h1 h2 _ h4 ih =>
    intro j e a g1 g2
    cases j with
    | zero =>
      simp at g1 g2
      subst g1
      obtain ⟨a', ea, h0, _⟩ := h1
      rw [g2] at ea
      cases ea
      exact h0
    | succ j => exact ih (by simpa using g1) (by simpa using g2)
end
theorem SR.setR {K : KW} {Se S : Option Addr} {c : Option Nat} {Ge He G H H0 : Hp} (d0 : ∀ b, He b ≠ none → H0 b ≠ none) : ∀ {is : List Nat} {vs : List V} {rs : List Sl} {ρ : Rho} {σ : L2.St}, SR K Se Ge He S c ρ σ G H → ROs K S H0 G H vs rs →
    (∀ (l : Nat) e b, ρ[l]? = some (some (.ow e)) → σ[l]? = some (some (.ref b)) → ∀ (j : Nat) d, rs[j]? = some (.ow d) → vs[j]? ≠ some (.ref b)) → is.length = rs.length → SR K Se Ge He S c (setR is rs ρ) (setAllV is vs σ) G H
  | [], vs, rs, ρ, σ, sr, h, _, hl => by
    cases h with
    | nil => exact sr
    | cons _ _ _ _ => cases hl
  | i :: is, vs, rs, ρ, σ, sr, h, hd, hl => by
    cases h with
    | nil => cases hl
    | cons h1 h2 h3 h4 =>
      rename_i v vs r rs
      have next : ∀ (l : Nat) e b, (ρ.set i (some r))[l]? = some (some (.ow e)) → (σ.set i (some v))[l]? = some (some (.ref b)) → ∀ (j : Nat) d, rs[j]? = some (.ow d) → vs[j]? ≠ some (.ref b) := fun l e b g1 g2 j d g3 => by
        rcases set_cases g1 with ⟨rfl, e1⟩ | ⟨n1, g1⟩
        · rcases set_cases g2 with ⟨_, e2⟩ | ⟨n2, _⟩
          · exact h4 e b e1 e2 j d g3
          · exact absurd rfl n2
        · rcases set_cases g2 with ⟨e0, _⟩ | ⟨_, g2⟩
          · exact absurd e0 n1
          · have := hd l e b g1 g2 (j + 1) d (by simpa using g3)
            simpa using this
      obtain ⟨d, rfl | rfl⟩ := h2
      · exact SR.setR d0 (is := is) (sr.putF h1) h3 next (Nat.succ.inj hl)
      · refine SR.setR d0 (is := is) (sr.put ?_ fun d' _ j e a _ g1 g2 => ?_) h3 next (Nat.succ.inj hl)
        · obtain ⟨a, rfl, h0, hg, hS, ho⟩ := h1
          refine ⟨a, rfl, ?_, hg, hS, ho⟩
          cases q : He a with
          | none => rfl
          | some o => exact absurd h0 (d0 a (by rw [q]; exact fun z => nomatch z))
        · have := hd j e a g1 g2 0 d (by rfl)
          intro z
          exact this (by rw [z]; rfl)
section
variable {X : Cx} {Φ : Tab} {a b e : Expr} {A B E : Ex} {pos p : Pos} {k : Nat}
def tAo (Φ : Tab) (K : KW) (Es : List Ex) : TA := fun σ H Q => ∃ Se Ge He S c ρ G, SR K Se Ge He S c ρ σ G H ∧ ∃ rs c', evo Φ Es ρ c = some (rs, c') ∧
  ∀ vs G' H', Nxt S c' G H G' H' → ROs K S H G' H' vs rs → Q vs H'
theorem ao_nil : PA X [] (tAo Φ X.KW []) := by
  refine ⟨fun p pins s σ H Q I h => ?_⟩
  obtain ⟨Se, Ge, He, S, c, ρ, G, sr, r, c', hev, q⟩ := h
  simp only [evo] at hev
  cases hev
  exact pa_nil.run p pins s σ H Q I (q _ _ _ (.refl sr.sub sr.sta) .nil)
theorem ao_cons {es : List Expr} {Es : List Ex} (he : PE X e (tE Φ X.KW E)) (hr : PA X es (tAo Φ X.KW Es)) (hs : starEach (e :: es) X.env = (false, eval e X.env) :: starEach es X.env) : PA X (e :: es) (tAo Φ X.KW (E :: Es)) := by
  refine ⟨fun p pins s σ H Q I h => ?_⟩
  obtain ⟨Se, Ge, He, S, c, ρ, G, sr, r, c', hev, q⟩ := h
  simp only [evo] at hev
  replace hev := M.bind_some hev
  obtain ⟨x, c1, h1, hev⟩ := hev
  replace hev := M.bind_some hev
  obtain ⟨y, c2, h2, hev⟩ := hev
  replace h2 := ofO2 h2
  obtain ⟨h2, e2⟩ := h2
  subst e2
  obtain ⟨e3, hk⟩ := keepS_ok h2
  subst e3
  replace hev := M.bind_some hev
  obtain ⟨rs, c3, h3, hev⟩ := hev
  cases hev
  refine (pa_cons he hr hs).run p pins s σ H Q I ⟨Se, Ge, He, S, c, ρ, G, sr, x, _, h1, fun v1 G1 H1 n1 r1 => ?_⟩
  refine ⟨Se, Ge, He, S, _, ρ, G1, sr.step n1, rs, _, h3, fun vs G2 H2 n2 hv => ?_⟩
  refine q _ _ _ (n1.trans n2) (.cons (r1.mono n2.kp) hk (hv.base n1.kp.dm) fun d a e1 e2 j e g1 g2 => ?_)
  have h0 := hv.new g1 g2
  subst e1
  obtain ⟨a', ea, _, _, _, ho⟩ := r1
  rw [e2] at ea
  cases ea
  exact own_there ho h0
theorem s_parT {es ts : List Expr} {Es : List Ex} {is : List Nat} {kt k2 : Nat} {pt pt2 : Pos} (hc : X.calm = true) (hN : X.N.Nodup) (ha : PA X es (tAo Φ X.KW Es)) (hn : NamesE X ts is)
    (hs : swapsWithSole [.Tuple ts kt pt] (.Tuple es k2 pt2) pos.line X.env = pure false) (hw : swappedStores [.Tuple ts kt pt] (.Tuple es k2 pt2) X.env = pure none) :
    PS X (.Assign [.Tuple ts kt pt] (.Tuple es k2 pt2) pos) (tS Φ X.KW (.parT is Es)) := by
  refine ⟨fun pins s σ H Dn I hw' => ?_⟩
  obtain ⟨Se, Ge, He, S, c, ρ, G, sr, fl, c', hev, q⟩ := hw'
  simp only [ex] at hev
  replace hev := M.bind_some hev
  obtain ⟨rs, c1, h1, hev⟩ := hev
  split at hev
  · rename_i hz
    obtain ⟨hz1, hz2⟩ := hz
    cases hev
    refine (ps_asg (pe_tup ha) ((TgE.tup (p := pt) (k := kt) hn).pg hc hN) hs hw rfl).run pins s σ H Dn I ⟨Se, Ge, He, S, c, ρ, G, sr, rs, _, h1, fun vs G1 H1 n1 ro => ?_⟩
    have hl := ro.len
    refine ⟨by rw [hl, sizeLine_eq]; omega, fun p hp => ?_⟩
    have n2 : Nxt S _ G1 H1 G1 (upd H1 p (.tup vs)) := .newO n1.sub n1.sta hp
    have n12 := n1.trans n2
    refine .inl ⟨p, vs, rfl, .inl (.inl upd_same), by omega, by omega, ?_⟩
    refine q _ _ _ _ (SR.setR sr.d0 (sr.step n12) (ro.mono n2.kp) (fun l e b g1 g2 j d g3 g4 => ?_) hz1) n12.kp.kg
    exact sr.there g1 g2 (ro.new g3 g4)
  · cases hev
/-- xs[i] = e -/
theorem s_setL {i : Nat} {o : Expr} {p' : Pos} (ho : PE X o (tVar i)) (ha : PE X a (tE Φ X.KW A)) (he : PE X e (tE Φ X.KW E)) (hs : swapsWithSole [.Subscript o a p'] e pos.line X.env = pure false) (hw : swappedStores [.Subscript o a p'] e X.env = pure none)
    (hx : ∀ v, assign (.Subscript o a p') X.env v = (do
      let ov ← holding [v] (eval o X.env)
      let iv ← holding [v, ov] (eval a X.env)
      standAt p'
      holding [v, ov, iv] (setItem ov iv v)
      release [v, ov, iv] [])) : PS X (.Assign [.Subscript o a p'] e pos) (tS Φ X.KW (.setL i A E)) := by
  refine ⟨fun pins s σ H Dn I hw' => ?_⟩
  obtain ⟨Se, Ge, He, S, c, ρ, G, sr, fl, c', hev, q⟩ := hw'
  simp only [ex] at hev
  replace hev := M.bind_some hev
  obtain ⟨x, c1, h1, hev⟩ := hev
  replace hev := M.bind_some hev
  obtain ⟨d, c2, h2, hev⟩ := hev
  obtain ⟨e2, _⟩ := Sl.kp_ok h2
  subst e2
  replace hev := M.bind_some hev
  obtain ⟨y, c3, h3, hev⟩ := hev
  replace hev := M.bind_some hev
  obtain ⟨f, c4, h4, hev⟩ := hev
  have e4 := M.rd_some h4
  subst e4
  replace hev := M.bind_some hev
  obtain ⟨j, c5, h5, hev⟩ := hev
  replace h5 := ofO2 h5
  obtain ⟨h5, e5⟩ := h5
  subst e5
  have e6 := intOf_some h5
  subst e6
  replace hev := M.bind_some hev
  obtain ⟨ds, c6, h6, hev⟩ := hev
  replace h6 := ofO2 h6
  obtain ⟨h6, e6⟩ := h6
  subst e6
  have hi := owL_some h6
  split at hev
  · rename_i hz
    obtain ⟨z1, z2⟩ := hz
    cases hev
    obtain ⟨ad, vs, ea, hA, hd⟩ := own_lst sr hi
    refine (ps_asg he (pg_sub ho ha set_list hx) hs hw rfl).run pins s σ H Dn I ⟨Se, Ge, He, S, c, ρ, G, sr, x, _, h1, fun v G1 H1 n1 r1 => ?_⟩
    obtain ⟨G1', n1', hd1⟩ := r1.keep n1 h2
    have s1 := sr.step n1'
    refine ⟨.ref ad, ea, Se, Ge, He, S, _, ρ, G1', s1, y, _, h3, fun v2 G2 H2 n2 r2 => ?_⟩
    have s2 := s1.step n2
    obtain ⟨vs2, ha2, hdq2⟩ := lst_at s2 hi ea
    have hl := dpAll_length hdq2
    have e7 := (r2.vw n2.sub h4).1
    refine ⟨ad, vs2, j, j.toNat, rfl, e7, ha2, ?_, ?_⟩
    · unfold ixN
      rw [if_pos z1, if_pos (by omega)]
    · refine q _ _ _ _ (s2.chg hi ea ⟨_, upd_same, ?_⟩) (n1'.trans n2).kp.kg
      exact dpAll_set hdq2 (dp_mono n2.kp.kg _ hd1) _
  · cases hev
/-- xs.pop(i) -/
theorem s_popL {i : Nat} {o : Expr} {apos p2 : Pos} (ho : PE X o (tVar i)) (he : PE X e (tE Φ X.KW E)) (hbase : attributeBase o "pop" X.env (eval o X.env) = eval o X.env) (hline : (apos.endLine == p2.line) = true) (hs : starEach [e] X.env = (false, eval e X.env) :: starEach [] X.env) :
    PS X (.Expr (.Call (.Attribute o "pop" apos) [e] [] p2) pos) (tS Φ X.KW (.popL i E)) := by
  have hfew : ((backTo p2 (starEach [e] X.env)).all (fun x => !x.1) && (backToKw p2 (keywordEach [] X.env)).all (fun x => x.1.isSome) && decide ([e].length + ([] : List Keyword).length + (if ([] : List Keyword).isEmpty then 0 else 1) < 30)) = true := by
    rw [hs]; rfl
  have pe := pe_bm (X := X) (apos := apos) (cpos := p2) PySem.F.plainAttrs_list PySem.F.slot_list_pop PySem.F.type_list_pop mt_popAt ho (pa_cons he pa_nil hs) hbase hfew hline hs rfl
  refine ⟨fun pins s σ H Dn I hw => ?_⟩
  obtain ⟨Se, Ge, He, S, c, ρ, G, sr, fl, c', hev, q⟩ := hw
  simp only [ex] at hev
  replace hev := M.bind_some hev
  obtain ⟨x, c1, h1, hev⟩ := hev
  replace hev := M.bind_some hev
  obtain ⟨d, c2, h2, hev⟩ := hev
  have e2 := M.rd_some h2
  subst e2
  replace hev := M.bind_some hev
  obtain ⟨kk, c3, h3, hev⟩ := hev
  replace h3 := ofO2 h3
  obtain ⟨h3, e3⟩ := h3
  subst e3
  have e4 := intOf_some h3
  subst e4
  replace hev := M.bind_some hev
  obtain ⟨xs, c5, h5, hev⟩ := hev
  replace h5 := ofO2 h5
  obtain ⟨h5, e5⟩ := h5
  subst e5
  have hi := owL_some h5
  split at hev
  · rename_i hz
    obtain ⟨z1, z2, z3⟩ := hz
    cases hev
    obtain ⟨ad, vs, ea, hA, hd⟩ := own_lst sr hi
    refine (ps_expr pe rfl).run pins s σ H Dn I ⟨.ref ad, ea, .inl ⟨rfl, vs, .inl (.inl hA)⟩, Se, Ge, He, S, c, ρ, G, sr, x, _, h1, fun v G1 H1 n1 r1 => ?_⟩
    have s1 := sr.step n1
    obtain ⟨vs1, ha1, hdq1⟩ := lst_at s1 hi ea
    have hl := dpAll_length hdq1
    have e7 := (r1.vw n1.sub h2).1
    subst e7
    have hk : kk.toNat < vs1.length := by omega
    refine ⟨ad, vs1, kk, kk.toNat, vs1[kk.toNat], rfl, rfl, ha1, by omega, by omega, seqIndex_of z1 (by omega), List.getElem?_eq_getElem hk, ?_⟩
    · exact q _ _ _ _ (s1.chg hi ea ⟨_, upd_same, dpAll_erase _ hdq1⟩) n1.kp.kg
  · cases hev
/-! ### {k: v} -/
def tNDisp (K : KW) (tk tv : TE) : TE := fun σ H Q => ∀ p, H p = none → tk σ (upd H p (DOb K.w p [] 0)) fun y H1 => tv σ H1 fun z H2 => ∃ b k, y = .ref b ∧ KeyH K H2 b k ∧ H2 p = some (DOb K.w p [] 0) ∧ ∀ u ep, RelV z u → Q (.ref p) (upd H2 p (DOb K.w p [(k, b, u)] ep))
def dispQ (K : KW) (p : Addr) (Q : VK) : List (V × V) → Hp → Prop
  | [(y, z)], H2 => ∃ b k, y = .ref b ∧ KeyH K H2 b k ∧ H2 p = some (DOb K.w p [] 0) ∧ ∀ u ep, RelV z u → Q (.ref p) (upd H2 p (DOb K.w p [(k, b, u)] ep))
  | _, _ => False
theorem pe_ndisp {ty tv : TE} (hu : X.A.units + 9 < cLine) (hk : PE X a ty) (hv : PE X b tv) : PE X (.Dict [some a] [b] pos) (tNDisp X.KW ty tv) := by
  refine ⟨fun pins s σ H Q I q => ?_⟩
  have hn := I.hok.fresh (Nat.le_refl s.heap.objs.size)
  have I1 := I.laid (a := s.heap.objs.size) (o := DOb X.w s.heap.objs.size [] 0) (h' := s.heap.push { cls := .type "dict", data := .dict #[] }) (t' := s.toks) (fun _ _ q => Heap.get?_push_of_some _ q) (Nat.le_refl _)
    (dob_new ⟨beq_eq_false_iff_ne.mpr (Ne.symm (Nat.ne_of_lt I.big)), Nat.zero_le _, _, #[], Heap.get?_push_size _ rfl, ⟨rfl, rfl, rfl⟩, rfl, rfl, List.nodup_nil⟩)
  have hshape := zip_pairTrees [some a] [b] X.env pos rfl rfl
  rw [arm_eval_Dict, hshape, dictDisplay_pairs (pairTrees [some a] [b] X.env pos) (fun z => nomatch z) (show 1 < 17 by decide)]
  have hroom : (nestedKind X.prog X.w).room X.A := by
    show X.A.units + 8 < cLine
    omega
  refine wpAny_bind (wpAny_standAt (wpAny_bind (wpAny_subDictH (knd := nestedKind X.prog X.w) (Q := fun d s' => wpAny (model X.prog X.w) X.A (pure (Value.ref d)) (EP X pins σ Q) X.xe s') hroom (show 1 ≤ 15 by decide) (thn ((pps_cons hk hv pps_nil).run pins _ σ _ (dispQ X.KW s.heap.objs.size Q) I1 (q _ hn)) fun vs s1 hh => ?_))))
  obtain ⟨ps, H2, I2, rel, hq⟩ := hh
  match ps, rel, hq with
  | [], _, h => exact h.elim
  | _ :: _ :: _, _, h => exact h.elim
  | [(y, z)], rel, hq =>
    obtain ⟨bb, k, ey, kb, hp, q2⟩ := hq
    subst ey
    cases rel with
    | cons r1 r2 =>
      cases r2
      rename_i vv
      obtain ⟨v1, v2⟩ := vv
      obtain ⟨ry, rz⟩ := r1
      obtain rfl : v1 = Value.ref bb := ry
      have nat : NAt X.KW H2 s.heap.objs.size [] := ⟨⟨_, hp⟩, fun x hx => nomatch hx⟩
      obtain ⟨g1, g2, dd⟩ := nat.dd I2
      refine ⟨[(k, bb, v2)], ⟨rfl, rfl, kb.at I2, trivial⟩, dd, fun h' tk dd' hs => wpAny_pure ?_⟩
      obtain ⟨ep, I3⟩ := n_write (t' := tk) (ys := [(k, bb, v2)]) I2 ⟨_, hp⟩ g1 (by show 1 ≤ sizeLine; decide) hs dd'
      exact ⟨.ref s.heap.objs.size, _, I3, rfl, q2 v2 ep rz⟩
theorem e_dlit (hu : X.A.units + 67 < cLine) (ha : PE X a (tE Φ X.KW A)) (hb : PE X b (tE Φ X.KW B)) : PE X (.Dict [some a] [b] pos) (tE Φ X.KW (.dlit A B)) := by
  have h := pe_ndisp (X := X) (pos := pos) (by omega) ha hb
  refine ⟨fun pins s σ H Q I hw => ?_⟩
  obtain ⟨Se, Ge, He, S, c, ρ, G, sr, z, c', hev, q⟩ := hw
  simp only [ev] at hev
  replace hev := M.bind_some hev
  obtain ⟨x, c1, h1, hev⟩ := hev
  replace hev := M.bind_some hev
  obtain ⟨d, c3, h3, hev⟩ := hev
  replace h3 := ofO2 h3
  obtain ⟨h3, e3⟩ := h3
  subst e3
  have e5 := fzOf_some h3
  subst e5
  replace hev := M.bind_some hev
  obtain ⟨kk, c4, h4, hev⟩ := hev
  replace h4 := ofO2 h4
  obtain ⟨h4, e4⟩ := h4
  subst e4
  replace hev := M.bind_some hev
  obtain ⟨y, c5, h5, hev⟩ := hev
  replace hev := M.bind_some hev
  obtain ⟨zd, c6, h6, hev⟩ := hev
  replace h6 := ofO2 h6
  obtain ⟨h6, e6⟩ := h6
  subst e6
  have e7 := fzOf_some h6
  subst e7
  cases hev
  refine h.run pins s σ H Q I fun p hp => ?_
  have n0 : Nxt S c G H G (upd H p (DOb X.w p [] 0)) := .newO sr.sub sr.sta hp
  have s0 := sr.step n0
  have hS := sne sr.sta hp
  refine ⟨Se, Ge, He, S, c, ρ, G, s0, _, _, h1, fun y1 G1 H1 n1 r1 => ⟨Se, Ge, He, S, _, ρ, G1, s0.step n1, _, _, h5, fun y2 G2 H2 n2 r2 => ?_⟩⟩
  obtain ⟨bb, rfl⟩ := key_ref r1 h4
  have r1' : Dq X.KW G2 (.ref bb) d := dp_mono n2.kp.kg _ r1
  have hp1 : H1 p = some (DOb X.w p [] 0) := n1.kp.kh p _ hS upd_same
  have hp2 : H2 p = some (DOb X.w p [] 0) := n2.kp.kh p _ hS hp1
  have gp : G2 p = none := (n2.kp.kn p (by rw [hp1]; exact fun z => nomatch z)).trans ((n1.kp.kn p (by rw [upd_same]; exact fun z => nomatch z)).trans (gne sr.sub hp))
  refine ⟨bb, kk, rfl, ⟨d, dp_mono n2.sub _ r1', h4⟩, hp2, fun u ep ru => ?_⟩
  exact q _ G2 _ ((n0.trans (n1.trans n2)).write hp gp hS) ⟨p, rfl, hp, gp, hS, [(kk, bb, u)], ⟨_, upd_same⟩, .cons ⟨h4, r1', y2, ru, r2⟩ .nil⟩
end
end SB
/-! zip(range(n), xs, ys). -/
namespace SB
open PySem PySem.Spec PyProof.Rows L2

theorem sb_begins_range (r : Addr) (j : Int) (t u v : Tok) (hsm : Builtin.Range.small 0 j 1 = true) : Begins (.ref r) { cls := .type "range_iterator", data := .fields #[rawInt 0, rawInt (Builtin.Range.rangeSize 0 j 1), rawInt 1] } fun h => IsRange h r 0 j 1 t u v where
  iter := fun prog w A E s Q hr h => wpAny_pyIter_range hr hsm h
  keeps := fun h h' x hk => hk r _ x
  free := rfl
def Itz3 (K : PySem.W.Frag) (s1 s2 s3 : Side) : It :=
  ⟨fun i H => ∃ (xs ys zs : List V), s1.at K H xs ∧ s2.at K H ys ∧ s3.at K H zs ∧ i < xs.length ∧ i < ys.length ∧ i < zs.length,
    fun i H v H' => ∃ T x y z, v = .ref T ∧ H T = none ∧ H' = upd H T (.tup [x, y, z]) ∧ (∀ xs, s1.at K H xs → xs[i]? = some x) ∧ (∀ ys, s2.at K H ys → ys[i]? = some y) ∧ ∀ zs, s3.at K H zs → zs[i]? = some z,
    fun i H => ∃ xs ys zs : List V, s1.at K H xs ∧ s2.at K H ys ∧ s3.at K H zs ∧ i = min (min xs.length ys.length) zs.length⟩
theorem turn_z3 {P : Program} {w : World} {K : PySem.W.Frag} {elts : List Expr} {kk : Nat} {tpos : Pos} {s1 s2 s3 : Side} {z TI TO i1 i2 i3 : Addr} (D : ZipSep3 z TI TO i1 i2 i3 (i1 :: s1.base) (i2 :: s2.base) (i3 :: s3.base)) (n1 : ∀ b ∈ s1.base, b ≠ i1) (n2 : ∀ b ∈ s2.base, b ≠ i2) (n3 : ∀ b ∈ s3.base, b ≠ i3) :
    Turn P w K (.Tuple elts kk tpos) (Itz3 K s1 s2 s3) [z, TI, TO, i1, i2, i3] z (fun i h => IsZip h z TI TO .none ∧ IsTupOf3 h TI (.ref i1) (.ref i2) (.ref i3) ∧ (∃ x y v, IsTupOf3 h TO x y v) ∧ s1.it h i1 i ∧ s2.it h i2 i ∧ s3.it h i3 i) where
  mem := by simp
  obj := fun i h st c hc => by
    obtain ⟨hz, hTI, ⟨x, y, v, hTO⟩, h1, h2, h3⟩ := st
    have e' : c = z ∨ c = TI ∨ c = TO ∨ c = i1 ∨ c = i2 ∨ c = i3 := by simpa using hc
    rcases e' with q | q | q | q | q | q
    · rw [q]; exact ⟨_, hz, fun v q => nomatch q⟩
    · rw [q]; exact ⟨_, hTI, fun v q => nomatch q⟩
    · rw [q]; exact ⟨_, hTO, fun v q => nomatch q⟩
    · rw [q]; exact Side.it_obj h1
    · rw [q]; exact Side.it_obj h2
    · rw [q]; exact Side.it_obj h3
  keep := fun i h h' st k => by
    obtain ⟨hz, hTI, ⟨x, y, v, hTO⟩, h1, h2, h3⟩ := st
    exact ⟨k z (by simp) _ hz, k TI (by simp) _ hTI, ⟨x, y, v, k TO (by simp) _ hTO⟩, Side.it_keep h1 fun o q => k i1 (by simp) o q, Side.it_keep h2 fun o q => k i2 (by simp) o q, Side.it_keep h3 fun o q => k i3 (by simp) o q⟩
  item := by
    intro X hP hw hK hc i pins s σ H E I hf st hg
    subst hP hw hK
    obtain ⟨hz, hTI, ⟨x0, y0, v0, hTO⟩, h1, h2, h3⟩ := st
    obtain ⟨xs, ys, zs, hqx, hqy, hqz, hx, hy, hv⟩ := hg
    obtain ⟨P1, S1, D1, a1, b1, c1⟩ := Side.draws (it := i1) I hc hqx n1
    obtain ⟨P2, S2, D2, a2, b2, c2⟩ := Side.draws (it := i2) I hc hqy n2
    obtain ⟨P3, S3, D3, a3, b3, c3⟩ := Side.draws (it := i3) I hc hqz n3
    have hzl : z < s.heap.objs.size := Heap.lt_size hz
    refine wpAny_pyNext_zipD3_item D D1 D2 D3 hz hTI hTO (a1 i h1) (a2 i h2) (a3 i h3) hx hy hv fun u u2 u3 h' tk p1 p2 p3 z' TO' h1' h2' h3' hT hsz hk => ?_
    obtain ⟨x, ex, ru⟩ := c1 i u p1
    obtain ⟨y, ey, ru2⟩ := c2 i u2 p2
    obtain ⟨v, ev, ru3⟩ := c3 i u3 p3
    refine ⟨_, rfl, wpAny_letOwnedTupleGo_zip (s := { s with heap := h', toks := tk }) z' fun h'' z'' sb => ?_⟩
    have hT2 : h''.get? s.heap.objs.size = some { cls := .type "tuple", data := .seq #[u, u2, u3] } := (sb.2 _ (Nat.ne_of_gt hzl)).trans hT
    have new : ObjOk X.prog X.w (upd H s.heap.objs.size (.tup [x, y, v])) h'' s.heap.objs.size (.tup [x, y, v]) :=
      ⟨by show 3 ≤ sizeLine; decide, [u, u2, u3], .cons ru (.cons ru2 (.cons ru3 .nil)), ⟨_, hT2, rfl, _, rfl⟩⟩
    have I1 : Inv X pins σ (upd H s.heap.objs.size (.tup [x, y, v])) { s with heap := h'', toks := tk } :=
      I.turnedNew (t' := tk) (ch := [z, TI, TO, i1, i2, i3]) (fun c o hb q => (sb.2 c (fun q' => hb (by simp [q']))).trans (hk c o (fun q' => hb (by simp [q'])) (fun q' => hb (by simp [q'])) (fun q' => hb (by simp [q'])) (fun q' => hb (by simp [q'])) (fun q' => hb (by simp [q'])) q)) hf (Nat.le_refl _) new
    refine ⟨.ref s.heap.objs.size, _, I1, rfl, ⟨_, x, y, v, rfl, I.hok.fresh (Nat.le_refl _), rfl, fun l hl => by rw [Side.at_inj I hl hqx]; exact ex, fun l hl => by rw [Side.at_inj I hl hqy]; exact ey, fun l hl => by rw [Side.at_inj I hl hqz]; exact ev⟩, ⟨z'', ?_, ⟨u, u2, u3, ?_⟩, ?_, ?_, ?_⟩, fun c hcm => ?_⟩
    · exact (sb.2 _ D.TIz).trans (hk _ _ D.TIz D.TITO D.TIi1 D.TIi2 D.TIi3 hTI)
    · exact (sb.2 _ D.TOz).trans TO'
    · exact Side.it_keep (b1 _ _ h1') fun o q => (sb.2 _ (Ne.symm D.zi1)).trans q
    · exact Side.it_keep (b2 _ _ h2') fun o q => (sb.2 _ (Ne.symm D.zi2)).trans q
    · exact Side.it_keep (b3 _ _ h3') fun o q => (sb.2 _ (Ne.symm D.zi3)).trans q
    · have hlt : c < s.heap.objs.size := by
        have e' : c = z ∨ c = TI ∨ c = TO ∨ c = i1 ∨ c = i2 ∨ c = i3 := by simpa using hcm
        rcases e' with q | q | q | q | q | q
        · rw [q]; exact hzl
        · rw [q]; exact Heap.lt_size hTI
        · rw [q]; exact Heap.lt_size hTO
        · rw [q]; obtain ⟨_, e1, _⟩ := Side.it_obj h1; exact Heap.lt_size e1
        · rw [q]; obtain ⟨_, e2, _⟩ := Side.it_obj h2; exact Heap.lt_size e2
        · rw [q]; obtain ⟨_, e2, _⟩ := Side.it_obj h3; exact Heap.lt_size e2
      rw [upd_ne (Nat.ne_of_lt hlt)]
      exact (hf c hcm).1
  done := by
    intro X hP hw hK hc i pins s σ H E I hf st hg
    subst hP hw hK
    obtain ⟨hz, hTI, ⟨x0, y0, v0, hTO⟩, h1, h2, h3⟩ := st
    obtain ⟨xs, ys, zs, hqx, hqy, hqz, hend⟩ := hg
    obtain ⟨P1, S1, D1, a1, b1, c1⟩ := Side.draws (it := i1) I hc hqx n1
    obtain ⟨P2, S2, D2, a2, b2, c2⟩ := Side.draws (it := i2) I hc hqy n2
    obtain ⟨P3, S3, D3, a3, b3, c3⟩ := Side.draws (it := i3) I hc hqz n3
    refine wpAny_pyNext_zipD3_end D D1 D2 D3 hz hTI hTO (a1 i h1) (a2 i h2) (a3 i h3) (by omega) (by omega) (by omega) (by omega) fun h' tk hk => ⟨rfl, I.turnedL (t' := tk) (ch := [z, TI, TO, i1, i2, i3]) (fun c o hb q =>
      hk c o (fun q' => hb (by simp [q'])) (fun q' => hb (by simp [q'])) (fun q' => hb (by simp [q'])) (fun q' => hb (by simp [q'])) (fun q' => hb (by simp [q'])) q) hf⟩
  self := fun A i s Q E st h => wpAny_pyIter_zip st.1 h
theorem rng_dq {K : KW} {G : Hp} (n : Nat) : DqAll K G ((List.range n).map fun i => V.int ((i : Nat) : Int)) ((List.range n).map fun i => (.int ((i : Nat) : Int) : D)) := by
  generalize List.range n = l
  induction l with
  | nil => exact .nil
  | cons a l ih => exact .cons (.int _) ih
theorem vwA3 {K : KW} {G H : Hp} {vs : List V} {d e f : D} (h : VwA K G H vs [d, e, f]) : ∃ v w x, vs = [v, w, x] ∧ Vw K G H v d ∧ Vw K G H w e ∧ Vw K G H x f := by
  cases h with
  | cons h1 h2 => cases h2 with
    | cons h3 h4 => cases h4 with
      | cons h5 h6 => cases h6; exact ⟨_, _, _, rfl, h1, h3, h5⟩
theorem itD_z3 {K : KW} {n : Nat} {s2 s3 : Side} {v w x : V} {d e f : D} {ys zs : List D} (h2 : ∀ G H, s2.is K G H w e) (h3 : ∀ G H, s3.is K G H x f) (e2 : sdOf e = some ys) (e3 : sdOf f = some zs) :
    ItD K (Itz3 K (.R n) s2 s3) [v, w, x] [d, e, f] ((((List.range n).map fun i => (PyData.int ((i : Nat) : Int))).zip (ys.zip zs)).map fun p => .tuple [p.1, p.2.1, p.2.2]) where
  go := fun i G H sm h hi => by
    rw [List.length_map, List.length_zip, List.length_zip, List.length_map, List.length_range] at hi
    obtain ⟨v', w', x', e', g1, g2, g3⟩ := vwA3 h
    cases e'
    obtain ⟨us, a2, b2⟩ := Side.of_vw sm (h2 G H) g2 e2
    obtain ⟨ws, a3, b3⟩ := Side.of_vw sm (h3 G H) g3 e3
    have := dpAll_length b2
    have := dpAll_length b3
    exact ⟨_, us, ws, rfl, a2, a3, by rw [List.length_map, List.length_range]; omega, by omega, by omega⟩
  stop := fun i G H sm h hi => by
    rw [List.length_map, List.length_zip, List.length_zip, List.length_map, List.length_range] at hi
    obtain ⟨v', w', x', e', g1, g2, g3⟩ := vwA3 h
    cases e'
    obtain ⟨us, a2, b2⟩ := Side.of_vw sm (h2 G H) g2 e2
    obtain ⟨ws, a3, b3⟩ := Side.of_vw sm (h3 G H) g3 e3
    refine ⟨_, us, ws, rfl, a2, a3, ?_⟩
    rw [List.length_map, List.length_range, dpAll_length b2, dpAll_length b3]
    omega
  yld := fun i G H x H' sm h y hi => by
    obtain ⟨v', w', x', e', g1, g2, g3⟩ := vwA3 h
    cases e'
    obtain ⟨us, a2, b2⟩ := Side.of_vw sm (h2 G H) g2 e2
    obtain ⟨ws, a3, b3⟩ := Side.of_vw sm (h3 G H) g3 e3
    obtain ⟨T, p, q, r, rfl, hT, rfl, y1, y2, y3⟩ := y
    obtain ⟨d1, hd1, hq1⟩ := dpAll_get' (rng_dq (K := K) (G := G) n) (y1 _ rfl)
    obtain ⟨d2, hd2, hq2⟩ := dpAll_get' b2 (y2 us a2)
    obtain ⟨d3, hd3, hq3⟩ := dpAll_get' b3 (y3 ws a3)
    obtain ⟨n1, n2⟩ := new_tup (K := K) (vs := [p, q, r]) (ds := [d1, d2, d3]) sm hT (.cons hq1 (.cons hq2 (.cons hq3 .nil)))
    refine ⟨_, _, ?_, n1, n2⟩
    have hz : (((List.range n).map fun i => (PyData.int ((i : Nat) : Int))).zip (ys.zip zs))[i]? = some (d1, d2, d3) := List.getElem?_zip_eq_some.mpr ⟨hd1, List.getElem?_zip_eq_some.mpr ⟨hd2, hd3⟩⟩
    rw [List.getElem?_map, hz]
    rfl
theorem zip3_of {ds xs : List D} (h : iterD .zip3 ds = some xs) : ∃ j ys zs, ds = [.int j, .tuple ys, .tuple zs] ∧ 0 ≤ j ∧ j ≤ sizeLine ∧ xs = (((List.range j.toNat).map fun i => (PyData.int ((i : Nat) : Int))).zip (ys.zip zs)).map (fun p => .tuple [p.1, p.2.1, p.2.2]) := by
  match ds, h with
  | [], h => cases h
  | [d], h => cases d <;> cases h
  | [d, e], h => cases d <;> cases e <;> cases h
  | a :: b :: c :: d :: l, h => cases a <;> cases b <;> cases c <;> cases h
  | [d, e, f], h =>
    cases d <;> cases e <;> cases f <;> simp only [iterD, reduceCtorEq] at h
    split at h
    · rename_i hz
      cases h
      exact ⟨_, _, _, rfl, hz.1, hz.2, rfl⟩
    · cases h
section
variable {X : Cx} {Φ : Tab}
def tCons2 (te : TE) (ta : TA) : TA := fun σ H Q => te σ H fun v H1 => (∃ j, v = .int j) ∧ ta σ H1 fun vs H2 => Q (v :: vs) H2
theorem len_int {es : List Ex} {ρ : Rho} {c c' : Option Nat} {z : Sl} (h : ev Φ (.blt .len es) ρ c = some (z, c')) : ∃ j, z = .fz (.int j) := by
  simp only [ev] at h
  replace h := M.bind_some h
  obtain ⟨ds, c1, h1, h⟩ := h
  replace h := ofO2 h
  obtain ⟨h, _⟩ := h
  match ds, h with
  | [], h => cases h
  | a :: b :: l, h => cases a <;> simp [bltD] at h
  | [d], h =>
    cases d <;> simp only [bltD, reduceCtorEq, Option.some.injEq] at h
    · split at h
      · cases h; exact ⟨_, rfl⟩
      · cases h
    · exact ⟨_, h.symm⟩
    · exact ⟨_, h.symm⟩
theorem ar_two {K : KW} {es Es : List Ex} {σ : L2.St} {H : Hp} {Q : List V → Hp → Prop} (h : tAr Φ K (.blt .len es :: Es) σ H Q) : tCons2 (tE Φ K (.blt .len es)) (tAr Φ K Es) σ H Q := by
  obtain ⟨Se, Ge, He, S, c, ρ, G, sr, r, c', hev, q⟩ := h
  simp only [evr] at hev
  replace hev := M.bind_some hev
  obtain ⟨x, c1, h1, hev⟩ := hev
  replace hev := M.bind_some hev
  obtain ⟨d, c2, h2, hev⟩ := hev
  replace hev := M.bind_some hev
  obtain ⟨ds, c3, h3, hev⟩ := hev
  obtain rfl := M.rd_some h2
  cases hev
  obtain ⟨j, rfl⟩ := len_int h1
  refine ⟨Se, Ge, He, S, c, ρ, G, sr, _, _, h1, fun v1 G1 H1 n1 r1 => ⟨?_, Se, Ge, He, S, _, ρ, G1, sr.step n1, ds, _, h3, fun vs G2 H2 n2 hv => ?_⟩⟩
  · cases r1
    exact ⟨j, rfl⟩
  · exact q _ _ _ (n1.trans n2) fun G3 H3 k3 s3 => .cons (((RR.mono r1 n2.kp).mono k3).vw s3 h2).1 (hv G3 H3 k3 s3)
theorem ak_two {K : KW} {es Es : List Ex} {σ : L2.St} {H : Hp} {Q : List V → Hp → Prop} (h : tAk Φ K (.blt .len es :: Es) σ H Q) : tCons2 (tE Φ K (.blt .len es)) (tAk Φ K Es) σ H Q := by
  obtain ⟨Se, Ge, He, S, c, ρ, G, sr, r, c', hev, q⟩ := h
  simp only [evk] at hev
  replace hev := M.bind_some hev
  obtain ⟨x, c1, h1, hev⟩ := hev
  replace hev := M.bind_some hev
  obtain ⟨d, c2, h2, hev⟩ := hev
  replace hev := M.bind_some hev
  obtain ⟨ds, c3, h3, hev⟩ := hev
  obtain ⟨rfl, _⟩ := Sl.kp_ok h2
  cases hev
  obtain ⟨j, rfl⟩ := len_int h1
  cases h2
  refine ⟨Se, Ge, He, S, c, ρ, G, sr, _, _, h1, fun v1 G1 H1 n1 r1 => ⟨?_, Se, Ge, He, S, _, ρ, G1, sr.step n1, ds, _, h3, fun vs G2 H2 n2 hv => ?_⟩⟩
  · cases r1
    exact ⟨j, rfl⟩
  · exact q _ _ _ (n1.trans n2) (.cons (dp_mono n2.kp.kg _ r1) hv)
theorem pi_zip3 {e a b : Expr} {te : TE} {ta : TA} {p p2 pos pos2 tpos : Pos} {elts : List Expr} {kk : Nat} (hg : Gl X "zip") (hm : X.mg "zip" = none) (hg2 : Gl X "range") (hm2 : X.mg "range" = none) (he : PE X e te) (ha : PA X [a, b] ta)
    (hs0 : starEach [e] X.env = (false, eval e X.env) :: starEach [] X.env) (hpl : (backTo pos (starEach [a, b] X.env)).any (·.1) = false) :
    PI X (.Tuple elts kk tpos) (.Call (.Name "zip" p) [.Call (.Name "range" p2) [e] [] pos2, a, b] [] pos) (iD X.KW .zip3 (tCons2 te ta)) := by
  refine ⟨fun pins s σ H R I h => ?_⟩
  refine Call_ (ld_blt I hg hm PyProof.Rows.boot_zip (PyProof.Rows.callWith_type1 (args_cons ?_ rfl) rfl hpl))
  refine Call_ (ld_blt I hg2 hm2 boot_range (PyProof.Rows.callWith_type1 (one_arg he I h (fun v s2 x H2 I2 r q0 => ?_) hs0) hs0))
  obtain ⟨⟨j0, ej0⟩, q⟩ := q0
  have main : ∀ (j : Int) (t : Tok), v = .int j t → x = .int j → wpAny (model X.prog X.w) X.A (call (.type "range") [v]) (fun v s₁ => wpAny (model X.prog X.w) X.A (spliced (backTo pos (starEach [a, b] X.env))) (fun vs s₂ => wpAny (model X.prog X.w) X.A (call (.type "zip") (v :: vs)) (fun v s1 => wpAny (model X.prog X.w) X.A (pyIter v) (PIE X pins σ (.Tuple elts kk tpos) R) X.xe s1) X.xe s₂) X.xe s₁) X.xe s2 := by
    intro j t ev ex
    subst ev ex
    refine call_range_1 ?_
    have I3 := ClX.pin_new (t' := s2.toks + 1 + 1) (o := { cls := .type "range", data := .fields #[.int 0 s2.toks, .int j t, .int 1 (s2.toks + 1)] }) I2 (fun b u e => Heap.get?_push_of_some _ e) (Nat.le_refl _) (Heap.get?_push_size _ rfl) (fun v q => nomatch q)
    refine thn (ha.run pos _ _ σ H2 _ I3 q) fun us s4 hh => ?_
    obtain ⟨vs, H4, I4, r4, q4⟩ := hh
    obtain ⟨G, ds, xs, sm, hv, hx, q5⟩ := q4
    obtain ⟨j', ys, zs, rfl, h0, h1, rfl⟩ := zip3_of hx
    obtain ⟨v1, v2, v3, e1, g1, g2, g3⟩ := vwA3 hv
    cases e1
    have g1 : V.int j = V.int j' := g1
    cases g1
    obtain ⟨u, u2, rfl, r2, r3⟩ := vals2 r4
    have hr := ClX.pin_at I4
    have I5 := ClX.unpin I4
    have hsm : Builtin.Range.small 0 j 1 = true := small_one (by omega) (by omega) (by omega) (by rw [sizeLine_eq] at h1; omega)
    have hsz0 : Builtin.Range.rangeSize 0 j 1 = ((j.toNat : Nat) : Int) := by
      have := rangeSize_nat 0 j
      simpa using this
    obtain ⟨sd2, o2, B2, i2, b2, k2, l2, t2⟩ := Side.begins I5 sm r2 g2 rfl
    obtain ⟨sd3, o3, B3, i3, b3, k3, l3, t3⟩ := Side.begins I5 sm r3 g3 rfl
    refine zip_begins3 (sb_begins_range _ j s2.toks t (s2.toks + 1) hsm) b2 b3 hr k2 k3 fun h' hz hTI hTO h1' h2' h3' hsz hk => wpAny_pyIter_zip hz ?_
    have I6 : Inv X pins σ H4 { s4 with heap := h' } := I5.kept (t' := s4.toks) hk
    refine ⟨s4.heap.objs.size + 5, [s4.heap.objs.size + 5, s4.heap.objs.size + 3, s4.heap.objs.size + 4, s4.heap.objs.size, s4.heap.objs.size + 1, s4.heap.objs.size + 2], _, _, H4, rfl, I6,
      turn_z3 (s1 := .R j.toNat) (zip_sep3 (fun b hb => nomatch hb) l2 l3) (fun b hb => nomatch hb) (fun b hb => Nat.ne_of_lt (Nat.lt_succ_of_lt (l2 b hb))) (fun b hb => Nat.ne_of_lt (Nat.lt_of_lt_of_le (l3 b hb) (Nat.le_add_right _ _))), ⟨hz, hTI, ⟨_, _, _, hTO⟩, ?_, t2 _ _ h2', t3 _ _ h3'⟩, fresh_of I5 (fun c hc => ?_), q5 _ (itD_z3 i2 i3 rfl rfl) ?_⟩
    · show IsRangeIter h' s4.heap.objs.size ((0 : Nat) : Int) ((j.toNat : Int) - ((0 : Nat) : Int)) 1
      have : ((j.toNat : Int) - ((0 : Nat) : Int)) = Builtin.Range.rangeSize 0 j 1 := by rw [hsz0]; simp
      rw [this]
      exact h1'
    · have e' : c = s4.heap.objs.size + 5 ∨ c = s4.heap.objs.size + 3 ∨ c = s4.heap.objs.size + 4 ∨ c = s4.heap.objs.size ∨ c = s4.heap.objs.size + 1 ∨ c = s4.heap.objs.size + 2 := by simpa using hc
      rcases e' with z | z | z | z | z | z
      · rw [z]; exact Nat.le_add_right _ _
      · rw [z]; exact Nat.le_add_right _ _
      · rw [z]; exact Nat.le_add_right _ _
      · rw [z]; exact Nat.le_refl _
      · rw [z]; exact Nat.le_add_right _ _
      · rw [z]; exact Nat.le_add_right _ _
    · rw [List.length_map, List.length_zip, List.length_map, List.length_range]
      rw [sizeLine_eq] at h1 ⊢
      omega
  subst ej0
  obtain ⟨t, rfl⟩ := r
  exact main j0 t rfl rfl
theorem pi_zip3D {e a b : Expr} {es : List Ex} {Es : List Ex} {p p2 pos pos2 tpos : Pos} {elts : List Expr} {kk : Nat} (hg : Gl X "zip") (hm : X.mg "zip" = none) (hg2 : Gl X "range") (hm2 : X.mg "range" = none) (he : PE X e (tE Φ X.KW (.blt .len es))) (h1 : PA X [a, b] (tAr Φ X.KW Es)) (h2 : PA X [a, b] (tAk Φ X.KW Es))
    (hs0 : starEach [e] X.env = (false, eval e X.env) :: starEach [] X.env) (hpl : (backTo pos (starEach [a, b] X.env)).any (·.1) = false) :
    PI X (.Tuple elts kk tpos) (.Call (.Name "zip" p) [.Call (.Name "range" p2) [e] [] pos2, a, b] [] pos) (iD X.KW .zip3 (tAr Φ X.KW (.blt .len es :: Es))) ∧
    PI X (.Tuple elts kk tpos) (.Call (.Name "zip" p) [.Call (.Name "range" p2) [e] [] pos2, a, b] [] pos) (iD X.KW .zip3 (tAk Φ X.KW (.blt .len es :: Es))) :=
  ⟨⟨fun pins s σ H R I h => (pi_zip3 (X := X) (p := p) (p2 := p2) (pos := pos) (pos2 := pos2) (tpos := tpos) (elts := elts) (kk := kk) hg hm hg2 hm2 he h1 hs0 hpl).run pins s σ H R I (ar_two h)⟩,
    ⟨fun pins s σ H R I h => (pi_zip3 (X := X) (p := p) (p2 := p2) (pos := pos) (pos2 := pos2) (tpos := tpos) (elts := elts) (kk := kk) hg hm hg2 hm2 he h2 hs0 hpl).run pins s σ H R I (ak_two h)⟩⟩
end
end SB
/-! Loops over dicts; dicts whose keys are ints. -/
namespace SB
open PySem PySem.Spec PyProof.Rows L2

/-! ### the keys of a dict, walked -/
def ItDk (w : World) (d : Addr) (xs : Ents2) (ep : Nat) : It :=
  ⟨fun i H => H d = some (DOb w d xs ep) ∧ i < xs.length, fun i H x H' => H' = H ∧ ∃ e, xs[i]? = some e ∧ x = .ref e.2.1, fun i H => H d = some (DOb w d xs ep) ∧ xs.length ≤ i⟩
theorem ent_at {w : World} {es : Array DictEntry} {xs : Ents2} (he : es.toList = xs.map (fun x => (⟨x.1.hash w, .ref x.2.1, x.2.2⟩ : DictEntry))) (i : Nat) : es[i]? = (xs[i]?).map fun x => (⟨x.1.hash w, .ref x.2.1, x.2.2⟩ : DictEntry) := by
  rw [← Array.getElem?_toList, he, List.getElem?_map]
theorem ent_size {w : World} {es : Array DictEntry} {xs : Ents2} (he : es.toList = xs.map (fun x => (⟨x.1.hash w, .ref x.2.1, x.2.2⟩ : DictEntry))) : es.size = xs.length := by
  have := congrArg List.length he
  rw [Array.length_toList, List.length_map] at this
  exact this
theorem turn_dk {P : Program} {w : World} {K : PySem.W.Frag} {tg : Expr} {d : Addr} {xs : Ents2} {ep : Nat} (it : Addr) : Turn P w K tg (ItDk w d xs ep) [it] it (fun i h => h.IsKeyIter it d i xs.length ep) where
  mem := by simp
  obj := fun i h st b hb => by
    have e : b = it := by simpa using hb
    subst e
    obtain ⟨oi, e, c, dd⟩ := st
    exact ⟨oi, e, fun v z => by rw [dd] at z; cases z⟩
  keep := fun i h h' st k => st.at fun oi e => k it (by simp) oi e
  item := by
    intro X hP hw hK hc i pins s σ H E I hf st hg
    subst hP hw hK
    obtain ⟨hd, hi⟩ := hg
    obtain ⟨f0, f1, f2, f3, f4, f5⟩ := hf it (by simp)
    have R : DictW X.w s.heap d xs ep := (I.hok d _ hd).1
    obtain ⟨h1, h2, o, es, ho, hx, hdt, he, hn⟩ := R.ex
    have hxi : xs[i]? = some xs[i] := List.getElem?_eq_getElem hi
    have hen : es[i]? = some ⟨xs[i].1.hash X.w, .ref xs[i].2.1, xs[i].2.2⟩ := by rw [ent_at he, hxi]; rfl
    refine next_key_item st ho hdt (ent_size he) hen fun h' st' sb => ?_
    have I1 : Inv X pins σ H { s with heap := h' } := I.turned (t' := s.toks) (fun b ob hb e => (sb.2 b hb).trans e) f0 f1 f3 f4 f5
    obtain ⟨oi, e, c, dd⟩ := id st'
    exact ⟨_, rfl, go_of (s := { s with heap := h' }) e c dd (by decide) ⟨.ref xs[i].2.1, H, I1, rfl, ⟨rfl, _, hxi, rfl⟩, st', fun b hb => (hf b hb).1⟩⟩
  done := by
    intro X hP hw hK hc i pins s σ H E I hf st hg
    subst hP hw hK
    obtain ⟨hd, hi⟩ := hg
    obtain ⟨f0, f1, f2, f3, f4, f5⟩ := hf it (by simp)
    have R : DictW X.w s.heap d xs ep := (I.hok d _ hd).1
    obtain ⟨h1, h2, o, es, ho, hx, hdt, he, hn⟩ := R.ex
    exact next_key_end (I.ok.hd hc) st ho hdt (ent_size he) hi fun h' eb => ⟨rfl, I.turned (t' := s.toks) (fun b ob hb e => eb b ob hb e) f0 f1 f3 f4 f5⟩
  self := fun A i s Q E st h => wpAny_pyIter_keyiter st h
def iDk (w : World) (i : Nat) : TI := fun σ H R => ∃ a xs ep, σ[i]? = some (some (.ref a)) ∧ H a = some (DOb w a xs ep) ∧ (xs.length ≤ sizeLine → R (ItDk w a xs ep) H)
section
variable {X : Cx} {Φ : Tab} {tg e : Expr} {i : Nat}
theorem pi_dict (hv : PE X e (tVar i)) : PI X tg e (iDk X.w i) := by
  refine ⟨fun pins s σ H R I h => ?_⟩
  obtain ⟨a, xs, ep, h1, h2, q⟩ := h
  refine thn (hv.run pins s σ H (fun v H' => v = .ref a ∧ H' = H) I ⟨.ref a, h1, rfl, rfl⟩) fun u s1 hh => ?_
  obtain ⟨v, H', I1, r1, rfl, rfl⟩ := hh
  obtain rfl : u = Value.ref a := r1
  have R : DictW X.w s1.heap a xs ep := (I1.hok a _ h2).1
  obtain ⟨g1, g2, o, es, ho, hx, hdt, he, hn⟩ := R.ex
  refine iter_keys g1 ho hx hdt ?_
  rw [ent_size he]
  refine ⟨s1.heap.objs.size, [s1.heap.objs.size], _, _, H', rfl, I1.kept (t' := s1.toks) fun b o e => Heap.get?_push_of_some _ e, turn_dk s1.heap.objs.size, ⟨_, Heap.get?_push_size _ rfl, rfl, rfl⟩, fun b hb => ?_, q g2⟩
  have e : b = s1.heap.objs.size := by simpa using hb
  subst e
  exact I1.fpOk (Nat.le_refl _) (I1.hok.fresh (Nat.le_refl _))
end
theorem drel_at {K : KW} {G : Hp} {kvs : KD} {xs : Ents2} (h : Paired (DRel K G) kvs xs) : ∀ {i : Nat} {e}, xs[i]? = some e → ∃ d, (kvs.map (·.1))[i]? = some d ∧ Dq K G (.ref e.2.1) d := by
  induction h with
  | nil => intro i e h; simp at h
  | @cons p q ps qs hq t ih =>
    intro i e h
    cases i with
    | zero => simp at h; subst h; exact ⟨p.1, rfl, hq.2.1⟩
    | succ i => simp at h; simpa using ih h
section
variable {K : KW} {Se S : Option Addr} {c : Option Nat} {Ge He G H : Hp} {ρ : Rho} {σ : L2.St} {i : Nat} {kvs : KD}
/-- the dict of a slot, lent to the loop -/
theorem SR.lendD (s : SR K Se Ge He S c ρ σ G H) (h : ρ[i]? = some (some (.ow (.dict kvs)))) : ∃ a xs ep, σ[i]? = some (some (.ref a)) ∧ He a = none ∧ S ≠ some a ∧ H a = some (DOb K.w a xs ep) ∧ Paired (DRel K G) kvs xs ∧ SR K Se Ge (upd He a (DOb K.w a xs ep)) S c (ρ.set i (some (.bw (.dict kvs)))) σ G H := by
  obtain ⟨v, e1, a, rfl, n1, n2, n3, xs, ⟨ep, ho⟩, hd⟩ := s.slot i _ h
  refine ⟨a, xs, ep, e1, n1, n3, ho, hd, ?_⟩
  have up : ∀ b, b ≠ a → upd He a (DOb K.w a xs ep) b = He b := fun b q => upd_ne q
  refine ⟨s.sub, s.sta, ⟨fun b o n e => ?_, s.kp.kg, fun b e => ?_, fun b e => ?_⟩, ?_, by rw [List.length_set]; exact s.len, fun j t hj => ?_, fun j l d d' b g1 g2 g3 g4 => ?_⟩
  · by_cases q : b = a
    · subst q
      rw [upd_same] at e
      cases e
      exact ho
    · rw [up b q] at e
      exact s.kp.kh b o n e
  · by_cases q : b = a
    · subst q
      cases z : Ge b with
      | none => exact n2
      | some u =>
        have := s.kp.kg b u z
        rw [n2] at this
        cases this
    · rw [up b q] at e
      exact s.kp.kn b e
  · by_cases q : b = a
    · subst q
      rw [ho]
      simp
    · rw [up b q] at e
      exact s.kp.dm b e
  · rcases s.ss with z | ⟨z, p, z1, z2⟩
    · exact .inl z
    · refine .inr ⟨z, p, z1, ?_⟩
      have : p ≠ a := fun q => n3 (by rw [z1, q])
      rw [up p this]
      exact z2
  · rcases set_cases hj with ⟨rfl, rfl⟩ | ⟨hl, hj'⟩
    · exact ⟨_, e1, a, rfl, (by rw [upd_same]; exact fun q => (nomatch q)), n3, xs, ⟨ep, ho⟩, hd⟩
    · obtain ⟨v, ev, sv⟩ := s.slot j t hj'
      refine ⟨v, ev, ?_⟩
      cases t with
      | fz d => exact sv
      | st => exact sv
      | ow d =>
        obtain ⟨b, rfl, m1, m2, m3, m4⟩ := sv
        have : b ≠ a := fun q => by
          subst q
          exact hl (s.inj j i d _ b hj' h ev e1)
        exact ⟨b, rfl, by rw [up b this]; exact m1, m2, m3, m4⟩
      | bw d =>
        obtain ⟨b, rfl, m1, m3, m4⟩ := sv
        have : b ≠ a := fun q => by
          subst q
          exact m1 n1
        exact ⟨b, rfl, by rw [up b this]; exact m1, m3, m4⟩
  · rcases set_cases g1 with ⟨_, z⟩ | ⟨_, g1⟩
    · cases z
    · rcases set_cases g2 with ⟨_, z⟩ | ⟨_, g2⟩
      · cases z
      · exact s.inj j l d d' b g1 g2 g3 g4
end
section
variable {X : Cx} {Φ : Tab} {pos : Pos}
theorem s_forD {tg : Expr} {is : List Nat} {one : Bool} {i : Nat} {x : Str} {p' : Pos} {body : List Stmt} {Bs : List SB.St} (hp : PassesOwn (model X.prog X.w) X.A X.env X.xe) (hc : X.calm = true) (hv : PE X (.Name x p') (tVar i)) (hg : PG X tg (gTg X.KW is one)) (hb : PSs X body (tSs Φ X.KW Bs))
    (hs : ∀ y, foldedSetIterable (.Name x p') X.env y = pure y) : PS X (.For tg (.Name x p') body [] pos) (tS Φ X.KW (.forD is one i Bs)) := by
  refine ⟨fun pins s σ H Dn I hw => ?_⟩
  obtain ⟨Se, Ge, He, S, c, ρ, G, sr, fl, c', hev, q⟩ := hw
  simp only [ex] at hev
  replace hev := M.bind_some hev
  obtain ⟨kvs, c1, h1, hev⟩ := hev
  replace h1 := ofO2 h1
  obtain ⟨h1, e1⟩ := h1
  subst e1
  replace hev := M.bind_some hev
  obtain ⟨r0, c2, hlp0, hev⟩ := hev
  obtain ⟨ρ9, rfl⟩ : ∃ ρ9, r0 = .nx ρ9 := by
    cases r0 with
    | nx ρ9 => exact ⟨ρ9, rfl⟩
    | rt v => cases hev
  simp only at hev
  split at hev
  · rename_i hbw
    cases hev
    obtain ⟨a, es, ep, ea, ha, hSa, hH, hd, sr1⟩ := sr.lendD (owK_some h1)
    have hlen : kvs.length = es.length := Paired.length hd
    generalize hxs : kvs.map (·.1) = xs at hlp0
    have hlx0 : xs.length = es.length := by rw [← hxs, List.length_map, hlen]
    refine (ps_for hp hc (pi_dict hv) hg hb hs).run pins s σ H Dn I ⟨a, es, ep, ea, hH, fun hsz => ?_⟩
    refine ⟨fun k m σ1 H2 => m = xs.length - k ∧ k ≤ xs.length ∧ ∃ S1 c3 ρ1 G2, SR X.KW Se Ge (upd He a (DOb X.w a es ep)) S1 c3 ρ1 σ1 G2 H2 ∧ Same G G2 ∧ loop (fun d ρ => do
      let ρ1 ← ofO (bindT one is d ρ)
      exs Φ Bs ρ1) (xs.drop k) ρ1 c3 = some (.nx ρ9, c'), ⟨xs.length, rfl, Nat.zero_le _, S, _, _, G, sr1, Same.refl _, hlp0⟩, ?_⟩
    rintro k m σ1 H2 ⟨rfl, hix, S1, c3, ρ1, G2, sr2, g2, hlp⟩
    have hSe : Se ≠ some a := by
      rcases sr.ss with z | ⟨z, _⟩
      · rw [z]; exact hSa
      · rw [z]; simp
    have hH2 : H2 a = some (DOb X.w a es ep) := sr2.kp.kh a _ hSe upd_same
    by_cases hlx : k < xs.length
    · have hd0 : xs[k]? = some xs[k] := List.getElem?_eq_getElem hlx
      rw [List.drop_eq_getElem_cons hlx] at hlp
      obtain ⟨r, c4, hf, hlp⟩ := loop_cons hlp
      replace hf := M.bind_some hf
      obtain ⟨ρ2, c5, hb0, hf⟩ := hf
      replace hb0 := ofO2 hb0
      obtain ⟨hb0, e5⟩ := hb0
      subst e5
      refine .inr ⟨⟨hH2, by omega⟩, fun σ' H' => ∃ S' ρ' G', r = .nx ρ' ∧ SR X.KW Se Ge (upd He a (DOb X.w a es ep)) S' c4 ρ' σ' G' H' ∧ Same G G', fun σ' H' h' => ?_, fun y H3 yy => ?_⟩
      · obtain ⟨S', ρ', G', rfl, sr', g'⟩ := h'
        exact ⟨xs.length - (k + 1), by omega, rfl, by omega, S', c4, ρ', G', sr', g', hlp⟩
      · obtain ⟨rfl, ent, hent, rfl⟩ := yy
        obtain ⟨d, hd1, hdx⟩ := drel_at (drel_mono g2 hd) hent
        rw [hxs, hd0] at hd1
        cases hd1
        refine sr2.target hdx hb0 fun σ2 sr3 hσ2 => ?_
        refine ⟨Se, Ge, upd He a (DOb X.w a es ep), S1, _, ρ2, G2, sr3, r, c4, hf, ?_⟩
        cases r with
        | nx ρ' => exact fun S' σ' G' H' sr' g' => ⟨S', ρ', G', rfl, sr', g2.trans g'⟩
        | rt v => cases hlp
    · have ei : k = xs.length := by omega
      subst ei
      rw [List.drop_length] at hlp
      cases hlp
      exact .inl ⟨⟨hH2, by omega⟩, q _ _ _ _ ((sr2.drop i).unlend ha hbw) g2⟩
  · cases hev
end
/-! ### a comprehension over the keys of a dict -/
section
variable {X : Cx} {Φ : Tab}
theorem dcomp_ev {elt : Ex} {own tg : List Nat} {one : Bool} {i : Nat} {ρ : Rho} {c c' : Option Nat} {z : Sl} (h : ev Φ (.dcomp elt own tg one i) ρ c = some (z, c')) :
    ∃ kvs ys, owK ρ i = some kvs ∧ turns (turnM Φ elt own tg one [] ρ) (kvs.map (·.1)) c = some (ys, c') ∧ z = .ow (.list ys) := by
  simp only [ev] at h
  replace h := M.bind_some h
  obtain ⟨kvs, c2, h2, h⟩ := h
  obtain ⟨h3, h4⟩ := ofO_run h2
  simp only at h3 h4
  subst h4
  replace h := M.bind_some h
  obtain ⟨ys, c3, h5, h⟩ := h
  cases h
  refine ⟨kvs, ys, h3, ?_, rfl⟩
  have e : turnM Φ elt own tg one [] ρ = fun d => (do
      let ρ1 ← ofO (bindT one tg d (wipeR ρ own))
      let y ← ev Φ elt ρ1
      let e ← y.kp
      pure (some e) : M (Option D)) := by
    funext d
    unfold turnM
    simp only [evc, pure_bind, if_true]
  rw [e]
  exact h5
theorem e_dcomp {elt : Ex} {own tg : List Nat} {one : Bool} {i : Nat} {ex tx ix : Expr} {scope : Scope} {ow : List (Str × Nat)} (hc : X.calm = true) (hN : X.N.Nodup) (how : ow.map (·.2) = own) (htg : ∀ i ∈ tg, i ∈ own) (hio : i ∉ own)
    {σ : L2.St} {H : Hp} {Q : VK} (hw : tE Φ X.KW (.dcomp elt own tg one i) σ H Q) : tLc (iDk X.w i) (gTg X.KW tg one) (tTs Φ X.KW []) (tE Φ X.KW elt) (ow.map (·.2)) σ H Q := by
  obtain ⟨Se, Ge, He, S, c, ρ, G, sr, z, c', hev, q⟩ := hw
  obtain ⟨kvs, ys, h1, h3, rfl⟩ := dcomp_ev hev
  rw [how]
  have hi := owK_some h1
  obtain ⟨v0, e1, a, rfl, n1a, n2a, hSa, es, ⟨ep, ho⟩, hd⟩ := sr.slot i _ hi
  have hlen : kvs.length = es.length := Paired.length hd
  generalize hxs : kvs.map (·.1) = xs at h3
  have hlx0 : xs.length = es.length := by rw [← hxs, List.length_map, hlen]
  refine ⟨a, es, ep, e1, ho, fun hsz D hD => ?_⟩
  have n1 : Nxt S c G H G H := .refl sr.sub sr.sta
  have hSD : S ≠ some D := sne n1.sta hD
  have haD : a ≠ D := ne_of_none ho hD
  refine ⟨fun k m H2 => m = xs.length - k ∧ H2 a = some (DOb X.w a es ep) ∧ CS X.KW Φ S c' (turnM Φ elt own tg one [] ρ) xs ys G H D k H2, ⟨xs.length, rfl, by rw [upd_ne haD]; exact ho, ?_⟩, ?_⟩
  · have n0 : Nxt S c G H G (upd H D (.lst [])) := .newO n1.sub n1.sta hD
    exact ⟨G, c, [], [], ys, n0.sub, n0.sta, n0.kp, upd_same, gne n1.sub hD, .nil, Nat.zero_le _, Nat.zero_le _, h3, rfl⟩
  · rintro k m H2 ⟨rfl, hH2, ⟨G2, c2, acc, as, rest, sm2, st2, kp2, hacc, hGD, hdq, hai, hix, htr, hys⟩⟩
    by_cases hlx : k < xs.length
    · refine .inr ⟨⟨hH2, by omega⟩, fun H' => H' a = some (DOb X.w a es ep) ∧ CS X.KW Φ S c' (turnM Φ elt own tg one [] ρ) xs ys G H D (k + 1) H', fun H' h' => ⟨xs.length - (k + 1), by omega, rfl, h'⟩, fun x H3 y => ?_⟩
      obtain ⟨rfl, ent, hent, rfl⟩ := y
      obtain ⟨d, hd1, hdx⟩ := drel_at (drel_mono kp2.kg hd) hent
      rw [hxs] at hd1
      have hdrop : xs.drop k = d :: xs.drop (k + 1) := by
        obtain ⟨hl, e⟩ := List.getElem?_eq_some_iff.mp hd1
        rw [List.drop_eq_getElem_cons hl, e]
      rw [hdrop] at htr
      obtain ⟨o, c4, r, hf, htr2, hrest⟩ := turns_cons htr
      unfold turnM at hf
      replace hf := M.bind_some hf
      obtain ⟨ρ1, c3, hb, hf⟩ := hf
      replace hb := ofO2 hb
      obtain ⟨hb, e3⟩ := hb
      subst e3
      replace hf := M.bind_some hf
      obtain ⟨t, c5, h5, hf⟩ := hf
      have sr3 : SR X.KW Se Ge He S c3 (wipeR ρ own) (L2.wipe σ own) G2 H3 := by
        have s2 : SR X.KW Se Ge He S c3 ρ σ G2 H3 := sr.step ⟨sm2, st2, kp2⟩
        exact s2.wipe own
      refine sr3.target hdx hb fun σ1 sr4 hσ1 => ?_
      obtain ⟨ws, rfl⟩ := hσ1
      refine ⟨by rw [wipe_setAll htg, wipe_wipe], Se, Ge, He, S, _, ρ1, G2, sr4, t, c5, h5, fun G4 H4 n4 => ?_⟩
      cases t with
      | false =>
        rw [if_neg Bool.false_ne_true] at hf ⊢
        cases hf
        exact ⟨n4.kp.kh _ _ hSa hH2, G4, _, acc, as, r, n4.sub, n4.sta, kp2.trans n4.kp, n4.kp.kh _ _ hSD hacc, (n4.kp.kn D (by rw [hacc]; exact fun z => nomatch z)).trans hGD, dpAll_mono n4.kp.kg _ hdq, by omega, by omega, htr2, by rw [hys, hrest]⟩
      | true =>
        rw [if_pos rfl] at hf ⊢
        replace hf := M.bind_some hf
        obtain ⟨y1, c6, h6, hf⟩ := hf
        replace hf := M.bind_some hf
        obtain ⟨e1', c7, h7, hf⟩ := hf
        obtain ⟨e7, _⟩ := Sl.kp_ok h7
        subst e7
        cases hf
        refine ⟨Se, Ge, He, S, c5, ρ1, G4, sr4.step n4, y1, _, h6, fun v5 G5 H5 n5 r5 => ?_⟩
        obtain ⟨G5', n5', hd5⟩ := r5.keep n5 h7
        have n25 := n4.trans n5'
        have hD5 : H5 D = some (.lst acc) := n25.kp.kh _ _ hSD hacc
        have hG5 : G5' D = none := (n25.kp.kn D (by rw [hacc]; exact fun z => nomatch z)).trans hGD
        refine ⟨acc, hD5, by omega, by rw [upd_ne haD]; exact n25.kp.kh _ _ hSa hH2, G5', _, acc ++ [v5], as ++ [e1'], r, ?_, ?_, ?_, upd_same, hG5, dpAll_append (dpAll_mono n25.kp.kg _ hdq) (.cons hd5 .nil), by rw [List.length_append, List.length_singleton]; omega, by omega, htr2, by rw [hys, hrest]; simp⟩
        · intro b u eb
          rw [upd_ne (ne_of_none eb hG5)]
          exact n25.sub b u eb
        · have t5 := n25.sta
          cases S with
          | none =>
            cases c4 with
            | none => trivial
            | some n => exact t5.elim
          | some a =>
            obtain ⟨g1, n, rfl, g2⟩ := t5.out rfl
            have hne : a ≠ D := fun e => hSD (by rw [e])
            exact ⟨g1, by rw [upd_ne hne]; exact g2⟩
        · have kk := kp2.trans n25.kp
          refine ⟨fun b u nb eb => ?_, kk.kg, kk.kn, fun b hb => ?_⟩
          · rw [upd_ne (ne_of_none eb hD)]
            exact kk.kh b u nb eb
          · by_cases hbD : b = D
            · subst hbD; rw [upd_same]; exact fun z => nomatch z
            · rw [upd_ne hbD]; exact kk.dm b hb
    · have ei : k = xs.length := by omega
      subst ei
      rw [List.drop_length] at htr
      cases htr
      rw [List.append_nil] at hys
      subst hys
      exact .inl ⟨⟨hH2, by omega⟩, q _ G2 H2 ⟨sm2, st2, kp2⟩ ⟨D, rfl, hD, hGD, hSD, acc, hacc, hdq⟩⟩
end
/-! ### dicts whose keys are ints -/
def iK (ns : List Int) : List (Key × V) := ns.map fun n => (.inl n, .bl true)
theorem valV_iK (ns : List Int) (n : Int) : (valV (iK ns) (.inl n : Key)).isSome = decide (n ∈ ns) := by
  induction ns with
  | nil => rfl
  | cons m ns ih =>
    unfold iK at ih ⊢
    rw [List.map_cons]
    by_cases e : m = n
    · subst e
      rw [valV_pos rfl]
      simp
    · rw [valV_neg (fun z => e (Sum.inl.inj z)), ih]
      have : n ∈ m :: ns ↔ n ∈ ns := by simp [Ne.symm e]
      simp [this]
theorem putK_iK (ns : List Int) (n : Int) : putK (iK ns) (.inl n : Key) (.bl true) = iK (addI ns n) := by
  unfold addI
  by_cases h : n ∈ ns
  · rw [if_pos h]
    unfold putK
    have h2 := valV_iK ns n
    rw [← valV_any] at h2
    rw [if_pos (by rw [h2]; simpa using h)]
    unfold iK
    rw [List.map_map]
    refine List.map_congr_left fun m _ => ?_
    show (if (Sum.inl m : Key) = Sum.inl n then _ else _) = _
    split <;> rfl
  · rw [if_neg h]
    have h2 := valV_iK ns n
    rw [decide_eq_false h] at h2
    rw [putK_new _ (by cases e : valV (iK ns) (.inl n : Key) with | none => rfl | some v => rw [e] at h2; cases h2)]
    unfold iK
    simp
theorem owI_some {ρ : Rho} {i : Nat} {ns : List Int} (h : owI ρ i = some ns) : ∃ ds, ρ[i]? = some (some (.ow (.tuple ds))) ∧ intsOf ds = some ns := by
  unfold owI at h
  split at h
  · rename_i e
    exact ⟨_, slAt_some e, h⟩
  · cases h
theorem intsOf_mapB : ∀ ns : List Int, intsOf (ns.map .int) = some ns
  | [] => rfl
  | n :: ns => by
    show (intsOf (ns.map .int)).map (n :: ·) = _
    rw [intsOf_mapB ns]
    rfl
section
variable {K : KW} {Se S : Option Addr} {c : Option Nat} {Ge He G H : Hp} {ρ : Rho} {σ : L2.St} {i : Nat}
theorem own_int {ns : List Int} (s : SR K Se Ge He S c ρ σ G H) (h : owI ρ i = some ns) : ∃ a, σ[i]? = some (some (.ref a)) ∧ H a = some (.dK (iK ns)) := by
  obtain ⟨ds, h1, h2⟩ := owI_some h
  obtain ⟨v, e1, a, rfl, _, _, _, ms, rfl, ho⟩ := s.slot i _ h1
  rw [intsOf_mapB] at h2
  cases h2
  exact ⟨a, e1, ho⟩
end
def rIIn (ng : Bool) : R2 := fun y x H Q => ∃ a ns n, x = .ref a ∧ y = .int n ∧ H a = some (.dK (iK ns)) ∧ Q (.bl (ng != decide (n ∈ ns))) H
section
variable {X : Cx} {Φ : Tab} {a b e f : Expr} {A B E F : Ex} {pos p : Pos} {k : Nat} {i : Nat}
theorem op_iin {ng : Bool} (hu : X.A.units + 1 < cLine) : OpR X (compareOp (if ng then .NotIn else .In)) (rIIn ng) := by
  intro pins s σ H y x v u Q I ry rx h
  obtain ⟨a, ns, n, rfl, rfl, ha, q⟩ := h
  obtain rfl : u = Value.ref a := rx
  have g : DGet H a (.int n) (valV (iK ns) (.inl n : Key)) := DGet.k (k := (.inl n : Key)) ha
  have e := valV_iK ns n
  cases ng with
  | false => exact d_in hu I g ry fun s1 I1 => ⟨.bl (valV (iK ns) (.inl n : Key)).isSome, H, I1, rfl, by rw [e]; simpa using q⟩
  | true => exact d_notIn hu I g ry fun s1 I1 => ⟨.bl (!(valV (iK ns) (.inl n : Key)).isSome), H, I1, rfl, by rw [e]; simpa using q⟩
theorem e_inew : PE X (.Dict [] [] pos) (tE Φ X.KW .inew) := by
  refine ⟨fun pins s σ H Q I hw => ?_⟩
  obtain ⟨Se, Ge, He, S, c, ρ, G, sr, z, c', hev, q⟩ := hw
  simp only [ev] at hev
  cases hev
  exact pe_dnewK.run pins s σ H Q I fun p hp => q _ G _ (.newO sr.sub sr.sta hp) ⟨p, rfl, hp, gne sr.sub hp, sne sr.sta hp, [], rfl, upd_same⟩
theorem e_iin {ng : Bool} (hu : X.A.units + 67 < cLine) (ha : PE X a (tE Φ X.KW A)) (ho : PE X e (tVar i)) (bm : behindInMarks (if ng then CmpOp.NotIn else CmpOp.In) e = false) :
    PE X (.Compare a [if ng then .NotIn else .In] [e] pos) (tE Φ X.KW (.iin ng A i)) ∧ PT X (.Compare a [if ng then .NotIn else .In] [e] pos) (tT Φ X.KW (.iin ng A i)) := by
  have op := op_iin (X := X) (ng := ng) (by omega)
  have inv : ∀ {ρ : Rho} {c c' : Option Nat} {z : Sl}, ev Φ (.iin ng A i) ρ c = some (z, c') → ∃ x n ns, ev Φ A ρ c = some (x, c') ∧ x.rd c' = some (.int n, c') ∧ owI ρ i = some ns ∧ z = .fz (.bool (ng != decide (n ∈ ns))) := by
    intro ρ c c' z hev
    simp only [ev] at hev
    replace hev := M.bind_some hev
    obtain ⟨x, c1, h1, hev⟩ := hev
    replace hev := M.bind_some hev
    obtain ⟨d, c3, h3, hev⟩ := hev
    have e3 := M.rd_some h3
    subst e3
    replace hev := M.bind_some hev
    obtain ⟨n, c4, h4, hev⟩ := hev
    replace h4 := ofO2 h4
    obtain ⟨h4, e4⟩ := h4
    subst e4
    have e5 := intOf_some h4
    subst e5
    replace hev := M.bind_some hev
    obtain ⟨ns, c2, h2, hev⟩ := hev
    replace h2 := ofO2 h2
    obtain ⟨h2, e2⟩ := h2
    subst e2
    cases hev
    exact ⟨x, n, ns, h1, h3, h2, rfl⟩
  constructor
  · refine ⟨fun pins s σ H Q I hw => ?_⟩
    obtain ⟨Se, Ge, He, S, c, ρ, G, sr, z, c', hev, q⟩ := hw
    obtain ⟨x, n, ns, h1, h4, h2, rfl⟩ := inv hev
    obtain ⟨ad, g1, _⟩ := own_int sr h2
    refine (pe_cmpR op ha ho bm).run pins s σ H Q I ⟨Se, Ge, He, S, c, ρ, G, sr, _, _, h1, fun v G1 H1 n1 r1 => ⟨.ref ad, g1, ?_⟩⟩
    obtain ⟨ad', g1', o1⟩ := own_int (sr.step n1) h2
    rw [g1] at g1'
    cases g1'
    have ev : v = .int n := (r1.vw n1.sub h4).1
    exact ⟨ad, ns, n, rfl, ev, o1, q _ _ _ n1 (.bl _)⟩
  · refine ⟨fun pins s σ H Q I hw => ?_⟩
    obtain ⟨Se, Ge, He, S, c, ρ, G, sr, t, c', hev, q⟩ := hw
    obtain ⟨z, hev, hz⟩ := tst_some hev
    obtain ⟨x, n, ns, h1, h4, h2, rfl⟩ := inv hev
    cases hz
    obtain ⟨ad, g1, _⟩ := own_int sr h2
    refine (pt_cmpR op ha ho bm).run pins s σ H Q I ⟨Se, Ge, He, S, c, ρ, G, sr, _, _, h1, fun v G1 H1 n1 r1 => ⟨.ref ad, g1, ?_⟩⟩
    obtain ⟨ad', g1', o1⟩ := own_int (sr.step n1) h2
    rw [g1] at g1'
    cases g1'
    have ev : v = .int n := (r1.vw n1.sub h4).1
    exact ⟨ad, ns, n, rfl, ev, o1, _, rfl, q _ _ n1⟩
theorem s_iput {p' pc : Pos} {jc : Nat} (hu : X.A.units + 67 < cLine) (ho : PE X e (tVar i)) (ha : PE X a (tE Φ X.KW A)) :
    PS X (.Assign [.Subscript e a p'] (.Constant (.bool true) jc pc) pos) (tS Φ X.KW (.iput i A)) := by
  have h := ps_dput (X := X) (pos := pos) (pos' := p') (by omega) ho ha (pe_bl (b := true) (j := jc) (pos := pc)) rfl
  refine ⟨fun pins s σ H Dn I hw => ?_⟩
  obtain ⟨Se, Ge, He, S, c, ρ, G, sr, fl, c', hev, q⟩ := hw
  simp only [ex] at hev
  replace hev := M.bind_some hev
  obtain ⟨y, c3, h3, hev⟩ := hev
  replace hev := M.bind_some hev
  obtain ⟨d, c4, h4, hev⟩ := hev
  have e4 := M.rd_some h4
  subst e4
  replace hev := M.bind_some hev
  obtain ⟨n, c5, h5, hev⟩ := hev
  replace h5 := ofO2 h5
  obtain ⟨h5, e5⟩ := h5
  subst e5
  have e6 := intOf_some h5
  subst e6
  replace hev := M.bind_some hev
  obtain ⟨ns, c6, h6, hev⟩ := hev
  replace h6 := ofO2 h6
  obtain ⟨h6, e6⟩ := h6
  subst e6
  split at hev
  · rename_i hl
    cases hev
    obtain ⟨ad, g1, g2⟩ := own_int sr h6
    refine h.run pins s σ H Dn I ⟨.ref ad, g1, Se, Ge, He, S, c, ρ, G, sr, _, _, h3, fun y2 G2 H2 n2 r2 => ?_⟩
    have s2 := sr.step n2
    obtain ⟨ad', g1', o1⟩ := own_int s2 h6
    rw [g1] at g1'
    cases g1'
    have ev : y2 = .int n := (r2.vw n2.sub h4).1
    subst ev
    obtain ⟨ds, i1, i2⟩ := owI_some h6
    refine ⟨ad, _, rfl, DPut.k (k := (.inl n : Key)) o1 (by unfold iK; rw [List.length_map]; exact hl), ?_⟩
    rw [putK_iK]
    exact q _ _ _ _ (s2.chg i1 g1 ⟨_, rfl, upd_same⟩) n2.kp.kg
  · cases hev
theorem dq_ints0 {K : KW} {G : Hp} : ∀ ns : List Int, DqAll K G (ns.map V.int) (ns.map .int)
  | [] => .nil
  | n :: ns => .cons (.int n) (dq_ints0 ns)
/-- the keys, collected -/
theorem col_int (hc : X.calm = true) {pins : List (Addr × Obj)} {σ : L2.St} {H : Hp} {s : Shared} {a : Addr} {ns : List Int} (I : Inv X pins σ H s) (n : H a = some (.dK (iK ns))) (Q' : List Value → Shared → Prop) (E' : Value → Shared → Prop)
    (q : ∀ h' tk vs, (∀ b o, s.heap.get? b = some o → h'.get? b = some o) → Vals (ns.map V.int) vs → Q' vs { s with heap := h', toks := tk }) : wpAny (model X.prog X.w) X.A.in1 (collect (.ref a)) Q' E' s := by
  obtain ⟨z, lo, vs, rk, hd⟩ := (show ObjOk X.prog X.w H s.heap a (.dK (iK ns)) from I.hok a _ n)
  obtain ⟨ep, hat⟩ := hd.dictAt
  have hl : (iK ns).length = vs.length := Paired.length rk
  have hl2 : ns.length = vs.length := by rw [← hl]; unfold iK; rw [List.length_map]
  refine PySem.W.kdu_collect (A := X.A.in1) (PySem.W.kdl_dict (knd := mixKind X.prog X.w) (kvs := vs) (ep := ep) lo) (I.ok.hd hc) hat (by rw [← hl]; exact z) fun h' tk acc hk it => ?_
  refine q h' tk acc.toList hk ?_
  have el : acc.toList.length = acc.size := by simp
  refine vals_of_at (by rw [List.length_map, el, it.1, hl2]) fun j x w h1 h2 => ?_
  obtain ⟨k, y, hky, hi⟩ := it.2 j w (by rw [← Array.getElem?_toList]; exact h2)
  have e1 : ((iK ns).map (·.1))[j]? = some k := by
    rw [KV.keys rk, List.getElem?_map, hky] <;> rfl
  have e2 : (iK ns).map (·.1) = ns.map (fun n => (Sum.inl n : Key)) := by unfold iK; rw [List.map_map]; rfl
  rw [e2, List.getElem?_map] at e1
  rw [List.getElem?_map] at h1
  cases en : ns[j]? with
  | none => rw [en] at e1; cases e1
  | some m =>
    rw [en] at e1 h1
    cases e1
    cases h1
    exact keyIs_rel (show keyIs (.inl m) w = true from hi)
def rSortInt (K : KW) : List V → Hp → VK → Prop := fun vs H Q => ∃ (a : Addr) (ns : List Int) (ys : List D) (G : Hp), vs = [V.ref a] ∧ H a = some (.dK (iK ns)) ∧ Same G H ∧ sortD (ns.map .int) = some ys ∧
  ∀ zs (p : Addr), DqAll K G zs ys → H p = none → Q (.ref p) (upd H p (.lst zs))
theorem cr_sortInt (hc : X.calm = true) (hu : X.A.units + 67 < cLine) : CallR X (.builtin "sorted") (rSortInt X.KW) := by
  intro pins s σ H vs us Q I r h
  obtain ⟨a, ns, ys, G, rfl, n, sm, e, q⟩ := h
  rw [Vals.ref1 r]
  have hl : (ns.map V.int).length ≤ sizeLine := by
    have z := (show ObjOk X.prog X.w H s.heap a (.dK (iK ns)) from I.hok a _ n).1
    unfold iK at z
    rw [List.length_map] at z ⊢
    exact z
  exact sorted_by hu I sm (col_int hc I n) (dq_ints0 ns) hl e q
theorem e_isort (T : TabOk X.prog X.w X.KW X.mg X.base k Φ) (hc : X.calm = true) (hu : X.A.units + 67 < cLine) (hg : Gl X "sorted") (ha : PE X e (tVar i)) (hs : starEach [e] X.env = (false, eval e X.env) :: starEach [] X.env) : PE X (.Call (.Name "sorted" p) [e] [] pos) (tE Φ X.KW (.isort i)) := by
  have h := pe_callB (X := X) (p := p) (pos := pos) (cr_sortInt hc hu) hg (T.bl _ (by decide +kernel)) (by decide +kernel) (pa_cons ha pa_nil hs) (by decide) (by decide) hs rfl
  refine ⟨fun pins s σ H Q I hw => ?_⟩
  obtain ⟨Se, Ge, He, S, c, ρ, G, sr, z, c', hev, q⟩ := hw
  simp only [ev] at hev
  replace hev := M.bind_some hev
  obtain ⟨ns, c2, h2, hev⟩ := hev
  replace h2 := ofO2 h2
  obtain ⟨h2, e2⟩ := h2
  subst e2
  replace hev := M.bind_some hev
  obtain ⟨ys, c3, h3, hev⟩ := hev
  replace h3 := ofO2 h3
  obtain ⟨h3, e3⟩ := h3
  subst e3
  cases hev
  obtain ⟨d, g1, g2⟩ := own_int sr h2
  refine h.run pins s σ H Q I ⟨.ref d, g1, d, ns, ys, G, rfl, g2, sr.sub, h3, fun zs p hz hp => ?_⟩
  exact q _ _ _ (.newO sr.sub sr.sta hp) ⟨p, rfl, hp, gne sr.sub hp, sne sr.sta hp, _, upd_same, hz⟩
theorem lastOfS_mergeK (x : Str) : ∀ (ks : List (Str × Str)) (acc : List (Key × V)) (o : Option Str), valV acc (.inr x) = o.map V.str →
    valV (mergeK acc (ks.map fun p => ((Sum.inr p.1 : Key), V.str p.2))) (.inr x) = (ks.foldl (fun o p => if x = p.1 then some p.2 else o) o).map V.str
  | [], acc, o, h => h
  | p :: ks, acc, o, h => by
    show valV (mergeK (putK acc (.inr p.1) (.str p.2)) (ks.map fun p => ((Sum.inr p.1 : Key), V.str p.2))) (.inr x) = _
    rw [List.foldl_cons]
    refine lastOfS_mergeK x ks _ _ ?_
    rw [valV_put]
    by_cases hx : x = p.1
    · subst hx
      simp
    · have : ¬ ((Sum.inr x : Key) = .inr p.1) := fun e => hx (Sum.inr.inj e)
      rw [if_neg this, if_neg hx]
      exact h
/-! ### {..}.get(a, b) -/
/-- written keys and values -/
inductive DispS : List (Option Expr) → List Expr → List (Str × Str) → Prop
  | nil : DispS [] [] []
  | cons {x : Str} {i : Str} {j1 j2 : Nat} {p1 p2 : Pos} {ks : List (Option Expr)} {vs : List Expr} {l : List (Str × Str)} : DispS ks vs l → DispS (some (.Constant (.str x) j1 p1) :: ks) (.Constant (.str i) j2 p2 :: vs) ((x, i) :: l)
def dispTS (l : List (Str × Str)) : List (TE × TE) := l.map fun q => (tC (.str q.1), tC (.str q.2))
theorem DispS.pps {ks : List (Option Expr)} {vs : List Expr} {l : List (Str × Str)} (h : DispS ks vs l) : PPs X pos ks vs (dispTS l) := by
  induction h with
  | nil => exact pps_nil
  | cons _ ih => exact pps_cons pe_str pe_str ih
theorem DispS.len {ks : List (Option Expr)} {vs : List Expr} {l : List (Str × Str)} (h : DispS ks vs l) : ks.length = l.length ∧ vs.length = l.length ∧ ks.all (·.isSome) = true := by
  induction h with
  | nil => exact ⟨rfl, rfl, rfl⟩
  | cons _ ih => exact ⟨congrArg (· + 1) ih.1, congrArg (· + 1) ih.2.1, by simpa using ih.2.2⟩
theorem disp_pairsS {σ : L2.St} {H : Hp} {Q : List (V × V) → Hp → Prop} : ∀ (l : List (Str × Str)), Q (l.map fun q => (V.str q.1, V.str q.2)) H → tPairs (dispTS l) σ H Q
  | [], q => q
  | p :: l, q => disp_pairsS (Q := fun ps H3 => Q ((V.str p.1, V.str p.2) :: ps) H3) l q
theorem e_dgetS {ks : List (Option Expr)} {vs : List Expr} {l : List (Str × Str)} {p1 apos : Pos} (hu : X.A.units + 1 < cLine) (hd : DispS ks vs l) (h0 : l ≠ []) (h15 : l.length ≤ 15) (ha : PE X a (tE Φ X.KW A)) (hb : PE X b (tE Φ X.KW B)) (m : M2 X (.Dict ks vs p1) "get" apos a b pos) :
    PE X (.Call (.Attribute (.Dict ks vs p1) "get" apos) [a, b] [] pos) (tE Φ X.KW (.dgetS l A B)) := by
  obtain ⟨l1, l2, l3⟩ := hd.len
  have pd : PE X (.Dict ks vs p1) (tDisp (dispTS l)) := pe_disp hd.pps l3 (l1.trans l2.symm) (fun e => h0 (List.eq_nil_of_length_eq_zero (by rw [← l1, e]; rfl))) (by rw [l1]; exact h15)
  refine ⟨fun pins s σ H Q I hw => ?_⟩
  obtain ⟨Se, Ge, He, S, c, ρ, G, sr, z, c', hev, q⟩ := hw
  simp only [ev] at hev
  replace hev := M.bind_some hev
  obtain ⟨x, c1, h1, hev⟩ := hev
  replace hev := M.bind_some hev
  obtain ⟨d, c2, h2, hev⟩ := hev
  replace hev := M.bind_some hev
  obtain ⟨y, c3, h3, hev⟩ := hev
  replace hev := M.bind_some hev
  obtain ⟨d2, c4, h4, hev⟩ := hev
  have e2 := M.rd_some h2
  subst e2
  have e4 := M.rd_some h4
  subst e4
  replace hev := M.bind_some hev
  obtain ⟨w, c5, h5, hev⟩ := hev
  obtain ⟨h6, e6⟩ := ofO2 h5
  subst e6
  have e7 := strOf_some h6
  subst e7
  replace hev := M.bind_some hev
  obtain ⟨j, c8, h8, hev⟩ := hev
  obtain ⟨h9, e9⟩ := ofO2 h8
  subst e9
  have e10 := strOf_some h9
  subst e10
  cases hev
  refine (pe_dget2 hu pd ha hb m).run pins s σ H Q I ?_
  intro p0 hp0
  refine disp_pairsS l ⟨upd_same, l.map fun q => ((Sum.inr q.1 : Key), V.str q.2), ?_, by rw [List.length_map]; exact h15, ?_⟩
  · rw [List.map_map]; rfl
  · rw [upd_upd]
    have n0 : Nxt S c G H G (upd H p0 (.dK (mergeK [] (l.map fun q => ((Sum.inr q.1 : Key), V.str q.2))))) := .newO sr.sub sr.sta hp0
    refine ⟨p0, rfl, .inl ⟨_, .inl upd_same⟩, Se, Ge, He, S, c, ρ, G, sr.step n0, x, _, h1, fun v1 G1 H1 n1 r1 => ⟨Se, Ge, He, S, _, ρ, G1, (sr.step n0).step n1, y, _, h3, fun v2 G2 H2 n2 r2 => ?_⟩⟩
    have hS0 : S ≠ some p0 := sne sr.sta hp0
    have at2 := n2.kp.kh _ _ hS0 (n1.kp.kh _ _ hS0 (upd_same (H := H) (a := p0) (o := .dK (mergeK [] (l.map fun q => ((Sum.inr q.1 : Key), V.str q.2))))))
    have ev1 : v1 = .str w := ((r1.mono n2.kp).vw n2.sub h2).1
    have ev2 : v2 = .str j := (r2.vw n2.sub h4).1
    subst ev1 ev2
    refine ⟨_, .inl ⟨_, .inr w, .inl at2, rfl, rfl⟩, ?_⟩
    rw [lastOfS_mergeK w l [] none rfl]
    have en : ∀ o : Option Str, (o.map V.str).getD (V.str j) = V.str (o.getD j) := fun o => by cases o <;> rfl
    rw [en]
    exact q _ _ _ (n0.trans (n1.trans n2)) (.str _)

end
end SB
/-! list(zip(a, b)): the tuples are kept. -/
namespace PySem
section
variable {prog : Program} {w : World} {A : Around} {E : Value → Shared → Prop} {s : Shared} {z TI TO i1 i2 T : Addr} {f : Bool} {oT : Obj} {fp1 fp2 : List Addr} {n1 n2 i : Nat} {P1 P2 : Nat → Value → Prop} {St1 St2 : Nat → Heap → Prop}
theorem sb_zipH_item {Q : Value → Shared → Prop} (S : ZipSep2 z TI TO i1 i2 fp1 fp2) (D1 : Draws prog w A i1 fp1 n1 P1 St1) (D2 : Draws prog w A i2 fp2 n2 P2 St2)
    (hz : IsZipHeld s.heap z TI TO T f) (hT : s.heap.get? T = some oT) (hTI : IsTupOf2 s.heap TI (.ref i1) (.ref i2)) (st1 : St1 i s.heap) (st2 : St2 i s.heap) (hlt1 : i < n1) (hlt2 : i < n2)
    (hQ : ∀ x1 x2 h' tk, P1 i x1 → P2 i x2 → IsZipHeld h' z TI TO T true → St1 (i + 1) h' → St2 (i + 1) h' → IsTupOf2 h' s.heap.objs.size x1 x2 →
      (∀ c o, c ≠ z → c ≠ i1 → c ≠ i2 → s.heap.get? c = some o → h'.get? c = some o) → Q (.ref s.heap.objs.size) { s with heap := h', toks := tk }) :
    wpAny (model prog w) A (Builtin.«zip.__next__» ⟨[.ref z], []⟩) (fun fin s' => ∃ v, fin = .done (.ret v) ∧ Q v s') E s := by
  obtain ⟨hp, g, d, tk0, os⟩ := s
  show wpAny _ _ (field (.ref z) 2 >>= _) _ _ _
  refine wpAny_bind (wpAny_field hz rfl (x := .bool false) rfl ?_)
  show wpAny _ _ (field (.ref z) 3 >>= _) _ _ _
  refine wpAny_bind (wpAny_field hz rfl (x := .ref TI) rfl ?_)
  refine wpAny_bind (wpAny_seqItems hTI rfl ?_)
  show wpAny _ _ (Builtin.SmallTypes.ownedTupleIsFree (.ref z) >>= _) _ _ _
  refine wpAny_bind (wpAny_tupleHeld_zip hz hT fun h₁ hz₁ hs₁ => ?_)
  replace hs₁ : Heap.SameBut z hp h₁ := hs₁
  simp only [Bool.false_eq_true, if_false]
  refine wpAny_bind ?_
  rw [← Array.forIn_toList]
  simp only [List.forIn_cons, List.forIn_nil]
  refine wpAny_bind (wpAny_bind (wpAny_holding ?_))
  show wpAny _ _ (Builtin.SmallTypes.nextOf (.ref i1) >>= _) _ _ ⟨h₁, g, d, tk0, os⟩
  refine wpAny_bind (D1.item i _ _ _ hlt1 (D1.over st1 hs₁ S.zf1) fun x1 p1 tk1 hx1 sn1 hp1 => wpAny_pure ?_)
  replace hp1 : Heap.SameBut i1 h₁ p1 := hp1
  refine wpAny_pure ?_
  refine wpAny_bind (wpAny_bind (wpAny_holding ?_))
  show wpAny _ _ (Builtin.SmallTypes.nextOf (.ref i2) >>= _) _ _ ⟨p1, g, d, tk1, os⟩
  refine wpAny_bind (D2.item i _ _ _ hlt2 (D2.over (D2.over st2 hs₁ S.zf2) hp1 S.sep1_2) fun x2 p2 tk2 hx2 sn2 hp2 => wpAny_pure ?_)
  replace hp2 : Heap.SameBut i2 p1 p2 := hp2
  refine wpAny_pure (wpAny_pure ?_)
  show wpAny _ _ (newTuple [x1, x2] >>= _) _ _ ⟨p2, g, d, tk2, os⟩
  refine wpAny_bind (wpAny_newTuple ?_)
  have hsz : p2.objs.size = hp.objs.size := by rw [hp2.1, hp1.1, hs₁.1]
  have hz₃ : IsZipHeld p2 z TI TO T true := hp2.extBut _ _ S.zi2 (hp1.extBut _ _ S.zi1 hz₁)
  have hk : ∀ c o, c ≠ z → c ≠ i1 → c ≠ i2 → hp.get? c = some o → p2.get? c = some o := fun c o c1 c2 c3 e => hp2.extBut _ _ c3 (hp1.extBut _ _ c2 (hs₁.extBut _ _ c1 e))
  have hj1 : St1 (i + 1) p2 := D1.over sn1 hp2 S.sep2_1
  refine wpAny_pure ⟨_, rfl, ?_⟩
  have hpp : IsTupOf2 (p2.push { cls := .type "tuple", data := .seq #[x1, x2] }) p2.objs.size x1 x2 := Heap.get?_push_size _ rfl
  rw [hsz] at hpp
  show Q (.ref p2.objs.size) _
  rw [hsz]
  exact hQ x1 x2 _ tk2 hx1 hx2 (Heap.get?_push_of_some _ hz₃) (D1.frame _ _ _ hj1 fun b _ o e => Heap.get?_push_of_some _ e) (D2.frame _ _ _ sn2 fun b _ o e => Heap.get?_push_of_some _ e) hpp fun c o c1 c2 c3 e => Heap.get?_push_of_some _ (hk c o c1 c2 c3 e)
theorem sb_zipH_end {Q : Fin → Shared → Prop} (S : ZipSep2 z TI TO i1 i2 fp1 fp2) (D1 : Draws prog w A i1 fp1 n1 P1 St1) (D2 : Draws prog w A i2 fp2 n2 P2 St2)
    (hz : IsZipHeld s.heap z TI TO T f) (hT : s.heap.get? T = some oT) (hTI : IsTupOf2 s.heap TI (.ref i1) (.ref i2)) (st1 : St1 i s.heap) (st2 : St2 i s.heap) (hle1 : i ≤ n1) (hle2 : i ≤ n2) (hend : i = n1 ∨ i = n2)
    (hE : ∀ h' tk e, (∀ c o, c ≠ z → c ≠ i1 → c ≠ i2 → s.heap.get? c = some o → h'.get? c = some o) → (∃ o, h'.get? e = some o ∧ o.cls = .type "StopIteration") → E (.ref e) { s with heap := h', toks := tk }) :
    wpAny (model prog w) A (Builtin.«zip.__next__» ⟨[.ref z], []⟩) Q E s := by
  obtain ⟨hp, g, d, tk0, os⟩ := s
  show wpAny _ _ (field (.ref z) 2 >>= _) _ _ _
  refine wpAny_bind (wpAny_field hz rfl (x := .bool false) rfl ?_)
  show wpAny _ _ (field (.ref z) 3 >>= _) _ _ _
  refine wpAny_bind (wpAny_field hz rfl (x := .ref TI) rfl ?_)
  refine wpAny_bind (wpAny_seqItems hTI rfl ?_)
  show wpAny _ _ (Builtin.SmallTypes.ownedTupleIsFree (.ref z) >>= _) _ _ _
  refine wpAny_bind (wpAny_tupleHeld_zip hz hT fun h₁ hz₁ hs₁ => ?_)
  replace hs₁ : Heap.SameBut z hp h₁ := hs₁
  simp only [Bool.false_eq_true, if_false]
  refine wpAny_bind ?_
  rw [← Array.forIn_toList]
  simp only [List.forIn_cons, List.forIn_nil]
  refine wpAny_bind (wpAny_bind (wpAny_holding ?_))
  show wpAny _ _ (Builtin.SmallTypes.nextOf (.ref i1) >>= _) _ _ ⟨h₁, g, d, tk0, os⟩
  by_cases hlt1 : i < n1
  · refine wpAny_bind (D1.item i _ _ _ hlt1 (D1.over st1 hs₁ S.zf1) fun x1 p1 tk1 hx1 sn1 hp1 => wpAny_pure ?_)
    replace hp1 : Heap.SameBut i1 h₁ p1 := hp1
    have hi2 : i = n2 := by omega
    refine wpAny_pure ?_
    refine wpAny_bind (wpAny_bind (wpAny_holding ?_))
    show wpAny _ _ (Builtin.SmallTypes.nextOf (.ref i2) >>= _) _ _ ⟨p1, g, d, tk1, os⟩
    refine wpAny_bind (D2.done ⟨p1, g, d, tk1, os⟩ _ _ (by rw [← hi2]; exact D2.over (D2.over st2 hs₁ S.zf2) hp1 S.sep1_2) fun q e hq he => ?_)
    exact hE q tk1 e (fun c o cz c1 c2 x => hq _ _ c2 (hp1.extBut _ _ c1 (hs₁.extBut _ _ cz x))) he
  · have hi1 : i = n1 := by omega
    refine wpAny_bind (D1.done ⟨h₁, g, d, tk0, os⟩ _ _ (by rw [← hi1]; exact D1.over st1 hs₁ S.zf1) fun q e hq he => ?_)
    exact hE q tk0 e (fun c o cz c1 c2 x => hq _ _ c1 (hs₁.extBut _ _ cz x)) he
theorem sb_pyNext_zipH_item {Q : Option Value → Shared → Prop} (S : ZipSep2 z TI TO i1 i2 fp1 fp2) (D1 : Draws prog w A.in1 i1 fp1 n1 P1 St1) (D2 : Draws prog w A.in1 i2 fp2 n2 P2 St2)
    (hz : IsZipHeld s.heap z TI TO T f) (hT : s.heap.get? T = some oT) (hTI : IsTupOf2 s.heap TI (.ref i1) (.ref i2)) (st1 : St1 i s.heap) (st2 : St2 i s.heap) (hlt1 : i < n1) (hlt2 : i < n2)
    (hQ : ∀ x1 x2 h' tk, P1 i x1 → P2 i x2 → IsZipHeld h' z TI TO T true → St1 (i + 1) h' → St2 (i + 1) h' → IsTupOf2 h' s.heap.objs.size x1 x2 →
      (∀ c o, c ≠ z → c ≠ i1 → c ≠ i2 → s.heap.get? c = some o → h'.get? c = some o) → Q (some (.ref s.heap.objs.size)) { s with heap := h', toks := tk }) :
    wpAny (model prog w) A (pyNext (.ref z)) Q E s := by
  have hTy : s.TypeIs (.ref z) "zip" := ⟨_, hz, rfl⟩
  unfold pyNext
  exact wpAny_bind (wpAny_attempt (wpAny_callSpecial?_slot (name := Str.ofString "__next__") hTy F.slot_zip_next
    (wpAny_call_entry F.slot_zip_next hTy F.entry_zip_next
      (sb_zipH_item S D1 D2 hz hT hTI st1 st2 hlt1 hlt2 fun x1 x2 h' tk a1 a2 a3 a4 a5 a6 a7 => wpAny_pure (hQ x1 x2 h' tk a1 a2 a3 a4 a5 a6 a7)) (F.args_zip_next_1 _))))
theorem sb_pyNext_zipH_end {Q : Option Value → Shared → Prop} (S : ZipSep2 z TI TO i1 i2 fp1 fp2) (D1 : Draws prog w A.in1 i1 fp1 n1 P1 St1) (D2 : Draws prog w A.in1 i2 fp2 n2 P2 St2)
    (hz : IsZipHeld s.heap z TI TO T f) (hT : s.heap.get? T = some oT) (hTI : IsTupOf2 s.heap TI (.ref i1) (.ref i2)) (st1 : St1 i s.heap) (st2 : St2 i s.heap) (hle1 : i ≤ n1) (hle2 : i ≤ n2) (hend : i = n1 ∨ i = n2)
    (hQ : ∀ h' tk, (∀ c o, c ≠ z → c ≠ i1 → c ≠ i2 → s.heap.get? c = some o → h'.get? c = some o) → Q none { s with heap := h', toks := tk }) : wpAny (model prog w) A (pyNext (.ref z)) Q E s := by
  have hTy : s.TypeIs (.ref z) "zip" := ⟨_, hz, rfl⟩
  unfold pyNext
  refine wpAny_bind (wpAny_attempt (wpAny_callSpecial?_slot (name := Str.ofString "__next__") hTy F.slot_zip_next
    (wpAny_call_entry F.slot_zip_next hTy F.entry_zip_next (sb_zipH_end S D1 D2 hz hT hTI st1 st2 hle1 hle2 hend fun h' tk e hk he => ?_) (F.args_zip_next_1 _))))
  obtain ⟨o, ho, hc⟩ := he
  refine wpAny_bind (wpAny_isInstance (T := "StopIteration") (b := true) ⟨o, ho, hc⟩ isSubtype_stop ?_)
  exact wpAny_pure (hQ _ _ hk)
end
namespace F
theorem sb_zip_no_len : typeLookup (.type "zip") "__len__" = pure none := by rw [typeLookup_type, builtinLookup_eq_fast]; kernel_rfl
theorem sb_zip_no_hint : typeLookup (.type "zip") "__length_hint__" = pure none := by rw [typeLookup_type, builtinLookup_eq_fast]; kernel_rfl
end F
section
variable {prog : Program} {w : World} {A : Around} {E : Value → Shared → Prop} {s : Shared} {R : Result → Shared → Prop} {z TI TO : Addr}
theorem sb_extend_zip (hz : IsZip s.heap z TI TO .none) (S : Addr) (res : Value) (c₀ : Nat) (hSI : S ≠ z)
    (hS : s.heap.get? S = some { cls := .type "list", data := .seq #[] c₀ })
    (hR : ∀ h' c', (∀ b o, b ≠ S → s.heap.get? b = some o → h'.get? b = some o) → h'.get? S = some { cls := .type "list", data := .seq #[] c' } → codeAny (model prog w) A (.builtin "list.extend.loop" ⟨[.ref S, .ref z, res], []⟩) R { s with heap := h' }) :
    wpAny (model prog w) A.in1 (Builtin.List.listExtendWith (.ref S) (.ref z) res)
      (fun fin s' => match fin with | .done f => R (.ok f) s' | .again c' => c'.quiet = true ∧ codeAny (model prog w) A c' R s') (fun e s' => R (.error e) s') s := by
  have hT : s.TypeIs (.ref z) "zip" := ⟨_, hz, rfl⟩
  unfold Builtin.List.listExtendWith
  refine wpAny_bind (wpAny_typeOf hT ?_)
  have h1 : Builtin.List.listSameRef (.ref S) (.ref z) = false := by simp [Builtin.List.listSameRef, hSI]
  have h2 : (Value.type "zip" == Value.type "list") = false := by decide
  have h3 : (Value.type "zip" == Value.type "tuple") = false := by decide
  simp only [h1, h2, h3, Bool.or_false, Bool.false_eq_true, if_false]
  refine wpAny_bind (wpAny_pyIter_zip hz ?_)
  refine wpAny_bind (wpAny_holding ?_)
  unfold Builtin.List.listLengthHint
  refine wpAny_bind (wpAny_specialOf hT F.sb_zip_no_len ?_)
  show wpAny _ A.in1 (specialOf (Value.ref z) (Str.ofString "__length_hint__") >>= _) _ _ _
  refine wpAny_bind (wpAny_specialOf hT F.sb_zip_no_hint ?_)
  refine wpAny_pure ?_
  show wpAny _ A.in1 (rule "list.extend.makes-room" >>= fun _ => Builtin.List.listTouch (.ref S) >>= fun _ =>
    again (.builtin "list.extend.loop" ⟨[.ref S, .ref z, res], []⟩)) _ _ _
  refine wpAny_bind (wpAny_rule ?_)
  refine wpAny_bind ?_
  show wpAny _ A.in1 (updateSeq S (·.push .none) >>= fun _ => updateSeq S (·.pop)) _ _ _
  refine wpAny_bind (wpAny_updateSeq hS rfl ?_)
  have hS₂ := Heap.get?_update_self (Obj.mapSeq (·.push Value.none)) hS rfl
  refine wpAny_updateSeq (hz := by seq_fits) hS₂ rfl ?_
  have hS₃ := Heap.get?_update_self (Obj.mapSeq (·.pop)) hS₂ rfl
  have oth : ∀ b o, b ≠ S → s.heap.get? b = some o → ((s.heap.update S (Obj.mapSeq (·.push Value.none))).update S (Obj.mapSeq (·.pop))).get? b = some o :=
    fun b o hb e => (Heap.get?_update_other _ _ (Ne.symm hb)).trans ((Heap.get?_update_other _ _ (Ne.symm hb)).trans e)
  exact wpAny_pure ⟨plainId_quiet F.plain_extend_loop _, hR _ _ oth hS₃⟩
theorem sb_list_init_zip (hz : IsZip s.heap z TI TO .none) (S : Addr) (hSI : S ≠ z)
    (hS : s.heap.get? S = some { cls := .type "list", data := .seq #[] })
    (hR : ∀ h' c', (∀ b o, b ≠ S → s.heap.get? b = some o → h'.get? b = some o) → h'.get? S = some { cls := .type "list", data := .seq #[] c' } → codeAny (model prog w) A (.builtin "list.extend.loop" ⟨[.ref S, .ref z, .none], []⟩) R { s with heap := h' }) :
    wpAny (model prog w) A.in1 (Builtin.«list.__init__» ⟨[.ref S, .ref z], []⟩)
      (fun fin s' => match fin with | .done f => R (.ok f) s' | .again c' => c'.quiet = true ∧ codeAny (model prog w) A c' R s') (fun e s' => R (.error e) s') s := by
  show wpAny _ A.in1 (do let old ← Builtin.List.listItems (.ref S); Builtin.List.listUpdate (.ref S) (fun _ => #[]); letGo old.toList.reverse; Builtin.List.listExtendWith (.ref S) (.ref z) .none) _ _ s
  refine wpAny_bind ?_
  unfold Builtin.List.listItems
  refine wpAny_bind (wpAny_seqItems hS rfl (wpAny_pure ?_))
  show wpAny _ A.in1 (updateSeq S (fun _ => #[]) >>= fun _ => letGo (#[] : Array Value).toList.reverse >>= fun _ => Builtin.List.listExtendWith (.ref S) (.ref z) .none) _ _ s
  refine wpAny_bind (wpAny_updateSeq hS rfl ?_)
  have hS₂ := Heap.get?_update_self (Obj.mapSeq (fun _ => (#[] : Array Value))) hS rfl
  have oth : ∀ b o, b ≠ S → s.heap.get? b = some o → (s.heap.update S (Obj.mapSeq (fun _ => (#[] : Array Value)))).get? b = some o :=
    fun b o hb e => (Heap.get?_update_other _ _ (Ne.symm hb)).trans e
  refine wpAny_bind (wpAny_letGo ?_)
  exact sb_extend_zip (oth _ _ (Ne.symm hSI) hz) S .none _ hSI hS₂ fun h' c' k e => hR h' c' (fun b o hb q => k b o hb (oth b o hb q)) e
theorem sb_call_list_zip {Q : Value → Shared → Prop} (hz : IsZip s.heap z TI TO .none)
    (hR : ∀ h' c', (∀ b o, s.heap.get? b = some o → h'.get? b = some o) → h'.get? s.heap.objs.size = some { cls := .type "list", data := .seq #[] c' } →
      codeAny (model prog w) A.in1 (.builtin "list.extend.loop" ⟨[.ref s.heap.objs.size, .ref z, .none], []⟩) (wants (fun r s₂ => r = .none ∧ Q (.ref s.heap.objs.size) s₂) E) { s with heap := h' }) :
    wpAny (model prog w) A (call (.type "list") [.ref z]) Q E s := by
  refine callType_codes (Q₁ := fun obj s₁ => obj = .ref s.heap.objs.size ∧ s₁ = { s with heap := s.heap.push { cls := .type "list", data := .seq #[] } }) F.called_list (F.typeCall_list_1 _) F.entry_list_init
    (code_list_new _ ⟨rfl, rfl⟩) fun obj s₁ h₁ => ?_
  obtain ⟨rfl, rfl⟩ := h₁
  have hS : (s.heap.push { cls := .type "list", data := .seq #[] }).get? s.heap.objs.size = some { cls := .type "list", data := .seq #[] } := Heap.get?_push_size _ rfl
  have hSI : s.heap.objs.size ≠ z := Nat.ne_of_gt (Heap.lt_size hz)
  refine ⟨⟨_, hS, rfl⟩, F.args_list_init_2 _ _, sb_list_init_zip (s := { s with heap := s.heap.push { cls := .type "list", data := .seq #[] } }) (Heap.get?_push_of_some _ hz) _ hSI hS fun h' c' k e => ?_⟩
  exact hR h' c' (fun b o q => k b o (Nat.ne_of_lt (Heap.lt_size q)) (Heap.get?_push_of_some _ q)) e
end
end PySem
namespace SB
open PySem PySem.Spec PyProof.Rows L2

theorem Side.drawsA {X : Cx} {A : Around} {pins : List (Addr × Obj)} {σ : L2.St} {H : Hp} {s : Shared} {it : Addr} (I : Inv X pins σ H s) (hh : A.handled = none) : ∀ {sd : Side} {xs : List V}, sd.at X.K H xs → (∀ b ∈ sd.base, b ≠ it) →
    ∃ (P : Nat → Value → Prop) (St : Nat → Heap → Prop), Draws X.prog X.w A it (it :: sd.base) xs.length P St ∧ (∀ i, sd.it s.heap it i → St i s.heap) ∧ (∀ i h, St i h → sd.it h it i) ∧ ∀ i u, P i u → ∃ x, xs[i]? = some x ∧ RelV x u
  | .L a, xs, h1, hb => by
    obtain ⟨its, rv, p, hz⟩ := I.list h1
    have D := Draws.list (prog := X.prog) (w := X.w) (A := A) hh it a (hb a (by simp [Side.base])) its.toArray
    have e : its.toArray.size = xs.length := by rw [List.size_toArray, ← rv.length]
    rw [e] at D
    refine ⟨_, _, D, fun i st => ⟨st, p.isList⟩, fun i h st => st.1, fun i u q => ?_⟩
    obtain ⟨x, hx, rx⟩ := vals_get' rv (show its[i]? = some u by simpa using q)
    exact ⟨x, hx, rx⟩
  | .T a, xs, h1, hb => by
    obtain ⟨its, rv, p, hz⟩ := I.tuple h1
    have D := Draws.tuple (prog := X.prog) (w := X.w) (A := A) hh it a (hb a (by simp [Side.base])) its.toArray
    have e : its.toArray.size = xs.length := by rw [List.size_toArray, ← rv.length]
    rw [e] at D
    refine ⟨_, _, D, fun i st => ⟨st, p⟩, fun i h st => st.1, fun i u q => ?_⟩
    obtain ⟨x, hx, rx⟩ := vals_get' rv (show its[i]? = some u by simpa using q)
    exact ⟨x, hx, rx⟩
  | .S x t, xs, h1, hb => by
    have h1 : xs = _ := h1
    subst h1
    have D := Draws.text (prog := X.prog) (w := X.w) (A := A) hh it x t
    have e : x.cps.size = (x.cps.toList.map fun c => V.str ⟨#[c]⟩).length := by simp
    rw [e] at D
    refine ⟨_, _, D, fun i st => st, fun i h st => st, fun i u q => ?_⟩
    obtain ⟨c, t', hc', rfl⟩ := q
    refine ⟨.str ⟨#[c]⟩, ?_, t', rfl⟩
    rw [List.getElem?_map]
    have : x.cps.toList[i]? = some c := by simpa using hc'
    rw [this]
    rfl
  | .R n, xs, h1, hb => by
    have h1 : xs = _ := h1
    subst h1
    have D := Draws.sbRange (prog := X.prog) (w := X.w) (A := A) hh it n
    have e : n = ((List.range n).map fun i => V.int ((i : Nat) : Int)).length := by simp
    have D' : Draws X.prog X.w A it [it] ((List.range n).map fun i => V.int ((i : Nat) : Int)).length (fun i v => i < n ∧ ∃ t, v = .int ((i : Nat) : Int) t) (fun i h => IsRangeIter h it ((i : Nat) : Int) ((n : Int) - ((i : Nat) : Int)) 1) := by
      rw [← e]
      exact ⟨D.live, D.frame, fun i s Q E hi st hQ => D.item i s Q E hi st fun x h' tk p => hQ x h' tk ⟨hi, p⟩, D.done⟩
    refine ⟨_, _, D', fun i st => st, fun i h st => st, fun i u q => ?_⟩
    obtain ⟨hi, t', rfl⟩ := q
    refine ⟨.int ((i : Nat) : Int), ?_, t', rfl⟩
    rw [List.getElem?_map, List.getElem?_range hi]
    rfl
theorem same_sqL {K : PySem.W.Frag} {H H' : Hp} {a : Addr} {xs : List V} (e : Same H H') (h : SqL K H a xs) : SqL K H' a xs := by
  rcases h with (h | ⟨o, h⟩) | h
  · exact .inl (.inl (e _ _ h))
  · exact .inl (.inr ⟨o, e _ _ h⟩)
  · exact .inr h
theorem Side.at_same {K : PySem.W.Frag} {H H' : Hp} (e : Same H H') : ∀ {sd : Side} {xs : List V}, sd.at K H xs → sd.at K H' xs
  | .L a, xs, h => same_sqL e h
  | .T a, xs, h => same_sqT e h
  | .S x t, xs, h => h
  | .R n, xs, h => h
theorem Nxt.over {S : Option Addr} {c : Option Nat} {G H G' H' : Hp} {p : Addr} {o : HO} (n : Nxt S c G H G' H') (h0 : H p = none) (hg : G' p = none) (hS : S ≠ some p) : Nxt S c G H G' (upd H' p o) := by
  refine ⟨fun b u e => ?_, ?_, fun b u hb e => ?_, n.kp.kg, n.kp.kn, fun b hb => ?_⟩
  · rw [upd_ne (ne_of_none e hg)]
    exact n.sub b u e
  · have t := n.sta
    cases S with
    | none => cases c with
      | none => trivial
      | some m => exact t.elim
    | some a =>
      obtain ⟨h1, m, rfl, h2⟩ := t.out rfl
      have ha : a ≠ p := fun e => hS (by rw [e])
      exact ⟨h1, by rw [upd_ne ha]; exact h2⟩
  · rw [upd_ne (ne_of_none e h0)]
    exact n.kp.kh b u hb e
  · have hbp : b ≠ p := fun e => hb (by rw [e]; exact h0)
    rw [upd_ne hbp]
    exact n.kp.dm b hb
theorem same_over {H H' : Hp} {p : Addr} {o : HO} (e : Same H H') (h0 : H p = none) : Same H (upd H' p o) := fun b u q => by
  rw [upd_ne (ne_of_none q h0)]
  exact e b u q
theorem dqAll_snoc {K : KW} {G : Hp} : ∀ {vs : List V} {ds : List D} {v : V} {d : D}, DqAll K G vs ds → Dq K G v d → DqAll K G (vs ++ [v]) (ds ++ [d])
  | _, _, v, d, .nil, h => .cons h .nil
  | _, _, v, d, .cons h1 h2, h => .cons h1 (dqAll_snoc h2 h)
/-- how the zip stands -/
def ZSt (h : Heap) (H : Hp) (z TI TO : Addr) : Prop := ∃ a1 a2, IsTupOf2 h TO a1 a2 ∧ (IsZip h z TI TO .none ∨ ∃ T f x y, IsZipHeld h z TI TO T f ∧ H T = some (.tup [x, y]))
section
variable {X : Cx} {pins : List (Addr × Obj)} {σ : L2.St} {R : Result → Shared → Prop} {s1 s2 : Side} {z TI TO i1 i2 P : Addr} {S0 : Option Addr} {c0 : Option Nat} {G0 H0 : Hp} {us ws : List V} {xs ys : List D}
theorem lz_loop (hc : X.calm = true) (D : ZipSep2 z TI TO i1 i2 (i1 :: s1.base) (i2 :: s2.base)) (n1 : ∀ b ∈ s1.base, b ≠ i1) (n2 : ∀ b ∈ s2.base, b ≠ i2) (a1 : s1.at X.K H0 us) (a2 : s2.at X.K H0 ws) (b1 : DqAll X.KW G0 us xs) (b2 : DqAll X.KW G0 ws ys) (hP0 : H0 P = none) (hPS : S0 ≠ some P) (hsz : min us.length ws.length ≤ sizeLine)
    (hR : ∀ s' G' H', Inv X pins σ H' s' → Nxt S0 c0 G0 H0 G' H' → G' P = none → OwnAt X.KW G' H' P (.list ((xs.zip ys).map fun p => .tuple [p.1, p.2])) → R (.ok (.ret .none)) s') :
    ∀ (k i : Nat) (s : Shared) (G H : Hp) (vs : List V), min us.length ws.length - i = k → i ≤ min us.length ws.length → Inv X pins σ H s → (∀ c ∈ [z, TI, TO, i1, i2], FpOk X pins H c) → Nxt S0 c0 G0 H0 G H → Same H0 H → G P = none → H P = some (.lst vs) →
      DqAll X.KW G vs (((xs.zip ys).map fun p => PyData.tuple [p.1, p.2]).take i) → ZSt s.heap H z TI TO → IsTupOf2 s.heap TI (.ref i1) (.ref i2) → s1.it s.heap i1 i → s2.it s.heap i2 i →
      codeAny (model X.prog X.w) X.A.in1 (.builtin "list.extend.loop" ⟨[.ref P, .ref z, .none], []⟩) R s := by
  have l1 := dpAll_length b1
  have l2 := dpAll_length b2
  have lz : ((xs.zip ys).map fun p => PyData.tuple [p.1, p.2]).length = min us.length ws.length := by
    rw [List.length_map, List.length_zip]
    omega
  intro k
  induction k with
  | zero =>
    intro i s G H vs hk hi I hf nx sm hGP hHP hd zs hTI h1 h2
    have hin : i = min us.length ws.length := by omega
    have hh : X.A.in1.in1.in1.handled = none := show X.A.handled = none from I.ok.hd hc
    obtain ⟨P1, S1, D1, x1, y1, e1⟩ := Side.drawsA (it := i1) I hh (Side.at_same sm a1) n1
    obtain ⟨P2, S2, D2, x2, y2, e2⟩ := Side.drawsA (it := i2) I hh (Side.at_same sm a2) n2
    rw [List.take_of_length_le (by omega)] at hd
    refine codeAny_builtin F.entry_extend_loop ?_
    rw [Around.under_plainId F.plain_extend_loop _]
    show wpAny _ X.A.in1.in1 (pyNext (.ref z) >>= _) _ _ s
    have fin : ∀ h' tk, (∀ c o, c ≠ z → c ≠ TO → c ≠ i1 → c ≠ i2 → s.heap.get? c = some o → h'.get? c = some o) → R (.ok (.ret .none)) { s with heap := h', toks := tk } := fun h' tk hk' =>
      hR _ G H (I.turnedL (t' := tk) (ch := [z, TI, TO, i1, i2]) (fun c o hb q => hk' c o (fun q' => hb (by simp [q'])) (fun q' => hb (by simp [q'])) (fun q' => hb (by simp [q'])) (fun q' => hb (by simp [q'])) q) hf) nx hGP ⟨vs, hHP, hd⟩
    obtain ⟨u1, u2, hTO, zs⟩ := zs
    rcases zs with hz | ⟨T, f, x, y, hz, hT⟩
    · exact wpAny_bind (wpAny_pyNext_zipD2_end D D1 D2 hz hTI hTO (x1 i h1) (x2 i h2) (by omega) (by omega) (by omega) fun h' tk hk' => wpAny_pure (fin h' tk hk'))
    · obtain ⟨_, its, _, oT, hoT, _⟩ := I.hok T _ hT
      exact wpAny_bind (sb_pyNext_zipH_end D D1 D2 hz hoT hTI (x1 i h1) (x2 i h2) (by omega) (by omega) (by omega) fun h' tk hk' => wpAny_pure (fin h' tk fun c o c1 _ c3 c4 q => hk' c o c1 c3 c4 q))
  | succ k ih =>
    intro i s G H vs hk hi I hf nx sm hGP hHP hd zs hTI h1 h2
    have hlt : i < min us.length ws.length := by omega
    have hh : X.A.in1.in1.in1.handled = none := show X.A.handled = none from I.ok.hd hc
    obtain ⟨P1, S1, D1, x1, y1, e1⟩ := Side.drawsA (it := i1) I hh (Side.at_same sm a1) n1
    obtain ⟨P2, S2, D2, x2, y2, e2⟩ := Side.drawsA (it := i2) I hh (Side.at_same sm a2) n2
    refine codeAny_builtin F.entry_extend_loop ?_
    rw [Around.under_plainId F.plain_extend_loop _]
    show wpAny _ X.A.in1.in1 (pyNext (.ref z) >>= _) _ _ s
    have step : ∀ u u2 h' tk, P1 i u → P2 i u2 → (∀ x y, ZSt h' (upd H s.heap.objs.size (.tup [x, y])) z TI TO) → S1 (i + 1) h' → S2 (i + 1) h' → IsTupOf2 h' s.heap.objs.size u u2 → (∀ c o, c ≠ z → c ≠ TO → c ≠ i1 → c ≠ i2 → s.heap.get? c = some o → h'.get? c = some o) →
        wpAny (model X.prog X.w) X.A.in1.in1 (updateSeq P (·.push (.ref s.heap.objs.size)) >>= fun _ => again (.builtin "list.extend.loop" ⟨[.ref P, .ref z, .none], []⟩))
          (fun fin s' => match fin with | .done f => R (.ok f) s' | .again c' => c'.quiet = true ∧ codeAny (model X.prog X.w) X.A.in1 c' R s') (fun e s' => R (.error e) s') { s with heap := h', toks := tk } := by
      intro u u2 h' tk p1 p2 zs' st1 st2 hT hk'
      obtain ⟨x, ex, ru⟩ := e1 i u p1
      obtain ⟨y, ey, ru2⟩ := e2 i u2 p2
      have hHn : H s.heap.objs.size = none := I.hok.fresh (Nat.le_refl _)
      have new : ObjOk X.prog X.w (upd H s.heap.objs.size (.tup [x, y])) h' s.heap.objs.size (.tup [x, y]) :=
        ⟨by show 2 ≤ sizeLine; decide, [u, u2], .cons ru (.cons ru2 .nil), ⟨_, hT, rfl, _, rfl⟩⟩
      have I1 : Inv X pins σ (upd H s.heap.objs.size (.tup [x, y])) { s with heap := h', toks := tk } :=
        I.turnedNew (t' := tk) (ch := [z, TI, TO, i1, i2]) (fun c o hb q => hk' c o (fun q' => hb (by simp [q'])) (fun q' => hb (by simp [q'])) (fun q' => hb (by simp [q'])) (fun q' => hb (by simp [q'])) q) hf (Nat.le_refl _) new
      have hPT : P ≠ s.heap.objs.size := fun e => by rw [e, hHn] at hHP; cases hHP
      have hHP1 : (upd H s.heap.objs.size (.tup [x, y])) P = some (.lst vs) := by rw [upd_ne hPT]; exact hHP
      obtain ⟨zz, its, n, rv, hl, e⟩ := I1.lstM hHP1
      have vl : vs.length = i := by
        have := dpAll_length hd
        rw [List.length_take, lz] at this
        omega
      have I2 : Inv X pins σ (upd (upd H s.heap.objs.size (.tup [x, y])) P (.lst (vs ++ [.ref s.heap.objs.size]))) { s with heap := h'.update P (Obj.mapSeq (·.push (.ref s.heap.objs.size))), toks := tk } :=
        I1.lset (t' := tk) (its' := its ++ [.ref s.heap.objs.size]) (f := (·.push (.ref s.heap.objs.size))) hHP1 e (by simp) (rv.append (.cons (show RelV (.ref s.heap.objs.size) (.ref s.heap.objs.size) from rfl) .nil)) (by rw [List.length_append, vl]; show i + 1 ≤ sizeLine; omega)
      -- the tuple's data
      obtain ⟨d1, g1, q1⟩ := dpAll_get' b1 ex
      obtain ⟨d2, g2, q2⟩ := dpAll_get' b2 ey
      obtain ⟨m1, m2⟩ := new_tup (K := X.KW) (vs := [x, y]) (ds := [d1, d2]) nx.sub hHn (.cons (dp_mono nx.kp.kg _ q1) (.cons (dp_mono nx.kp.kg _ q2) .nil))
      have nx1 := nx.trans (m1 _ _ nx.sta)
      have hGn : G s.heap.objs.size = none := gne nx.sub hHn
      have pz : ((xs.zip ys).map fun p => PyData.tuple [p.1, p.2])[i]? = some (.tuple [d1, d2]) := by
        have hz : (xs.zip ys)[i]? = some (d1, d2) := List.getElem?_zip_eq_some.mpr ⟨g1, g2⟩
        rw [List.getElem?_map, hz]
        rfl
      have hH0n : H0 s.heap.objs.size = none := by
        cases q : H0 s.heap.objs.size with
        | none => rfl
        | some o => rw [sm _ _ q] at hHn; cases hHn
      have hGP1 : (upd G s.heap.objs.size (.tup [x, y])) P = none := by rw [upd_ne hPT]; exact hGP
      have oth : ∀ b o, b ≠ P → h'.get? b = some o → (h'.update P (Obj.mapSeq (·.push (.ref s.heap.objs.size)))).get? b = some o := fun b o hb q => (Heap.get?_update_other _ _ (Ne.symm hb)).trans q
      have nP : ∀ c ∈ [z, TI, TO, i1, i2], c ≠ P := fun c hc' e => by
        have := (hf c hc').1
        rw [e, hHP] at this
        cases this
      refine wpAny_bind (wpAny_updateSeq e rfl (wpAny_pure ⟨plainId_quiet F.plain_extend_loop _, ?_⟩) ?_ ?_)
      · refine ih (i + 1) _ (upd G s.heap.objs.size (.tup [x, y])) _ (vs ++ [.ref s.heap.objs.size]) (by omega) (by omega) I2 (fun c hc' => ?_) (nx1.over hP0 hGP1 hPS) (same_over (same_over sm hH0n) hP0) hGP1 upd_same ?_ ?_ ?_ ?_ ?_
        · have q := hf c hc'
          have hct : c ≠ s.heap.objs.size := by
            have hlt : c < s.heap.objs.size := by
              obtain ⟨u1, u2, hTO, zs⟩ := zs
              rcases zs with hz | ⟨T, f, x', y', hz, hT'⟩
              all_goals
                have e' : c = z ∨ c = TI ∨ c = TO ∨ c = i1 ∨ c = i2 := by simpa using hc'
                rcases e' with q | q | q | q | q
                · rw [q]; exact Heap.lt_size hz
                · rw [q]; exact Heap.lt_size hTI
                · rw [q]; exact Heap.lt_size hTO
                · rw [q]; obtain ⟨_, e1, _⟩ := Side.it_obj h1; exact Heap.lt_size e1
                · rw [q]; obtain ⟨_, e2, _⟩ := Side.it_obj h2; exact Heap.lt_size e2
            exact Nat.ne_of_lt hlt
          refine ⟨?_, q.2⟩
          rw [upd_ne (nP c hc'), upd_ne hct]
          exact q.1
        · rw [List.take_succ, pz]
          exact dqAll_snoc (dpAll_mono (m1 _ _ nx.sta).kp.kg _ hd) m2
        · obtain ⟨v1, v2, t1, t2⟩ := zs' x y
          refine ⟨v1, v2, oth _ _ (nP TO (by simp)) t1, ?_⟩
          rcases t2 with t2 | ⟨T, f, x', y', t2, t3⟩
          · exact .inl (oth _ _ (nP z (by simp)) t2)
          · refine .inr ⟨T, f, x', y', oth _ _ (nP z (by simp)) t2, ?_⟩
            have : T ≠ P := fun e => by rw [e, hHP1] at t3; cases t3
            rw [upd_ne this]
            exact t3
        · exact oth _ _ (nP TI (by simp)) (hk' _ _ D.TIz D.TITO D.TIi1 D.TIi2 hTI)
        · exact Side.it_keep (y1 _ _ st1) fun o q => oth _ _ (nP i1 (by simp)) q
        · exact Side.it_keep (y2 _ _ st2) fun o q => oth _ _ (nP i2 (by simp)) q
      · rw [List.size_toArray, ← hl, vl]
        omega
      · show (its.toArray.push (.ref s.heap.objs.size)).size ≤ sizeLine + 1
        rw [Array.size_push, List.size_toArray, ← hl, vl]
        omega
    obtain ⟨u1, u2, hTO, zs⟩ := zs
    rcases zs with hz | ⟨T, f, x, y, hz, hT⟩
    · refine wpAny_bind (wpAny_pyNext_zipD2_item D D1 D2 hz hTI hTO (x1 i h1) (x2 i h2) (by omega) (by omega) fun u u2 h' tk p1 p2 z' TO' h1' h2' hT hsz' hk' => ?_)
      exact step u u2 h' tk p1 p2 (fun x y => ⟨_, _, TO', .inr ⟨_, _, x, y, z', upd_same⟩⟩) h1' h2' hT hk'
    · obtain ⟨_, its, _, oT, hoT, _⟩ := I.hok T _ hT
      refine wpAny_bind (sb_pyNext_zipH_item D D1 D2 hz hoT hTI (x1 i h1) (x2 i h2) (by omega) (by omega) fun u u2 h' tk p1 p2 z' h1' h2' hT' hk' => ?_)
      exact step u u2 h' tk p1 p2 (fun x' y' => ⟨_, _, hk' _ _ D.TOz D.Ti1 D.Ti2 hTO, .inr ⟨T, true, x, y, z', by
        rw [upd_ne (Nat.ne_of_lt (Heap.lt_size hoT))]
        exact hT⟩⟩) h1' h2' hT' (fun c o c1 _ c3 c4 q => hk' c o c1 c3 c4 q)
end
end SB
/-! list(zip(a, b)) as an expression. -/
namespace SB
open PySem PySem.Spec PyProof.Rows L2

section
variable {X : Cx} {Φ : Tab} {a b : Expr} {A B : Ex} {pos p1 p2 p3 : Pos} {k : Nat}
theorem evr_two {ρ : Rho} {c c1 c2 : Option Nat} {x y : Sl} {d e : D} (g1 : ev Φ A ρ c = some (x, c1)) (g2 : x.rd c1 = some (d, c1)) (g3 : ev Φ B ρ c1 = some (y, c2)) (g4 : y.rd c2 = some (e, c2)) : evr Φ [A, B] ρ c = some ([d, e], c2) := by
  simp only [evr, M.bind_run, g1, Option.bind_some, g2, g3, g4, M.pure_run]
theorem e_lzip (T : TabOk X.prog X.w X.KW X.mg X.base k Φ) (hc : X.calm = true) (hg : Gl X "list") (hg2 : Gl X "zip") (ha : PA X [a, b] (tAr Φ X.KW [A, B])) (hs : starEach [a, b] X.env = (false, eval a X.env) :: starEach [b] X.env) (hpl : (backTo p3 (starEach [b] X.env)).any (·.1) = false) :
    PE X (.Call (.Name "list" p1) [.Call (.Name "zip" p2) [a, b] [] p3] [] pos) (tE Φ X.KW (.lzip A B)) := by
  refine ⟨fun pins s σ H Q I hw => ?_⟩
  obtain ⟨Se, Ge, He, S, c, ρ, G, sr, z, c', hev, q⟩ := hw
  simp only [ev] at hev
  replace hev := M.bind_some hev
  obtain ⟨x, c1, g1, hev⟩ := hev
  replace hev := M.bind_some hev
  obtain ⟨d, c2, g2, hev⟩ := hev
  have e2 := M.rd_some g2
  subst e2
  replace hev := M.bind_some hev
  obtain ⟨y, c3, g3, hev⟩ := hev
  replace hev := M.bind_some hev
  obtain ⟨e, c4, g4, hev⟩ := hev
  have e4 := M.rd_some g4
  subst e4
  replace hev := M.bind_some hev
  obtain ⟨zs, c5, g5, hev⟩ := hev
  obtain ⟨hx, e5⟩ := ofO2 g5
  subst e5
  split at hev
  · rename_i hlen
    cases hev
    have hE := evr_two g1 g2 g3 g4
    refine wpAny_Call_Name_kw (ld_blt I hg (T.bl _ (by decide +kernel)) PyProof.Rows.boot_list ?_)
    refine PyProof.Rows.callWith_type1 ?_ rfl rfl
    show wpAny _ _ (spliced ((false, eval (.Call (.Name "zip" p2) [a, b] [] p3) X.env) :: backTo pos (starEach [] X.env))) _ _ s
    refine Calls.spliced_cons ?_
    refine wpAny_Call_Name_kw (ld_blt I hg2 (T.bl _ (by decide +kernel)) PyProof.Rows.boot_zip (PyProof.Rows.callWith_type1 (thn (ha.run p3 pins s σ H (fun vs H1 => ∃ G1, Nxt S c' G H G1 H1 ∧ VwA X.KW G1 H1 vs [d, e]) I ⟨Se, Ge, He, S, c, ρ, G, sr, [d, e], _, hE, fun vs G1 H1 n1 hv => ⟨G1, n1, hv G1 H1 .refl n1.sub⟩⟩) fun us s1 ⟨vs, H1, I1, r1, q1⟩ => ?_) hs hpl))
    obtain ⟨G1, n1, hv⟩ := q1
    obtain ⟨d', e', ys, ws, ee, e1, e2, rfl⟩ := zip_two hx
    cases ee
    obtain ⟨v, w, rfl, w1, w2⟩ := vwA2 hv
    obtain ⟨u, u2, rfl, r, r'⟩ := vals2 r1
    obtain ⟨sd1, o1, B1, i1, b1, k1, l1, t1⟩ := Side.begins I1 n1.sub r w1 e1
    obtain ⟨sd2, o2, B2, i2, b2, k2, l2, t2⟩ := Side.begins I1 n1.sub r' w2 e2
    refine zip_begins2 b1 b2 k1 k2 fun h' hz hTI hTO h1 h2 hsz hk => ?_
    refine Calls.spliced_nil ?_
    have I2 : Inv X pins σ H1 { s1 with heap := h' } := I1.kept (t' := s1.toks) hk
    refine sb_call_list_zip (s := { s1 with heap := h' }) hz fun h3 cp kk hP => ?_
    obtain ⟨vs1, a1, q1⟩ := Side.of_vw n1.sub (i1 G1 H1) w1 e1
    obtain ⟨vs2, a2, q2⟩ := Side.of_vw n1.sub (i2 G1 H1) w2 e2
    have hPn : H1 h'.objs.size = none := I2.hok.fresh (Nat.le_refl _)
    have hHn : H h'.objs.size = none := by
      cases qq : H h'.objs.size with
      | none => rfl
      | some o => exact absurd hPn (n1.kp.dm _ (by rw [qq]; exact fun z => nomatch z))
    have I3 : Inv X pins σ (upd H1 h'.objs.size (.lst [])) { s1 with heap := h3 } := I2.laid (t' := s1.toks) kk (Nat.le_refl _) ⟨Nat.zero_le _, [], cp, .nil, hP⟩
    have nx : Nxt S c' G1 H1 G1 (upd H1 h'.objs.size (.lst [])) := .newO n1.sub n1.sta hPn
    have dl1 := dpAll_length q1
    have dl2 := dpAll_length q2
    have fr : ∀ cc ∈ [s1.heap.objs.size + 4, s1.heap.objs.size + 2, s1.heap.objs.size + 3, s1.heap.objs.size, s1.heap.objs.size + 1], s1.heap.objs.size ≤ cc ∧ cc < h'.objs.size := fun cc hcc => by
      have e' : cc = s1.heap.objs.size + 4 ∨ cc = s1.heap.objs.size + 2 ∨ cc = s1.heap.objs.size + 3 ∨ cc = s1.heap.objs.size ∨ cc = s1.heap.objs.size + 1 := by simpa using hcc
      rw [hsz]
      rcases e' with z | z | z | z | z
      · rw [z]; exact ⟨Nat.le_add_right _ _, by omega⟩
      · rw [z]; exact ⟨Nat.le_add_right _ _, by omega⟩
      · rw [z]; exact ⟨Nat.le_add_right _ _, by omega⟩
      · rw [z]; exact ⟨Nat.le_refl _, by omega⟩
      · rw [z]; exact ⟨Nat.le_add_right _ _, by omega⟩
    refine lz_loop (S0 := S) (c0 := c') (G0 := G1) (H0 := H1) (us := vs1) (ws := vs2) (xs := ys) (ys := ws) hc (zip_sep2 l1 l2) (fun b hb => Nat.ne_of_lt (l1 b hb)) (fun b hb => Nat.ne_of_lt (Nat.lt_succ_of_lt (l2 b hb))) a1 a2 q1 q2 hPn (sne n1.sta hPn) ?_ ?_ _ 0 _ G1 _ [] rfl (Nat.zero_le _) I3 ?_ nx (same_over (fun _ _ h => h) hPn) (gne n1.sub hPn) upd_same .nil ⟨.none, .none, kk _ _ hTO, .inl (kk _ _ hz)⟩ (kk _ _ hTI) (t1 _ _ (kk _ _ h1)) (t2 _ _ (kk _ _ h2))
    · rw [List.length_map, List.length_zip] at hlen
      omega
    · intro s' G' H' I' n' hG hO
      exact ⟨rfl, .ref h'.objs.size, H', I', rfl, q _ _ _ (n1.trans n') ⟨_, rfl, hHn, hG, sne n1.sta hPn, hO⟩⟩
    · intro cc hcc
      have f := fr cc hcc
      have q := fresh_of I1 (l := [cc]) (fun x hx => by rw [List.mem_singleton.mp hx]; exact f.1) cc (List.mem_singleton.mpr rfl)
      refine ⟨?_, q.2⟩
      rw [upd_ne (Nat.ne_of_lt f.2)]
      exact q.1
  · cases hev
end
end SB
/-! len(set(..)) of a list of tuples. -/
namespace SB
open PySem PySem.Spec PyProof.Rows L2

section
variable {X : Cx} {Φ : Tab} {a b e : Expr} {A B E : Ex} {pos p : Pos} {k : Nat}
def rLenS (K : KW) (w : World) : List V → Hp → VK → Prop := fun vs H Q => ∃ (a : Addr) (L : Rows), vs = [V.ref a] ∧ H a = some (SetOb w a L) ∧ (∀ p ∈ L, DqK K H p) ∧ Q (.int L.length) H
theorem cr_lenS : CallR X (.builtin "len") (rLenS X.KW X.w) := by
  intro pins s σ H vs us Q I r h
  obtain ⟨a, L, rfl, ha, hk, q⟩ := h
  have R0 : SetW X.w s.heap a L := (I.hok a _ ha).1
  obtain ⟨es, ep, t, R⟩ := R0.full (P := X.prog) fun p hp => (hk p hp).at I
  rw [Vals.ref1 r]
  obtain ⟨o, ho, hex, hd⟩ := R.ob
  have hfew := R.few
  have hsz := rowN_size R.rows
  refine call_len_set ho hex hd R.fits (by omega) ?_
  rw [hsz]
  exact ⟨.int L.length, H, (I.tok _).tok _, ⟨_, rfl⟩, q⟩
theorem e_lset {p1 p2 p3 : Pos} (T : TabOk X.prog X.w X.KW X.mg X.base k Φ) (hc : X.calm = true) (hu : X.A.units + 67 < cLine) (hg : Gl X "len") (hg2 : Gl X "set") (ha : PE X e (tE Φ X.KW E)) (hs : starEach [e] X.env = (false, eval e X.env) :: starEach [] X.env) :
    PE X (.Call (.Name "len" p1) [.Call (.Name "set" p2) [e] [] p3] [] pos) (tE Φ X.KW (.lset E)) := by
  have h1 := pe_callTy (X := X) (p := p2) (pos := p3) (cr_setN hc (by omega)) hg2 (T.bl _ (by decide +kernel)) (by decide +kernel) (pa_cons ha pa_nil hs) (by decide) (by decide) hs rfl
  have h2 := pe_callB (X := X) (p := p1) (pos := pos) cr_lenS hg (T.bl _ (by decide +kernel)) (by decide +kernel) (pa_cons h1 pa_nil rfl) (by decide) (by decide) rfl rfl
  refine ⟨fun pins s σ H Q I hw => ?_⟩
  obtain ⟨Se, Ge, He, S, c, ρ, G, sr, z, c', hev, q⟩ := hw
  simp only [ev] at hev
  replace hev := M.bind_some hev
  obtain ⟨x, c1, g1, hev⟩ := hev
  replace hev := M.bind_some hev
  obtain ⟨d, c2, g2, hev⟩ := hev
  have e2 := M.rd_some g2
  subst e2
  obtain ⟨g3, g4⟩ := ofO2 hev
  subst g4
  cases d with
  | list xs =>
    simp only [lsetD] at g3
    cases hk : keysOf xs with
    | none => rw [hk] at g3; cases g3
    | some ks =>
      rw [hk] at g3
      simp only at g3
      split at g3
      · rename_i hcc
        obtain ⟨h64, h8, ht⟩ := hcc
        cases g3
        refine h2.run pins s σ H Q I ⟨Se, Ge, He, S, c, ρ, G, sr, x, _, g1, fun v G1 H1 n1 r1 => ?_⟩
        obtain ⟨l, vs, rfl, hT, hd⟩ := (r1.vw n1.sub g2).1
        obtain ⟨rows, e1, e2, hr⟩ := rows_of (dpAll_mono n1.sub _ hd) hk h8 ht
        have hlen : rows.length < 64 := by rw [e2, List.length_map] at h64; exact h64
        subst e1
        refine ⟨l, rows, rfl, .inl hT, hr, hlen, fun a L ha hsub hall hnd => ?_⟩
        have n2 : Nxt S _ G1 H1 G1 (upd H1 a (SetOb X.w a L)) := .newO n1.sub n1.sta ha
        refine ⟨a, L, rfl, upd_same, fun p hp => ?_, ?_⟩
        · obtain ⟨d, g1, g2, g3⟩ := hr p (hsub p hp)
          exact ⟨d, dp_mono (fun b o eb => by rw [upd_ne (ne_of_none eb ha)]; exact eb) _ g1, g2, g3⟩
        · have nd : ks.eraseDups.Nodup := nodup_dedupK _ _ (Nat.le_refl _)
          have pk : (L.map (·.2)).Perm ks.eraseDups := (List.perm_ext_iff_of_nodup hnd nd).mpr fun k => ⟨fun h => List.mem_eraseDups.mpr (by
            obtain ⟨p1, m1, rfl⟩ := List.mem_map.mp h
            rw [e2]
            exact List.mem_map.mpr ⟨p1, hsub p1 m1, rfl⟩), fun h => by
            have h := List.mem_eraseDups.mp h
            rw [e2] at h
            obtain ⟨p1, m1, rfl⟩ := List.mem_map.mp h
            exact hall p1 m1⟩
          have el : ks.eraseDups.length = L.length := by rw [← pk.length_eq, List.length_map]
          rw [el] at q
          exact q _ _ _ (n1.trans n2) (.int _)
      · cases g3
  | _ => simp [lsetD] at g3
end
end SB
/-! e.replace("..", "..") behind an expression that makes a text: a token is out. -/
namespace SB
open PySem PySem.Spec PyProof.Rows L2

/-- behind the expression a token is out -/
def PE1 (X : Cx) (e : Expr) (t : TE) : Prop := ∀ (pins : List (Addr × Obj)) (s : Shared) (σ : L2.St) (H : Hp) (Q : VK), Inv X pins σ H s → t σ H Q → wpAny (model X.prog X.w) X.A (eval e X.env) (fun v s1 => 1 ≤ s1.toks ∧ EP X pins σ Q v s1) X.xe s
def PA1 (X : Cx) (es : List Expr) (t : TA) : Prop := ∀ (pos : Pos) (pins : List (Addr × Obj)) (s : Shared) (σ : L2.St) (H : Hp) (Q : List V → Hp → Prop), Inv X pins σ H s → t σ H Q → wpAny (model X.prog X.w) X.A (spliced (backTo pos (starEach es X.env))) (fun vs s1 => 1 ≤ s1.toks ∧ AP X pins σ Q vs s1) X.xe s
section
variable {X : Cx} {Φ : Tab} {a b e : Expr} {A B E : Ex} {pos p : Pos} {k : Nat} {te : TE} {t : TA}
theorem pe1_str {c : Str} {j : Nat} {cp : Pos} (h : PE X (.Constant (.str c) j cp) te) : PE1 X (.Constant (.str c) j cp) te := by
  intro pins s σ H Q I q
  have w := h.run pins s σ H Q I q
  intro Γ p hΓ
  exact ⟨Nat.le_add_left 1 s.toks, w Γ p hΓ⟩
theorem pa1_cons {es : List Expr} (ha : PE1 X e te) (hr : PA X es t) (hs : starEach (e :: es) X.env = (false, eval e X.env) :: starEach es X.env) : PA1 X (e :: es) (tCons te t) := by
  intro pos pins s σ H Q I h
  rw [hs]
  show wpAny _ _ (spliced ((false, eval e X.env) :: backTo pos (starEach es X.env))) _ _ s
  refine Calls.spliced_cons (thn (ha pins s σ H _ I h) fun u s1 ⟨ht, x, H1, I1, r1, q1⟩ => ?_)
  exact wpAny_mono (PySem.wpAny_toks_of ht (hr.run pos pins s1 σ H1 _ I1 q1)) (fun us s2 ⟨h2, xs, H2, I2, r2, q2⟩ => ⟨h2, x :: xs, H2, I2, .cons r1 r2, q2⟩) fun _ _ z => z.2
theorem aa1_cons {es : List Expr} {Es : List Ex} (he : PE1 X e (tE Φ X.KW E)) (hr : PA X es (tAa Φ X.KW Es)) (hs : starEach (e :: es) X.env = (false, eval e X.env) :: starEach es X.env) : PA1 X (e :: es) (tAa Φ X.KW (E :: Es)) := by
  intro p pins s σ H Q I h
  obtain ⟨Se, Ge, He, S, c, ρ, G, sr, r, c', hev, q⟩ := h
  simp only [eva] at hev
  replace hev := M.bind_some hev
  obtain ⟨x, c1, h1, hev⟩ := hev
  replace hev := M.bind_some hev
  obtain ⟨y, c2, h2, hev⟩ := hev
  replace hev := M.bind_some hev
  obtain ⟨rs, c3, h3, hev⟩ := hev
  obtain ⟨e2, hok, hxy⟩ := Sl.fr_ok h2
  subst e2
  cases hev
  refine pa1_cons he hr hs p pins s σ H Q I ⟨Se, Ge, He, S, c, ρ, G, sr, x, _, h1, fun v1 G1 H1 n1 r1 => ?_⟩
  have fin : ∃ G1', Nxt S c2 G H G1' H1 ∧ RR X.KW S H G1' H1 v1 y := by
    rcases hxy with rfl | ⟨ds, rfl, rfl⟩
    · exact ⟨G1, n1, r1⟩
    · exact r1.freeze n1
  obtain ⟨G1', n1', r1'⟩ := fin
  refine ⟨Se, Ge, He, S, _, ρ, G1', sr.step n1', rs, _, h3, fun vs G2 H2 n2 hv ha => ?_⟩
  refine q _ _ _ (n1'.trans n2) (fun G3 H3 k3 s3 => .cons ((r1'.mono n2.kp).mono k3) (RRs.base n1'.kp.dm (hv G3 H3 k3 s3))) ?_
  rw [List.all_cons, hok, Bool.true_and]
  exact ha
theorem pe1_call {CX : CXT} {f : Addr} {fd : FuncData} {ps : List Str} {sp : Sp} {dvs : List V} {ds : List Value} {E : XK} {x : Str} {es : List Expr} (F : FnOk X.prog X.w X.K X.mg X.base CX k f fd ps sp) (hr : Room k X.A) (hg : Gl X x) (hm : X.mg x = some (.ref f)) (hk : PySem.W.keepIn X.K (.ref f) = true) (hb : Binds X.K fd ps ds) (hd : Vals dvs ds) (hx : Passes CX X E)
    (ha : PA1 X (e :: es) t) (hdb : (x == ("__debug__" : Str)) = false) (he : starEach (e :: es) X.env = (false, eval e X.env) :: starEach es X.env) (hpl : (backTo pos (starEach es X.env)).any (·.1) = false) :
    PE1 X (.Call (.Name x p) (e :: es) [] pos) (tCall sp dvs E t) := by
  intro pins s σ H Q I h
  refine wpAny_Call_Name_kw (ld_glob I hg hm ?_ hdb)
  refine PySem.W.callWith_K (h₀ := X.base) I.ok.mod.kin hk (thn (ha pos pins s σ H _ I h) fun us s1 ⟨ht, vs, H1, I1, r, q⟩ => ⟨I1.kIn, ?_⟩) he hpl
  exact wpAny_mono (PySem.wpAny_toks_of ht (run_fn F hr hb hd hx I1 r q)) (fun _ _ z => z) fun _ _ z => z.2
theorem e1_call {x : Str} {es : List Expr} {Es : List Ex} (T : TabOk X.prog X.w X.KW X.mg X.base k Φ) (hr : Room k X.A) (hg : Gl X x) (hdb : (x == ("__debug__" : Str)) = false) (ha : PA1 X (e :: es) (tAa Φ X.KW Es))
    (he : starEach (e :: es) X.env = (false, eval e X.env) :: starEach es X.env) (hpl : (backTo pos (starEach es X.env)).any (·.1) = false) : PE1 X (.Call (.Name x p) (e :: es) [] pos) (tE Φ X.KW (.call x Es)) := by
  cases hf : Φ.fn x with
  | none =>
    intro pins s σ H Q I h
    obtain ⟨Se, Ge, He, S, c, ρ, G, sr, r, c', hev, q⟩ := h
    simp only [ev] at hev
    replace hev := M.bind_some hev
    obtain ⟨rs, c1, h1, hev⟩ := hev
    replace hev := M.bind_some hev
    obtain ⟨g, c2, h2, hev⟩ := hev
    rw [hf] at h2
    cases h2
  | some g =>
    obtain ⟨f, fd, ps, h1, h2, h3, h4⟩ := T.fn x g hf
    intro pins s σ H Q I h
    obtain ⟨Se, Ge, He, S, c, ρ, G, sr, r, c', hev, q⟩ := h
    simp only [ev] at hev
    replace hev := M.bind_some hev
    obtain ⟨rs, c1, h5, hev⟩ := hev
    rw [hf, ofO_some, pure_bind] at hev
    refine pe1_call h4 hr hg h1 h2 h3 .nil pass0 ha hdb he hpl pins s σ H Q I ⟨Se, Ge, He, S, c, ρ, G, sr, rs, c1, h5, fun vs G1 H1 n1 hv hok => ?_⟩
    show spF X.KW g (vs ++ []) H1 Q E0
    rw [List.append_nil]
    refine ⟨S, c1, G1, rs, r, c', n1.sub, n1.sta, ?_, hok, hev, q.after n1⟩
    have q1 := hv G1 H1 .refl n1.sub
    clear hv hev h5
    induction q1 with
    | nil => exact .nil
    | cons h t ih =>
      rw [List.all_cons, Bool.and_eq_true] at hok
      refine .cons ?_ (ih hok.2)
      rename_i y _ _
      cases y with
      | ow d => cases hok.1
      | _ => exact h
/-- a written replacement, a token out -/
theorem et_repl {y z : Str} {j0 j1 : Nat} {c0 c1 apos : Pos} (ho : PE X e (tE Φ X.KW E)) (hyz : (y == z) = false) (hbase : attributeBase e "replace" X.env (eval e X.env) = eval e X.env) (hline : (apos.endLine == pos.line) = true) :
    PET X (.Call (.Attribute e "replace" apos) [.Constant (.str y) j0 c0, .Constant (.str z) j1 c1] [] pos) (tE Φ X.KW (.meth2 .replace E (.str y) (.str z))) := by
  intro pins s σ H Q h0 I h
  obtain ⟨Se, Ge, He, S, c, ρ, G, sr, r, c', hev, q⟩ := h
  simp only [ev, bind_assoc, pure_bind] at hev
  replace hev := M.bind_some hev
  obtain ⟨x, c1', h1, hev⟩ := hev
  replace hev := M.bind_some hev
  obtain ⟨d, c2, h2, hev⟩ := hev
  obtain rfl := M.rd_some h2
  have hev : ofO (methD .replace d [.str y, .str z]) c2 = some (r, c') := hev
  obtain ⟨h5, rfl⟩ := ofO2 hev
  refine CwR.pet_replC ho hyz rfl hbase hline pins s σ H Q h0 I ⟨Se, Ge, He, S, c, ρ, G, sr, x, _, h1, fun v1 G1 H1 n1 r1 => ?_⟩
  have vw := (r1.vw n1.sub h2).1
  cases d with
  | str a =>
    cases vw
    have h5 : (if a.length + (a.length + 1) * z.length ≤ 16777216 then some (Sl.fz (.str (Txt.replace a y z))) else none) = some r := h5
    split at h5
    · rename_i hz
      cases h5
      exact ⟨a, rfl, hz, q _ _ _ n1 (.str _)⟩
    · cases h5
  | _ => cases h5
theorem pe_cmpR1 {op : CmpOp} {r : R2} {ta tb : TE} (ho : OpR X (compareOp op) r) (ha : PE1 X a ta) (hb : PET X b tb) (hm : behindInMarks op b = false) : PE X (.Compare a [op] [b] pos) (tOp r ta tb) := by
  refine ⟨fun pins s σ H Q I h => ?_⟩
  refine wpAny_Compare1 (thn (ha pins s σ H _ I h) fun v s1 ⟨ht, x, H1, I1, r1, q1⟩ => thn (hb pins s1 σ H1 _ ht I1 q1) fun u s2 ⟨y, H2, I2, r2, q2⟩ => ho pins s2 σ H2 x y v u Q I2 r1 r2 q2) hm
theorem e_cmp1 {op : CmpOp} (hu : X.A.units + 65 < cLine) (ha : PE1 X a (tE Φ X.KW A)) (hb : PET X b (tE Φ X.KW B)) (hm : behindInMarks op b = false) : PE X (.Compare a [op] [b] pos) (tE Φ X.KW (.cmp op A B)) := by
  refine ⟨fun pins s σ H Q I h => ?_⟩
  obtain ⟨Se, Ge, He, S, c, ρ, G, sr, r, c', hev, q⟩ := h
  simp only [ev] at hev
  replace hev := M.bind_some hev
  obtain ⟨x, c1, h1, hev⟩ := hev
  replace hev := M.bind_some hev
  obtain ⟨d, c2, h2, hev⟩ := hev
  replace hev := M.bind_some hev
  obtain ⟨y, c3, h3, hev⟩ := hev
  replace hev := M.bind_some hev
  obtain ⟨d2, c4, h4, hev⟩ := hev
  obtain rfl := M.rd_some h2
  obtain rfl := M.rd_some h4
  obtain ⟨h5, h6⟩ := ofO_run hev
  simp only at h5 h6
  subst h6
  refine (pe_cmpR1 (opD_cmp hu op) ha hb hm).run pins s σ H Q I ⟨Se, Ge, He, S, c, ρ, G, sr, x, _, h1, fun v1 G1 H1 n1 r1 => ⟨Se, Ge, He, S, _, ρ, G1, sr.step n1, y, _, h3, fun v2 G2 H2 n2 r2 => ?_⟩⟩
  exact ⟨S, G2, _, d, d2, r, n2.sub, n2.sta, ((r1.mono n2.kp).vw n2.sub h2).1, (r2.vw n2.sub h4).1, h5, q.after (n1.trans n2)⟩
theorem pt_cmpR1 {op : CmpOp} {r : R2} {ta tb : TE} (ho : OpR X (compareOp op) r) (ha : PE1 X a ta) (hb : PET X b tb) (hm : behindInMarks op b = false) : PT X (.Compare a [op] [b] pos) (tTest (tOp r ta tb)) := by
  refine ⟨fun pins s σ H Q I h => ?_⟩
  refine wpAny_isTrue_Compare1 (thn (ha pins s σ H _ I h) fun v s1 ⟨ht, x, H1, I1, r1, q1⟩ => thn (hb pins s1 σ H1 _ ht I1 q1) fun u s2 ⟨y, H2, I2, r2, q2⟩ =>
    thn (ho pins s2 σ H2 x y v u _ I2 r1 r2 q2) fun c s3 ⟨z, H3, I3, r3, k, e, q3⟩ => ?_) hm
  subst e
  cases r3
  exact wpAny_truthy_bool ⟨H3, I3, q3⟩
theorem t_cmp1 {op : CmpOp} (hu : X.A.units + 65 < cLine) (ha : PE1 X a (tE Φ X.KW A)) (hb : PET X b (tE Φ X.KW B)) (hm : behindInMarks op b = false) : PT X (.Compare a [op] [b] pos) (tT Φ X.KW (.cmp op A B)) := by
  refine ⟨fun pins s σ H Q I h => ?_⟩
  obtain ⟨Se, Ge, He, S, c, ρ, G, sr, k, c', hev, q⟩ := h
  obtain ⟨z, hev, hz⟩ := tst_some hev
  simp only [ev] at hev
  replace hev := M.bind_some hev
  obtain ⟨x, c1, h1, hev⟩ := hev
  replace hev := M.bind_some hev
  obtain ⟨d, c2, h2, hev⟩ := hev
  replace hev := M.bind_some hev
  obtain ⟨y, c3, h3, hev⟩ := hev
  replace hev := M.bind_some hev
  obtain ⟨d2, c4, h4, hev⟩ := hev
  obtain rfl := M.rd_some h2
  obtain rfl := M.rd_some h4
  obtain ⟨h5, h6⟩ := ofO_run hev
  simp only at h5 h6
  subst h6
  refine (pt_cmpR1 (opD_cmp hu op) ha hb hm).run pins s σ H Q I ⟨Se, Ge, He, S, c, ρ, G, sr, x, _, h1, fun v1 G1 H1 n1 r1 => ⟨Se, Ge, He, S, _, ρ, G1, sr.step n1, y, _, h3, fun v2 G2 H2 n2 r2 => ?_⟩⟩
  refine ⟨S, G2, _, d, d2, z, n2.sub, n2.sta, ((r1.mono n2.kp).vw n2.sub h2).1, (r2.vw n2.sub h4).1, h5, fun v G' H' n rr => ?_⟩
  exact ⟨k, rd_bool n.sub hz rr, q _ _ (n1.trans (n2.trans n))⟩
end
/-- a call whose first argument is a written text -/
def tickB : Ex → Bool
  | .call _ (.str _ :: _) => true
  | _ => false
/-- name.replace("..", "..") -/
def vRepE : Ex → Option (Nat × Str × Str)
  | .meth2 .replace (.v i) (.str y) (.str z) => some (i, y, z)
  | _ => none
theorem vRepE_some {E : Ex} {i : Nat} {y z : Str} (h : vRepE E = some (i, y, z)) : E = .meth2 .replace (.v i) (.str y) (.str z) := by
  unfold vRepE at h
  split at h
  · cases h; rfl
  · cases h
def vRepl : Expr → Option (Str × Str × Str × Str × Bool)
  | .Call (.Attribute (.Name x _) m ap) [.Constant (.str y) _ _, .Constant (.str z) _ _] [] p => some (x, m, y, z, ap.endLine == p.line)
  | _ => none
theorem vRepl_some {e : Expr} {x m y z : Str} {b : Bool} (h : vRepl e = some (x, m, y, z, b)) : ∃ xp ap j0 c0 j1 c1 p, e = .Call (.Attribute (.Name x xp) m ap) [.Constant (.str y) j0 c0, .Constant (.str z) j1 c1] [] p ∧ (ap.endLine == p.line) = b := by
  unfold vRepl at h
  split at h
  · cases h; exact ⟨_, _, _, _, _, _, _, rfl, rfl⟩
  · cases h
end SB
/-! The text of a def is that of the small language: a check by evaluation, and what follows from it. -/
namespace SB
open PySem PySem.Spec PyProof.Rows L2

abbrev Sc := List (Str × NameKind)
def visB (sc : Sc) (x : Str) : Bool := match sc.lookup x with
  | some .local => true
  | some .cell => true
  | some .free => true
  | _ => false
def locB (sc : Sc) (x : Str) : Bool := match sc.lookup x with
  | some .local => true
  | some .cell => true
  | _ => false
def glB (sc : Sc) (x : Str) : Bool := match sc.lookup x with
  | some .globalImplicit => true
  | _ => false
def nmB (x : Str) : Bool := !(x == ("__debug__" : Str)) && !(x == ("__classdict__" : Str))
def varB (N : List Str) (sc : Sc) (i : Nat) (x : Str) : Bool := decide (N[i]? = some x) && visB sc x && nmB x
def tgB (N : List Str) (sc : Sc) (i : Nat) (x : Str) : Bool := decide (N[i]? = some x) && locB sc x
def namesB (N : List Str) (sc : Sc) : List Nat → List Expr → Bool
  | [], [] => true
  | i :: is, .Name x _ :: es => tgB N sc i x && namesB N sc is es
  | _, _ => false
def targetB (N : List Str) (sc : Sc) (is : List Nat) (one : Bool) : Expr → Bool
  | .Name x _ => one && (match is with
    | [i] => tgB N sc i x
    | _ => false)
  | .Tuple es _ _ => !one && namesB N sc is es
  | _ => false
def dispB : List (Str × Int) → List (Option Expr) → List Expr → Bool
  | [], [], [] => true
  | (x, i) :: l, some (.Constant (.str y) _ _) :: ks, .Constant (.int j) _ _ :: vs => decide (x = y) && decide (i = j) && dispB l ks vs
  | _, _, _ => false
def ownN (N : List Str) (own : List Nat) : List (Str × Nat) := own.map fun i => (N.getD i default, i)
/-- the names of a comprehension's block -/
def blkB (N : List Str) (sc : Sc) (scope : Scope) (own : List (Str × Nat)) : Bool :=
  decide (scope.kind = .function) && (scope.names.all fun y => decide (scope.names.lookup y.1 = some y.2)) && (own.all fun p => decide (N[p.2]? = some p.1)) &&
    (scope.names.all fun y => match y.2 with
      | .free => (match sc.lookup y.1 with | some .cell => true | some .free => true | _ => false)
      | .local => decide (y.1 ∈ own.map (·.1)) || decide (y.1 ∉ N)
      | .cell => decide (y.1 ∈ own.map (·.1)) || decide (y.1 ∉ N)
      | _ => true)
/-- what a loop walks: the expressions that are evaluated -/
def itArgs (sc : Sc) : IK → Bool → Expr → Option (List Expr)
  | .seq, _, x => some [x]
  | .range, _, .Call (.Name x _) (y :: ys) [] _ => if decide (x = "range") && glB sc x then some (y :: ys) else none
  | .enum, one, .Call (.Name x _) [y] [] _ => if !one && decide (x = "enumerate") && glB sc x then some [y] else none
  | .zip, one, .Call (.Name x _) [y, z] [] _ => if !one && decide (x = "zip") && glB sc x then some [y, z] else none
  | .zip3, one, .Call (.Name x _) [.Call (.Name y _) [u] [] _, v, w] [] _ => if !one && decide (x = "zip") && glB sc x && decide (y = "range") && glB sc y then some [u, v, w] else none
  | _, _, _ => none
/-- the number of a zip of three is a length -/
def zOk : IK → List Ex → Bool
  | .zip3, .blt .len _ :: _ => true
  | .zip3, _ => false
  | _, _ => true
def dispSB : List (Str × Str) → List (Option Expr) → List Expr → Bool
  | [], [], [] => true
  | (x, i) :: l, some (.Constant (.str y) _ _) :: ks, .Constant (.str j) _ _ :: vs => decide (x = y) && decide (i = j) && dispSB l ks vs
  | _, _, _ => false
/-- may stand as a test -/
def tOk : Ex → Bool
  | .ife _ _ _ => false
  | .and a b => tOk a && tOk b
  | .or a b => tOk a && tOk b
  | .not a => tOk a
  | _ => true
/-- f(g(..)) -/
def nestC : Expr → Option (Str × Str × List Expr)
  | .Call (.Name x _) [.Call (.Name y _) fs [] _] [] _ => some (x, y, fs)
  | _ => none
theorem nestC_some {e : Expr} {x y : Str} {fs : List Expr} (h : nestC e = some (x, y, fs)) : ∃ p1 p2 p3 p4, e = .Call (.Name x p1) [.Call (.Name y p2) fs [] p3] [] p4 := by
  unfold nestC at h
  split at h
  · cases h
    exact ⟨_, _, _, _, rfl⟩
  · cases h
/-! ### views of expressions -/
theorem anyT {α : Type} {o : Option α} {f : α → Bool} (h : o.any f = true) : ∃ a, o = some a ∧ f a = true := by
  cases o with
  | none => cases h
  | some a => exact ⟨a, rfl, h⟩
def vCon : Expr → Option Const
  | .Constant c _ _ => some c
  | _ => none
theorem vCon_some {e : Expr} {c : Const} (h : vCon e = some c) : ∃ k p, e = .Constant c k p := by
  unfold vCon at h
  split at h
  · cases h; exact ⟨_, _, rfl⟩
  · cases h
def vNm : Expr → Option Str
  | .Name x _ => some x
  | _ => none
theorem vNm_some {e : Expr} {x : Str} (h : vNm e = some x) : ∃ p, e = .Name x p := by
  unfold vNm at h
  split at h
  · cases h; exact ⟨_, rfl⟩
  · cases h
def vTup : Expr → Option (List Expr)
  | .Tuple es _ _ => some es
  | _ => none
theorem vTup_some {e : Expr} {es : List Expr} (h : vTup e = some es) : ∃ k p, e = .Tuple es k p := by
  unfold vTup at h
  split at h
  · cases h; exact ⟨_, _, rfl⟩
  · cases h
def vLst : Expr → Option (List Expr)
  | .List es _ => some es
  | _ => none
theorem vLst_some {e : Expr} {es : List Expr} (h : vLst e = some es) : ∃ p, e = .List es p := by
  unfold vLst at h
  split at h
  · cases h; exact ⟨_, rfl⟩
  · cases h
def vBin : Expr → Option (Expr × Operator × Expr)
  | .BinOp l o r _ => some (l, o, r)
  | _ => none
theorem vBin_some {e l r : Expr} {o : Operator} (h : vBin e = some (l, o, r)) : ∃ p, e = .BinOp l o r p := by
  unfold vBin at h
  split at h
  · cases h; exact ⟨_, rfl⟩
  · cases h
def vUn : Expr → Option (UnaryOp × Expr)
  | .UnaryOp o a _ => some (o, a)
  | _ => none
theorem vUn_some {e a : Expr} {o : UnaryOp} (h : vUn e = some (o, a)) : ∃ p, e = .UnaryOp o a p := by
  unfold vUn at h
  split at h
  · cases h; exact ⟨_, rfl⟩
  · cases h
/-- the first of an and-row, and the rest of it -/
def vBo : Expr → Option (BoolOp × Expr × Expr)
  | .BoolOp o (y :: z :: rest) p => some (o, y, match rest with
    | [] => z
    | w :: r => .BoolOp o (z :: w :: r) p)
  | _ => none
theorem vBo_some {e y z : Expr} {o : BoolOp} (h : vBo e = some (o, y, z)) : (∃ p, e = .BoolOp o [y, z] p) ∨ ∃ u w r p, e = .BoolOp o (y :: u :: w :: r) p ∧ z = .BoolOp o (u :: w :: r) p := by
  unfold vBo at h
  split at h
  · rename_i o' y' z' rest p
    cases rest with
    | nil => cases h; exact .inl ⟨_, rfl⟩
    | cons w r => cases h; exact .inr ⟨_, _, _, _, rfl, rfl⟩
  · cases h
def vCmp : Expr → Option (Expr × CmpOp × Expr)
  | .Compare l [o] [r] _ => some (l, o, r)
  | _ => none
theorem vCmp_some {e l r : Expr} {o : CmpOp} (h : vCmp e = some (l, o, r)) : ∃ p, e = .Compare l [o] [r] p := by
  unfold vCmp at h
  split at h
  · cases h; exact ⟨_, rfl⟩
  · cases h
def vCmp2 : Expr → Option (Expr × CmpOp × CmpOp × Expr × Expr)
  | .Compare l [o, o'] [m, r] _ => some (l, o, o', m, r)
  | _ => none
theorem vCmp2_some {e l m r : Expr} {o o' : CmpOp} (h : vCmp2 e = some (l, o, o', m, r)) : ∃ p, e = .Compare l [o, o'] [m, r] p := by
  unfold vCmp2 at h
  split at h
  · cases h; exact ⟨_, rfl⟩
  · cases h
def vCmpN : Expr → Option (Expr × CmpOp × Str)
  | .Compare l [o] [.Name y _] _ => some (l, o, y)
  | _ => none
theorem vCmpN_some {e l : Expr} {o : CmpOp} {y : Str} (h : vCmpN e = some (l, o, y)) : ∃ p q, e = .Compare l [o] [.Name y p] q := by
  unfold vCmpN at h
  split at h
  · cases h; exact ⟨_, _, rfl⟩
  · cases h
def vIf : Expr → Option (Expr × Expr × Expr)
  | .IfExp t a b _ => some (t, a, b)
  | _ => none
theorem vIf_some {e t a b : Expr} (h : vIf e = some (t, a, b)) : ∃ p, e = .IfExp t a b p := by
  unfold vIf at h
  split at h
  · cases h; exact ⟨_, rfl⟩
  · cases h
def vCall : Expr → Option (Str × Expr × List Expr)
  | .Call (.Name x _) (y :: ys) [] _ => some (x, y, ys)
  | _ => none
theorem vCall_some {e y : Expr} {x : Str} {ys : List Expr} (h : vCall e = some (x, y, ys)) : ∃ p q, e = .Call (.Name x p) (y :: ys) [] q := by
  unfold vCall at h
  split at h
  · cases h; exact ⟨_, _, rfl⟩
  · cases h
def vCall1 : Expr → Option (Str × Expr)
  | .Call (.Name x _) [y] [] _ => some (x, y)
  | _ => none
theorem vCall1_some {e y : Expr} {x : Str} (h : vCall1 e = some (x, y)) : ∃ p q, e = .Call (.Name x p) [y] [] q := by
  unfold vCall1 at h
  split at h
  · cases h; exact ⟨_, _, rfl⟩
  · cases h
def vCallN : Expr → Option (Str × Str)
  | .Call (.Name x _) [.Name y _] [] _ => some (x, y)
  | _ => none
theorem vCallN_some {e : Expr} {x y : Str} (h : vCallN e = some (x, y)) : ∃ p q r, e = .Call (.Name x p) [.Name y q] [] r := by
  unfold vCallN at h
  split at h
  · cases h; exact ⟨_, _, _, rfl⟩
  · cases h
def vIsa : Expr → Option (Str × Expr × Str)
  | .Call (.Name x _) [y, .Name t _] [] _ => some (x, y, t)
  | _ => none
theorem vIsa_some {e y : Expr} {x t : Str} (h : vIsa e = some (x, y, t)) : ∃ p q r, e = .Call (.Name x p) [y, .Name t q] [] r := by
  unfold vIsa at h
  split at h
  · cases h; exact ⟨_, _, _, rfl⟩
  · cases h
def vSub : Expr → Option (Expr × Expr)
  | .Subscript v s _ => some (v, s)
  | _ => none
theorem vSub_some {e v s : Expr} (h : vSub e = some (v, s)) : ∃ p, e = .Subscript v s p := by
  unfold vSub at h
  split at h
  · cases h; exact ⟨_, rfl⟩
  · cases h
def vSubN : Expr → Option (Str × Expr)
  | .Subscript (.Name y _) s _ => some (y, s)
  | _ => none
theorem vSubN_some {e s : Expr} {y : Str} (h : vSubN e = some (y, s)) : ∃ p q, e = .Subscript (.Name y p) s q := by
  unfold vSubN at h
  split at h
  · cases h; exact ⟨_, _, rfl⟩
  · cases h
def vDget : Expr → Option (List (Option Expr) × List Expr × Str × Expr × Expr × Bool)
  | .Call (.Attribute (.Dict ks vs _) m ap) [x, y] [] p => some (ks, vs, m, x, y, ap.endLine == p.line)
  | _ => none
theorem vDget_some {e x y : Expr} {ks : List (Option Expr)} {vs : List Expr} {m : Str} {b : Bool} (h : vDget e = some (ks, vs, m, x, y, b)) : ∃ q ap p, e = .Call (.Attribute (.Dict ks vs q) m ap) [x, y] [] p ∧ (ap.endLine == p.line) = b := by
  unfold vDget at h
  split at h
  · cases h; exact ⟨_, _, _, rfl, rfl⟩
  · cases h
def vMeth1 : Expr → Option (Expr × Str × Expr × Bool)
  | .Call (.Attribute o m ap) [x] [] p => some (o, m, x, ap.endLine == p.line)
  | _ => none
theorem vMeth1_some {e o x : Expr} {m : Str} {b : Bool} (h : vMeth1 e = some (o, m, x, b)) : ∃ ap p, e = .Call (.Attribute o m ap) [x] [] p ∧ (ap.endLine == p.line) = b := by
  unfold vMeth1 at h
  split at h
  · cases h; exact ⟨_, _, rfl, rfl⟩
  · cases h
def vMeth2 : Expr → Option (Expr × Str × Expr × Expr × Bool)
  | .Call (.Attribute o m ap) [x, y] [] p => some (o, m, x, y, ap.endLine == p.line)
  | _ => none
theorem vMeth2_some {e o x y : Expr} {m : Str} {b : Bool} (h : vMeth2 e = some (o, m, x, y, b)) : ∃ ap p, e = .Call (.Attribute o m ap) [x, y] [] p ∧ (ap.endLine == p.line) = b := by
  unfold vMeth2 at h
  split at h
  · cases h; exact ⟨_, _, rfl, rfl⟩
  · cases h
def vMethN : Expr → Option (Str × Str × Expr × Expr × Bool)
  | .Call (.Attribute (.Name y _) m ap) [u, v] [] p => some (y, m, u, v, ap.endLine == p.line)
  | _ => none
theorem vMethN_some {e u v : Expr} {y m : Str} {b : Bool} (h : vMethN e = some (y, m, u, v, b)) : ∃ q ap p, e = .Call (.Attribute (.Name y q) m ap) [u, v] [] p ∧ (ap.endLine == p.line) = b := by
  unfold vMethN at h
  split at h
  · cases h; exact ⟨_, _, _, rfl, rfl⟩
  · cases h
def nest1 : Expr → Option (Str × Str × Expr)
  | .Call (.Name x _) [.Call (.Name y _) [v] [] _] [] _ => some (x, y, v)
  | _ => none
theorem nest1_some {e v : Expr} {x y : Str} (h : nest1 e = some (x, y, v)) : ∃ p1 p2 p3 p4, e = .Call (.Name x p1) [.Call (.Name y p2) [v] [] p3] [] p4 := by
  unfold nest1 at h
  split at h
  · cases h; exact ⟨_, _, _, _, rfl⟩
  · cases h
def nest2 : Expr → Option (Str × Str × Expr × Expr)
  | .Call (.Name x _) [.Call (.Name y _) [u, v] [] _] [] _ => some (x, y, u, v)
  | _ => none
theorem nest2_some {e u v : Expr} {x y : Str} (h : nest2 e = some (x, y, u, v)) : ∃ p1 p2 p3 p4, e = .Call (.Name x p1) [.Call (.Name y p2) [u, v] [] p3] [] p4 := by
  unfold nest2 at h
  split at h
  · cases h; exact ⟨_, _, _, _, rfl⟩
  · cases h
def vDi0 : Expr → Bool
  | .Dict [] [] _ => true
  | _ => false
theorem vDi0_some {e : Expr} (h : vDi0 e = true) : ∃ p, e = .Dict [] [] p := by
  unfold vDi0 at h
  split at h
  · exact ⟨_, rfl⟩
  · cases h
def vDi1 : Expr → Option (Expr × Expr)
  | .Dict [some x] [y] _ => some (x, y)
  | _ => none
theorem vDi1_some {e x y : Expr} (h : vDi1 e = some (x, y)) : ∃ p, e = .Dict [some x] [y] p := by
  unfold vDi1 at h
  split at h
  · cases h; exact ⟨_, rfl⟩
  · cases h
def vRev : Expr → Option (Expr × Int)
  | .Subscript v (.Slice none none (some (.UnaryOp .USub (.Constant (.int j) _ _) _)) _) _ => some (v, j)
  | _ => none
theorem vRev_some {e v : Expr} {j : Int} (h : vRev e = some (v, j)) : ∃ k p1 p2 p3 p4, e = .Subscript v (.Slice none none (some (.UnaryOp .USub (.Constant (.int j) k p1) p2)) p3) p4 := by
  unfold vRev at h
  split at h
  · cases h; exact ⟨_, _, _, _, _, rfl⟩
  · cases h
def vRev2 : Expr → Option (Expr × Int × Int)
  | .Subscript v (.Slice (some (.Constant (.int i) _ _)) none (some (.UnaryOp .USub (.Constant (.int j) _ _) _)) _) _ => some (v, i, j)
  | _ => none
theorem vRev2_some {e v : Expr} {i j : Int} (h : vRev2 e = some (v, i, j)) : ∃ k0 p0 k p1 p2 p3 p4, e = .Subscript v (.Slice (some (.Constant (.int i) k0 p0)) none (some (.UnaryOp .USub (.Constant (.int j) k p1) p2)) p3) p4 := by
  unfold vRev2 at h
  split at h
  · cases h; exact ⟨_, _, _, _, _, _, _, rfl⟩
  · cases h
def vSl : Expr → Option (Expr × Option Expr × Option Expr)
  | .Subscript v (.Slice l u none _) _ => some (v, l, u)
  | _ => none
theorem vSl_some {e v : Expr} {l u : Option Expr} (h : vSl e = some (v, l, u)) : ∃ p q, e = .Subscript v (.Slice l u none p) q := by
  unfold vSl at h
  split at h
  · cases h; exact ⟨_, _, rfl⟩
  · cases h
def vLc : Expr → Option (Expr × Expr × Expr × List Expr × Scope)
  | .ListComp e [⟨t, it, ifs, as⟩] scope _ => if as = 0 then some (e, t, it, ifs, scope) else none
  | _ => none
theorem vLc_some {e y t it : Expr} {ifs : List Expr} {scope : Scope} (h : vLc e = some (y, t, it, ifs, scope)) : ∃ p, e = .ListComp y [⟨t, it, ifs, 0⟩] scope p := by
  unfold vLc at h
  split at h
  · split at h
    · rename_i h0
      cases h
      subst h0
      exact ⟨_, rfl⟩
    · cases h
  · cases h
def repB (N : List Str) (sc : Sc) (E : Ex) (e : Expr) : Bool := (vRepE E).any fun q => (vRepl e).any fun p => varB N sc q.1 p.1 && decide (p.2.1 = ("replace" : Str)) && decide (q.2.1 = p.2.2.1) && decide (q.2.2 = p.2.2.2.1) && !(p.2.2.1 == p.2.2.2.1) && p.2.2.2.2
mutual
def mE (N : List Str) (sc : Sc) : Ex → Expr → Bool
  | .non, e => (vCon e).any fun c => decide (c = .none)
  | .bl b, e => (vCon e).any fun c => decide (c = .bool b)
  | .int i, e => (vCon e).any fun c => decide (c = .int i)
  | .str x, e => (vCon e).any fun c => decide (c = .str x)
  | .v i, e => (vNm e).any fun x => varB N sc i x
  | .lenS i, e => (vCallN e).any fun p => decide (p.1 = ("len" : Str)) && glB sc p.1 && varB N sc i p.2
  | .gl x, e => (vNm e).any fun y => decide (x = y) && glB sc x && nmB x
  | .tup es, e => (vTup e).any fun fs => mEs N sc es fs
  | .lst es, e => (vLst e).any fun fs => mEs N sc es fs
  | .bin o a b, e => (vBin e).any fun p => decide (o = p.2.1) && mE N sc a p.1 && mE N sc b p.2.2
  | .not a, e => (vUn e).any fun p => decide (p.1 = .Not) && mE N sc a p.2
  | .neg a, e => (vUn e).any fun p => decide (p.1 = .USub) && mE N sc a p.2
  | .and a b, e => (vBo e).any fun p => decide (p.1 = .And) && mE N sc a p.2.1 && mE N sc b p.2.2
  | .or a b, e => (vBo e).any fun p => decide (p.1 = .Or) && mE N sc a p.2.1 && mE N sc b p.2.2
  | .cmp o a b, e => (vCmp e).any fun p => decide (o = p.2.1) && mE N sc a p.1 && (mE N sc b p.2.2 || (tickB a && repB N sc b p.2.2)) && !behindInMarks p.2.1 p.2.2
  | .chain o o' a b c, e => (vCmp2 e).any fun p => decide (o = p.2.1) && decide (o' = p.2.2.1) && mE N sc a p.1 && mE N sc b p.2.2.2.1 && mE N sc c p.2.2.2.2 && !lastMarks [p.2.1, p.2.2.1] [p.2.2.2.1, p.2.2.2.2]
  | .ife c a b, e => (vIf e).any fun p => mE N sc c p.1 && tOk c && mE N sc a p.2.1 && mE N sc b p.2.2
  | .call f es, e => (vCall e).any fun p => decide (f = p.1) && glB sc p.1 && nmB p.1 && mEs N sc es (p.2.1 :: p.2.2)
  | .blt f es, e => (vCall e).any fun p => decide (f.nm = p.1) && glB sc p.1 && mEs N sc es (p.2.1 :: p.2.2)
  | .isa a T, e => (vIsa e).any fun p => decide (p.1 = ("isinstance" : Str)) && glB sc p.1 && decide (p.2.2 = Str.ofString T.nm) && glB sc p.2.2 && mE N sc a p.2.1
  | .inG ng a x, e => (vCmpN e).any fun p => decide (p.2.1 = if ng then CmpOp.NotIn else CmpOp.In) && decide (x = p.2.2) && glB sc x && nmB x && mE N sc a p.1
  | .getG x a, e => (vSubN e).any fun p => decide (x = p.1) && glB sc x && nmB x && mE N sc a p.2
  | .dget l a b, e => (vDget e).any fun p => decide (p.2.2.1 = ("get" : Str)) && dispB l p.1 p.2.1 && decide (l ≠ []) && decide (l.length ≤ 15) && mE N sc a p.2.2.2.1 && mE N sc b p.2.2.2.2.1 && p.2.2.2.2.2
  | .rng l es, e => (nestC e).any fun p => decide (p.1 = (if l then ("list" : Str) else ("tuple" : Str))) && glB sc p.1 && decide (p.2.1 = ("range" : Str)) && glB sc p.2.1 && mEs N sc es p.2.2 && decide (p.2.2.length = 1 ∨ p.2.2.length = 2)
  | .sset a, e => (nest1 e).any fun p => decide (p.1 = ("sorted" : Str)) && glB sc p.1 && decide (p.2.1 = ("set" : Str)) && glB sc p.2.1 && mE N sc a p.2.2
  | .lzip a b, e => (nest2 e).any fun p => decide (p.1 = ("list" : Str)) && glB sc p.1 && decide (p.2.1 = ("zip" : Str)) && glB sc p.2.1 && mE N sc a p.2.2.1 && mE N sc b p.2.2.2
  | .lset a, e => (nest1 e).any fun p => decide (p.1 = ("len" : Str)) && glB sc p.1 && decide (p.2.1 = ("set" : Str)) && glB sc p.2.1 && mE N sc a p.2.2
  | .dnew, e => vDi0 e
  | .dlit a b, e => (vDi1 e).any fun p => mE N sc a p.1 && mE N sc b p.2
  | .dlen a, e => (vCall1 e).any fun p => decide (p.1 = ("len" : Str)) && glB sc p.1 && mE N sc a p.2
  | .dsort i, e => (vCallN e).any fun p => decide (p.1 = ("sorted" : Str)) && glB sc p.1 && varB N sc i p.2
  | .dat i a, e => (vSubN e).any fun p => varB N sc i p.1 && mE N sc a p.2
  | .dgt i a b, e => (vMethN e).any fun p => decide (p.2.1 = ("get" : Str)) && varB N sc i p.1 && mE N sc a p.2.2.1 && mE N sc b p.2.2.2.1 && p.2.2.2.2
  | .din ng a i, e => (vCmpN e).any fun p => decide (p.2.1 = if ng then CmpOp.NotIn else CmpOp.In) && varB N sc i p.2.2 && mE N sc a p.1
  | .datB i a, e => (vSubN e).any fun p => varB N sc i p.1 && mE N sc a p.2
  | .inew, e => vDi0 e
  | .isort i, e => (vCallN e).any fun p => decide (p.1 = ("sorted" : Str)) && glB sc p.1 && varB N sc i p.2
  | .iin ng a i, e => (vCmpN e).any fun p => decide (p.2.1 = if ng then CmpOp.NotIn else CmpOp.In) && varB N sc i p.2.2 && mE N sc a p.1
  | .dgetS l a b, e => (vDget e).any fun p => decide (p.2.2.1 = ("get" : Str)) && dispSB l p.1 p.2.1 && decide (l ≠ []) && decide (l.length ≤ 15) && mE N sc a p.2.2.2.1 && mE N sc b p.2.2.2.2.1 && p.2.2.2.2.2
  | .dcomp elt own tg one i, e => (vLc e).any fun p => blkB N sc p.2.2.2.2 (ownN N own) && tg.all (fun i => decide (i ∈ own)) && targetB N p.2.2.2.2.names tg one p.2.1 && ((vNm p.2.2.1).any fun y => varB N sc i y) && p.2.2.2.1.isEmpty && decide (i ∉ own) && mE N p.2.2.2.2.names elt p.1
  | .ix a i, e => (vSub e).any fun p => mE N sc a p.1 && mE N sc i p.2
  | .meth m a es, e => (vMeth1 e).any fun p => decide (m.nm = p.2.1) && mOk m && mE N sc a p.1 && mEs N sc es [p.2.2.1] && p.2.2.2
  | .meth2 _ _ _ _, _ => false
  | .rev a, e => (vRev e).any fun p => mE N sc a p.1 && decide (p.2 = 1)
  | .rev2 a, e => (vRev2 e).any fun p => mE N sc a p.1 && decide (p.2.1 = 1) && decide (p.2.2 = 1)
  | .sl a lo hi, e => (vSl e).any fun p => mE N sc a p.1 && mEs N sc lo p.2.1.toList && mEs N sc hi p.2.2.toList
  | .comp elt own tg one k args cond, e => (vLc e).any fun p => blkB N sc p.2.2.2.2 (ownN N own) && tg.all (fun i => decide (i ∈ own)) && targetB N p.2.2.2.2.names tg one p.2.1 && ((itArgs sc k one p.2.2.1).any fun xs => mEs N sc args xs && zOk k args) && mEs N p.2.2.2.2.names cond p.2.2.2.1 && cond.all tOk && decide (cond.length ≤ 1) && mE N p.2.2.2.2.names elt p.1
def mEs (N : List Str) (sc : Sc) : List Ex → List Expr → Bool
  | [], es => es.isEmpty
  | a :: as, es => match es with
    | [] => false
    | x :: xs => mE N sc a x && mEs N sc as xs
end
structure XOk (X : Cx) (Φ : Tab) (sc : Sc) (k : Nat) : Prop where
  calm : X.calm = true
  nd : X.N.Nodup
  room : Room k X.A
  tab : TabOk X.prog X.w X.KW X.mg X.base k Φ
  vis : ∀ x, visB sc x = true → Vis X.env.scope x
  loc : ∀ x, locB sc x = true → Loc X.env.scope x ∧ (X.fn x = true ∨ X.env.scope.names.lookup x = some .local)
  gl : ∀ x, glB sc x = true → Gl X x
  fre : ∀ x, (sc.lookup x = some .cell ∨ sc.lookup x = some .free) → (X.env.scope.names.lookup x = some .cell ∨ X.env.scope.names.lookup x = some .free)
theorem XOk.hu {X : Cx} {Φ : Tab} {sc : Sc} {k : Nat} (x : XOk X Φ sc k) : X.A.units + 67 < cLine := by
  have := x.room.un
  omega
theorem relabel_lookup {env : Env} {x : Str} : ∀ names : Sc,
    (names.map fun (n, k) => if (k == NameKind.free && env.scope.kind == .function && env.kindOf n == some .cell) then (n, NameKind.cell) else (n, k)).lookup x =
      (names.lookup x).map fun k => if (k == NameKind.free && env.scope.kind == .function && env.kindOf x == some .cell) then NameKind.cell else k
  | [] => rfl
  | (n, k) :: r => by
    have ih := relabel_lookup (env := env) (x := x) r
    rw [List.map_cons]
    cases hx : x == n with
    | true =>
      have e : x = n := eq_of_beq hx
      subst e
      by_cases hc : (k == NameKind.free && env.scope.kind == .function && env.kindOf x == some .cell) = true
      · simp only [hc, if_true, List.lookup_cons, beq_self_eq_true, Option.map_some]
      · simp only [hc, if_false, List.lookup_cons, beq_self_eq_true, Option.map_some]
        simp
    | false =>
      by_cases hc : (k == NameKind.free && env.scope.kind == .function && env.kindOf n == some .cell) = true
      · simp only [hc, if_true, List.lookup_cons, hx]
        exact ih
      · simp only [hc, if_false, List.lookup_cons, hx]
        simpa [List.lookup_cons, hx] using ih
theorem XOk.blk {X : Cx} {Φ : Tab} {sc : Sc} {k : Nat} (x : XOk X Φ sc k) (s : Shared) (H : Hp) (scope : Scope) (C : Addr) (cl : List (Str × Addr)) (fp : List Addr) :
    XOk (X.blk s H scope (compEnvC scope cl C X.env) fp) Φ scope.names k := by
  have lk : ∀ y, (compEnvC scope cl C X.env).scope.names.lookup y = (scope.names.lookup y).map fun k => if (k == NameKind.free && X.env.scope.kind == .function && X.env.kindOf y == some .cell) then NameKind.cell else k := fun y => relabel_lookup scope.names
  refine ⟨x.calm, x.nd, x.room, x.tab, fun y h => ?_, fun y h => ?_, fun y h => ?_, fun y h => ?_⟩
  · unfold visB at h
    show Vis (compEnvC scope cl C X.env).scope y
    unfold Vis
    rw [lk y]
    split at h
    · rename_i e; rw [e]; exact .inl rfl
    · rename_i e; rw [e]; exact .inr (.inl rfl)
    · rename_i e
      rw [e, Option.map_some]
      by_cases hc : (NameKind.free == NameKind.free && X.env.scope.kind == .function && X.env.kindOf y == some .cell) = true
      · rw [if_pos hc]; exact .inr (.inl rfl)
      · rw [if_neg hc]; exact .inr (.inr rfl)
    · cases h
  · unfold locB at h
    show Loc (compEnvC scope cl C X.env).scope y ∧ ((scope.names.lookup y == some .cell) = true ∨ (compEnvC scope cl C X.env).scope.names.lookup y = some .local)
    unfold L2.Loc
    rw [lk y]
    split at h
    · rename_i e; rw [e]; exact ⟨.inl rfl, .inr rfl⟩
    · rename_i e; rw [e]; exact ⟨.inr rfl, .inl rfl⟩
    · cases h
  · unfold glB at h
    show (compEnvC scope cl C X.env).scope.names.lookup y = some .globalImplicit
    rw [lk y]
    split at h
    · rename_i e; rw [e]; rfl
    · cases h
  · show (compEnvC scope cl C X.env).scope.names.lookup y = some .cell ∨ (compEnvC scope cl C X.env).scope.names.lookup y = some .free
    rw [lk y]
    rcases h with e | e
    · rw [e]; exact .inl rfl
    · rw [e, Option.map_some]
      by_cases hc : (NameKind.free == NameKind.free && X.env.scope.kind == .function && X.env.kindOf y == some .cell) = true
      · rw [if_pos hc]; exact .inl rfl
      · rw [if_neg hc]; exact .inr rfl
theorem blkB_ok {X : Cx} {Φ : Tab} {sc : Sc} {k : Nat} {scope : Scope} {own : List (Str × Nat)} (x : XOk X Φ sc k) (h : blkB X.N sc scope own = true) : BlkOk X.N X.env.scope scope own := by
  unfold blkB at h
  simp only [Bool.and_eq_true, List.all_eq_true, decide_eq_true_eq] at h
  obtain ⟨⟨⟨h1, h2⟩, h3⟩, h4⟩ := h
  refine ⟨h1, h2, h3, fun y hy e => ?_, fun y hy e => ?_⟩
  · have q := h4 y hy
    simp only [e] at q
    split at q
    · exact x.fre _ (.inl (by assumption))
    · exact x.fre _ (.inr (by assumption))
    · cases q
  · have q := h4 y hy
    rcases e with e | e <;> (simp only [e, Bool.or_eq_true, decide_eq_true_eq] at q; exact q)
section
variable {X : Cx} {Φ : Tab} {sc : Sc} {k : Nat}
theorem tgB_ok (x : XOk X Φ sc k) {i : Nat} {y : Str} (h : tgB X.N sc i y = true) : X.N[i]? = some y ∧ Loc X.env.scope y ∧ (X.fn y = true ∨ X.env.scope.names.lookup y = some .local) := by
  unfold tgB at h
  rw [Bool.and_eq_true, decide_eq_true_eq] at h
  exact ⟨h.1, x.loc y h.2⟩
theorem namesB_ok (x : XOk X Φ sc k) : ∀ {is : List Nat} {es : List Expr}, namesB X.N sc is es = true → NamesE X es is
  | [], [], _ => .nil
  | i :: is, .Name y _ :: es, h => by
    unfold namesB at h
    rw [Bool.and_eq_true] at h
    obtain ⟨h1, h2, h3⟩ := tgB_ok x h.1
    exact .cons h1 h2 h3 (namesB_ok x h.2)
  | [], _ :: _, h => by simp [namesB] at h
  | _ :: _, [], h => by simp [namesB] at h
  | i :: is, e :: es, h => by
    cases e <;> first | (simp [namesB] at h; done) | skip
    rename_i y p
    unfold namesB at h
    rw [Bool.and_eq_true] at h
    obtain ⟨h1, h2, h3⟩ := tgB_ok x h.1
    exact .cons h1 h2 h3 (namesB_ok x h.2)
theorem targetB_ok (x : XOk X Φ sc k) {is : List Nat} {one : Bool} {t : Expr} (h : targetB X.N sc is one t = true) : TgE X t is one := by
  unfold targetB at h
  split at h
  · rw [Bool.and_eq_true] at h
    obtain ⟨h0, h⟩ := h
    subst h0
    split at h
    · obtain ⟨h1, h2, h3⟩ := tgB_ok x h
      exact .one h1 h2 h3
    · cases h
  · rw [Bool.and_eq_true, Bool.not_eq_true'] at h
    obtain ⟨h0, h⟩ := h
    subst h0
    exact .tup (namesB_ok x h)
  · cases h
theorem dispB_ok : ∀ {l : List (Str × Int)} {ks : List (Option Expr)} {vs : List Expr}, dispB l ks vs = true → DispE ks vs l := by
  intro l
  induction l with
  | nil =>
    intro ks vs h
    cases ks with
    | nil => cases vs with
      | nil => exact .nil
      | cons _ _ => simp [dispB] at h
    | cons _ _ => simp [dispB] at h
  | cons p l ih =>
    intro ks vs h
    obtain ⟨x, i⟩ := p
    unfold dispB at h
    split at h
    · rename_i e3; cases e3
    · rename_i x' i' l' y k1 p1 ks' j k2 p2 vs' e1
      cases e1
      simp only [Bool.and_eq_true, decide_eq_true_eq] at h
      obtain ⟨⟨rfl, rfl⟩, h⟩ := h
      exact .cons (ih h)
    · cases h
theorem dispSB_ok : ∀ {l : List (Str × Str)} {ks : List (Option Expr)} {vs : List Expr}, dispSB l ks vs = true → DispS ks vs l := by
  intro l
  induction l with
  | nil =>
    intro ks vs h
    cases ks with
    | nil => cases vs with
      | nil => exact .nil
      | cons _ _ => simp [dispSB] at h
    | cons _ _ => simp [dispSB] at h
  | cons p l ih =>
    intro ks vs h
    obtain ⟨x, i⟩ := p
    unfold dispSB at h
    split at h
    · rename_i e3; cases e3
    · rename_i x' i' l' y k1 p1 ks' j k2 p2 vs' e1
      cases e1
      simp only [Bool.and_eq_true, decide_eq_true_eq] at h
      obtain ⟨⟨rfl, rfl⟩, h⟩ := h
      exact .cons (ih h)
    · cases h
/-- what is known of an expression that was checked -/
structure SndE (Φ : Tab) (X : Cx) (E : Ex) (e : Expr) : Prop where
  pe : PE X e (tE Φ X.KW E)
  pt : tOk E = true → PT X e (tT Φ X.KW E)
  pw : tOk E = true → ∀ op vs p, e = .BoolOp op vs p → PW X e (tT Φ X.KW E)
  st : ∀ es, starEach (e :: es) X.env = (false, eval e X.env) :: starEach es X.env
  px : PlainIx e
  fs : ∀ x, foldedSetIterable e X.env x = pure x
  ab : ∀ n, attributeBase e n X.env (eval e X.env) = eval e X.env
  p1 : tickB E = true → PE1 X e (tE Φ X.KW E)
theorem SndE.val {E : Ex} {e : Expr} (h : PE X e (tE Φ X.KW E)) (hp : ∀ whole, isTrue e X.env whole = (do let v ← whole; standAt e.pos; holding [v] (truthy v))) (hb : ∀ op vs p, e ≠ .BoolOp op vs p)
    (st : ∀ es, starEach (e :: es) X.env = (false, eval e X.env) :: starEach es X.env) (px : PlainIx e) (fs : ∀ x, foldedSetIterable e X.env x = pure x) (ab : ∀ n, attributeBase e n X.env (eval e X.env) = eval e X.env) (tk : tickB E = false := by rfl) : SndE Φ X E e :=
  ⟨h, fun _ => t_val h hp, fun _ op vs p z => absurd z (hb op vs p), st, px, fs, ab, fun z => absurd (tk.symm.trans z) Bool.false_ne_true⟩
/-- a list of expressions -/
inductive SndL (Φ : Tab) (X : Cx) : List Ex → List Expr → Prop
  | nil : SndL Φ X [] []
  | cons {E : Ex} {e : Expr} {Es : List Ex} {es : List Expr} : SndE Φ X E e → SndL Φ X Es es → SndL Φ X (E :: Es) (e :: es)
theorem SndL.ar {Es : List Ex} {es : List Expr} (h : SndL Φ X Es es) : PA X es (tAr Φ X.KW Es) := by
  induction h with
  | nil => exact ar_nil
  | cons h _ ih => exact ar_cons h.pe ih (h.st _)
theorem SndL.ak {Es : List Ex} {es : List Expr} (h : SndL Φ X Es es) : PA X es (tAk Φ X.KW Es) := by
  induction h with
  | nil => exact ak_nil
  | cons h _ ih => exact ak_cons h.pe ih (h.st _)
theorem SndL.aa {Es : List Ex} {es : List Expr} (h : SndL Φ X Es es) : PA X es (tAa Φ X.KW Es) := by
  induction h with
  | nil => exact aa_nil
  | cons h _ ih => exact aa_cons h.pe ih (h.st _)
theorem SndL.ao {Es : List Ex} {es : List Expr} (h : SndL Φ X Es es) : PA X es (tAo Φ X.KW Es) := by
  induction h with
  | nil => exact ao_nil
  | cons h _ ih => exact ao_cons h.pe ih (h.st _)
theorem SndL.plain {Es : List Ex} {es : List Expr} (h : SndL Φ X Es es) (pos : Pos) : (backTo pos (starEach es X.env)).any (·.1) = false := by
  induction h with
  | nil => rfl
  | cons h _ ih =>
    rw [h.st]
    show (false || (backTo pos (starEach _ X.env)).any (·.1)) = false
    rw [Bool.false_or]
    exact ih
theorem SndL.hst {Es : List Ex} {y : Expr} {ys : List Expr} (h : SndL Φ X Es (y :: ys)) : starEach (y :: ys) X.env = (false, eval y X.env) :: starEach ys X.env := by
  cases h with
  | cons h1 _ => exact h1.st _
theorem SndL.hpl {Es : List Ex} {y : Expr} {ys : List Expr} (h : SndL Φ X Es (y :: ys)) (p : Pos) : (backTo p (starEach ys X.env)).any (·.1) = false := by
  cases h with
  | cons _ h2 => exact h2.plain p
end
theorem andT {a b : Bool} (h : (a && b) = true) : a = true ∧ b = true := by
  rw [Bool.and_eq_true] at h
  exact h
theorem notF {a : Bool} (h : (!a) = true) : a = false := by
  cases a with
  | true => cases h
  | false => rfl
theorem SndE.one {Φ : Tab} {X : Cx} {E : Ex} {e : Expr} {op : BoolOp} {pos : Pos} (h : SndE Φ X E e) : PE X (.BoolOp op [e] pos) (tE Φ X.KW E) := pe_one h.pe
theorem pi_ok {Φ : Tab} {X : Cx} {sc : Sc} {k : Nat} {ik : IK} {one : Bool} {it tx : Expr} {xs : List Expr} {args : List Ex} {tg : List Nat} (x : XOk X Φ sc k) (h : itArgs sc ik one it = some xs) (hl : SndL Φ X args xs) (hzo : zOk ik args = true) (ht : one = false → ∃ es kk p, tx = .Tuple es kk p) :
    PI X tx it (iD X.KW ik (tAr Φ X.KW args)) ∧ PI X tx it (iD X.KW ik (tAk Φ X.KW args)) ∧ ∀ y, foldedSetIterable it X.env y = pure y := by
  have m : ∀ y, y ∈ bltNames → X.mg y = none := x.tab.bl
  unfold itArgs at h
  split at h
  · cases h
    cases hl with
    | cons h1 h2 =>
      cases h2
      exact ⟨pi_seqR h1.pe, pi_seqK h1.pe, h1.fs⟩
  · split at h
    · rename_i hz
      obtain ⟨h1, h2⟩ := andT hz
      have e1 := of_decide_eq_true h1
      subst e1
      cases h
      exact ⟨pi_rngD (x.gl _ h2) (m _ (by decide +kernel)) hl.ar hl.hst (hl.hpl _), pi_rngD (x.gl _ h2) (m _ (by decide +kernel)) hl.ak hl.hst (hl.hpl _), fun _ => rfl⟩
    · cases h
  · split at h
    · rename_i hz
      obtain ⟨h1, h2⟩ := andT hz
      obtain ⟨h0, h1⟩ := andT h1
      obtain ⟨es, kk, p, rfl⟩ := ht (notF h0)
      have e1 := of_decide_eq_true h1
      subst e1
      cases h
      exact ⟨pi_enumD (x.gl _ h2) (m _ (by decide +kernel)) hl.ar hl.hst, pi_enumD (x.gl _ h2) (m _ (by decide +kernel)) hl.ak hl.hst, fun _ => rfl⟩
    · cases h
  · split at h
    · rename_i hz
      obtain ⟨h1, h2⟩ := andT hz
      obtain ⟨h0, h1⟩ := andT h1
      obtain ⟨es, kk, p, rfl⟩ := ht (notF h0)
      have e1 := of_decide_eq_true h1
      subst e1
      cases h
      exact ⟨pi_zipD (x.gl _ h2) (m _ (by decide +kernel)) hl.ar hl.hst (hl.hpl _), pi_zipD (x.gl _ h2) (m _ (by decide +kernel)) hl.ak hl.hst (hl.hpl _), fun _ => rfl⟩
    · cases h
  · split at h
    · rename_i hz
      obtain ⟨h1, h5⟩ := andT hz
      obtain ⟨h1, h4⟩ := andT h1
      obtain ⟨h1, h3⟩ := andT h1
      obtain ⟨h0, h1⟩ := andT h1
      obtain ⟨es, kk, p, rfl⟩ := ht (notF h0)
      have e1 := of_decide_eq_true h1
      have e2 := of_decide_eq_true h4
      subst e1
      subst e2
      cases h
      cases hl with
      | cons g1 g2 =>
        rename_i E Es
        have hE : ∃ fs, E = .blt .len fs := by
          cases E <;> first | (cases hzo; done) | skip
          rename_i f fs
          cases f <;> first | (cases hzo; done) | exact ⟨_, rfl⟩
        obtain ⟨fs, rfl⟩ := hE
        obtain ⟨q1, q2⟩ := pi_zip3D (X := X) (x.gl _ h3) (m _ (by decide +kernel)) (x.gl _ h5) (m _ (by decide +kernel)) g1.pe g2.ar g2.ak (g1.st _) (g2.plain _)
        exact ⟨q1, q2, fun _ => rfl⟩
    · cases h
  · cases h
theorem target_tup {N : List Str} {sc : Sc} {is : List Nat} {one : Bool} {t : Expr} (h : targetB N sc is one t = true) : one = false → ∃ es kk p, t = .Tuple es kk p := by
  intro e
  subst e
  unfold targetB at h
  split at h
  · cases h
  · exact ⟨_, _, _, rfl⟩
  · cases h
theorem nmB_ok {x : Str} (h : nmB x = true) : (x == ("__debug__" : Str)) = false ∧ (x == ("__classdict__" : Str)) = false := by
  obtain ⟨h1, h2⟩ := andT h
  exact ⟨notF h1, notF h2⟩
set_option maxHeartbeats 4000000 in
theorem varB_ok {X : Cx} {Φ : Tab} {sc : Sc} {k : Nat} (x : XOk X Φ sc k) {i : Nat} {y : Str} {p : Pos} (h : varB X.N sc i y = true) : PE X (.Name y p) (tVar i) := by
  unfold varB at h
  obtain ⟨h1, h3⟩ := andT h
  obtain ⟨h1, h2⟩ := andT h1
  obtain ⟨h4, h5⟩ := nmB_ok h3
  exact pe_var (of_decide_eq_true h1) (x.vis _ h2) h4 h5
theorem repB_ok {X : Cx} {Φ : Tab} {sc : Sc} {k : Nat} (x : XOk X Φ sc k) {E : Ex} {e : Expr} (h : repB X.N sc E e = true) : PET X e (tE Φ X.KW E) := by
  obtain ⟨⟨i, y, z⟩, hv, h⟩ := anyT h
  obtain ⟨⟨nm, m, y', z', b⟩, hw, h⟩ := anyT h
  have e0 := vRepE_some hv
  subst e0
  obtain ⟨xp, ap, j0, c0, j1, c1, p, rfl, hb⟩ := vRepl_some hw
  obtain ⟨h1, h2⟩ := andT h
  obtain ⟨h1, h3⟩ := andT h1
  obtain ⟨h1, h4⟩ := andT h1
  obtain ⟨h1, h5⟩ := andT h1
  obtain ⟨h1, h6⟩ := andT h1
  have e1 : m = _ := of_decide_eq_true h6
  have e2 : y = y' := of_decide_eq_true h5
  have e3 : z = z' := of_decide_eq_true h4
  subst e1
  subst e2
  subst e3
  exact et_repl (e_var (varB_ok x h1)) (notF h3) rfl (by first | exact h2 | exact hb.trans h2)
set_option maxHeartbeats 4000000 in
mutual
theorem sndE (Φ : Tab) (k : Nat) : ∀ (E : Ex) (X : Cx) (sc : Sc) (e : Expr), XOk X Φ sc k → mE X.N sc E e = true → SndE Φ X E e
  | .non, X, sc, e, x, h => by
    obtain ⟨c, hv, h⟩ := anyT h
    obtain ⟨j, p, rfl⟩ := vCon_some hv
    have e1 := of_decide_eq_true h
    subst e1
    exact .val (e_const pe_non (fun _ => .non) fun _ => by simp only [ev]) (fun _ => rfl) (fun _ _ _ z => nomatch z) (fun _ => rfl) (fun _ _ => rfl) (fun _ => rfl) (fun _ => rfl)
  | .bl b, X, sc, e, x, h => by
    obtain ⟨c, hv, h⟩ := anyT h
    obtain ⟨j, p, rfl⟩ := vCon_some hv
    have e1 := of_decide_eq_true h
    subst e1
    exact .val (e_const pe_bl (fun _ => .bl _) fun _ => by simp only [ev]) (fun _ => rfl) (fun _ _ _ z => nomatch z) (fun _ => rfl) (fun _ _ => rfl) (fun _ => rfl) (fun _ => rfl)
  | .int i, X, sc, e, x, h => by
    obtain ⟨c, hv, h⟩ := anyT h
    obtain ⟨j, p, rfl⟩ := vCon_some hv
    have e1 := of_decide_eq_true h
    subst e1
    exact .val (e_const pe_int (fun _ => .int _) fun _ => by simp only [ev]) (fun _ => rfl) (fun _ _ _ z => nomatch z) (fun _ => rfl) (fun _ _ => rfl) (fun _ => rfl) (fun _ => rfl)
  | .str y, X, sc, e, x, h => by
    obtain ⟨c, hv, h⟩ := anyT h
    obtain ⟨j, p, rfl⟩ := vCon_some hv
    have e1 := of_decide_eq_true h
    subst e1
    exact .val (e_const pe_str (fun _ => .str _) fun _ => by simp only [ev]) (fun _ => rfl) (fun _ _ _ z => nomatch z) (fun _ => rfl) (fun _ _ => rfl) (fun _ => rfl) (fun _ => rfl)
  | .v i, X, sc, e, x, h => by
    obtain ⟨y, hv, h⟩ := anyT h
    obtain ⟨p, rfl⟩ := vNm_some hv
    exact .val (e_var (varB_ok x h)) (fun _ => rfl) (fun _ _ _ z => nomatch z) (fun _ => rfl) (fun _ _ => rfl) (fun _ => rfl) (fun _ => rfl)
  | .gl y, X, sc, e, x, h => by
    obtain ⟨z, hv, h⟩ := anyT h
    obtain ⟨p, rfl⟩ := vNm_some hv
    obtain ⟨h1, h2⟩ := andT h
    obtain ⟨h1, h3⟩ := andT h1
    have e1 := of_decide_eq_true h1
    subst e1
    exact .val (e_gl x.tab (x.gl _ h3) (nmB_ok h2).1) (fun _ => rfl) (fun _ _ _ z => nomatch z) (fun _ => rfl) (fun _ _ => rfl) (fun _ => rfl) (fun _ => rfl)
  | .tup es, X, sc, e, x, h => by
    obtain ⟨fs, hv, h⟩ := anyT h
    obtain ⟨j, p, rfl⟩ := vTup_some hv
    exact .val (e_tup (sndL Φ k es X sc fs x h).ak) (fun _ => rfl) (fun _ _ _ z => nomatch z) (fun _ => rfl) (fun _ _ => rfl) (fun _ => rfl) (fun _ => rfl)
  | .lst es, X, sc, e, x, h => by
    obtain ⟨fs, hv, h⟩ := anyT h
    obtain ⟨p, rfl⟩ := vLst_some hv
    exact .val (e_lst (sndL Φ k es X sc fs x h).ak) (fun _ => rfl) (fun _ _ _ z => nomatch z) (fun _ => rfl) (fun _ _ => rfl) (fun _ => rfl) (fun _ => rfl)
  | .bin o a b, X, sc, e, x, h => by
    obtain ⟨⟨l, op, r⟩, hv, h⟩ := anyT h
    obtain ⟨p, rfl⟩ := vBin_some hv
    obtain ⟨h1, h2⟩ := andT h
    obtain ⟨h1, h3⟩ := andT h1
    have e1 := of_decide_eq_true h1
    subst e1
    exact .val (e_bin (sndE Φ k a X sc l x h3).pe (sndE Φ k b X sc r x h2).pe) (fun _ => rfl) (fun _ _ _ z => nomatch z) (fun _ => rfl) (fun _ _ => rfl) (fun _ => rfl) (fun _ => rfl)
  | .not a, X, sc, e, x, h => by
    obtain ⟨⟨op, y⟩, hv, h⟩ := anyT h
    obtain ⟨p, rfl⟩ := vUn_some hv
    obtain ⟨h1, h2⟩ := andT h
    have e1 : op = _ := of_decide_eq_true h1
    subst e1
    have s1 := sndE Φ k a X sc y x h2
    exact ⟨e_not s1.pe, fun t => t_not (s1.pt t), fun _ _ _ _ z => (nomatch z), fun _ => rfl, fun _ _ => rfl, fun _ => rfl, fun _ => rfl, fun z => (Bool.false_ne_true z).elim⟩
  | .neg a, X, sc, e, x, h => by
    obtain ⟨⟨op, y⟩, hv, h⟩ := anyT h
    obtain ⟨p, rfl⟩ := vUn_some hv
    obtain ⟨h1, h2⟩ := andT h
    have e1 : op = _ := of_decide_eq_true h1
    subst e1
    exact .val (e_neg (sndE Φ k a X sc y x h2).pe) (fun _ => rfl) (fun _ _ _ z => nomatch z) (fun _ => rfl) (fun _ _ => rfl) (fun _ => rfl) (fun _ => rfl)
  | .and a b, X, sc, e, x, h => by
    obtain ⟨⟨op, y, z⟩, hv, h⟩ := anyT h
    obtain ⟨h1, h2⟩ := andT h
    obtain ⟨h1, h3⟩ := andT h1
    have e1 : op = _ := of_decide_eq_true h1
    subst e1
    have s1 := sndE Φ k a X sc y x h3
    have s2 := sndE Φ k b X sc z x h2
    rcases vBo_some hv with ⟨p, rfl⟩ | ⟨u, w, r, p, rfl, rfl⟩
    · have pw : tOk (.and a b) = true → PW X (.BoolOp .And [y, z] p) (tT Φ X.KW (.and a b)) := fun t => by
        obtain ⟨t1, t2⟩ := andT (show (tOk a && tOk b) = true from t)
        exact t_and (s1.pt t1) (pw_and1 (s2.pt t2))
      exact ⟨e_and s1.pe (pe_one s2.pe), fun t => (pw t).pt, fun t _ _ _ _ => pw t, fun _ => rfl, fun _ _ => rfl, fun _ => rfl, fun _ => rfl, fun z => (Bool.false_ne_true z).elim⟩
    · have pw : tOk (.and a b) = true → PW X (.BoolOp .And (y :: u :: w :: r) p) (tT Φ X.KW (.and a b)) := fun t => by
        obtain ⟨t1, t2⟩ := andT (show (tOk a && tOk b) = true from t)
        exact t_and (s1.pt t1) (s2.pw t2 _ _ _ rfl)
      exact ⟨e_and s1.pe s2.pe, fun t => (pw t).pt, fun t _ _ _ _ => pw t, fun _ => rfl, fun _ _ => rfl, fun _ => rfl, fun _ => rfl, fun z => (Bool.false_ne_true z).elim⟩
  | .or a b, X, sc, e, x, h => by
    obtain ⟨⟨op, y, z⟩, hv, h⟩ := anyT h
    obtain ⟨h1, h2⟩ := andT h
    obtain ⟨h1, h3⟩ := andT h1
    have e1 : op = _ := of_decide_eq_true h1
    subst e1
    have s1 := sndE Φ k a X sc y x h3
    have s2 := sndE Φ k b X sc z x h2
    rcases vBo_some hv with ⟨p, rfl⟩ | ⟨u, w, r, p, rfl, rfl⟩
    · have pw : tOk (.or a b) = true → PW X (.BoolOp .Or [y, z] p) (tT Φ X.KW (.or a b)) := fun t => by
        obtain ⟨t1, t2⟩ := andT (show (tOk a && tOk b) = true from t)
        exact t_or (s1.pt t1) (pw_or1 (s2.pt t2))
      exact ⟨e_or s1.pe (pe_one s2.pe), fun t => (pw t).pt, fun t _ _ _ _ => pw t, fun _ => rfl, fun _ _ => rfl, fun _ => rfl, fun _ => rfl, fun z => (Bool.false_ne_true z).elim⟩
    · have pw : tOk (.or a b) = true → PW X (.BoolOp .Or (y :: u :: w :: r) p) (tT Φ X.KW (.or a b)) := fun t => by
        obtain ⟨t1, t2⟩ := andT (show (tOk a && tOk b) = true from t)
        exact t_or (s1.pt t1) (s2.pw t2 _ _ _ rfl)
      exact ⟨e_or s1.pe s2.pe, fun t => (pw t).pt, fun t _ _ _ _ => pw t, fun _ => rfl, fun _ _ => rfl, fun _ => rfl, fun _ => rfl, fun z => (Bool.false_ne_true z).elim⟩
  | .cmp o a b, X, sc, e, x, h => by
    obtain ⟨⟨l, op, r⟩, hv, h⟩ := anyT h
    obtain ⟨p, rfl⟩ := vCmp_some hv
    obtain ⟨h1, h2⟩ := andT h
    obtain ⟨h1, h3⟩ := andT h1
    obtain ⟨h1, h4⟩ := andT h1
    have e1 := of_decide_eq_true h1
    subst e1
    have s1 := sndE Φ k a X sc l x h4
    have hu := x.hu
    cases hb : mE X.N sc b r with
    | true =>
      have s2 := sndE Φ k b X sc r x hb
      exact ⟨e_cmp (by omega) s1.pe s2.pe (notF h2), fun _ => t_cmp (by omega) s1.pe s2.pe (notF h2), fun _ _ _ _ z => (nomatch z), fun _ => rfl, fun _ _ => rfl, fun _ => rfl, fun _ => rfl, fun z => (Bool.false_ne_true z).elim⟩
    | false =>
      have h3 : (mE X.N sc b r || (tickB a && repB X.N sc b r)) = true := h3
      rw [hb, Bool.false_or] at h3
      obtain ⟨h5, h6⟩ := andT h3
      have s2 := repB_ok (Φ := Φ) x h6
      exact ⟨e_cmp1 (by omega) (s1.p1 h5) s2 (notF h2), fun _ => t_cmp1 (by omega) (s1.p1 h5) s2 (notF h2), fun _ _ _ _ z => (nomatch z), fun _ => rfl, fun _ _ => rfl, fun _ => rfl, fun _ => rfl, fun z => (Bool.false_ne_true z).elim⟩
  | .chain o o' a b c, X, sc, e, x, h => by
    obtain ⟨⟨l, op, op', m, r⟩, hv, h⟩ := anyT h
    obtain ⟨p, rfl⟩ := vCmp2_some hv
    obtain ⟨h1, h2⟩ := andT h
    obtain ⟨h1, h3⟩ := andT h1
    obtain ⟨h1, h4⟩ := andT h1
    obtain ⟨h1, h5⟩ := andT h1
    obtain ⟨h1, h6⟩ := andT h1
    have e1 := of_decide_eq_true h1
    subst e1
    have e2 := of_decide_eq_true h6
    subst e2
    have s1 := sndE Φ k a X sc l x h5
    have s2 := sndE Φ k b X sc m x h4
    have s3 := sndE Φ k c X sc r x h3
    have hu := x.hu
    exact ⟨e_chain (by omega) s1.pe s2.pe s3.pe (notF h2), fun _ => t_chain (by omega) s1.pe s2.pe s3.pe (notF h2), fun _ _ _ _ z => (nomatch z), fun _ => rfl, fun _ _ => rfl, fun _ => rfl, fun _ => rfl, fun z => (Bool.false_ne_true z).elim⟩
  | .ife c a b, X, sc, e, x, h => by
    obtain ⟨⟨t, y, z⟩, hv, h⟩ := anyT h
    obtain ⟨p, rfl⟩ := vIf_some hv
    obtain ⟨h1, h2⟩ := andT h
    obtain ⟨h1, h3⟩ := andT h1
    obtain ⟨h1, h4⟩ := andT h1
    have s1 := sndE Φ k c X sc t x h1
    exact ⟨e_ife (s1.pt h4) (sndE Φ k a X sc y x h3).pe (sndE Φ k b X sc z x h2).pe, fun t => (Bool.false_ne_true t).elim, fun t => (Bool.false_ne_true t).elim, fun _ => rfl, fun _ _ => rfl, fun _ => rfl, fun _ => rfl, fun z => (Bool.false_ne_true z).elim⟩
  | .call f es, X, sc, e, x, h => by
    obtain ⟨⟨y, z, zs⟩, hv, h⟩ := anyT h
    obtain ⟨p, q, rfl⟩ := vCall_some hv
    obtain ⟨h1, h2⟩ := andT h
    obtain ⟨h1, h3⟩ := andT h1
    obtain ⟨h1, h4⟩ := andT h1
    have e1 := of_decide_eq_true h1
    subst e1
    have hl := sndL Φ k es X sc (z :: zs) x h2
    have w := e_call x.tab x.room (x.gl _ h4) (nmB_ok h3).1 hl.aa hl.hst (hl.hpl _) (p := p) (pos := q)
    refine ⟨w, fun _ => t_val w (fun _ => rfl), fun _ _ _ _ z => (nomatch z), fun _ => rfl, fun _ _ => rfl, fun _ => rfl, fun _ => rfl, fun tk => ?_⟩
    cases es with
    | nil => exact (Bool.false_ne_true tk).elim
    | cons E0 Es =>
      have hz : ∃ c, E0 = .str c := by
        cases E0 <;> first | exact (Bool.false_ne_true tk).elim | exact ⟨_, rfl⟩
      obtain ⟨c, rfl⟩ := hz
      have h2 : (mE X.N sc (.str c) z && mEs X.N sc Es zs) = true := h2
      obtain ⟨h5, _⟩ := andT h2
      obtain ⟨c0, hv, h5⟩ := anyT h5
      obtain ⟨j, cp, rfl⟩ := vCon_some hv
      have e1 := of_decide_eq_true h5
      subst e1
      have he := hl.hst
      have hp := hl.hpl q
      cases hl with
      | cons g1 g2 => exact e1_call x.tab x.room (x.gl _ h4) (nmB_ok h3).1 (aa1_cons (pe1_str g1.pe) g2.aa (g1.st _)) he hp
  | .blt f es, X, sc, e, x, h => by
    obtain ⟨⟨y, z, zs⟩, hv, h⟩ := anyT h
    obtain ⟨p, q, rfl⟩ := vCall_some hv
    obtain ⟨h1, h2⟩ := andT h
    obtain ⟨h1, h3⟩ := andT h1
    have e1 := of_decide_eq_true h1
    subst e1
    have hl := sndL Φ k es X sc (z :: zs) x h2
    exact .val (e_blt x.tab x.calm x.hu (x.gl _ h3) hl.ar hl.hst (hl.hpl _)) (fun _ => rfl) (fun _ _ _ z => nomatch z) (fun _ => rfl) (fun _ _ => rfl) (fun _ => rfl) (fun _ => rfl)
  | .lenS i, X, sc, e, x, h => by
    obtain ⟨⟨y, z⟩, hv, h⟩ := anyT h
    obtain ⟨p, q, r, rfl⟩ := vCallN_some hv
    obtain ⟨h1, h2⟩ := andT h
    obtain ⟨h1, h3⟩ := andT h1
    have e1 : y = _ := of_decide_eq_true h1
    subst e1
    exact .val (e_lenS x.tab (x.gl _ h3) (varB_ok x h2) rfl) (fun _ => rfl) (fun _ _ _ z => nomatch z) (fun _ => rfl) (fun _ _ => rfl) (fun _ => rfl) (fun _ => rfl)
  | .isa a T, X, sc, e, x, h => by
    obtain ⟨⟨y, z, t⟩, hv, h⟩ := anyT h
    obtain ⟨p, q, r, rfl⟩ := vIsa_some hv
    obtain ⟨h1, h2⟩ := andT h
    obtain ⟨h1, h3⟩ := andT h1
    obtain ⟨h1, h4⟩ := andT h1
    obtain ⟨h1, h5⟩ := andT h1
    have e1 : y = _ := of_decide_eq_true h1
    subst e1
    have e2 : t = _ := of_decide_eq_true h4
    subst e2
    have s1 := sndE Φ k a X sc z x h2
    exact .val (e_isa x.tab (x.gl _ h5) (x.gl _ h3) s1.pe (s1.st _)) (fun _ => rfl) (fun _ _ _ z => nomatch z) (fun _ => rfl) (fun _ _ => rfl) (fun _ => rfl) (fun _ => rfl)
  | .inG ng a y, X, sc, e, x, h => by
    obtain ⟨⟨l, op, z⟩, hv, h⟩ := anyT h
    obtain ⟨p2, p, rfl⟩ := vCmpN_some hv
    obtain ⟨h1, h2⟩ := andT h
    obtain ⟨h1, h3⟩ := andT h1
    obtain ⟨h1, h4⟩ := andT h1
    obtain ⟨h1, h5⟩ := andT h1
    have e1 : op = _ := of_decide_eq_true h1
    subst e1
    have e2 : y = z := of_decide_eq_true h5
    subst e2
    have s1 := sndE Φ k a X sc l x h2
    obtain ⟨g1, g2⟩ := e_inG (ng := ng) (pos := p) (p1 := p2) x.tab (x.gl _ h4) (nmB_ok h3).1 s1.pe
    exact ⟨g1, fun _ => g2, fun _ _ _ _ z => (nomatch z), fun _ => rfl, fun _ _ => rfl, fun _ => rfl, fun _ => rfl, fun z => (Bool.false_ne_true z).elim⟩
  | .getG y a, X, sc, e, x, h => by
    obtain ⟨⟨z, s⟩, hv, h⟩ := anyT h
    obtain ⟨p, q, rfl⟩ := vSubN_some hv
    obtain ⟨h1, h2⟩ := andT h
    obtain ⟨h1, h3⟩ := andT h1
    obtain ⟨h1, h4⟩ := andT h1
    have e1 : y = z := of_decide_eq_true h1
    subst e1
    have s1 := sndE Φ k a X sc s x h2
    exact .val (e_getG x.tab (x.gl _ h4) (nmB_ok h3).1 s1.pe s1.px) (fun _ => rfl) (fun _ _ _ z => nomatch z) (fun _ => rfl) (fun _ _ => rfl) (fun _ => rfl) (fun _ => rfl)
  | .dget l a b, X, sc, e, x, h => by
    obtain ⟨⟨ks, vs, m, y, z, t⟩, hv, h⟩ := anyT h
    obtain ⟨q, ap, p, rfl, hb⟩ := vDget_some hv
    obtain ⟨h1, h2⟩ := andT h
    obtain ⟨h1, h3⟩ := andT h1
    obtain ⟨h1, h4⟩ := andT h1
    obtain ⟨h1, h5⟩ := andT h1
    obtain ⟨h1, h6⟩ := andT h1
    obtain ⟨h1, h7⟩ := andT h1
    have e1 : m = _ := of_decide_eq_true h1
    subst e1
    have s1 := sndE Φ k a X sc y x h4
    have s2 := sndE Φ k b X sc z x h3
    have hu := x.hu
    have hst : starEach [y, z] X.env = [(false, eval y X.env), (false, eval z X.env)] := by
      rw [s1.st, s2.st]; rfl
    refine .val (e_dget (by omega) (dispB_ok h7) (of_decide_eq_true h6) (of_decide_eq_true h5) s1.pe s2.pe ⟨rfl, ?_, h2, ?_⟩) (fun _ => rfl) (fun _ _ _ z => nomatch z) (fun _ => rfl) (fun _ _ => rfl) (fun _ => rfl) (fun _ => rfl)
    · rw [hst]; rfl
    · rw [hst]; rfl
  | .rng l es, X, sc, e, x, h => by
    obtain ⟨⟨y, z, fs⟩, hn, h⟩ := anyT h
    obtain ⟨p2, p3, p4, p, rfl⟩ := nestC_some hn
    obtain ⟨h1, h2⟩ := andT h
    obtain ⟨h1, h3⟩ := andT h1
    obtain ⟨h1, h4⟩ := andT h1
    obtain ⟨h1, h5⟩ := andT h1
    obtain ⟨h1, h6⟩ := andT h1
    have e1 : y = _ := of_decide_eq_true h1
    subst e1
    have e2 : z = _ := of_decide_eq_true h5
    subst e2
    have hl := sndL Φ k es X sc fs x h3
    have h2' : fs.length = 1 ∨ fs.length = 2 := of_decide_eq_true h2
    cases hl with
    | nil => simp at h2'
    | cons s1 hl =>
      cases hl with
      | nil => exact .val (e_rng1 x.tab x.calm (x.gl _ h6) (x.gl _ h4) s1.pe (s1.st _)) (fun _ => rfl) (fun _ _ _ z => nomatch z) (fun _ => rfl) (fun _ _ => rfl) (fun _ => rfl) (fun _ => rfl)
      | cons s2 hl =>
        cases hl with
        | nil =>
          have hpl : ∀ q, (backTo q (starEach [_] X.env)).any (·.1) = false := fun q => by rw [s2.st]; rfl
          exact .val (e_rng2 x.tab x.calm (x.gl _ h6) (x.gl _ h4) s1.pe s2.pe (s1.st _) (s2.st _) (hpl _)) (fun _ => rfl) (fun _ _ _ z => nomatch z) (fun _ => rfl) (fun _ _ => rfl) (fun _ => rfl) (fun _ => rfl)
        | cons _ _ => simp at h2'
  | .sset a, X, sc, e, x, h => by
    obtain ⟨⟨y, z, v⟩, hn, h⟩ := anyT h
    obtain ⟨p1, p2, p3, p4, rfl⟩ := nest1_some hn
    obtain ⟨h1, h2⟩ := andT h
    obtain ⟨h1, h3⟩ := andT h1
    obtain ⟨h1, h4⟩ := andT h1
    obtain ⟨h1, h5⟩ := andT h1
    have e1 : y = _ := of_decide_eq_true h1
    subst e1
    have e2 : z = _ := of_decide_eq_true h4
    subst e2
    have s1 := sndE Φ k a X sc v x h2
    exact .val (e_sset x.tab x.calm x.hu (x.gl _ h5) (x.gl _ h3) s1.pe (s1.st _)) (fun _ => rfl) (fun _ _ _ z => nomatch z) (fun _ => rfl) (fun _ _ => rfl) (fun _ => rfl) (fun _ => rfl)
  | .meth m a es, X, sc, e, x, h => by
    obtain ⟨⟨y, nm, z, t⟩, hv, h⟩ := anyT h
    obtain ⟨ap, p, rfl, hb⟩ := vMeth1_some hv
    obtain ⟨h1, h2⟩ := andT h
    obtain ⟨h1, h3⟩ := andT h1
    obtain ⟨h1, h4⟩ := andT h1
    obtain ⟨h1, h5⟩ := andT h1
    have e1 : m.nm = nm := of_decide_eq_true h1
    subst e1
    have s1 := sndE Φ k a X sc y x h4
    have sl := sndL Φ k es X sc [z] x h3
    cases sl with
    | cons s2 hl =>
      cases hl with
      | nil => exact .val (e_meth h5 x.hu s1.pe s2.pe (s2.st _) s1.ab (h2)) (fun _ => rfl) (fun _ _ _ z => nomatch z) (fun _ => rfl) (fun _ _ => rfl) (fun _ => rfl) (fun _ => rfl)
  | .lset a, X, sc, e, x, h => by
    obtain ⟨⟨y, z, v⟩, hn, h⟩ := anyT h
    obtain ⟨p1, p2, p3, p4, rfl⟩ := nest1_some hn
    obtain ⟨h1, h2⟩ := andT h
    obtain ⟨h1, h3⟩ := andT h1
    obtain ⟨h1, h4⟩ := andT h1
    obtain ⟨h1, h5⟩ := andT h1
    have e1 : y = _ := of_decide_eq_true h1
    subst e1
    have e2 : z = _ := of_decide_eq_true h4
    subst e2
    have s1 := sndE Φ k a X sc v x h2
    exact .val (e_lset x.tab x.calm x.hu (x.gl _ h5) (x.gl _ h3) s1.pe (s1.st _)) (fun _ => rfl) (fun _ _ _ z => nomatch z) (fun _ => rfl) (fun _ _ => rfl) (fun _ => rfl) (fun _ => rfl)
  | .rev2 a, X, sc, e, x, h => by
    obtain ⟨⟨v, i, j⟩, hv, h⟩ := anyT h
    obtain ⟨k0, p0, k1, p1, p2, p3, p4, rfl⟩ := vRev2_some hv
    obtain ⟨h1, h2⟩ := andT h
    obtain ⟨h1, h3⟩ := andT h1
    have e1 : j = 1 := of_decide_eq_true h2
    have e2 : i = 1 := of_decide_eq_true h3
    clear hv h h2 h3
    subst e1
    subst e2
    exact .val (e_rev2 (sndE Φ k a X sc v x h1).pe) (fun _ => rfl) (fun _ _ _ z => nomatch z) (fun _ => rfl) (fun _ _ => rfl) (fun _ => rfl) (fun _ => rfl)
  | .dnew, X, sc, e, x, h => by
    obtain ⟨p, rfl⟩ := vDi0_some h
    exact .val e_dnew (fun _ => rfl) (fun _ _ _ z => nomatch z) (fun _ => rfl) (fun _ _ => rfl) (fun _ => rfl) (fun _ => rfl)
  | .dlit a b, X, sc, e, x, h => by
    obtain ⟨⟨y, z⟩, hv, h⟩ := anyT h
    obtain ⟨p, rfl⟩ := vDi1_some hv
    obtain ⟨h1, h2⟩ := andT h
    exact .val (e_dlit x.hu (sndE Φ k a X sc y x h1).pe (sndE Φ k b X sc z x h2).pe) (fun _ => rfl) (fun _ _ _ z => nomatch z) (fun _ => rfl) (fun _ _ => rfl) (fun _ => rfl) (fun _ => rfl)
  | .dlen a, X, sc, e, x, h => by
    obtain ⟨⟨y, z⟩, hv, h⟩ := anyT h
    obtain ⟨p, q, rfl⟩ := vCall1_some hv
    obtain ⟨h1, h2⟩ := andT h
    obtain ⟨h1, h3⟩ := andT h1
    have e1 : y = _ := of_decide_eq_true h1
    subst e1
    have s1 := sndE Φ k a X sc z x h2
    exact .val (e_dlen x.tab (x.gl _ h3) s1.pe (s1.st _)) (fun _ => rfl) (fun _ _ _ z => nomatch z) (fun _ => rfl) (fun _ _ => rfl) (fun _ => rfl) (fun _ => rfl)
  | .dsort i, X, sc, e, x, h => by
    obtain ⟨⟨y, z⟩, hv, h⟩ := anyT h
    obtain ⟨p, q, r, rfl⟩ := vCallN_some hv
    obtain ⟨h1, h2⟩ := andT h
    obtain ⟨h1, h3⟩ := andT h1
    have e1 : y = _ := of_decide_eq_true h1
    subst e1
    exact .val (e_dsort x.tab x.calm x.hu (x.gl _ h3) (varB_ok x h2) rfl) (fun _ => rfl) (fun _ _ _ z => nomatch z) (fun _ => rfl) (fun _ _ => rfl) (fun _ => rfl) (fun _ => rfl)
  | .dat i a, X, sc, e, x, h => by
    obtain ⟨⟨z, s⟩, hv, h⟩ := anyT h
    obtain ⟨p, q, rfl⟩ := vSubN_some hv
    obtain ⟨h1, h2⟩ := andT h
    have s1 := sndE Φ k a X sc s x h2
    exact .val (e_dat x.hu (varB_ok x h1) s1.pe s1.px) (fun _ => rfl) (fun _ _ _ z => nomatch z) (fun _ => rfl) (fun _ _ => rfl) (fun _ => rfl) (fun _ => rfl)
  | .datB i a, X, sc, e, x, h => by
    obtain ⟨⟨z, s⟩, hv, h⟩ := anyT h
    obtain ⟨p, q, rfl⟩ := vSubN_some hv
    obtain ⟨h1, h2⟩ := andT h
    have s1 := sndE Φ k a X sc s x h2
    exact .val (e_datB x.hu (varB_ok x h1) s1.pe s1.px) (fun _ => rfl) (fun _ _ _ z => nomatch z) (fun _ => rfl) (fun _ _ => rfl) (fun _ => rfl) (fun _ => rfl)
  | .inew, X, sc, e, x, h => by
    obtain ⟨p, rfl⟩ := vDi0_some h
    exact .val e_inew (fun _ => rfl) (fun _ _ _ z => nomatch z) (fun _ => rfl) (fun _ _ => rfl) (fun _ => rfl) (fun _ => rfl)
  | .isort i, X, sc, e, x, h => by
    obtain ⟨⟨y, z⟩, hv, h⟩ := anyT h
    obtain ⟨p, q, r, rfl⟩ := vCallN_some hv
    obtain ⟨h1, h2⟩ := andT h
    obtain ⟨h1, h3⟩ := andT h1
    have e1 : y = _ := of_decide_eq_true h1
    subst e1
    exact .val (e_isort x.tab x.calm x.hu (x.gl _ h3) (varB_ok x h2) rfl) (fun _ => rfl) (fun _ _ _ z => nomatch z) (fun _ => rfl) (fun _ _ => rfl) (fun _ => rfl) (fun _ => rfl)
  | .iin ng a i, X, sc, e, x, h => by
    obtain ⟨⟨l, op, z⟩, hv, h⟩ := anyT h
    obtain ⟨p2, p, rfl⟩ := vCmpN_some hv
    obtain ⟨h1, h2⟩ := andT h
    obtain ⟨h1, h3⟩ := andT h1
    have e1 : op = _ := of_decide_eq_true h1
    subst e1
    have s1 := sndE Φ k a X sc l x h2
    obtain ⟨g1, g2⟩ := e_iin (ng := ng) (pos := p) x.hu s1.pe (varB_ok (p := p2) x h3) (by cases ng <;> rfl)
    exact ⟨g1, fun _ => g2, fun _ _ _ _ z => (nomatch z), fun _ => rfl, fun _ _ => rfl, fun _ => rfl, fun _ => rfl, fun z => (Bool.false_ne_true z).elim⟩
  | .dgetS l a b, X, sc, e, x, h => by
    obtain ⟨⟨ks, vs, m, y, z, t⟩, hv, h⟩ := anyT h
    obtain ⟨q, ap, p, rfl, hb⟩ := vDget_some hv
    obtain ⟨h1, h2⟩ := andT h
    obtain ⟨h1, h3⟩ := andT h1
    obtain ⟨h1, h4⟩ := andT h1
    obtain ⟨h1, h5⟩ := andT h1
    obtain ⟨h1, h6⟩ := andT h1
    obtain ⟨h1, h7⟩ := andT h1
    have e1 : m = _ := of_decide_eq_true h1
    subst e1
    have s1 := sndE Φ k a X sc y x h4
    have s2 := sndE Φ k b X sc z x h3
    have hu := x.hu
    have hst : starEach [y, z] X.env = [(false, eval y X.env), (false, eval z X.env)] := by
      rw [s1.st, s2.st]; rfl
    refine .val (e_dgetS (by omega) (dispSB_ok h7) (of_decide_eq_true h6) (of_decide_eq_true h5) s1.pe s2.pe ⟨rfl, ?_, h2, ?_⟩) (fun _ => rfl) (fun _ _ _ z => nomatch z) (fun _ => rfl) (fun _ _ => rfl) (fun _ => rfl) (fun _ => rfl)
    · rw [hst]; rfl
    · rw [hst]; rfl
  | .lzip a b, X, sc, e, x, h => by
    obtain ⟨⟨y, z, u, v⟩, hn, h⟩ := anyT h
    obtain ⟨p1, p2, p3, p4, rfl⟩ := nest2_some hn
    obtain ⟨h1, h2⟩ := andT h
    obtain ⟨h1, h0⟩ := andT h1
    obtain ⟨h1, h3⟩ := andT h1
    obtain ⟨h1, h4⟩ := andT h1
    obtain ⟨h1, h5⟩ := andT h1
    have e1 : y = _ := of_decide_eq_true h1
    subst e1
    have e2 : z = _ := of_decide_eq_true h4
    subst e2
    have hl : SndL Φ X [a, b] [u, v] := .cons (sndE Φ k a X sc u x h0) (.cons (sndE Φ k b X sc v x h2) .nil)
    exact .val (e_lzip x.tab x.calm (x.gl _ h5) (x.gl _ h3) hl.ar hl.hst (hl.hpl _)) (fun _ => rfl) (fun _ _ _ z => nomatch z) (fun _ => rfl) (fun _ _ => rfl) (fun _ => rfl) (fun _ => rfl)
  | .meth2 m a b c, X, sc, e, x, h => by exact (Bool.false_ne_true h).elim
  | .dcomp elt own tg one i, X, sc, e, x, h => by
    obtain ⟨⟨y, t, it, ifs, scope⟩, hv, h⟩ := anyT h
    obtain ⟨p, rfl⟩ := vLc_some hv
    obtain ⟨h1, h2⟩ := andT h
    obtain ⟨h1, h3⟩ := andT h1
    obtain ⟨h1, h5⟩ := andT h1
    obtain ⟨h1, h4⟩ := andT h1
    obtain ⟨h1, h7⟩ := andT h1
    obtain ⟨h9, h8⟩ := andT h1
    obtain ⟨z, hz, h4⟩ := anyT h4
    have hz : vNm it = some z := hz
    obtain ⟨p2, rfl⟩ := vNm_some hz
    have h5 : ifs.isEmpty = true := h5
    have e5 : ifs = [] := List.isEmpty_iff.mp h5
    subst e5
    have xb := fun (s : Shared) (H : Hp) (C : Addr) (cl : List (Str × Addr)) (fp : List Addr) => x.blk s H scope C cl fp
    have hg : ∀ (s : Shared) (H : Hp) (C : Addr) (cl : List (Str × Addr)) (fp : List Addr), PG (X.blk s H scope (compEnvC scope cl C X.env) fp) t (gTg X.KW tg one) := fun s H C cl fp => (targetB_ok (xb s H C cl fp) h7).pg (xb s H C cl fp).calm (xb s H C cl fp).nd
    have hel : ∀ (s : Shared) (H : Hp) (C : Addr) (cl : List (Str × Addr)) (fp : List Addr), PE (X.blk s H scope (compEnvC scope cl C X.env) fp) y (tE Φ X.KW elt) := fun s H C cl fp => (sndE Φ k elt _ scope.names y (xb s H C cl fp) h2).pe
    have hts : ∀ (s : Shared) (H : Hp) (C : Addr) (cl : List (Str × Addr)) (fp : List Addr), PTs (X.blk s H scope (compEnvC scope cl C X.env) fp) [] (tTs Φ X.KW []) := fun s H C cl fp => ts_nil
    have hown : (ownN X.N own).map (·.2) = own := by
      unfold ownN
      rw [List.map_map]
      exact List.map_id' own
    have htg : ∀ i ∈ tg, i ∈ own := fun i hi => of_decide_eq_true (List.all_eq_true.mp h8 i hi)
    have pl := pe_lc (pos := p) x.calm x.nd (pi_dict (tg := t) (varB_ok (p := p2) x h4)) (blkB_ok x h9) hg hts hel (fun _ => rfl)
    refine .val ⟨fun pins s σ H Q I hw => pl.run pins s σ H Q I (e_dcomp (ex := y) (tx := t) (ix := .Name z p2) (scope := scope) x.calm x.nd hown htg (of_decide_eq_true h3) hw)⟩ (fun _ => rfl) (fun _ _ _ z => nomatch z) (fun _ => rfl) (fun _ _ => rfl) (fun _ => rfl) (fun _ => rfl)
  | .dgt i a b, X, sc, e, x, h => by
    obtain ⟨⟨z, m, y, w, t⟩, hv, h⟩ := anyT h
    obtain ⟨q, ap, p, rfl, hb⟩ := vMethN_some hv
    obtain ⟨h1, h2⟩ := andT h
    obtain ⟨h1, h3⟩ := andT h1
    obtain ⟨h1, h4⟩ := andT h1
    obtain ⟨h1, h5⟩ := andT h1
    have e1 : m = _ := of_decide_eq_true h1
    subst e1
    have s1 := sndE Φ k a X sc y x h4
    have s2 := sndE Φ k b X sc w x h3
    have hst : starEach [y, w] X.env = [(false, eval y X.env), (false, eval w X.env)] := by
      rw [s1.st, s2.st]; rfl
    refine .val (e_dgt x.hu (varB_ok x h5) s1.pe s2.pe ⟨rfl, ?_, h2, ?_⟩) (fun _ => rfl) (fun _ _ _ z => nomatch z) (fun _ => rfl) (fun _ _ => rfl) (fun _ => rfl) (fun _ => rfl)
    · rw [hst]; rfl
    · rw [hst]; rfl
  | .din ng a i, X, sc, e, x, h => by
    obtain ⟨⟨l, op, z⟩, hv, h⟩ := anyT h
    obtain ⟨p2, p, rfl⟩ := vCmpN_some hv
    obtain ⟨h1, h2⟩ := andT h
    obtain ⟨h1, h3⟩ := andT h1
    have e1 : op = _ := of_decide_eq_true h1
    subst e1
    have s1 := sndE Φ k a X sc l x h2
    obtain ⟨g1, g2⟩ := e_din (ng := ng) (pos := p) x.hu s1.pe (varB_ok (p := p2) x h3) (by cases ng <;> rfl)
    exact ⟨g1, fun _ => g2, fun _ _ _ _ z => (nomatch z), fun _ => rfl, fun _ _ => rfl, fun _ => rfl, fun _ => rfl, fun z => (Bool.false_ne_true z).elim⟩
  | .ix a i, X, sc, e, x, h => by
    obtain ⟨⟨v, s⟩, hv, h⟩ := anyT h
    obtain ⟨p, rfl⟩ := vSub_some hv
    obtain ⟨h1, h2⟩ := andT h
    have s1 := sndE Φ k a X sc v x h1
    have s2 := sndE Φ k i X sc s x h2
    exact .val (e_ix s1.pe s2.pe s2.px) (fun _ => rfl) (fun _ _ _ z => nomatch z) (fun _ => rfl) (fun _ _ => rfl) (fun _ => rfl) (fun _ => rfl)
  | .sl a lo hi, X, sc, e, x, h => by
    obtain ⟨⟨v, l, u⟩, hv, h⟩ := anyT h
    obtain ⟨p, q, rfl⟩ := vSl_some hv
    obtain ⟨h1, h2⟩ := andT h
    obtain ⟨h1, h3⟩ := andT h1
    have s1 := sndE Φ k a X sc v x h1
    have sl := sndL Φ k lo X sc l.toList x h3
    have su := sndL Φ k hi X sc u.toList x h2
    have po : ∀ {L : List Ex} {o : Option Expr}, SndL Φ X L o.toList → PO X o (tO Φ X.KW L) := by
      intro L o hL
      cases o with
      | none => cases hL; exact o_none
      | some y =>
        cases hL with
        | cons g1 g2 => cases g2; exact o_some g1.pe
    exact .val (e_sl s1.pe (po sl) (po su)) (fun _ => rfl) (fun _ _ _ z => nomatch z) (fun _ => rfl) (fun _ _ => rfl) (fun _ => rfl) (fun _ => rfl)
  | .rev a, X, sc, e, x, h => by
    obtain ⟨⟨v, j⟩, hv, h⟩ := anyT h
    obtain ⟨k1, p1, p2, p3, p4, rfl⟩ := vRev_some hv
    obtain ⟨h1, h2⟩ := andT h
    have e1 : j = 1 := of_decide_eq_true h2
    clear hv h h2
    subst e1
    exact .val (e_rev (sndE Φ k a X sc v x h1).pe) (fun _ => rfl) (fun _ _ _ z => nomatch z) (fun _ => rfl) (fun _ _ => rfl) (fun _ => rfl) (fun _ => rfl)
  | .comp elt own tg one ik args cond, X, sc, e, x, h => by
    obtain ⟨⟨y, t, it, ifs, scope⟩, hv, h⟩ := anyT h
    obtain ⟨p, rfl⟩ := vLc_some hv
    obtain ⟨h1, h2⟩ := andT h
    obtain ⟨h1, h3⟩ := andT h1
    obtain ⟨h1, h4⟩ := andT h1
    obtain ⟨h1, h5⟩ := andT h1
    obtain ⟨h1, h6⟩ := andT h1
    obtain ⟨h1, h7⟩ := andT h1
    obtain ⟨h9, h8⟩ := andT h1
    obtain ⟨xs, hit, h6⟩ := anyT h6
    have hit : itArgs sc ik one it = some xs := hit
    obtain ⟨h6, h6z⟩ := andT h6
    have hl := sndL Φ k args X sc xs x h6
    obtain ⟨pr, _, hfs⟩ := pi_ok (tg := tg) (tx := t) x hit hl h6z (target_tup h7)
    have xb := fun (s : Shared) (H : Hp) (C : Addr) (cl : List (Str × Addr)) (fp : List Addr) => x.blk s H scope C cl fp
    have hg : ∀ (s : Shared) (H : Hp) (C : Addr) (cl : List (Str × Addr)) (fp : List Addr), PG (X.blk s H scope (compEnvC scope cl C X.env) fp) t (gTg X.KW tg one) := fun s H C cl fp => (targetB_ok (xb s H C cl fp) h7).pg (xb s H C cl fp).calm (xb s H C cl fp).nd
    have hel : ∀ (s : Shared) (H : Hp) (C : Addr) (cl : List (Str × Addr)) (fp : List Addr), PE (X.blk s H scope (compEnvC scope cl C X.env) fp) y (tE Φ X.KW elt) := fun s H C cl fp => (sndE Φ k elt _ scope.names y (xb s H C cl fp) h2).pe
    have hts : ∀ (s : Shared) (H : Hp) (C : Addr) (cl : List (Str × Addr)) (fp : List Addr), PTs (X.blk s H scope (compEnvC scope cl C X.env) fp) ifs (tTs Φ X.KW cond) := fun s H C cl fp => by
      have hc := sndL Φ k cond _ scope.names ifs (xb s H C cl fp) h5
      have hlen := of_decide_eq_true h3
      cases hc with
      | nil => exact ts_nil
      | cons g1 g2 =>
        cases g2 with
        | nil =>
          have tk := List.all_eq_true.mp h4 _ List.mem_cons_self
          exact ts_one (g1.pt tk)
        | cons _ _ => simp at hlen
    have hown : (ownN X.N own).map (·.2) = own := by
      unfold ownN
      rw [List.map_map]
      exact List.map_id' own
    have htg : ∀ i ∈ tg, i ∈ own := fun i hi => of_decide_eq_true (List.all_eq_true.mp h8 i hi)
    have pl := pe_lc (pos := p) x.calm x.nd pr (blkB_ok x h9) hg hts hel hfs
    refine .val ⟨fun pins s σ H Q I hw => pl.run pins s σ H Q I (e_comp x.calm x.nd hown htg pr (blkB_ok x h9) hg hts hel hfs hw)⟩ (fun _ => rfl) (fun _ _ _ z => nomatch z) (fun _ => rfl) (fun _ _ => rfl) (fun _ => rfl) (fun _ => rfl)
theorem sndL (Φ : Tab) (k : Nat) : ∀ (Es : List Ex) (X : Cx) (sc : Sc) (es : List Expr), XOk X Φ sc k → mEs X.N sc Es es = true → SndL Φ X Es es
  | [], X, sc, es, x, h => by
    cases es with
    | nil => exact .nil
    | cons _ _ => exact (Bool.false_ne_true h).elim
  | E :: Es, X, sc, es, x, h => by
    cases es with
    | nil => exact (Bool.false_ne_true h).elim
    | cons e es =>
      have h : (mE X.N sc E e && mEs X.N sc Es es) = true := h
      obtain ⟨h1, h2⟩ := andT h
      exact .cons (sndE Φ k E X sc e x h1) (sndL Φ k Es X sc es x h2)
end
end SB
/-! while; several names at once; the check of a statement. -/
namespace SB
open PySem PySem.Spec PyProof.Rows L2

section
variable {X : Cx} {Φ : Tab} {a b e : Expr} {A B E : Ex} {pos p : Pos} {k : Nat}
theorem wloop_step {cc : Rho → M Bool} {f : Rho → M Fl} {n : Nat} {ρ : Rho} {c c' : Option Nat} {fl : Fl} (h : wloop cc f n ρ c = some (fl, c')) : ∃ m, n = m + 1 ∧ ∃ t c1, cc ρ c = some (t, c1) ∧
    (if t = true then ∃ r c2, f ρ c1 = some (r, c2) ∧ (match r with | .nx ρ' => wloop cc f m ρ' | .rt v => pure (.rt v)) c2 = some (fl, c') else fl = .nx ρ ∧ c' = c1) := by
  cases n with
  | zero => cases h
  | succ m =>
    simp only [wloop] at h
    replace h := M.bind_some h
    obtain ⟨t, c1, h1, h⟩ := h
    refine ⟨m, rfl, t, c1, h1, ?_⟩
    cases t with
    | true =>
      rw [if_pos rfl] at h ⊢
      exact M.bind_some h
    | false =>
      rw [if_neg Bool.false_ne_true] at h ⊢
      cases h
      exact ⟨rfl, rfl⟩
theorem s_while {cx : Expr} {C : Ex} {body : List Stmt} {Bs : List SB.St} (hp : PassesOwn (model X.prog X.w) X.A X.env X.xe) (hc : PT X cx (tT Φ X.KW C)) (hb : PSs X body (tSs Φ X.KW Bs)) : PS X (.While cx body [] pos) (tS Φ X.KW (.while C Bs)) := by
  refine ⟨fun pins s σ H Dn I hw => ?_⟩
  obtain ⟨Se, Ge, He, S, c, ρ, G, sr, fl, c', hev, q⟩ := hw
  simp only [ex] at hev
  refine (ps_while hp hc hb).run pins s σ H Dn I ⟨fun m σ1 H1 => ∃ S1 c1 ρ1 G1, SR X.KW Se Ge He S1 c1 ρ1 σ1 G1 H1 ∧ Same G G1 ∧ wloop (fun ρ => do let x ← ev Φ C ρ; let d ← x.rd; asB d) (fun ρ => exs Φ Bs ρ) m ρ1 c1 = some (fl, c'), ⟨fuel, S, c, ρ, G, sr, Same.refl _, hev⟩, ?_⟩
  rintro m σ1 H1 ⟨S1, c1, ρ1, G1, sr1, g1, h1⟩
  obtain ⟨m', rfl, t, c2, h2, h3⟩ := wloop_step h1
  refine ⟨Se, Ge, He, S1, c1, ρ1, G1, sr1, t, c2, h2, fun G2 H2 n2 => ?_⟩
  cases t with
  | true =>
    rw [if_pos rfl] at h3 ⊢
    obtain ⟨r, c3, h4, h5⟩ := h3
    refine ⟨fun σ' H' => ∃ S' ρ' G', r = .nx ρ' ∧ SR X.KW Se Ge He S' c3 ρ' σ' G' H' ∧ Same G G', fun σ' H' h' => ?_, ?_⟩
    · obtain ⟨S', ρ', G', rfl, sr', g'⟩ := h'
      exact ⟨m', Nat.lt_succ_self _, S', c3, ρ', G', sr', g', h5⟩
    · refine ⟨Se, Ge, He, S1, c2, ρ1, G2, sr1.step n2, r, c3, h4, ?_⟩
      cases r with
      | nx ρ' => exact fun S' σ' G' H' sr' g' => ⟨S', ρ', G', rfl, sr', g1.trans (n2.kp.kg.trans g')⟩
      | rt v =>
        cases h5
        exact q
  | false =>
    rw [if_neg Bool.false_ne_true] at h3 ⊢
    obtain ⟨rfl, rfl⟩ := h3
    exact q _ _ _ _ (sr1.step n2) (g1.trans n2.kp.kg)
theorem evo_cons {ρ : Rho} {es : List Ex} {c c' : Option Nat} {rs : List Sl} (h : evo Φ (E :: es) ρ c = some (rs, c')) : ∃ x r c1, ev Φ E ρ c = some (x, c1) ∧ evo Φ es ρ c1 = some (r, c') ∧ rs = x :: r ∧ ∃ d, x = .fz d ∨ x = .ow d := by
  simp only [evo] at h
  replace h := M.bind_some h
  obtain ⟨x, c1, h1, h⟩ := h
  replace h := M.bind_some h
  obtain ⟨y, c2, h2, h⟩ := h
  replace h2 := ofO2 h2
  obtain ⟨h2, e2⟩ := h2
  subst e2
  obtain ⟨e3, hk⟩ := keepS_ok h2
  subst e3
  replace h := M.bind_some h
  obtain ⟨r, c3, h3, h⟩ := h
  cases h
  exact ⟨_, _, _, h1, h3, rfl, hk⟩
/-- the address of an owned value stands -/
theorem RR.there {K : KW} {S : Option Addr} {H0 G H : Hp} {r : Sl} {e : D} {a : Addr} (h : RR K S H0 G H (.ref a) r) (er : r = .ow e) : H a ≠ none := by
  subst er
  obtain ⟨a', ea, _, _, _, ho⟩ := h
  cases ea
  exact own_there ho
theorem s_par3 {i j l : Nat} {x y z : Str} {cx : Expr} {C : Ex} {px py pz pt : Pos} {kt k2 : Nat} {pt2 : Pos} (hc : X.calm = true) (hN : X.N.Nodup) (hi : X.N[i]? = some x) (hj : X.N[j]? = some y) (hl : X.N[l]? = some z) (hij : i ≠ j) (hil : i ≠ l) (hjl : j ≠ l)
    (hx : X.env.scope.names.lookup x = some .local) (hy : X.env.scope.names.lookup y = some .local) (hz : X.env.scope.names.lookup z = some .local) (ha : PE X a (tE Φ X.KW A)) (hb : PE X b (tE Φ X.KW B)) (hcx : PE X cx (tE Φ X.KW C))
    (hs1 : starEach [a, b, cx] X.env = (false, eval a X.env) :: starEach [b, cx] X.env) (hs2 : starEach [b, cx] X.env = (false, eval b X.env) :: starEach [cx] X.env) (hs3 : starEach [cx] X.env = (false, eval cx X.env) :: starEach [] X.env)
    (hw : swappedStores [.Tuple [.Name x px, .Name y py, .Name z pz] kt pt] (.Tuple [a, b, cx] k2 pt2) X.env = pure (some [x, y, z])) :
    PS X (.Assign [.Tuple [.Name x px, .Name y py, .Name z pz] kt pt] (.Tuple [a, b, cx] k2 pt2) pos) (tS Φ X.KW (.par [i, j, l] [A, B, C])) := by
  refine ⟨fun pins s σ H Dn I hw' => ?_⟩
  obtain ⟨Se, Ge, He, S, c, ρ, G, sr, fl, c', hev, q⟩ := hw'
  have hiσ := slen I hi
  have hjσ := slen I hj
  have hlσ := slen I hl
  simp only [ex] at hev
  replace hev := M.bind_some hev
  obtain ⟨rs, c1, h1, hev⟩ := hev
  obtain ⟨u1, rs1, c2, g1, h2, e1, k1⟩ := evo_cons h1
  obtain ⟨u2, rs2, c3, g2, h3, e2, k2⟩ := evo_cons h2
  obtain ⟨u3, rs3, c4, g3, h4, e3, k3⟩ := evo_cons h3
  subst e1
  subst e2
  subst e3
  simp only [evo] at h4
  cases h4
  cases hev
  refine (ps_par3 (i := i) (j := j) (l := l) hc hN hi hj hl hij hil hjl hx hy hz (pa_cons ha (pa_cons hb (pa_cons hcx pa_nil hs3) hs2) hs1) hw rfl).run pins s σ H Dn I
    ⟨Se, Ge, He, S, c, ρ, G, sr, u1, c2, g1, fun v1 G1 H1 n1 r1 => ⟨Se, Ge, He, S, c2, ρ, G1, sr.step n1, u2, c3, g2, fun v2 G2 H2 n2 r2 => ⟨Se, Ge, He, S, c3, ρ, G2, (sr.step n1).step n2, u3, _, g3, fun v3 G3 H3 n3 r3 => ?_⟩⟩⟩
  refine ⟨v1, v2, v3, rfl, ?_⟩
  have s3 := ((sr.step n1).step n2).step n3
  have p1 := (r1.mono n2.kp).mono n3.kp
  have p2 := r2.mono n3.kp
  have t1 := s3.putR (i := i) k1 sr.d0 (fun l e a g1 g2 => sr.there g1 g2) p1
  have t2 := t1.putR (i := j) k2 (fun b hb => n1.kp.dm b (sr.d0 b hb)) (fun m e a g1 g2 => ?_) p2
  · refine q _ _ _ _ (t2.putR (i := l) k3 (fun b hb => n2.kp.dm b (n1.kp.dm b (sr.d0 b hb))) (fun m e a g1 g2 => ?_) r3) ((n1.trans n2).trans n3).kp.kg
    rcases set_cases g1 with ⟨rfl, g3⟩ | ⟨hm, g3⟩
    · rw [List.getElem?_set_self (by rw [List.length_set]; exact hjσ)] at g2
      cases g2
      exact r2.there g3
    · rw [List.getElem?_set_ne (Ne.symm hm)] at g2
      rcases set_cases g3 with ⟨rfl, g4⟩ | ⟨hm, g4⟩
      · rw [List.getElem?_set_self hiσ] at g2
        cases g2
        exact n2.kp.dm a (r1.there g4)
      · rw [List.getElem?_set_ne (Ne.symm hm)] at g2
        exact n2.kp.dm a (n1.kp.dm a (sr.there g4 g2))
  · rcases set_cases g1 with ⟨rfl, g3⟩ | ⟨hm, g3⟩
    · rw [List.getElem?_set_self hiσ] at g2
      cases g2
      exact r1.there g3
    · rw [List.getElem?_set_ne (Ne.symm hm)] at g2
      exact n1.kp.dm a (sr.there g3 g2)
end
end SB
/-! The check of statements. -/
namespace SB
open PySem PySem.Spec PyProof.Rows L2

structure SOk (X : Cx) (Φ : Tab) (sc : Sc) (k : Nat) : Prop where
  ok : XOk X Φ sc k
  kind : X.env.scope.kind = .function
  nm : X.env.scope.names = sc
  po : PassesOwn (model X.prog X.w) X.A X.env X.xe

def isStar : Expr → Bool
  | .Starred .. => true
  | _ => false
def isLcB : Expr → Bool
  | .ListComp .. => true
  | .SetComp .. => true
  | .DictComp .. => true
  | _ => false
def lcOkB : Expr → Bool
  | .SetComp .. => false
  | .DictComp .. => false
  | _ => true
def asgOk : Ex → Expr → Bool
  | .dcomp .., _ => false
  | _, v => lcOkB v
def locOnly (sc : Sc) (x : Str) : Bool := match sc.lookup x with
  | some .local => true
  | _ => false
/-- several names, several values: stored at once -/
def parB (sc : Sc) (vs : List Expr) : Bool := !(vs.any isStar) && !(vs.all (foldedForSure 8)) && !(vs.all (constantsAlone 8))
/-- a target that comprehensions see -/
def notLoc (sc : Sc) : Expr → Bool
  | .Name x _ => !locOnly sc x
  | _ => true
def anyCell (sc : Sc) (ts : List Expr) : Bool := ts.any (notLoc sc)
/-- no swapped stores -/
def noSwap (n : Nat) : Expr → Bool
  | .Tuple vs _ _ => !(n == 2 || n == 3) || (decide (vs.length = n) && !(vs.any isStar) && vs.all (foldedForSure 8))
  | _ => true
def popB (N : List Str) (sc : Sc) (j : Nat) (e : Ex) : Expr → Bool
  | .Call (.Attribute (.Name z _) m2 apos2) [v] [] p3 => decide (m2 = "pop") && varB N sc j z && (apos2.endLine == p3.line) && mE N sc e v
  | _ => false
def appPopB (N : List Str) (sc : Sc) (i j : Nat) (e : Ex) : Expr → Bool
  | .Call (.Attribute (.Name y _) m apos) [q] [] p2 => decide (m = "append") && varB N sc i y && (apos.endLine == p2.line) && popB N sc j e q
  | _ => false
/-- the loop that fills lists by keys -/
def grpB (N : List Str) (sc : Sc) (i o w : Nat) (mit me : Expr → Bool) : Stmt → Bool
  | .For (.Name xw _) x [.Assign [.Name xo _] v _, .Expr (.Call (.Attribute (.Name xi _) m1 ap1) [.Name xo2 _, .List [] _] [] cp1) _, .Expr (.Call (.Attribute (.Subscript (.Name xi2 _) (.Name xo3 _) _) m2 ap2) [.Name xw2 _] [] cp2) _] [] _ =>
    tgB N sc w xw && (itArgs sc .seq true x).isSome && mit x && tgB N sc o xo && me v && !isLcB v && decide (m1 = "setdefault") && varB N sc i xi && decide (xo2 = xo) && (ap1.endLine == cp1.line) && decide (xi2 = xi) && decide (xo3 = xo) && decide (m2 = "append") && decide (xw2 = xw) && (ap2.endLine == cp2.line) && varB N sc o xo && varB N sc w xw
  | _ => false
def notSl : Expr → Bool
  | .Slice .. => false
  | _ => true
/-! ### views of statements -/
def sAsg : Stmt → Option (Str × Expr)
  | .Assign [.Name x _] v _ => some (x, v)
  | _ => none
theorem sAsg_some {st : Stmt} {x : Str} {v : Expr} (h : sAsg st = some (x, v)) : ∃ p q, st = .Assign [.Name x p] v q := by
  unfold sAsg at h
  split at h
  · cases h; exact ⟨_, _, rfl⟩
  · cases h
def sAsT : Stmt → Option (List Expr × Expr)
  | .Assign [.Tuple ts _ _] v _ => some (ts, v)
  | _ => none
theorem sAsT_some {st : Stmt} {ts : List Expr} {v : Expr} (h : sAsT st = some (ts, v)) : ∃ k p q, st = .Assign [.Tuple ts k p] v q := by
  unfold sAsT at h
  split at h
  · cases h; exact ⟨_, _, _, rfl⟩
  · cases h
def sPut : Stmt → Option (Str × Expr × Expr)
  | .Assign [.Subscript (.Name y _) u _] v _ => some (y, u, v)
  | _ => none
theorem sPut_some {st : Stmt} {y : Str} {u v : Expr} (h : sPut st = some (y, u, v)) : ∃ p q r, st = .Assign [.Subscript (.Name y p) u q] v r := by
  unfold sPut at h
  split at h
  · cases h; exact ⟨_, _, _, rfl⟩
  · cases h
def sAug : Stmt → Option (Str × Operator × Expr)
  | .AugAssign (.Name x _) op v _ => some (x, op, v)
  | _ => none
theorem sAug_some {st : Stmt} {x : Str} {op : Operator} {v : Expr} (h : sAug st = some (x, op, v)) : ∃ p q, st = .AugAssign (.Name x p) op v q := by
  unfold sAug at h
  split at h
  · cases h; exact ⟨_, _, rfl⟩
  · cases h
def sExp : Stmt → Option Expr
  | .Expr v _ => some v
  | _ => none
theorem sExp_some {st : Stmt} {v : Expr} (h : sExp st = some v) : ∃ p, st = .Expr v p := by
  unfold sExp at h
  split at h
  · cases h; exact ⟨_, rfl⟩
  · cases h
/-- name.m(v) -/
def vDo1 : Expr → Option (Str × Str × Expr × Bool)
  | .Call (.Attribute (.Name y _) m ap) [v] [] p => some (y, m, v, ap.endLine == p.line)
  | _ => none
theorem vDo1_some {e v : Expr} {y m : Str} {b : Bool} (h : vDo1 e = some (y, m, v, b)) : ∃ q ap p, e = .Call (.Attribute (.Name y q) m ap) [v] [] p ∧ (ap.endLine == p.line) = b := by
  unfold vDo1 at h
  split at h
  · cases h; exact ⟨_, _, _, rfl, rfl⟩
  · cases h
/-- name.m() -/
def vDo0 : Expr → Option (Str × Str × Bool)
  | .Call (.Attribute (.Name y _) m ap) [] [] p => some (y, m, ap.endLine == p.line)
  | _ => none
theorem vDo0_some {e : Expr} {y m : Str} {b : Bool} (h : vDo0 e = some (y, m, b)) : ∃ q ap p, e = .Call (.Attribute (.Name y q) m ap) [] [] p ∧ (ap.endLine == p.line) = b := by
  unfold vDo0 at h
  split at h
  · cases h; exact ⟨_, _, _, rfl, rfl⟩
  · cases h
def sIf : Stmt → Option (Expr × List Stmt × List Stmt)
  | .If t x y _ => some (t, x, y)
  | _ => none
theorem sIf_some {st : Stmt} {t : Expr} {x y : List Stmt} (h : sIf st = some (t, x, y)) : ∃ p, st = .If t x y p := by
  unfold sIf at h
  split at h
  · cases h; exact ⟨_, rfl⟩
  · cases h
def sFor : Stmt → Option (Expr × Expr × List Stmt)
  | .For t it b [] _ => some (t, it, b)
  | _ => none
theorem sFor_some {st : Stmt} {t it : Expr} {b : List Stmt} (h : sFor st = some (t, it, b)) : ∃ p, st = .For t it b [] p := by
  unfold sFor at h
  split at h
  · cases h; exact ⟨_, rfl⟩
  · cases h
def sWhile : Stmt → Option (Expr × List Stmt)
  | .While t b [] _ => some (t, b)
  | _ => none
theorem sWhile_some {st : Stmt} {t : Expr} {b : List Stmt} (h : sWhile st = some (t, b)) : ∃ p, st = .While t b [] p := by
  unfold sWhile at h
  split at h
  · cases h; exact ⟨_, rfl⟩
  · cases h
def sRet : Stmt → Option Expr
  | .Return (some v) _ => some v
  | _ => none
theorem sRet_some {st : Stmt} {v : Expr} (h : sRet st = some v) : ∃ p, st = .Return (some v) p := by
  unfold sRet at h
  split at h
  · cases h; exact ⟨_, rfl⟩
  · cases h
def sPass : Stmt → Bool
  | .Pass _ => true
  | _ => false
theorem sPass_some {st : Stmt} (h : sPass st = true) : ∃ p, st = .Pass p := by
  unfold sPass at h
  split at h
  · exact ⟨_, rfl⟩
  · cases h
def vTupK : Expr → Option (List Expr)
  | .Tuple vs _ _ => some vs
  | _ => none
/-- two or three names at once -/
def parE (N : List Str) (sc : Sc) (is : List Nat) (ts vs : List Expr) : Bool := match is, ts, vs with
  | [i, j], [.Name x px, .Name y py], [u, v] => decide (N[i]? = some x) && decide (N[j]? = some y) && decide (x ≠ y) && locOnly sc x && locOnly sc y && (py.line == px.line) && parB sc [u, v]
  | [i, j, l], [.Name x px, .Name y py, .Name z pz], [u, v, w] => decide (N[i]? = some x) && decide (N[j]? = some y) && decide (N[l]? = some z) && decide (x ≠ y) && decide (x ≠ z) && decide (y ≠ z) && locOnly sc x && locOnly sc y && locOnly sc z && (py.line == px.line) && (pz.line == px.line) && parB sc [u, v, w]
  | _, _, _ => false
def isFrz : SB.St → Bool
  | .frz _ => true
  | _ => false
mutual
def mS (N : List Str) (sc : Sc) : SB.St → Stmt → Bool
  | .asg i e, st => (sAsg st).any fun p => tgB N sc i p.1 && mE N sc e p.2 && asgOk e p.2
  | .mv i j, st => (sAsg st).any fun p => (vNm p.2).any fun y => tgB N sc i p.1 && varB N sc j y
  | .asgT is e, st => (sAsT st).any fun p => namesB N sc is p.1 && mE N sc e p.2 && (noSwap p.1.length p.2 || anyCell sc p.1) && !isLcB p.2
  | .par is es, st => (sAsT st).any fun p => (vTup p.2).any fun vs => parE N sc is p.1 vs && mEs N sc es vs
  | .init i, st => (sAsg st).any fun p => (vLst p.2).any fun es => es.isEmpty && tgB N sc i p.1
  | .aug o i e, st => (sAug st).any fun p => decide (o = p.2.1) && (decide (o = .Add) || decide (o = .Mult)) && tgB N sc i p.1 && mE N sc e p.2.2
  | .app i e, st => (sExp st).any fun z => (vDo1 z).any fun p => decide (p.2.1 = ("append" : Str)) && varB N sc i p.1 && p.2.2.2 && mE N sc e p.2.2.1
  | .ext i e, st => (sExp st).any fun z => (vDo1 z).any fun p => decide (p.2.1 = ("extend" : Str)) && varB N sc i p.1 && p.2.2.2 && mE N sc e p.2.2.1
  | .popA i j, st => (sAsg st).any fun q => (vDo0 q.2).any fun p => decide (p.2.1 = ("pop" : Str)) && tgB N sc i q.1 && varB N sc j p.1 && p.2.2 && decide (i ≠ j)
  | .appPop i j e, st => (sExp st).any fun z => appPopB N sc i j e z
  | .put i a b, st => (sPut st).any fun p => varB N sc i p.1 && mE N sc a p.2.1 && mE N sc b p.2.2 && !isLcB p.2.2
  | .setd i a b, st => (sExp st).any fun z => (vMethN z).any fun p => decide (p.2.1 = ("setdefault" : Str)) && varB N sc i p.1 && p.2.2.2.2 && mE N sc a p.2.2.1 && mE N sc b p.2.2.2.1
  | .grp i o w it e, st => grpB N sc i o w (fun x => mE N sc it x) (fun x => mE N sc e x) st
  | .parT is es, st => (sAsT st).any fun p => (vTup p.2).any fun vs => namesB N sc is p.1 && mEs N sc es vs && (noSwap p.1.length p.2 || anyCell sc p.1)
  | .setL i a b, st => (sPut st).any fun p => varB N sc i p.1 && mE N sc a p.2.1 && mE N sc b p.2.2 && !isLcB p.2.2 && notSl p.2.1
  | .popL i e, st => (sExp st).any fun z => (vDo1 z).any fun p => decide (p.2.1 = ("pop" : Str)) && varB N sc i p.1 && p.2.2.2 && mE N sc e p.2.2.1
  | .expr e, st => (sExp st).any fun v => mE N sc e v && !isLcB v
  | .ifs c a b, st => (sIf st).any fun p => mE N sc c p.1 && tOk c && mSs N sc a p.2.1 && mSs N sc b p.2.2
  | .frz _, _ => false
  | .for is one ik args body, st => (sFor st).any fun p => targetB N sc is one p.1 && ((itArgs sc ik one p.2.1).any fun xs => mEs N sc args xs && zOk ik args) && mSs N sc body p.2.2
  | .forO is one i body, st => (sFor st).any fun p => (vNm p.2.1).any fun y => targetB N sc is one p.1 && varB N sc i y && mSs N sc body p.2.2
  | .forD is one i body, st => (sFor st).any fun p => (vNm p.2.1).any fun y => targetB N sc is one p.1 && varB N sc i y && mSs N sc body p.2.2
  | .iput i a, st => (sPut st).any fun p => (vCon p.2.2).any fun c => decide (c = .bool true) && varB N sc i p.1 && mE N sc a p.2.1
  | .while c body, st => (sWhile st).any fun p => mE N sc c p.1 && tOk c && mSs N sc body p.2
  | .ret e, st => (sRet st).any fun v => mE N sc e v
  | .retv i, st => (sRet st).any fun v => (vNm v).any fun y => varB N sc i y
  | .pass, st => sPass st
  | .never, _ => true
def mSs (N : List Str) (sc : Sc) : List SB.St → List Stmt → Bool
  | [], xs => xs.isEmpty
  | s :: ss, xs => if isFrz s then mSs N sc ss xs else match xs with
    | [] => false
    | x :: xs => mS N sc s x && mSs N sc ss xs
end
section
variable {X : Cx} {Φ : Tab} {sc : Sc} {k : Nat}
theorem locOnly_ok {x : Str} (h : locOnly sc x = true) : sc.lookup x = some .local := by
  unfold locOnly at h
  split at h
  · assumption
  · cases h
theorem swNone {e t : Expr} {l : Nat} {env : Env} (h : isLcB e = false) (hx : lcOkB e = true := by rfl) : swapsWith e (some t) l env = pure false := by
  cases e <;> first | rfl | (simp [isLcB] at h)
theorem swNo {e : Expr} {o : Option Expr} {l : Nat} {env : Env} (h : isLcB e = false) : swapsWith e o l env = pure false := by
  cases e <;> first | rfl | (simp [isLcB] at h)
theorem any_star (vs : List Expr) : (vs.any fun | .Starred .. => true | _ => false) = vs.any isStar := by
  refine congrArg (fun f => vs.any f) (funext fun e => ?_)
  cases e <;> rfl
theorem blockKind_fn {env : Env} (h : env.scope.kind = .function) : env.blockKind = .function := by
  unfold Env.blockKind
  rw [h]
  rfl
theorem swap_none {ts : List Expr} {kt : Nat} {pt : Pos} {v : Expr} {env : Env} (h : noSwap ts.length v = true) (hk : env.scope.kind = .function) (hc : ∀ e ∈ ts, ∃ x p, e = .Name x p) : swappedStores [.Tuple ts kt pt] v env = pure none := by
  cases v with
  | Tuple vs k2 p2 =>
    unfold swappedStores
    simp only [noSwap, Bool.or_eq_true, Bool.and_eq_true, Bool.not_eq_true', decide_eq_true_eq] at h
    rcases h with h | ⟨⟨h1, h2⟩, h3⟩
    · simp only [h, Bool.not_false, Bool.true_or, pure_bind]
      rfl
    · by_cases h4 : (ts.length == 2 || ts.length == 3) = true
      · have h5 : (vs.length != ts.length) = false := by rw [h1]; simp
        have h6 : (vs.any fun | .Starred .. => true | _ => false) = false := (any_star vs).trans h2
        simp only [h4, h5, blockKind_fn hk, h6, h3, pure_bind]
        simp
      · have h4 : (ts.length == 2 || ts.length == 3) = false := by simpa using h4
        simp only [h4, Bool.not_false, Bool.true_or, pure_bind]
        rfl
  | _ => rfl
theorem filterMap_lt {α β : Type} {f : α → Option β} : ∀ {ts : List α}, (∃ e ∈ ts, f e = none) → (ts.filterMap f).length < ts.length
  | [], h => by obtain ⟨_, h, _⟩ := h; cases h
  | t :: ts, h => by
    have hle := List.length_filterMap_le f ts
    obtain ⟨e, he, hn⟩ := h
    rw [List.filterMap_cons]
    rcases List.mem_cons.mp he with rfl | he
    · rw [hn]
      simp only [List.length_cons]
      omega
    · have ih := filterMap_lt (f := f) ⟨e, he, hn⟩
      cases f t <;> simp only [List.length_cons] <;> omega
theorem swap_cell {ts : List Expr} {kt : Nat} {pt : Pos} {v : Expr} {env : Env} (h : anyCell sc ts = true) (hn : env.scope.names = sc) : swappedStores [.Tuple ts kt pt] v env = pure none := by
  cases v with
  | Tuple vs k2 p2 =>
    unfold swappedStores
    simp only [pure_bind]
    split
    · rfl
    · split
      · rfl
      · rw [if_pos]
        rw [Bool.or_eq_true]
        refine .inl ?_
        obtain ⟨e, he, hx⟩ := List.any_eq_true.mp h
        rw [bne_iff_ne]
        refine Nat.ne_of_lt (filterMap_lt ⟨e, he, ?_⟩)
        cases e with
        | Name x p =>
          have hx' : locOnly sc x = false := by simpa [notLoc] using hx
          have hk : (env.kindOf x == some .local) = false := by
            have e1 : env.kindOf x = sc.lookup x := by rw [← hn]; rfl
            rw [e1]
            unfold locOnly at hx'
            cases hl : sc.lookup x with
            | none => rfl
            | some k =>
              rw [hl] at hx'
              cases k <;> first | rfl | cases hx'
          simp only [hk, Bool.false_and, Bool.false_eq_true, if_false]
        | _ => rfl
  | _ => rfl
theorem swap_par2 {x y : Str} {px py : Pos} {kt k2 : Nat} {pt p2 : Pos} {a b : Expr} {env : Env} (hk : env.scope.kind = .function) (hx : env.scope.names.lookup x = some .local) (hy : env.scope.names.lookup y = some .local) (hxy : x ≠ y) (hl : (py.line == px.line) = true) (hp : parB sc [a, b] = true) :
    swappedStores [.Tuple [.Name x px, .Name y py] kt pt] (.Tuple [a, b] k2 p2) env = pure (some [x, y]) := by
  have kx : env.kindOf x = some .local := hx
  have ky : env.kindOf y = some .local := hy
  unfold parB at hp
  obtain ⟨h1, h2⟩ := andT hp
  obtain ⟨h1, h3⟩ := andT h1
  have h1 := notF h1
  have h2 := notF h2
  have h3 := notF h3
  have h6 : ∀ f : Expr → Bool, (∀ e, f e = isStar e) → [a, b].any f = false := fun f hf => (congrArg (fun g => [a, b].any g) (funext hf)).trans h1
  have hn : (x == y) = false := by simpa using hxy
  have hn2 : (y == x) = false := by simpa using Ne.symm hxy
  have ed : [x, y].eraseDups = [x, y] := by simp [List.eraseDups_cons, hn, hn2]
  unfold swappedStores
  simp only [blockKind_fn hk, h2, h3, pure_bind, List.filterMap_cons, kx, ky, Expr.pos, hl, List.filterMap_nil, List.head?_cons, Option.map_some, Option.getD_some, beq_self_eq_true, Bool.and_self, if_true, ed, List.length_cons, List.length_nil]
  rw [if_neg (by decide), if_neg (by rw [h6 _ (fun e => by cases e <;> rfl)]; decide)]
  rfl
theorem swap_par3 {x y z : Str} {px py pz : Pos} {kt k2 : Nat} {pt p2 : Pos} {a b c : Expr} {env : Env} (hk : env.scope.kind = .function) (hx : env.scope.names.lookup x = some .local) (hy : env.scope.names.lookup y = some .local) (hz : env.scope.names.lookup z = some .local) (hxy : x ≠ y) (hxz : x ≠ z) (hyz : y ≠ z)
    (hl : (py.line == px.line) = true) (hl2 : (pz.line == px.line) = true) (hp : parB sc [a, b, c] = true) :
    swappedStores [.Tuple [.Name x px, .Name y py, .Name z pz] kt pt] (.Tuple [a, b, c] k2 p2) env = pure (some [x, y, z]) := by
  have kx : env.kindOf x = some .local := hx
  have ky : env.kindOf y = some .local := hy
  have kz : env.kindOf z = some .local := hz
  unfold parB at hp
  obtain ⟨h1, h2⟩ := andT hp
  obtain ⟨h1, h3⟩ := andT h1
  have h1 := notF h1
  have h2 := notF h2
  have h3 := notF h3
  have h6 : ∀ f : Expr → Bool, (∀ e, f e = isStar e) → [a, b, c].any f = false := fun f hf => (congrArg (fun g => [a, b, c].any g) (funext hf)).trans h1
  have n1 : (y == x) = false := by simpa using Ne.symm hxy
  have n2 : (z == x) = false := by simpa using Ne.symm hxz
  have n3 : (z == y) = false := by simpa using Ne.symm hyz
  have m1 : (x == y) = false := by simpa using hxy
  have m2 : (x == z) = false := by simpa using hxz
  have m3 : (y == z) = false := by simpa using hyz
  have ed : [x, y, z].eraseDups = [x, y, z] := by simp [List.eraseDups_cons, n1, n2, n3, m1, m2, m3]
  unfold swappedStores
  simp only [blockKind_fn hk, h2, h3, pure_bind, List.filterMap_cons, kx, ky, kz, Expr.pos, hl, hl2, List.filterMap_nil, List.head?_cons, Option.map_some, Option.getD_some, beq_self_eq_true, Bool.and_self, if_true, ed, List.length_cons, List.length_nil]
  rw [if_neg (by decide), if_neg (by rw [h6 _ (fun e => by cases e <;> rfl)]; decide)]
  rfl
end
end SB
/-! Statements that were checked. -/
namespace SB
open PySem PySem.Spec PyProof.Rows L2

theorem swLc {elt : Expr} {gs : List Comprehension} {scope : Scope} {pos py : Pos} {y : Str} {l : Nat} {env : Env} (hk : env.scope.kind = .function) :
    swapsWith (.ListComp elt gs scope pos) (some (.Name y py)) l env = pure true ∧ env.scope.names.lookup y = some .local ∨ swapsWith (.ListComp elt gs scope pos) (some (.Name y py)) l env = pure false := by
  have hb : env.blockKind = .function := blockKind_fn hk
  have e : swapsWith (.ListComp elt gs scope pos) (some (.Name y py)) l env = pure (env.blockKind == .function && env.kindOf y == some .local && py.line == pos.line && !(scope.names.any fun (n, k) => n == y && (k == .local || k == .cell))) := rfl
  cases hc : (env.blockKind == .function && env.kindOf y == some .local && py.line == pos.line && !(scope.names.any fun (n, k) => n == y && (k == .local || k == .cell))) with
  | false =>
    rw [hc] at e
    exact .inr e
  | true =>
    rw [hc] at e
    refine .inl ⟨e, ?_⟩
    simp only [Bool.and_eq_true] at hc
    have := hc.1.1.2
    exact eq_of_beq this
/-- name = [..] -/
theorem set_comp {X : Cx} {Φ : Tab} {sc : Sc} {k : Nat} {elt : Ex} {own tg : List Nat} {one : Bool} {ik : IK} {args cond : List Ex} {y : Expr} {gs : List Comprehension} {scope : Scope} {p p' pos : Pos} {i : Nat} {n : Str} (S : SOk X Φ sc k) (ht : tgB X.N sc i n = true)
    (h : mE X.N sc (.comp elt own tg one ik args cond) (.ListComp y gs scope p) = true) : PS X (.Assign [.Name n p'] (.ListComp y gs scope p) pos) (tS Φ X.KW (.asg i (.comp elt own tg one ik args cond))) := by
  have x := S.ok
  obtain ⟨t1, t2, t3⟩ := tgB_ok x ht
  have whole := h
  obtain ⟨⟨y', t, it, ifs, scope'⟩, hv, h⟩ := anyT h
  obtain ⟨p'', ev⟩ := vLc_some hv
  cases ev
  clear hv
  · obtain ⟨h1, h2⟩ := andT h
    obtain ⟨h1, h3⟩ := andT h1
    obtain ⟨h1, h4⟩ := andT h1
    obtain ⟨h1, h5⟩ := andT h1
    obtain ⟨h1, h6⟩ := andT h1
    obtain ⟨h1, h7⟩ := andT h1
    obtain ⟨h9, h8⟩ := andT h1
    rcases swLc (elt := y) (gs := [⟨t, it, ifs, 0⟩]) (scope := scope) (pos := p) (py := p') (y := n) (l := pos.line) S.kind with ⟨sw, hl⟩ | sw
    · obtain ⟨xs, hit, h6⟩ := anyT h6
      have hit : itArgs sc ik one it = some xs := hit
      · obtain ⟨h6, h6z⟩ := andT h6
        have hL := sndL Φ k args X sc xs x h6
        obtain ⟨pr, _, hfs⟩ := pi_ok (tg := tg) (tx := t) x hit hL h6z (target_tup h7)
        have xb := fun (s : Shared) (H : Hp) (C : Addr) (cl : List (Str × Addr)) (fp : List Addr) => x.blk s H scope C cl fp
        have hg : ∀ (s : Shared) (H : Hp) (C : Addr) (cl : List (Str × Addr)) (fp : List Addr), PG (X.blk s H scope (compEnvC scope cl C X.env) fp) t (gTg X.KW tg one) := fun s H C cl fp => (targetB_ok (xb s H C cl fp) h7).pg (xb s H C cl fp).calm (xb s H C cl fp).nd
        have hel : ∀ (s : Shared) (H : Hp) (C : Addr) (cl : List (Str × Addr)) (fp : List Addr), PE (X.blk s H scope (compEnvC scope cl C X.env) fp) y (tE Φ X.KW elt) := fun s H C cl fp => (sndE Φ k elt _ scope.names y (xb s H C cl fp) h2).pe
        have hts : ∀ (s : Shared) (H : Hp) (C : Addr) (cl : List (Str × Addr)) (fp : List Addr), PTs (X.blk s H scope (compEnvC scope cl C X.env) fp) ifs (tTs Φ X.KW cond) := fun s H C cl fp => by
          have hc := sndL Φ k cond _ scope.names ifs (xb s H C cl fp) h5
          have hlen := of_decide_eq_true h3
          cases hc with
          | nil => exact ts_nil
          | cons g1 g2 =>
            cases g2 with
            | nil =>
              have tk := List.all_eq_true.mp h4 _ List.mem_cons_self
              exact ts_one (g1.pt tk)
            | cons _ _ => simp at hlen
        have hown : (ownN X.N own).map (·.2) = own := by
          unfold ownN
          rw [List.map_map]
          exact List.map_id' own
        have htg : ∀ i ∈ tg, i ∈ own := fun i hi => of_decide_eq_true (List.all_eq_true.mp h8 i hi)
        exact s_asg (ps_setLc (pos := p) (spos := pos) x.calm x.nd t1 hl sw pr (blkB_ok x h9) hg hts hel hfs) (fun σ H Q hw => e_comp x.calm x.nd hown htg pr (blkB_ok x h9) hg hts hel hfs hw) t1
    · exact s_asg (ps_set x.nd t1 t2 (sndE Φ k _ X sc _ x whole).pe sw t3) (fun _ _ _ hw => hw) t1
theorem namesB_all {N : List Str} {sc : Sc} : ∀ {is : List Nat} {ts : List Expr}, namesB N sc is ts = true → ∀ e ∈ ts, ∃ x p, e = .Name x p
  | [], [], _ => fun e he => absurd he (by simp)
  | i :: is, t :: ts, h => by
    cases t with
    | Name y p =>
      simp only [namesB] at h
      obtain ⟨h1, h2⟩ := andT h
      intro e he
      rcases List.mem_cons.mp he with rfl | he
      · exact ⟨_, _, rfl⟩
      · exact namesB_all h2 e he
    | _ => simp [namesB] at h
  | [], _ :: _, h => by simp [namesB] at h
  | _ :: _, [], h => by simp [namesB] at h
section
variable {Φ : Tab} {k : Nat} {X : Cx} {sc : Sc}
theorem snd_asg (S : SOk X Φ sc k) (i : Nat) (e : Ex) (st : Stmt) (h : mS X.N sc (.asg i e) st = true) : PS X st (tS Φ X.KW (.asg i e)) := by
  obtain ⟨⟨x, v⟩, hv, h⟩ := anyT h
  obtain ⟨px, p, rfl⟩ := sAsg_some hv
  obtain ⟨h0, h3⟩ := andT h
  obtain ⟨h1, h2⟩ := andT h0
  have h1 : tgB X.N sc i x = true := h1
  have h2 : mE X.N sc e v = true := h2
  have h3 : asgOk e v = true := h3
  clear h0 hv h
  obtain ⟨t1, t2, t3⟩ := tgB_ok S.ok h1
  by_cases hl : isLcB v = false
  · exact s_asg (ps_set S.ok.nd t1 t2 (sndE Φ k e X sc v S.ok h2).pe (swNo hl) t3) (fun _ _ _ hw => hw) t1
  · cases v with
    | ListComp y gs scope p2 =>
      cases e with
      | comp elt own tg one ik args cond => exact set_comp S h1 h2
      | dcomp _ _ _ _ _ => cases h3
      | _ => exact (Bool.false_ne_true h2).elim
    | SetComp _ _ _ _ => cases e <;> exact (Bool.false_ne_true h3).elim
    | DictComp _ _ _ _ _ => cases e <;> exact (Bool.false_ne_true h3).elim
    | _ => exact absurd rfl hl
theorem snd_mv (S : SOk X Φ sc k) (i j : Nat) (st : Stmt) (h : mS X.N sc (.mv i j) st = true) : PS X st (tS Φ X.KW (.mv i j)) := by
  obtain ⟨⟨x, v⟩, hv, h⟩ := anyT h
  obtain ⟨px, p, rfl⟩ := sAsg_some hv
  obtain ⟨y, hy, h⟩ := anyT h
  have hy : vNm v = some y := hy
  obtain ⟨py, rfl⟩ := vNm_some hy
  obtain ⟨h1, h2⟩ := andT h
  obtain ⟨t1, t2, t3⟩ := tgB_ok S.ok h1
  exact s_mv S.ok.nd t1 t2 t3 (varB_ok S.ok h2)
theorem snd_asgT (S : SOk X Φ sc k) (is : List Nat) (e : Ex) (st : Stmt) (h : mS X.N sc (.asgT is e) st = true) : PS X st (tS Φ X.KW (.asgT is e)) := by
  obtain ⟨⟨es, v⟩, hv, h⟩ := anyT h
  obtain ⟨kt, pt, p, rfl⟩ := sAsT_some hv
  obtain ⟨h1, h4⟩ := andT h
  obtain ⟨h1, h3⟩ := andT h1
  obtain ⟨h1, h2⟩ := andT h1
  have hg := (TgE.tup (p := pt) (k := kt) (namesB_ok S.ok h1)).pg S.ok.calm S.ok.nd
  exact s_asgT (sndE Φ k e X sc v S.ok h2).pe hg (by unfold swapsWithSole; exact swNo (notF h4)) (((Bool.or_eq_true _ _).mp h3).elim (fun h3 => swap_none h3 S.kind (namesB_all h1)) fun h3 => swap_cell h3 S.nm) rfl
theorem snd_par (S : SOk X Φ sc k) (is : List Nat) (es : List Ex) (st : Stmt) (h : mS X.N sc (.par is es) st = true) : PS X st (tS Φ X.KW (.par is es)) := by
  obtain ⟨⟨ts, v⟩, hv, h⟩ := anyT h
  obtain ⟨kt, pt, p, rfl⟩ := sAsT_some hv
  obtain ⟨vs, hw, h⟩ := anyT h
  have hw : vTup v = some vs := hw
  obtain ⟨k2, p2, rfl⟩ := vTup_some hw
  obtain ⟨h, hm⟩ := andT h
  have h : parE X.N sc is ts vs = true := h
  have hm : mEs X.N sc es vs = true := hm
  have hL := sndL Φ k es X sc vs S.ok hm
  clear hv hw hm
  unfold parE at h
  split at h
  · rename_i i j x px y py u v _ _ _ _
    obtain ⟨h, g7⟩ := andT h
    obtain ⟨h, g6⟩ := andT h
    obtain ⟨h, g5⟩ := andT h
    obtain ⟨h, g4⟩ := andT h
    obtain ⟨h, g3⟩ := andT h
    obtain ⟨g1, g2⟩ := andT h
    have g1 := of_decide_eq_true g1
    have g2 := of_decide_eq_true g2
    have g3 := of_decide_eq_true g3
    have lx : X.env.scope.names.lookup x = some .local := by rw [S.nm]; exact locOnly_ok g4
    have ly : X.env.scope.names.lookup y = some .local := by rw [S.nm]; exact locOnly_ok g5
    cases hL with
    | cons s1 hL => cases hL with
      | cons s2 hL => cases hL with
        | nil => exact s_par2 S.ok.calm S.ok.nd g1 g2 (fun z => g3 (by subst z; rw [g1] at g2; exact Option.some.inj g2)) lx ly s1.pe s2.pe (s1.st _) (s2.st _) (swap_par2 (sc := sc) S.kind lx ly g3 g6 g7)
  · rename_i i j l x px y py z pz u v w _ _ _ _
    obtain ⟨h, f6⟩ := andT h
    obtain ⟨h, f5⟩ := andT h
    obtain ⟨h, f4⟩ := andT h
    obtain ⟨h, g9⟩ := andT h
    obtain ⟨h, g8⟩ := andT h
    obtain ⟨h, g7⟩ := andT h
    obtain ⟨h, g6⟩ := andT h
    obtain ⟨h, g5⟩ := andT h
    obtain ⟨h, g4⟩ := andT h
    obtain ⟨h, g3⟩ := andT h
    obtain ⟨g1, g2⟩ := andT h
    have g1 := of_decide_eq_true g1
    have g2 := of_decide_eq_true g2
    have g3 := of_decide_eq_true g3
    have g4 := of_decide_eq_true g4
    have g5 := of_decide_eq_true g5
    have g6 := of_decide_eq_true g6
    have lx : X.env.scope.names.lookup x = some .local := by rw [S.nm]; exact locOnly_ok g7
    have ly : X.env.scope.names.lookup y = some .local := by rw [S.nm]; exact locOnly_ok g8
    have lz : X.env.scope.names.lookup z = some .local := by rw [S.nm]; exact locOnly_ok g9
    have ne : ∀ {i j : Nat} {x y : Str}, X.N[i]? = some x → X.N[j]? = some y → x ≠ y → i ≠ j := fun a b c z => c (by subst z; rw [a] at b; exact Option.some.inj b)
    cases hL with
    | cons s1 hL => cases hL with
      | cons s2 hL => cases hL with
        | cons s3 hL => cases hL with
          | nil => exact s_par3 S.ok.calm S.ok.nd g1 g2 g3 (ne g1 g2 g4) (ne g1 g3 g5) (ne g2 g3 g6) lx ly lz s1.pe s2.pe s3.pe (s1.st _) (s2.st _) (s3.st _) (swap_par3 (sc := sc) S.kind lx ly lz g4 g5 g6 f4 f5 f6)
  · cases h
theorem snd_init (S : SOk X Φ sc k) (i : Nat) (st : Stmt) (h : mS X.N sc (.init i) st = true) : PS X st (tS Φ X.KW (.init i)) := by
  obtain ⟨⟨x, v⟩, hv, h⟩ := anyT h
  obtain ⟨px, p, rfl⟩ := sAsg_some hv
  obtain ⟨es, hy, h⟩ := anyT h
  have hy : vLst v = some es := hy
  obtain ⟨p2, rfl⟩ := vLst_some hy
  obtain ⟨h0, h⟩ := andT h
  have e0 : es = [] := List.isEmpty_iff.mp h0
  clear hy hv
  subst e0
  obtain ⟨t1, t2, t3⟩ := tgB_ok S.ok h
  exact s_init S.ok.nd t1 t2 t3
theorem snd_aug (S : SOk X Φ sc k) (o : Operator) (i : Nat) (e : Ex) (st : Stmt) (h : mS X.N sc (.aug o i e) st = true) : PS X st (tS Φ X.KW (.aug o i e)) := by
  obtain ⟨⟨x, op, v⟩, hv, h⟩ := anyT h
  obtain ⟨px, p, rfl⟩ := sAug_some hv
  obtain ⟨h, h4⟩ := andT h
  obtain ⟨h, h3⟩ := andT h
  obtain ⟨h1, h2⟩ := andT h
  have e1 : o = op := of_decide_eq_true h1
  subst e1
  obtain ⟨t1, t2, t3⟩ := tgB_ok S.ok h3
  have hop : o = .Add ∨ o = .Mult := by
    rw [Bool.or_eq_true, decide_eq_true_eq, decide_eq_true_eq] at h2
    exact h2
  exact s_aug hop S.ok.nd t1 t2 t3 (sndE Φ k e X sc v S.ok h4).pe
theorem snd_app (S : SOk X Φ sc k) (i : Nat) (e : Ex) (st : Stmt) (h : mS X.N sc (.app i e) st = true) : PS X st (tS Φ X.KW (.app i e)) := by
  obtain ⟨z, hz, h⟩ := anyT h
  obtain ⟨p, rfl⟩ := sExp_some hz
  obtain ⟨⟨y, m, v, b⟩, hv, h⟩ := anyT h
  obtain ⟨py, ap, p2, rfl, hb⟩ := vDo1_some hv
  obtain ⟨h, h4⟩ := andT h
  obtain ⟨h, h3⟩ := andT h
  obtain ⟨h1, h2⟩ := andT h
  have e1 : m = _ := of_decide_eq_true h1
  subst e1
  have s1 := sndE Φ k e X sc v S.ok h4
  exact s_app S.ok.nd (varB_ok S.ok h2) s1.pe rfl h3 (s1.st _)
theorem snd_ext (S : SOk X Φ sc k) (i : Nat) (e : Ex) (st : Stmt) (h : mS X.N sc (.ext i e) st = true) : PS X st (tS Φ X.KW (.ext i e)) := by
  obtain ⟨z, hz, h⟩ := anyT h
  obtain ⟨p, rfl⟩ := sExp_some hz
  obtain ⟨⟨y, m, v, b⟩, hv, h⟩ := anyT h
  obtain ⟨py, ap, p2, rfl, hb⟩ := vDo1_some hv
  obtain ⟨h, h4⟩ := andT h
  obtain ⟨h, h3⟩ := andT h
  obtain ⟨h1, h2⟩ := andT h
  have e1 : m = _ := of_decide_eq_true h1
  subst e1
  have s1 := sndE Φ k e X sc v S.ok h4
  exact s_ext S.ok.nd (varB_ok S.ok h2) s1.pe rfl h3 (s1.st _)
theorem snd_popA (S : SOk X Φ sc k) (i j : Nat) (st : Stmt) (h : mS X.N sc (.popA i j) st = true) : PS X st (tS Φ X.KW (.popA i j)) := by
  obtain ⟨⟨x, v⟩, hv, h⟩ := anyT h
  obtain ⟨px, p, rfl⟩ := sAsg_some hv
  obtain ⟨⟨y, m, b⟩, hy, h⟩ := anyT h
  have hy : vDo0 v = some (y, m, b) := hy
  obtain ⟨py, ap, p2, rfl, hb⟩ := vDo0_some hy
  obtain ⟨h, h5⟩ := andT h
  obtain ⟨h, h4⟩ := andT h
  obtain ⟨h, h3⟩ := andT h
  obtain ⟨h1, h2⟩ := andT h
  have e1 : m = _ := of_decide_eq_true h1
  subst e1
  obtain ⟨t1, t2, t3⟩ := tgB_ok S.ok h2
  exact s_popA S.ok.nd t1 t2 t3 (varB_ok S.ok h3) rfl (hb.trans h4) (of_decide_eq_true h5)
theorem snd_appPop (S : SOk X Φ sc k) (i j : Nat) (e : Ex) (st : Stmt) (h : mS X.N sc (.appPop i j e) st = true) : PS X st (tS Φ X.KW (.appPop i j e)) := by
  obtain ⟨z, hz, h⟩ := anyT h
  obtain ⟨p, rfl⟩ := sExp_some hz
  have h : appPopB X.N sc i j e z = true := h
  unfold appPopB at h
  split at h
  · rename_i y py m ap q p2
    obtain ⟨h, h4⟩ := andT h
    obtain ⟨h, h3⟩ := andT h
    obtain ⟨h1, h2⟩ := andT h
    have e1 := of_decide_eq_true h1
    subst e1
    unfold popB at h4
    split at h4
    · rename_i z pz m2 ap2 v p3
      obtain ⟨h4, h8⟩ := andT h4
      obtain ⟨h4, h7⟩ := andT h4
      obtain ⟨h5, h6⟩ := andT h4
      have e2 := of_decide_eq_true h5
      subst e2
      have s1 := sndE Φ k e X sc v S.ok h8
      exact s_appPop S.ok.nd (varB_ok S.ok h2) (varB_ok S.ok h6) s1.pe rfl h3 rfl h7 (s1.st _)
    · cases h4
  · cases h
theorem snd_put (S : SOk X Φ sc k) (i : Nat) (a b : Ex) (st : Stmt) (h : mS X.N sc (.put i a b) st = true) : PS X st (tS Φ X.KW (.put i a b)) := by
  obtain ⟨⟨y, u, v⟩, hv, h⟩ := anyT h
  obtain ⟨py, p2, p, rfl⟩ := sPut_some hv
  obtain ⟨h, h4⟩ := andT h
  obtain ⟨h, h3⟩ := andT h
  obtain ⟨h1, h2⟩ := andT h
  exact s_put S.ok.hu (varB_ok S.ok h1) (sndE Φ k a X sc u S.ok h2).pe (sndE Φ k b X sc v S.ok h3).pe (swNo (notF h4))
theorem snd_setd (S : SOk X Φ sc k) (i : Nat) (a b : Ex) (st : Stmt) (h : mS X.N sc (.setd i a b) st = true) : PS X st (tS Φ X.KW (.setd i a b)) := by
  obtain ⟨z, hz, h⟩ := anyT h
  obtain ⟨p, rfl⟩ := sExp_some hz
  obtain ⟨⟨y, m, u, v, b'⟩, hv, h⟩ := anyT h
  obtain ⟨py, ap, p2, rfl, hb⟩ := vMethN_some hv
  obtain ⟨h, h5⟩ := andT h
  obtain ⟨h, h4⟩ := andT h
  obtain ⟨h, h3⟩ := andT h
  obtain ⟨h1, h2⟩ := andT h
  have e1 : m = _ := of_decide_eq_true h1
  subst e1
  have s1 := sndE Φ k a X sc u S.ok h4
  have s2 := sndE Φ k b X sc v S.ok h5
  have hst : starEach [u, v] X.env = [(false, eval u X.env), (false, eval v X.env)] := by
    rw [s1.st, s2.st]; rfl
  refine s_setd S.ok.hu (varB_ok S.ok h2) s1.pe s2.pe ⟨rfl, ?_, h3, ?_⟩
  · rw [hst]; rfl
  · rw [hst]; rfl
end
theorem inv_grp {N : List Str} {sc : Sc} {i o w : Nat} {mit me : Expr → Bool} {st : Stmt} (h : grpB N sc i o w mit me st = true) : ∃ xw pw x xo po v pa xi pi ap1 po2 pl cp1 pe1 pi2 po3 ps ap2 pw2 cp2 pe2 pos,
    st = .For (.Name xw pw) x [.Assign [.Name xo po] v pa, .Expr (.Call (.Attribute (.Name xi pi) "setdefault" ap1) [.Name xo po2, .List [] pl] [] cp1) pe1, .Expr (.Call (.Attribute (.Subscript (.Name xi pi2) (.Name xo po3) ps) "append" ap2) [.Name xw pw2] [] cp2) pe2] [] pos ∧
    tgB N sc w xw = true ∧ mit x = true ∧ tgB N sc o xo = true ∧ me v = true ∧ isLcB v = false ∧ varB N sc i xi = true ∧ (ap1.endLine == cp1.line) = true ∧ (ap2.endLine == cp2.line) = true ∧ varB N sc o xo = true ∧ varB N sc w xw = true := by
  unfold grpB at h
  split at h
  · rename_i xw pw x xo po v pa xi pi m1 ap1 xo2 po2 pl cp1 pe1 xi2 pi2 xo3 po3 ps m2 ap2 xw2 pw2 cp2 pe2 pos
    obtain ⟨h, h17⟩ := andT h
    obtain ⟨h, h16⟩ := andT h
    obtain ⟨h, h15⟩ := andT h
    obtain ⟨h, h14⟩ := andT h
    obtain ⟨h, h13⟩ := andT h
    obtain ⟨h, h12⟩ := andT h
    obtain ⟨h, h11⟩ := andT h
    obtain ⟨h, h10⟩ := andT h
    obtain ⟨h, h9⟩ := andT h
    obtain ⟨h, h8⟩ := andT h
    obtain ⟨h, h7⟩ := andT h
    obtain ⟨h, h6⟩ := andT h
    obtain ⟨h, h5⟩ := andT h
    obtain ⟨h, h4⟩ := andT h
    obtain ⟨h, h3⟩ := andT h
    obtain ⟨h1, h2⟩ := andT h
    have e7 := of_decide_eq_true h7
    have e9 := of_decide_eq_true h9
    have e11 := of_decide_eq_true h11
    have e12 := of_decide_eq_true h12
    have e13 := of_decide_eq_true h13
    have e14 := of_decide_eq_true h14
    subst e7 e9 e11 e12 e13 e14
    exact ⟨_, _, _, _, _, _, _, _, _, _, _, _, _, _, _, _, _, _, _, _, _, _, rfl, h1, h3, h4, h5, notF h6, h8, h10, h15, h16, h17⟩
  · cases h
theorem snd_grp {Φ : Tab} {k : Nat} {X : Cx} {sc : Sc} (S : SOk X Φ sc k) (i o w : Nat) (it e : Ex) (st : Stmt) (h : mS X.N sc (.grp i o w it e) st = true) : PS X st (tS Φ X.KW (.grp i o w it e)) := by
  have h : grpB X.N sc i o w (fun x => mE X.N sc it x) (fun x => mE X.N sc e x) st = true := h
  obtain ⟨xw, pw, x, xo, po, v, pa, xi, pi, ap1, po2, pl, cp1, pe1, pi2, po3, ps, ap2, pw2, cp2, pe2, pos, est, h1, h2, h3, h4, h5, h6, h7, h8, h9, h10⟩ := inv_grp h
  rw [est]
  have hL : SndL Φ X [it] [x] := .cons (sndE Φ k it X sc x S.ok h2) .nil
  have tb : targetB X.N sc [w] true (.Name xw pw) = true := by
    unfold targetB
    simpa using h1
  obtain ⟨_, pk, hfs⟩ := pi_ok (tg := [w]) (tx := .Name xw pw) (ik := .seq) (one := true) S.ok rfl hL rfl (target_tup tb)
  obtain ⟨t1, t2, t3⟩ := tgB_ok S.ok h3
  obtain ⟨u1, _, _⟩ := tgB_ok S.ok h1
  have iv : X.N[i]? = some xi := by
    unfold varB at h6
    obtain ⟨g1, _⟩ := andT h6
    obtain ⟨g1, _⟩ := andT g1
    exact of_decide_eq_true g1
  exact s_grp S.po S.ok.calm S.ok.hu S.ok.nd pk ((targetB_ok S.ok tb).pg S.ok.calm S.ok.nd) hfs t1 iv u1 t2 t3 (fun p => varB_ok S.ok h6) (fun p => varB_ok S.ok h9) (fun p => varB_ok S.ok h10) (sndE Φ k e X sc v S.ok h4).pe (swNo h5) h7 h8
section
variable {Φ : Tab} {k : Nat} {X : Cx} {sc : Sc}
theorem snd_parT (S : SOk X Φ sc k) (is : List Nat) (es : List Ex) (st : Stmt) (h : mS X.N sc (.parT is es) st = true) : PS X st (tS Φ X.KW (.parT is es)) := by
  obtain ⟨⟨ts, v⟩, hv, h⟩ := anyT h
  obtain ⟨kt, pt, p, rfl⟩ := sAsT_some hv
  obtain ⟨vs, hw, h⟩ := anyT h
  have hw : vTup v = some vs := hw
  obtain ⟨k2, p2, rfl⟩ := vTup_some hw
  obtain ⟨h1, h3⟩ := andT h
  obtain ⟨h1, h2⟩ := andT h1
  exact s_parT S.ok.calm S.ok.nd (sndL Φ k es X sc vs S.ok h2).ao (namesB_ok S.ok h1) (by unfold swapsWithSole; exact swNo rfl) (((Bool.or_eq_true _ _).mp h3).elim (fun h3 => swap_none h3 S.kind (namesB_all h1)) fun h3 => swap_cell h3 S.nm)
theorem snd_setL (S : SOk X Φ sc k) (i : Nat) (a b : Ex) (st : Stmt) (h : mS X.N sc (.setL i a b) st = true) : PS X st (tS Φ X.KW (.setL i a b)) := by
  obtain ⟨⟨y, u, v⟩, hv, h⟩ := anyT h
  obtain ⟨py, p2, p, rfl⟩ := sPut_some hv
  obtain ⟨h, h5⟩ := andT h
  obtain ⟨h, h4⟩ := andT h
  obtain ⟨h, h3⟩ := andT h
  obtain ⟨h1, h2⟩ := andT h
  have h5 : notSl u = true := h5
  exact s_setL (varB_ok S.ok h1) (sndE Φ k a X sc u S.ok h2).pe (sndE Φ k b X sc v S.ok h3).pe (by unfold swapsWithSole; exact swNo (notF h4)) (by cases v <;> rfl) (fun v => by cases u <;> first | rfl | exact (Bool.false_ne_true h5).elim)
theorem snd_popL (S : SOk X Φ sc k) (i : Nat) (e : Ex) (st : Stmt) (h : mS X.N sc (.popL i e) st = true) : PS X st (tS Φ X.KW (.popL i e)) := by
  obtain ⟨z, hz, h⟩ := anyT h
  obtain ⟨p, rfl⟩ := sExp_some hz
  obtain ⟨⟨y, m, v, b⟩, hv, h⟩ := anyT h
  obtain ⟨py, ap, p2, rfl, hb⟩ := vDo1_some hv
  obtain ⟨h, h4⟩ := andT h
  obtain ⟨h, h3⟩ := andT h
  obtain ⟨h1, h2⟩ := andT h
  have e1 : m = _ := of_decide_eq_true h1
  subst e1
  have s1 := sndE Φ k e X sc v S.ok h4
  exact s_popL (varB_ok S.ok h2) s1.pe rfl h3 (s1.st _)
theorem snd_expr (S : SOk X Φ sc k) (e : Ex) (st : Stmt) (h : mS X.N sc (.expr e) st = true) : PS X st (tS Φ X.KW (.expr e)) := by
  obtain ⟨v, hz, h⟩ := anyT h
  obtain ⟨p, rfl⟩ := sExp_some hz
  obtain ⟨h1, h2⟩ := andT h
  exact s_expr (sndE Φ k e X sc v S.ok h1).pe (swNo (notF h2))
theorem snd_frz (S : SOk X Φ sc k) (a0 : List Nat) (st : Stmt) (h : mS X.N sc (.frz a0) st = true) : PS X st (tS Φ X.KW (.frz a0)) := (Bool.false_ne_true h).elim
theorem snd_ret (S : SOk X Φ sc k) (e : Ex) (st : Stmt) (h : mS X.N sc (.ret e) st = true) : PS X st (tS Φ X.KW (.ret e)) := by
  obtain ⟨v, hz, h⟩ := anyT h
  obtain ⟨p, rfl⟩ := sRet_some hz
  exact s_ret (sndE Φ k e X sc v S.ok h).pe
theorem snd_retv (S : SOk X Φ sc k) (i : Nat) (st : Stmt) (h : mS X.N sc (.retv i) st = true) : PS X st (tS Φ X.KW (.retv i)) := by
  obtain ⟨v, hz, h⟩ := anyT h
  obtain ⟨p, rfl⟩ := sRet_some hz
  obtain ⟨y, hy, h⟩ := anyT h
  have hy : vNm v = some y := hy
  obtain ⟨py, rfl⟩ := vNm_some hy
  exact s_retv (varB_ok S.ok h)
theorem snd_pass (S : SOk X Φ sc k)  (st : Stmt) (h : mS X.N sc (.pass) st = true) : PS X st (tS Φ X.KW (.pass)) := by
  obtain ⟨p, rfl⟩ := sPass_some h
  exact s_pass
theorem snd_never (S : SOk X Φ sc k)  (st : Stmt) (h : mS X.N sc (.never) st = true) : PS X st (tS Φ X.KW (.never)) := s_never
theorem snd_iput (S : SOk X Φ sc k) (i : Nat) (a : Ex) (st : Stmt) (h : mS X.N sc (.iput i a) st = true) : PS X st (tS Φ X.KW (.iput i a)) := by
  obtain ⟨⟨y, u, v⟩, hv, h⟩ := anyT h
  obtain ⟨py, p2, p, rfl⟩ := sPut_some hv
  obtain ⟨c, hc, h⟩ := anyT h
  have hc : vCon v = some c := hc
  obtain ⟨j, p4, rfl⟩ := vCon_some hc
  obtain ⟨h, h2⟩ := andT h
  obtain ⟨h0, h1⟩ := andT h
  have e0 : c = _ := of_decide_eq_true h0
  clear hc hv
  subst e0
  exact s_iput S.ok.hu (varB_ok S.ok h1) (sndE Φ k a X sc u S.ok h2).pe
end
theorem inv_ifs {N : List Str} {sc : Sc} {c : Ex} {a b : List SB.St} {st : Stmt} (h : mS N sc (.ifs c a b) st = true) : ∃ t x y p, st = .If t x y p ∧ mE N sc c t = true ∧ tOk c = true ∧ mSs N sc a x = true ∧ mSs N sc b y = true := by
  obtain ⟨⟨t, x, y⟩, hv, h⟩ := anyT h
  obtain ⟨p, rfl⟩ := sIf_some hv
  obtain ⟨h, h4⟩ := andT h
  obtain ⟨h, h3⟩ := andT h
  obtain ⟨h1, h2⟩ := andT h
  exact ⟨_, _, _, _, rfl, h1, h2, h3, h4⟩
theorem inv_for {N : List Str} {sc : Sc} {is : List Nat} {one : Bool} {ik : IK} {args : List Ex} {body : List SB.St} {st : Stmt} (h : mS N sc (.for is one ik args body) st = true) : ∃ t it b p xs, st = .For t it b [] p ∧ targetB N sc is one t = true ∧ itArgs sc ik one it = some xs ∧ mEs N sc args xs = true ∧ zOk ik args = true ∧ mSs N sc body b = true := by
  obtain ⟨⟨t, it, b⟩, hv, h⟩ := anyT h
  obtain ⟨p, rfl⟩ := sFor_some hv
  obtain ⟨h, h3⟩ := andT h
  obtain ⟨h1, h2⟩ := andT h
  obtain ⟨xs, hit, h2⟩ := anyT h2
  obtain ⟨h2, hz⟩ := andT h2
  exact ⟨_, _, _, _, _, rfl, h1, hit, h2, hz, h3⟩
theorem inv_forO {N : List Str} {sc : Sc} {is : List Nat} {one : Bool} {i : Nat} {body : List SB.St} {st : Stmt} (h : mS N sc (.forO is one i body) st = true) : ∃ t y p' b p, st = .For t (.Name y p') b [] p ∧ targetB N sc is one t = true ∧ varB N sc i y = true ∧ mSs N sc body b = true := by
  obtain ⟨⟨t, it, b⟩, hv, h⟩ := anyT h
  obtain ⟨p, rfl⟩ := sFor_some hv
  obtain ⟨y, hy, h⟩ := anyT h
  have hy : vNm it = some y := hy
  obtain ⟨py, rfl⟩ := vNm_some hy
  obtain ⟨h, h3⟩ := andT h
  obtain ⟨h1, h2⟩ := andT h
  exact ⟨_, _, _, _, _, rfl, h1, h2, h3⟩
theorem inv_forD {N : List Str} {sc : Sc} {is : List Nat} {one : Bool} {i : Nat} {body : List SB.St} {st : Stmt} (h : mS N sc (.forD is one i body) st = true) : ∃ t y p' b p, st = .For t (.Name y p') b [] p ∧ targetB N sc is one t = true ∧ varB N sc i y = true ∧ mSs N sc body b = true := by
  obtain ⟨⟨t, it, b⟩, hv, h⟩ := anyT h
  obtain ⟨p, rfl⟩ := sFor_some hv
  obtain ⟨y, hy, h⟩ := anyT h
  have hy : vNm it = some y := hy
  obtain ⟨py, rfl⟩ := vNm_some hy
  obtain ⟨h, h3⟩ := andT h
  obtain ⟨h1, h2⟩ := andT h
  exact ⟨_, _, _, _, _, rfl, h1, h2, h3⟩
theorem inv_while {N : List Str} {sc : Sc} {c : Ex} {body : List SB.St} {st : Stmt} (h : mS N sc (.while c body) st = true) : ∃ t b p, st = .While t b [] p ∧ mE N sc c t = true ∧ tOk c = true ∧ mSs N sc body b = true := by
  obtain ⟨⟨t, b⟩, hv, h⟩ := anyT h
  obtain ⟨p, rfl⟩ := sWhile_some hv
  obtain ⟨h, h3⟩ := andT h
  obtain ⟨h1, h2⟩ := andT h
  exact ⟨_, _, _, rfl, h1, h2, h3⟩
theorem isFrz_ok {s : SB.St} (h : isFrz s = true) : ∃ is, s = .frz is := by
  unfold isFrz at h
  split at h
  · exact ⟨_, rfl⟩
  · cases h
theorem inv_cons {N : List Str} {sc : Sc} {s : SB.St} {ss : List SB.St} {xs : List Stmt} (h : mSs N sc (s :: ss) xs = true) : (∃ is, s = .frz is ∧ mSs N sc ss xs = true) ∨ ∃ x ys, xs = x :: ys ∧ mS N sc s x = true ∧ mSs N sc ss ys = true := by
  cases xs with
  | nil =>
    have h : (if isFrz s = true then mSs N sc ss [] else false) = true := h
    by_cases hf : isFrz s = true
    · rw [if_pos hf] at h
      obtain ⟨is, rfl⟩ := isFrz_ok hf
      exact .inl ⟨is, rfl, h⟩
    · rw [if_neg hf] at h
      exact (Bool.false_ne_true h).elim
  | cons x xs =>
    have h : (if isFrz s = true then mSs N sc ss (x :: xs) else mS N sc s x && mSs N sc ss xs) = true := h
    by_cases hf : isFrz s = true
    · rw [if_pos hf] at h
      obtain ⟨is, rfl⟩ := isFrz_ok hf
      exact .inl ⟨is, rfl, h⟩
    · rw [if_neg hf] at h
      obtain ⟨h1, h2⟩ := andT h
      exact .inr ⟨_, _, rfl, h1, h2⟩
theorem inv_nil {N : List Str} {sc : Sc} {xs : List Stmt} (h : mSs N sc [] xs = true) : xs = [] := by
  cases xs with
  | nil => rfl
  | cons _ _ => exact (Bool.false_ne_true h).elim
mutual
theorem sndS (Φ : Tab) (k : Nat) (X : Cx) (sc : Sc) (S : SOk X Φ sc k) : ∀ (s : SB.St) (st : Stmt), mS X.N sc s st = true → PS X st (tS Φ X.KW s)
  | .asg i e, st, h => snd_asg S i e st h
  | .mv i j, st, h => snd_mv S i j st h
  | .asgT is e, st, h => snd_asgT S is e st h
  | .par is es, st, h => snd_par S is es st h
  | .init i, st, h => snd_init S i st h
  | .aug o i e, st, h => snd_aug S o i e st h
  | .app i e, st, h => snd_app S i e st h
  | .ext i e, st, h => snd_ext S i e st h
  | .popA i j, st, h => snd_popA S i j st h
  | .appPop i j e, st, h => snd_appPop S i j e st h
  | .put a0 a1 a2, st, h => snd_put S a0 a1 a2 st h
  | .setd a0 a1 a2, st, h => snd_setd S a0 a1 a2 st h
  | .grp a0 a1 a2 a3 a4, st, h => snd_grp S a0 a1 a2 a3 a4 st h
  | .parT is es, st, h => snd_parT S is es st h
  | .setL a0 a1 a2, st, h => snd_setL S a0 a1 a2 st h
  | .popL a0 a1, st, h => snd_popL S a0 a1 st h
  | .expr e, st, h => snd_expr S e st h
  | .frz a0, st, h => snd_frz S a0 st h
  | .ret e, st, h => snd_ret S e st h
  | .retv i, st, h => snd_retv S i st h
  | .pass, st, h => snd_pass S st h
  | .never, st, h => snd_never S st h
  | .ifs c a b, st, h => by
    obtain ⟨t, x, y, p, e, h1, h2, h3, h4⟩ := inv_ifs h
    rw [e]
    exact s_if ((sndE Φ k c X sc t S.ok h1).pt h2) (sndSs Φ k X sc S a x h3) (sndSs Φ k X sc S b y h4)
  | .for is one ik args body, st, h => by
    obtain ⟨t, it, b, p, xs, e, h1, hit, h2, hz, h3⟩ := inv_for h
    rw [e]
    have hL := sndL Φ k args X sc xs S.ok h2
    obtain ⟨_, pk, hfs⟩ := pi_ok (tg := is) (tx := t) S.ok hit hL hz (target_tup h1)
    exact s_for S.po S.ok.calm pk ((targetB_ok S.ok h1).pg S.ok.calm S.ok.nd) (sndSs Φ k X sc S body b h3) hfs
  | .forO is one i body, st, h => by
    obtain ⟨t, y, p', b, p, e, h1, h2, h3⟩ := inv_forO h
    rw [e]
    exact s_forO S.po S.ok.calm (pi_seqD (varB_ok S.ok h2)) ((targetB_ok S.ok h1).pg S.ok.calm S.ok.nd) (sndSs Φ k X sc S body b h3) (fun _ => rfl)
  | .forD is one i body, st, h => by
    obtain ⟨t, y, p', b, p, e, h1, h2, h3⟩ := inv_forD h
    rw [e]
    exact s_forD S.po S.ok.calm (varB_ok S.ok h2) ((targetB_ok S.ok h1).pg S.ok.calm S.ok.nd) (sndSs Φ k X sc S body b h3) (fun _ => rfl)
  | .iput i a, st, h => snd_iput S i a st h
  | .while c body, st, h => by
    obtain ⟨t, b, p, e, h1, h2, h3⟩ := inv_while h
    rw [e]
    exact s_while S.po ((sndE Φ k c X sc t S.ok h1).pt h2) (sndSs Φ k X sc S body b h3)
theorem sndSs (Φ : Tab) (k : Nat) (X : Cx) (sc : Sc) (S : SOk X Φ sc k) : ∀ (ss : List SB.St) (xs : List Stmt), mSs X.N sc ss xs = true → PSs X xs (tSs Φ X.KW ss)
  | [], xs, h => by
    rw [inv_nil h]
    exact ss_nil
  | s :: ss, xs, h => by
    rcases inv_cons h with ⟨is, e, h1⟩ | ⟨x, ys, e, h1, h2⟩
    · rw [e]
      exact ss_frz (sndSs Φ k X sc S ss xs h1)
    · rw [e]
      exact ss_cons (sndS Φ k X sc S s x h1) (sndSs Φ k X sc S ss ys h2)
end
end SB
/-! A def keeps its promise. -/
namespace SB
open PySem PySem.Spec PyProof.Rows L2

section
variable {P : Program} {w : World} {K : PySem.W.Frag} {mg : Str → Option Value} {base : Heap}
theorem sv_of_rr {S : Option Addr} {G H : Hp} {v : V} {r : Sl} (h : RR ⟨K, w⟩ S H G H v r) (ha : argOk r = true) : SV ⟨K, w⟩ S H G H v r := by
  cases r with
  | fz d => exact h
  | ow d => cases ha
  | bw d =>
    obtain ⟨a, e, hS, ho⟩ := h
    exact ⟨a, e, own_there ho, hS, ho⟩
  | st => exact h
theorem rrs_get {S : Option Addr} {G H : Hp} : ∀ {vs : List V} {args : List Sl}, RRs ⟨K, w⟩ S H G H vs args → args.all argOk = true → ∀ (i : Nat) s, args[i]? = some s → ∃ v, vs[i]? = some v ∧ SV ⟨K, w⟩ S H G H v s
  | _, _, .nil, _, i, s, h => by simp at h
  | _, _, .cons h t, ha, 0, s, e => by
    rw [List.all_cons, Bool.and_eq_true] at ha
    cases e
    exact ⟨_, rfl, sv_of_rr h ha.1⟩
  | _, _, .cons h t, ha, i + 1, s, e => by
    rw [List.all_cons, Bool.and_eq_true] at ha
    exact rrs_get t ha.2 i s e
theorem rrs_len {S : Option Addr} {H0 G H : Hp} : ∀ {vs : List V} {args : List Sl}, RRs ⟨K, w⟩ S H0 G H vs args → vs.length = args.length
  | _, _, .nil => rfl
  | _, _, .cons _ t => congrArg (· + 1) (rrs_len t)
theorem args_get {args : List Sl} {n : Nat} {i : Nat} {s : Sl} (h : (args.map some ++ List.replicate n none)[i]? = some (some s)) : args[i]? = some s := by
  by_cases hi : i < args.length
  · rw [List.getElem?_append_left (by simpa using hi), List.getElem?_map] at h
    cases e : args[i]? with
    | none => rw [e] at h; cases h
    | some x => rw [e] at h; cases h; rfl
  · rw [List.getElem?_append_right (by simpa using hi), List.getElem?_replicate] at h
    split at h <;> cases h
theorem sr_start {S : Option Addr} {c : Option Nat} {G H : Hp} {vs : List V} {args : List Sl} {N : List Str} (sm : Same G H) (st : Sta S c G H) (hr : RRs ⟨K, w⟩ S H G H vs args) (ha : args.all argOk = true) :
    SR ⟨K, w⟩ S G H S c (args.map some ++ List.replicate (N.length - args.length) none) (L2.start N vs) G H := by
  have hl := rrs_len hr
  refine ⟨sm, st, .refl, .inl rfl, ?_, fun i s h => ?_, fun i j d d' a h1 => ?_⟩
  · unfold L2.start
    rw [List.length_append, List.length_append, List.length_map, List.length_map, List.length_replicate, List.length_replicate, hl]
  · obtain ⟨v, e, hv⟩ := rrs_get hr ha i s (args_get h)
    refine ⟨v, ?_, hv⟩
    have hi := (List.getElem?_eq_some_iff.mp e).1
    unfold L2.start
    rw [List.getElem?_append_left (by simpa using hi), List.getElem?_map, e]
    rfl
  · have e := args_get h1
    have := List.all_eq_true.mp ha _ (List.mem_of_getElem? e)
    cases this
/-- the context of a def's body -/
theorem sok_of {x qual : Str} {sc : Scope} {N ps : List Str} {k : Nat} {f : Addr} {cdv : Value} {A : Around} {outer : List Env} {s : Shared} {H : Hp} {E : XK} {Φ : Tab} (S : FnScope N ps sc) (T : TabOk P w ⟨K, w⟩ mg base k Φ) (hr : Room k (A.deeper (envOfC qual sc s.heap.objs.size f cdv))) :
    SOk (cxOf CX0 P w K mg base N qual sc f cdv A outer s H E).nox Φ sc.names k := by
  refine ⟨⟨rfl, S.nd, hr, T, fun y h => ?_, fun y h => ?_, fun y h => ?_, fun y h => h⟩, S.kind, rfl, PassesOwn.never⟩
  · show Vis sc y
    unfold visB at h
    unfold Vis
    split at h
    · exact .inl (by assumption)
    · exact .inr (.inl (by assumption))
    · exact .inr (.inr (by assumption))
    · cases h
  · refine ⟨?_, .inl rfl⟩
    show L2.Loc sc y
    unfold locB at h
    unfold L2.Loc
    split at h
    · exact .inl (by assumption)
    · exact .inr (by assumption)
    · cases h
  · show sc.names.lookup y = some .globalImplicit
    unfold glB at h
    split at h
    · assumption
    · cases h
theorem runD_some {Φ : Tab} {d : Df} {args : List Sl} {c c' : Option Nat} {r : Sl} (h : runD Φ d args c = some (r, c')) : args.length = d.np ∧ ∃ fl, exs Φ d.body (args.map some ++ List.replicate (d.N.length - d.np) none) c = some (fl, c') ∧ r = (match fl with | .nx _ => .fz .none | .rt v => v) := by
  unfold runD at h
  split at h
  · rename_i hl
    replace h := M.bind_some h
    obtain ⟨fl, c1, h1, h⟩ := h
    refine ⟨hl.1, fl, ?_⟩
    cases fl with
    | nx ρ => cases h; exact ⟨h1, rfl⟩
    | rt v => cases h; exact ⟨h1, rfl⟩
  · cases h
theorem def_ok {x qual : Str} {st : Stmt} {f : Addr} {fd : FuncData} {ps : List Str} {k : Nat} {Φ : Tab} {d : Df} (F : Fun K x qual st f fd) (S : FnScope d.N ps (defScope st)) (hn : d.np = ps.length) (T : TabOk P w ⟨K, w⟩ mg base k Φ) (hm : mSs d.N (defScope st).names d.body (defBody st) = true) :
    FnOk P w K mg base CX0 (k + 1) f fd ps (spF ⟨K, w⟩ (guardF (runD Φ d))) := by
  refine F.ok S (fun vs H Q E h => ?_) (fun cdv A outer s H vs Q E hr h => ?_)
  · obtain ⟨S1, c, G, args, r, c', sm, st1, hv, ha, hg, q⟩ := h
    obtain ⟨hg, _⟩ := guardF_some hg
    rw [rrs_len hv, (runD_some hg).1, hn]
  · obtain ⟨S1, c, G, args, r, c', sm, st1, hv, ha, hg, q⟩ := h
    obtain ⟨hg, hc⟩ := guardF_some hg
    obtain ⟨hl, fl, hx, hfl⟩ := runD_some hg
    have so := sok_of (x := x) (A := A) (outer := outer) (s := s) (H := H) (E := E) (cdv := cdv) (qual := qual) (f := f) S T hr
    refine ⟨_, sndSs Φ k _ _ so d.body (defBody st) hm, S1, G, H, S1, c, _, G, sr_start (N := d.N) sm st1 hv ha, fl, c', ?_, ?_⟩
    · rw [hl]
      exact hx
    · have same : ∀ {S2 : Option Addr} {G2 H2 : Hp}, Sta S2 c' G2 H2 → (S1 = S2 ∨ (S1 = none ∧ ∃ p, S2 = some p ∧ H p = none)) → S1 = S2 := by
        intro S2 G2 H2 h1 h2
        rcases h2 with h2 | ⟨e1, p, e2, _⟩
        · exact h2
        · exfalso
          obtain ⟨_, n, e3, _⟩ := h1.out e2
          subst e1
          subst e3
          cases c with
          | none => cases hc
          | some m => exact st1.elim
      cases fl with
      | nx ρ =>
        subst hfl
        intro S2 σ G2 H2 sr g
        have e := same sr.sta sr.ss
        subst e
        exact q _ _ _ ⟨sr.sub, sr.sta, sr.kp⟩ .non
      | rt v =>
        subst hfl
        intro S2 u G2 H2 sm2 st2 kp2 ss2 rr
        have e := same st2 ss2
        subst e
        exact q _ _ _ ⟨sm2, st2, kp2⟩ rr
/-- the law's own def: it is given the script, it says True -/
def spL (K : PySem.W.Frag) (g : Fn) : Sp := fun vs H Q _ => ∃ (a : Addr) (ns : List Int) (c' : Option Nat), vs = [.ref a] ∧ SqL K H a (ns.map V.int) ∧ g [.fz (.list (ns.map .int))] none = some (.fz (.bool true), c') ∧ ∀ H', Q (.bl true) H'
theorem dq_ints {G : Hp} : ∀ ns : List Int, DqAll ⟨K, w⟩ G (ns.map V.int) (ns.map .int)
  | [] => .nil
  | n :: ns => .cons (.int n) (dq_ints ns)
theorem law_ok {x qual : Str} {st : Stmt} {f : Addr} {fd : FuncData} {p : Str} {k : Nat} {Φ : Tab} {d : Df} (F : Fun K x qual st f fd) (S : FnScope d.N [p] (defScope st)) (hn : d.np = 1) (T : TabOk P w ⟨K, w⟩ mg base k Φ) (hm : mSs d.N (defScope st).names d.body (defBody st) = true) :
    FnOk P w K mg base CX0 (k + 1) f fd [p] (spL K (runD Φ d)) := by
  refine F.ok S (fun vs H Q E h => ?_) (fun cdv A outer s H vs Q E hr h => ?_)
  · obtain ⟨a, ns, c', rfl, _⟩ := h
    rfl
  · obtain ⟨a, ns, c', rfl, hS, hg, q⟩ := h
    obtain ⟨hl, fl, hx, hfl⟩ := runD_some hg
    have so := sok_of (x := x) (A := A) (outer := outer) (s := s) (H := H) (E := E) (cdv := cdv) (qual := qual) (f := f) S T hr
    refine ⟨_, sndSs Φ k _ _ so d.body (defBody st) hm, none, H, H, none, none, _, H, sr_start (K := K) (S := none) (c := none) (G := H) (args := [.fz (.list (ns.map .int))]) (N := d.N) (Same.refl _) trivial (.cons (.lst hS (dq_ints ns)) .nil) rfl, fl, c', ?_, ?_⟩
    · rw [hl]
      exact hx
    · cases fl with
      | nx ρ => cases hfl
      | rt v =>
        subst hfl
        intro S2 u G2 H2 sm2 st2 kp2 ss2 rr
        cases rr
        exact q _
/-! ### the table grows -/
def Tab.add (Φ : Tab) (x : Str) (g : Fn) : Tab := { Φ with fn := fun y => if y = x then some g else Φ.fn y }
theorem tab_add {x qual : Str} {st : Stmt} {f : Addr} {fd : FuncData} {ps : List Str} {k : Nat} {Φ : Tab} {d : Df} (T : TabOk P w ⟨K, w⟩ mg base k Φ) (hx : mg x = some (.ref f)) (F : Fun K x qual st f fd) (B : Binds K fd ps []) (S : FnScope d.N ps (defScope st)) (hn : d.np = ps.length)
    (hm : mSs d.N (defScope st).names d.body (defBody st) = true) : TabOk P w ⟨K, w⟩ mg base (k + 1) (Φ.add x (guardF (runD Φ d))) := by
  have G := def_ok (base := base) F S hn T hm
  refine ⟨fun y g e => ?_, T.gl, T.gd, T.bl⟩
  unfold Tab.add at e
  by_cases hy : y = x
  · subst hy
    simp only [if_true] at e
    cases e
    exact ⟨f, fd, ps, hx, F.kp, B, G⟩
  · simp only [hy, if_false] at e
    exact (T.mono (Nat.le_succ k)).fn y g e
end
end SB
/-! The table of a law: what each def computes, given what its callees compute. -/
namespace SB
open PySem PySem.Spec PyProof.Rows L2

section
variable {P : Program} {w : World} {K : PySem.W.Frag} {mg : Str → Option Value} {base : Heap}
abbrev TabF (P : Program) (w : World) (K : PySem.W.Frag) (mg : Str → Option Value) (base : Heap) (k : Nat) (Φ : Tab) : Prop := TabOk P w ⟨K, w⟩ mg base k Φ
def At (P : Program) (w : World) (K : PySem.W.Frag) (mg : Str → Option Value) (base : Heap) (k : Nat) (x : Str) (S : Fn) : Prop := ∃ f fd ps, mg x = some (.ref f) ∧ PySem.W.keepIn K (.ref f) = true ∧ Binds K fd ps [] ∧ FnOk P w K mg base CX0 k f fd ps (spF ⟨K, w⟩ S)
theorem At.mono {j k : Nat} {x : Str} {S : Fn} (h : At P w K mg base j x S) (l : j ≤ k) : At P w K mg base k x S := let ⟨f, fd, ps, h1, h2, h3, h4⟩ := h; ⟨f, fd, ps, h1, h2, h3, h4.mono l⟩
/-- the entries of a dict of the module -/
inductive Ents (P : Params) : List DictEntry → List (Str × Int) → Prop
  | nil : Ents P [] []
  | cons {e : DictEntry} {x : Str} {i : Int} {t t' : Nat} {l : List DictEntry} {kvs : List (Str × Int)} : e.key = .str x t → e.val = .int i t' → e.hash = PyData.keyHash P x → Ents P l kvs → Ents P (e :: l) ((x, i) :: kvs)
theorem Ents.lit {P : Params} {l : List DictEntry} {kvs : List (Str × Int)} (h : Ents P l kvs) : PySem.W.KeysLit P l := by
  induction h with
  | nil => trivial
  | cons h1 _ h3 _ ih => exact ⟨⟨_, _, h1, h3⟩, ih⟩
theorem Ents.refk {P : Params} {l : List DictEntry} {kvs : List (Str × Int)} (h : Ents P l kvs) : l.any (·.refKey) = false := by
  induction h with
  | nil => rfl
  | cons h1 _ _ _ ih =>
    rw [List.any_cons, ih, Bool.or_false]
    unfold DictEntry.refKey
    rw [h1]
theorem Ents.find {P : Params} {l : List DictEntry} {kvs : List (Str × Int)} (h : Ents P l kvs) (z : Str) : (match kvs.lookup z with
    | none => l.find? (·.key.isStr z) = none
    | some i => ∃ e t, l.find? (·.key.isStr z) = some e ∧ e.val = .int i t) := by
  induction h with
  | nil => rfl
  | cons h1 h2 _ _ ih =>
    rename_i e x i t t' l kvs _ _
    rw [List.lookup_cons, List.find?_cons, h1]
    by_cases q : z = x
    · subst q
      have e1 : (Value.str z t).isStr z = true := by
        show (z == z) = true
        exact beq_self_eq_true z
      rw [e1, beq_self_eq_true z]
      exact ⟨e, t', rfl, h2⟩
    · have e1 : (Value.str x t).isStr z = false := by
        show (x == z) = false
        exact beq_false_of_ne (Ne.symm q)
      have e2 : (z == x) = false := beq_false_of_ne q
      rw [e1, e2]
      exact ih
theorem tab_nil {tL : Nat} {dR : Addr} {es : Array DictEntry} {n : Nat} {k : Nat} (hL : mg "LETTERS" = some (.str lettersT tL)) (hR : mg "READS" = some (.ref dR)) (hD : K.lookup dR = some ⟨.type "dict", none, .dict es n, #[]⟩) (hE : Ents w.params es.toList readsL) (hs : (dR == sysModules) = false) (bl : ∀ x ∈ bltNames, mg x = none) :
    TabOk P w ⟨K, w⟩ mg base k (tabOf []) := by
  refine ⟨fun x g e => ?_, fun x d e => ?_, fun x kvs e => ?_, bl⟩
  · cases e
  · have e : (if x = "LETTERS" then some (PyData.str lettersT) else none) = some d := e
    split at e
    · rename_i q
      cases e
      subst q
      exact ⟨_, .str lettersT, hL, ⟨_, rfl⟩, .str _⟩
    · cases e
  · have e : (if x = "READS" then some readsL else none) = some kvs := e
    split at e
    · rename_i q
      cases e
      subst q
      refine ⟨dR, es, n, hR, ⟨hD, hE.lit, hs⟩, fun z => ?_⟩
      have f := hE.find z
      unfold PySem.W.nsIn
      rw [hD]
      simp only
      cases q : readsL.lookup z with
      | none =>
        rw [q] at f
        simp only at f
        rw [f]
        simp only [hE.refk, Bool.false_eq_true, if_false]
        exact ⟨none, rfl, rfl⟩
      | some i =>
        rw [q] at f
        obtain ⟨e, t, f1, f2⟩ := f
        rw [f1]
        exact ⟨some e.val, rfl, t, by rw [f2]⟩
    · cases e
theorem tab_cons {x : Str} {S : Fn} {k : Nat} {l : List (Str × Fn)} (a : At P w K mg base k x S) (T : TabOk P w ⟨K, w⟩ mg base k (tabOf l)) : TabOk P w ⟨K, w⟩ mg base k (tabOf ((x, S) :: l)) := by
  refine ⟨fun y g e => ?_, T.gl, T.gd, T.bl⟩
  have e : ((x, S) :: l).lookup y = some g := e
  rw [List.lookup_cons] at e
  by_cases q : y = x
  · subst q
    rw [beq_self_eq_true y] at e
    cases e
    exact a
  · rw [beq_false_of_ne q] at e
    exact T.fn y g e
theorem at_def {x : Str} {st : Stmt} {f : Addr} {fd : FuncData} {ps : List Str} {k : Nat} {l : List (Str × Fn)} {d : Df} (T : TabOk P w ⟨K, w⟩ mg base k (tabOf l)) (hx : mg x = some (.ref f)) (F : Fun K x x st f fd) (B : Binds K fd ps []) (S : FnScope d.N ps (defScope st)) (hn : d.np = ps.length)
    (hm : mSs d.N (defScope st).names d.body (defBody st) = true) : At P w K mg base (k + 1) x (guardF (runD (tabOf l) d)) := ⟨f, fd, ps, hx, F.kp, B, def_ok F S hn T hm⟩
theorem at_rec {x : Str} {st : Stmt} {f : Addr} {fd : FuncData} {ps : List Str} {k : Nat} {l : Fn → List (Str × Fn)} {d : Df} (T : ∀ g j, k ≤ j → At P w K mg base j x g → TabOk P w ⟨K, w⟩ mg base j (tabOf (l g))) (hx : mg x = some (.ref f)) (F : Fun K x x st f fd) (B : Binds K fd ps []) (S : FnScope d.N ps (defScope st)) (hn : d.np = ps.length)
    (hm : mSs d.N (defScope st).names d.body (defBody st) = true) : ∀ n, At P w K mg base (k + n) x (recF (fun g => tabOf (l g)) d n)
  | 0 => ⟨f, fd, ps, hx, F.kp, B, ⟨fun vs H Q E h => (by obtain ⟨_, _, _, _, _, _, _, _, _, _, h, _⟩ := h; cases h), fun A outer s H args us vs Q E _ _ _ _ h => (by obtain ⟨_, _, _, _, _, _, _, _, _, _, h, _⟩ := h; cases h)⟩⟩
  | n + 1 => at_def (T _ (k + n) (Nat.le_add_right _ _) (at_rec T hx F B S hn hm n)) hx F B S hn hm
end
/-- where a def of the text stands behind the top -/
def DefAt (K : PySem.W.Frag) (x : Str) (st : Stmt) : Prop := ∃ (f : Addr) (oc kV dc pm cd ct : Value) (od an : Option Addr) (sl : Array (Option Value)), PySem.W.nsIn K mainGlobals x = some (some (.ref f)) ∧
  K.lookup f = some ⟨oc, od, .func (PySem.W.fnOf x x (defArgs st) (defBody st) (defScope st) .none kV dc pm an cd ct), sl⟩ ∧ PySem.W.codeIn K cd x = true ∧ PySem.W.keepIn K (.ref f) = true
theorem DefAt.of {K : PySem.W.Frag} {x : Str} {st : Stmt} {f : Addr} {oc kV dc pm cd ct : Value} {od an : Option Addr} {sl : Array (Option Value)} (a : PySem.W.nsIn K mainGlobals x = some (some (.ref f)))
    (l : K.lookup f = some ⟨oc, od, .func (PySem.W.fnOf x x (defArgs st) (defBody st) (defScope st) .none kV dc pm an cd ct), sl⟩) (c : PySem.W.codeIn K cd x = true) (k : PySem.W.keepIn K (.ref f) = true) : DefAt K x st := ⟨f, oc, kV, dc, pm, cd, ct, od, an, sl, a, l, c, k⟩
theorem bl_of {K : PySem.W.Frag} (z0 : PySem.W.nsIn K mainGlobals "len" = some none) (z1 : PySem.W.nsIn K mainGlobals "all" = some none) (z2 : PySem.W.nsIn K mainGlobals "any" = some none) (z3 : PySem.W.nsIn K mainGlobals "list" = some none) (z4 : PySem.W.nsIn K mainGlobals "tuple" = some none) (z5 : PySem.W.nsIn K mainGlobals "min" = some none) (z6 : PySem.W.nsIn K mainGlobals "max" = some none) (z7 : PySem.W.nsIn K mainGlobals "sum" = some none) (z8 : PySem.W.nsIn K mainGlobals "sorted" = some none) (z9 : PySem.W.nsIn K mainGlobals "str" = some none) (z10 : PySem.W.nsIn K mainGlobals "int" = some none) (z11 : PySem.W.nsIn K mainGlobals "bool" = some none) (z12 : PySem.W.nsIn K mainGlobals "isinstance" = some none) (z13 : PySem.W.nsIn K mainGlobals "range" = some none) (z14 : PySem.W.nsIn K mainGlobals "enumerate" = some none) (z15 : PySem.W.nsIn K mainGlobals "zip" = some none) (z16 : PySem.W.nsIn K mainGlobals "set" = some none) : ∀ x ∈ bltNames, PySem.W.nsIn K mainGlobals x = some none := by
  intro x hx
  simp only [bltNames, List.mem_cons, List.not_mem_nil, or_false] at hx
  rcases hx with rfl | rfl | rfl | rfl | rfl | rfl | rfl | rfl | rfl | rfl | rfl | rfl | rfl | rfl | rfl | rfl | rfl
  · exact z0
  · exact z1
  · exact z2
  · exact z3
  · exact z4
  · exact z5
  · exact z6
  · exact z7
  · exact z8
  · exact z9
  · exact z10
  · exact z11
  · exact z12
  · exact z13
  · exact z14
  · exact z15
  · exact z16
end SB
namespace SB
open PySem
def d__law_cell_at : Df where
  N := ["script", "k", "spare", "again"]
  np := 2
  body := [
    .ifs (.cmp .Lt (.v 1) (.blt .len [.v 0])) [.ret (.ix (.v 0) (.v 1))] [],
    .ifs (.cmp .Eq (.v 0) (.lst [])) [.ret (.int 0)] [],
    .asg 2 (.ix (.v 0) (.bin .Mod (.v 1) (.blt .len [.v 0]))),
    .for [3] true .range [.blt .min [.bin .FloorDiv (.v 1) (.blt .len [.v 0]), .int 60]] [.asg 2 (.bin .FloorDiv (.v 2) (.int 1000003))],
    .ret (.bin .Add (.bin .Add (.bin .Mult (.ix (.v 0) (.bin .Mod (.v 1) (.blt .len [.v 0]))) (.int 31)) (.v 1)) (.bin .Mult (.v 2) (.int 101)))]
def T__law_cell_at : Tab := tabOf []
def S__law_cell_at : Fn := guardF (runD T__law_cell_at d__law_cell_at)
def d__law_mixed : Df where
  N := ["script", "k", "many", "spun"]
  np := 3
  body := [
    .asg 3 (.bin .Mod (.bin .Add (.bin .Add (.bin .Mult (.call "_law_cell_at" [.v 0, .v 1]) (.int 1103515245)) (.bin .Mult (.int 7919) (.v 1))) (.int 12345)) (.int 2147483647)),
    .ret (.bin .Mod (.bin .Mod (.bin .Mod (.bin .Pow (.v 3) (.int 5)) (.int 2147483647)) (.int 999983)) (.v 2))]
def T__law_mixed : Tab := tabOf [("_law_cell_at", S__law_cell_at)]
theorem T__law_mixed__law_cell_at : T__law_mixed.fn "_law_cell_at" = some S__law_cell_at := by rfl
def S__law_mixed : Fn := guardF (runD T__law_mixed d__law_mixed)
def d__law_draw : Df where
  N := ["script", "state", "many"]
  np := 3
  body := [
    .app 1 (.int 0),
    .ret (.call "_law_mixed" [.v 0, .lenS 1, .v 2])]
def T__law_draw : Tab := tabOf [("_law_mixed", S__law_mixed)]
theorem T__law_draw__law_mixed : T__law_draw.fn "_law_mixed" = some S__law_mixed := by rfl
def S__law_draw : Fn := guardF (runD T__law_draw d__law_draw)
def d__law_pick : Df where
  N := ["script", "state", "some"]
  np := 3
  body := [
    .ret (.ix (.v 2) (.call "_law_draw" [.v 0, .v 1, .blt .len [.v 2]]))]
def T__law_pick : Tab := tabOf [("_law_draw", S__law_draw)]
theorem T__law_pick__law_draw : T__law_pick.fn "_law_draw" = some S__law_draw := by rfl
def S__law_pick : Fn := guardF (runD T__law_pick d__law_pick)
def d_is_text : Df where
  N := ["value", "most", "sign"]
  np := 2
  body := [
    .ret (.and (.isa (.v 0) .str) (.and (.cmp .LtE (.blt .len [.v 0]) (.v 1)) (.blt .all [.comp (.cmp .In (.v 2) (.gl "LETTERS")) [2] [2] true .seq [.v 0] []])))]
def T_is_text : Tab := tabOf []
def S_is_text : Fn := guardF (runD T_is_text d_is_text)
def d_rises : Df where
  N := ["some", "one", "other"]
  np := 1
  body := [
    .ret (.blt .all [.comp (.cmp .Lt (.v 1) (.v 2)) [1, 2] [1, 2] false .zip [.v 0, .sl (.v 0) [.int 1] []] []])]
def T_rises : Tab := tabOf []
def S_rises : Fn := guardF (runD T_rises d_rises)
def d_is_thing : Df where
  N := ["value", "one"]
  np := 1
  body := [
    .ifs (.or (.not (.isa (.v 0) .tuple)) (.or (.not (.chain .LtE .LtE (.int 1) (.blt .len [.v 0]) (.int 4))) (.not (.blt .all [.comp (.call "is_text" [.v 1, .int 4]) [1] [1] true .seq [.v 0] []])))) [.ret (.bl false)] [],
    .ret (.call "rises" [.v 0])]
def T_is_thing : Tab := tabOf [("is_text", S_is_text), ("rises", S_rises)]
theorem T_is_thing_is_text : T_is_thing.fn "is_text" = some S_is_text := by rfl
theorem T_is_thing_rises : T_is_thing.fn "rises" = some S_rises := by rfl
def S_is_thing : Fn := guardF (runD T_is_thing d_is_thing)
def d_are_things : Df where
  N := ["value", "count", "thing", "one"]
  np := 1
  body := [
    .ifs (.or (.not (.isa (.v 0) .tuple)) (.or (.not (.chain .LtE .LtE (.int 1) (.blt .len [.v 0]) (.int 5))) (.not (.blt .all [.comp (.call "is_thing" [.v 3]) [3] [3] true .seq [.v 0] []])))) [.ret (.bl false)] [],
    .asg 1 (.int 1),
    .for [2] true .seq [.v 0] [.aug .Mult 1 (.blt .len [.v 2])],
    .ret (.cmp .LtE (.v 1) (.int 256))]
def T_are_things : Tab := tabOf [("is_thing", S_is_thing)]
theorem T_are_things_is_thing : T_are_things.fn "is_thing" = some S_is_thing := by rfl
def S_are_things : Fn := guardF (runD T_are_things d_are_things)
def d_is_integer : Df where
  N := ["value", "low", "high"]
  np := 3
  body := [
    .ret (.and (.isa (.v 0) .int) (.and (.not (.isa (.v 0) .bool)) (.chain .LtE .LtE (.v 1) (.v 0) (.v 2))))]
def T_is_integer : Tab := tabOf []
def S_is_integer : Fn := guardF (runD T_is_integer d_is_integer)
def d_is_reading : Df where
  N := ["things", "steps", "value"]
  np := 3
  body := [
    .ifs (.or (.not (.isa (.v 2) .tuple)) (.or (.cmp .NotEq (.blt .len [.v 2]) (.int 2)) (.not (.isa (.ix (.v 2) (.int 0)) .str)))) [.ret (.bl false)] [],
    .ifs (.cmp .Eq (.ix (.v 2) (.int 0)) (.str "thing")) [.ret (.call "is_integer" [.ix (.v 2) (.int 1), .int 0, .bin .Sub (.v 0) (.int 1)])] [],
    .ret (.and (.cmp .Eq (.ix (.v 2) (.int 0)) (.str "step")) (.call "is_integer" [.ix (.v 2) (.int 1), .int 0, .bin .Sub (.v 1) (.int 1)]))]
def T_is_reading : Tab := tabOf [("is_integer", S_is_integer)]
theorem T_is_reading_is_integer : T_is_reading.fn "is_integer" = some S_is_integer := by rfl
def S_is_reading : Fn := guardF (runD T_is_reading d_is_reading)
def d_is_step : Df where
  N := ["things", "steps", "value", "one"]
  np := 3
  body := [
    .ifs (.or (.not (.isa (.v 2) .tuple)) (.or (.cmp .NotEq (.blt .len [.v 2]) (.int 2)) (.or (.not (.isa (.ix (.v 2) (.int 0)) .str)) (.inG true (.ix (.v 2) (.int 0)) "READS")))) [.ret (.bl false)] [],
    .ifs (.or (.not (.isa (.ix (.v 2) (.int 1)) .tuple)) (.cmp .NotEq (.blt .len [.ix (.v 2) (.int 1)]) (.getG "READS" (.ix (.v 2) (.int 0))))) [.ret (.bl false)] [],
    .ret (.blt .all [.comp (.call "is_reading" [.v 0, .v 1, .v 3]) [3] [3] true .seq [.ix (.v 2) (.int 1)] []])]
def T_is_step : Tab := tabOf [("is_reading", S_is_reading)]
theorem T_is_step_is_reading : T_is_step.fn "is_reading" = some S_is_reading := by rfl
def S_is_step : Fn := guardF (runD T_is_step d_is_step)
def d_are_numbers : Df where
  N := ["value", "low", "high", "one"]
  np := 3
  body := [
    .ret (.and (.isa (.v 0) .tuple) (.and (.blt .all [.comp (.call "is_integer" [.v 3, .v 1, .v 2]) [3] [3] true .seq [.v 0] []]) (.call "rises" [.v 0])))]
def T_are_numbers : Tab := tabOf [("is_integer", S_is_integer), ("rises", S_rises)]
theorem T_are_numbers_is_integer : T_are_numbers.fn "is_integer" = some S_is_integer := by rfl
theorem T_are_numbers_rises : T_are_numbers.fn "rises" = some S_rises := by rfl
def S_are_numbers : Fn := guardF (runD T_are_numbers d_are_numbers)
def d_stands : Df where
  N := ["value", "things", "steps", "made", "number", "step"]
  np := 1
  body := [
    .ifs (.or (.not (.isa (.v 0) .tuple)) (.or (.cmp .NotEq (.blt .len [.v 0]) (.int 3)) (.not (.call "are_things" [.ix (.v 0) (.int 0)])))) [.ret (.bl false)] [],
    .asgT [1, 2, 3] (.v 0),
    .ifs (.or (.not (.isa (.v 2) .tuple)) (.not (.chain .LtE .LtE (.int 1) (.blt .len [.v 2]) (.int 8)))) [.ret (.bl false)] [],
    .ifs (.not (.blt .all [.comp (.call "is_step" [.blt .len [.v 1], .v 4, .v 5]) [4, 5] [4, 5] false .enum [.v 2] []])) [.ret (.bl false)] [],
    .ret (.and (.call "are_numbers" [.v 3, .int 0, .bin .Sub (.blt .len [.v 2]) (.int 1)]) (.chain .LtE .LtE (.int 1) (.blt .len [.v 3]) (.int 3)))]
def T_stands : Tab := tabOf [("are_things", S_are_things), ("is_step", S_is_step), ("are_numbers", S_are_numbers)]
theorem T_stands_are_things : T_stands.fn "are_things" = some S_are_things := by rfl
theorem T_stands_is_step : T_stands.fn "is_step" = some S_is_step := by rfl
theorem T_stands_are_numbers : T_stands.fn "are_numbers" = some S_are_numbers := by rfl
def S_stands : Fn := guardF (runD T_stands d_stands)
def d_need_recipe : Df where
  N := ["recipe"]
  np := 1
  body := [
    .ifs (.not (.call "stands" [.v 0])) [.never] []]
def T_need_recipe : Tab := tabOf [("stands", S_stands)]
theorem T_need_recipe_stands : T_need_recipe.fn "stands" = some S_stands := by rfl
def S_need_recipe : Fn := guardF (runD T_need_recipe d_need_recipe)
def d_is_act : Df where
  N := ["recipe", "value", "things", "steps"]
  np := 2
  body := [
    .ifs (.or (.not (.isa (.v 1) .tuple)) (.or (.cmp .NotEq (.blt .len [.v 1]) (.int 3)) (.not (.isa (.ix (.v 1) (.int 0)) .str)))) [.ret (.bl false)] [],
    .par [2, 3] [.ix (.v 0) (.int 0), .ix (.v 0) (.int 1)],
    .ifs (.cmp .Eq (.ix (.v 1) (.int 0)) (.str "pin")) [.ret (.and (.call "is_integer" [.ix (.v 1) (.int 1), .int 0, .bin .Sub (.blt .len [.v 2]) (.int 1)]) (.call "is_integer" [.ix (.v 1) (.int 2), .int 0, .bin .Sub (.blt .len [.ix (.v 2) (.ix (.v 1) (.int 1))]) (.int 1)]))] [],
    .ifs (.or (.cmp .NotEq (.ix (.v 1) (.int 0)) (.str "hide")) (.not (.call "is_integer" [.ix (.v 1) (.int 1), .int 0, .bin .Sub (.blt .len [.v 3]) (.int 1)]))) [.ret (.bl false)] [],
    .ret (.and (.call "is_integer" [.ix (.v 1) (.int 2), .int 0, .bin .Sub (.blt .len [.v 2]) (.int 1)]) (.cmp .In (.tup [.str "thing", .ix (.v 1) (.int 2)]) (.ix (.ix (.v 3) (.ix (.v 1) (.int 1))) (.int 1))))]
def T_is_act : Tab := tabOf [("is_integer", S_is_integer)]
theorem T_is_act_is_integer : T_is_act.fn "is_integer" = some S_is_integer := by rfl
def S_is_act : Fn := guardF (runD T_is_act d_is_act)
def d_acts_stand : Df where
  N := ["recipe", "value", "one"]
  np := 2
  body := [
    .ifs (.or (.not (.isa (.v 1) .tuple)) (.or (.cmp .Gt (.blt .len [.v 1]) (.int 12)) (.not (.blt .all [.comp (.call "is_act" [.v 0, .v 2]) [2] [2] true .seq [.v 1] []])))) [.ret (.bl false)] [],
    .ret (.call "rises" [.v 1])]
def T_acts_stand : Tab := tabOf [("is_act", S_is_act), ("rises", S_rises)]
theorem T_acts_stand_is_act : T_acts_stand.fn "is_act" = some S_is_act := by rfl
theorem T_acts_stand_rises : T_acts_stand.fn "rises" = some S_rises := by rfl
def S_acts_stand : Fn := guardF (runD T_acts_stand d_acts_stand)
def d_need_acts : Df where
  N := ["recipe", "acts"]
  np := 2
  body := [
    .expr (.call "need_recipe" [.v 0]),
    .ifs (.not (.call "acts_stand" [.v 0, .v 1])) [.never] []]
def T_need_acts : Tab := tabOf [("need_recipe", S_need_recipe), ("acts_stand", S_acts_stand)]
theorem T_need_acts_need_recipe : T_need_acts.fn "need_recipe" = some S_need_recipe := by rfl
theorem T_need_acts_acts_stand : T_need_acts.fn "acts_stand" = some S_acts_stand := by rfl
def S_need_acts : Fn := guardF (runD T_need_acts d_need_acts)
def d_is_world : Df where
  N := ["recipe", "value", "one", "thing"]
  np := 2
  body := [
    .ifs (.or (.not (.isa (.v 1) .tuple)) (.cmp .NotEq (.blt .len [.v 1]) (.blt .len [.ix (.v 0) (.int 0)]))) [.ret (.bl false)] [],
    .ret (.blt .all [.comp (.call "is_integer" [.v 2, .int 0, .bin .Sub (.blt .len [.v 3]) (.int 1)]) [2, 3] [2, 3] false .zip [.v 1, .ix (.v 0) (.int 0)] []])]
def T_is_world : Tab := tabOf [("is_integer", S_is_integer)]
theorem T_is_world_is_integer : T_is_world.fn "is_integer" = some S_is_integer := by rfl
def S_is_world : Fn := guardF (runD T_is_world d_is_world)
def d_need_world : Df where
  N := ["recipe", "world"]
  np := 2
  body := [
    .ifs (.not (.call "is_world" [.v 0, .v 1])) [.never] []]
def T_need_world : Tab := tabOf [("is_world", S_is_world)]
theorem T_need_world_is_world : T_need_world.fn "is_world" = some S_is_world := by rfl
def S_need_world : Fn := guardF (runD T_need_world d_need_world)
def d_is_left : Df where
  N := ["acts", "world", "act"]
  np := 2
  body := [
    .ret (.blt .all [.comp (.cmp .Eq (.ix (.v 1) (.ix (.v 2) (.int 1))) (.ix (.v 2) (.int 2))) [2] [2] true .seq [.v 0] [.cmp .Eq (.ix (.v 2) (.int 0)) (.str "pin")]])]
def T_is_left : Tab := tabOf []
def S_is_left : Fn := guardF (runD T_is_left d_is_left)
def d_need_left : Df where
  N := ["recipe", "acts", "world"]
  np := 3
  body := [
    .expr (.call "need_acts" [.v 0, .v 1]),
    .expr (.call "need_world" [.v 0, .v 2]),
    .ifs (.not (.call "is_left" [.v 1, .v 2])) [.never] []]
def T_need_left : Tab := tabOf [("need_acts", S_need_acts), ("need_world", S_need_world), ("is_left", S_is_left)]
theorem T_need_left_need_acts : T_need_left.fn "need_acts" = some S_need_acts := by rfl
theorem T_need_left_need_world : T_need_left.fn "need_world" = some S_need_world := by rfl
theorem T_need_left_is_left : T_need_left.fn "is_left" = some S_is_left := by rfl
def S_need_left : Fn := guardF (runD T_need_left d_need_left)
def d_made_of : Df where
  N := ["operation", "some", "first", "sign"]
  np := 2
  body := [
    .asg 2 (.ix (.v 1) (.int 0)),
    .ifs (.cmp .Eq (.v 0) (.str "join")) [.ret (.bin .Add (.v 2) (.ix (.v 1) (.int 1)))] [],
    .ifs (.cmp .Eq (.v 0) (.str "sort")) [.ret (.meth .join (.str "") [.blt .sorted [.v 2]])] [],
    .ifs (.cmp .Eq (.v 0) (.str "turn")) [.ret (.rev (.v 2))] [],
    .ifs (.cmp .Eq (.v 0) (.str "first")) [.ret (.sl (.v 2) [] [.int 1])] [],
    .ifs (.cmp .Eq (.v 0) (.str "rest")) [.ret (.sl (.v 2) [.int 1] [])] [],
    .ifs (.cmp .Eq (.v 0) (.str "less")) [.ret (.meth .join (.str "") [.comp (.v 3) [3] [3] true .seq [.v 2] [.cmp .NotIn (.v 3) (.ix (.v 1) (.int 1))]])] [],
    .ifs (.cmp .Eq (.v 0) (.str "same")) [.ret (.ife (.cmp .Eq (.v 2) (.ix (.v 1) (.int 1))) (.str "y") (.str ""))] [],
    .ret (.ife (.cmp .NotEq (.v 2) (.str "")) (.ix (.v 1) (.int 1)) (.ix (.v 1) (.int 2)))]
def T_made_of : Tab := tabOf []
def S_made_of : Fn := guardF (runD T_made_of d_made_of)
def d_read_by : Df where
  N := ["recipe", "acts", "world", "number", "made", "found", "kind", "one"]
  np := 5
  body := [
    .asg 5 (.lst []),
    .for [6, 7] false .seq [.ix (.ix (.ix (.v 0) (.int 1)) (.v 3)) (.int 1)] [.ifs (.cmp .Eq (.v 6) (.str "step")) [.app 5 (.ix (.v 4) (.v 7))] [.app 5 (.ife (.cmp .In (.tup [.str "hide", .v 3, .v 7]) (.v 1)) (.str "") (.ix (.ix (.ix (.v 0) (.int 0)) (.v 7)) (.ix (.v 2) (.v 7))))]],
    .frz [5],
    .ret (.blt .tuple [.v 5])]
def T_read_by : Tab := tabOf []
def S_read_by : Fn := guardF (runD T_read_by d_read_by)
def d_all_texts : Df where
  N := ["recipe", "acts", "world", "made", "number"]
  np := 3
  body := [
    .asg 3 (.lst []),
    .for [4] true .range [.blt .len [.ix (.v 0) (.int 1)]] [.app 3 (.call "made_of" [.ix (.ix (.ix (.v 0) (.int 1)) (.v 4)) (.int 0), .call "read_by" [.v 0, .v 1, .v 2, .v 4, .v 3]])],
    .frz [3],
    .ret (.blt .tuple [.v 3])]
def T_all_texts : Tab := tabOf [("made_of", S_made_of), ("read_by", S_read_by)]
theorem T_all_texts_made_of : T_all_texts.fn "made_of" = some S_made_of := by rfl
theorem T_all_texts_read_by : T_all_texts.fn "read_by" = some S_read_by := by rfl
def S_all_texts : Fn := guardF (runD T_all_texts d_all_texts)
def d_texts_in : Df where
  N := ["recipe", "acts", "world"]
  np := 3
  body := [
    .expr (.call "need_left" [.v 0, .v 1, .v 2]),
    .ret (.call "all_texts" [.v 0, .v 1, .v 2])]
def T_texts_in : Tab := tabOf [("need_left", S_need_left), ("all_texts", S_all_texts)]
theorem T_texts_in_need_left : T_texts_in.fn "need_left" = some S_need_left := by rfl
theorem T_texts_in_all_texts : T_texts_in.fn "all_texts" = some S_all_texts := by rfl
def S_texts_in : Fn := guardF (runD T_texts_in d_texts_in)
def d__law_one : Df where
  N := ["name", "texts", "things", "recipe", "text", "at"]
  np := 2
  body := [
    .asg 2 (.blt .tuple [.comp (.tup [.v 4]) [4] [4] true .seq [.v 1] []]),
    .asg 3 (.tup [.v 2, .tup [.tup [.v 0, .blt .tuple [.comp (.tup [.str "thing", .v 5]) [5] [5] true .range [.blt .len [.v 1]] []]]], .tup [.int 0]]),
    .ret (.ix (.call "texts_in" [.v 3, .tup [], .bin .Mult (.tup [.int 0]) (.blt .len [.v 1])]) (.int 0))]
def T__law_one : Tab := tabOf [("texts_in", S_texts_in)]
theorem T__law_one_texts_in : T__law_one.fn "texts_in" = some S_texts_in := by rfl
def S__law_one : Fn := guardF (runD T__law_one d__law_one)
def d__law_pairs : Df where
  N := ["row"]
  np := 1
  body := [
    .ret (.lzip (.v 0) (.sl (.v 0) [.int 1] []))]
def T__law_pairs : Tab := tabOf []
def S__law_pairs : Fn := guardF (runD T__law_pairs d__law_pairs)
def d_law_k06 : Df where
  N := ["script", "state", "rows", "again", "one", "other", "third", "ordered", "counts", "turned", "count", "first", "rest", "less", "sign", "a", "b", "at", "more"]
  np := 1
  body := [
    .init 1,
    .asg 2 (.lst []),
    .for [3] true .range [.int 3] [.app 2 (.meth .join (.str "") [.comp (.call "_law_pick" [.v 0, .v 1, .str "abz"]) [18] [18] true .range [.call "_law_draw" [.v 0, .v 1, .int 5]] []])],
    .frz [2],
    .asgT [4, 5, 6] (.v 2),
    .asg 7 (.call "_law_one" [.str "sort", .lst [.v 4]]),
    .ifs (.blt .any [.comp (.cmp .Gt (.v 15) (.v 16)) [15, 16] [15, 16] false .seq [.call "_law_pairs" [.v 7]] []]) [.ret (.bl false)] [],
    .asg 8 (.comp (.cmp .Eq (.meth .count (.v 7) [.v 14]) (.meth .count (.v 4) [.v 14])) [14] [14] true .seq [.str "abz"] []),
    .frz [8],
    .ifs (.not (.blt .all [.v 8])) [.ret (.bl false)] [],
    .asg 9 (.call "_law_one" [.str "turn", .lst [.v 4]]),
    .asg 10 (.blt .len [.v 4]),
    .ifs (.or (.cmp .NotEq (.blt .len [.v 9]) (.v 10)) (.blt .any [.comp (.cmp .NotEq (.ix (.v 4) (.v 17)) (.ix (.v 9) (.bin .Sub (.bin .Sub (.v 10) (.int 1)) (.v 17)))) [17] [17] true .range [.v 10] []])) [.ret (.bl false)] [],
    .par [11, 12] [.call "_law_one" [.str "first", .lst [.v 4]], .call "_law_one" [.str "rest", .lst [.v 4]]],
    .ifs (.or (.cmp .NotEq (.bin .Add (.v 11) (.v 12)) (.v 4)) (.or (.cmp .NotEq (.blt .len [.v 11]) (.blt .min [.int 1, .blt .len [.v 4]])) (.cmp .NotEq (.call "_law_one" [.str "join", .lst [.v 4, .v 5]]) (.bin .Add (.v 4) (.v 5))))) [.ret (.bl false)] [],
    .asg 13 (.call "_law_one" [.str "less", .lst [.v 4, .v 5]]),
    .ifs (.blt .any [.comp (.cmp .NotEq (.meth .count (.v 13) [.v 14]) (.ife (.cmp .In (.v 14) (.v 5)) (.int 0) (.meth .count (.v 4) [.v 14]))) [14] [14] true .seq [.str "abz"] []]) [.ret (.bl false)] [],
    .ifs (.or (.cmp .NotEq (.call "_law_one" [.str "less", .lst [.v 4, .str "b"]]) (.meth2 .replace (.v 4) (.str "b") (.str ""))) (.cmp .NotEq (.call "_law_one" [.str "less", .lst [.v 4, .str ""]]) (.v 4))) [.ret (.bl false)] [],
    .ifs (.or (.cmp .NotEq (.call "_law_one" [.str "same", .lst [.v 4, .v 5]]) (.ife (.cmp .Eq (.v 4) (.v 5)) (.str "y") (.str ""))) (.cmp .NotEq (.call "_law_one" [.str "same", .lst [.v 4, .v 4]]) (.str "y"))) [.ret (.bl false)] [],
    .ret (.cmp .Eq (.call "_law_one" [.str "pick", .lst [.v 4, .v 5, .v 6]]) (.ife (.cmp .Eq (.blt .len [.v 4]) (.int 0)) (.v 6) (.v 5)))]
def T_law_k06 : Tab := tabOf [("_law_draw", S__law_draw), ("_law_pick", S__law_pick), ("_law_one", S__law_one), ("_law_pairs", S__law_pairs)]
theorem T_law_k06__law_draw : T_law_k06.fn "_law_draw" = some S__law_draw := by rfl
theorem T_law_k06__law_pick : T_law_k06.fn "_law_pick" = some S__law_pick := by rfl
theorem T_law_k06__law_one : T_law_k06.fn "_law_one" = some S__law_one := by rfl
theorem T_law_k06__law_pairs : T_law_k06.fn "_law_pairs" = some S__law_pairs := by rfl
end SB
/-! What the defs compute: numbers, texts, things, steps, recipes. -/
namespace SB
open PySem

def finD : Fl → M Sl
  | .nx _ => pure (.fz .none)
  | .rt v => pure v
theorem runD_eq {Φ : Tab} {d : Df} {args : List Sl} (h : args.length = d.np) (ha : args.all argOk = true) : runD Φ d args = exs Φ d.body (args.map some ++ List.replicate (d.N.length - d.np) none) >>= finD := by
  unfold runD
  rw [if_pos ⟨h, ha⟩]
  rfl
section
variable {Φ : Tab} {ρ : Rho}
@[simp] theorem finD_rt (v : Sl) : finD (.rt v) = pure v := rfl
@[simp] theorem finD_nx (ρ : Rho) : finD (.nx ρ) = pure (.fz .none) := rfl
@[simp] theorem slAt_nil (i : Nat) : slAt [] i = none := rfl
@[simp] theorem slAt_zero (x : Option Sl) (r : Rho) : slAt (x :: r) 0 = x := by cases x <;> rfl
@[simp] theorem slAt_succ (x : Option Sl) (r : Rho) (i : Nat) : slAt (x :: r) (i + 1) = slAt r i := rfl
@[simp] theorem rd_fz (d : D) : (Sl.fz d).rd = pure d := rfl
@[simp] theorem rd_ow (d : List D) : (Sl.ow (.list d)).rd = pure (.list d) := rfl
@[simp] theorem rd_bw (d : List D) : (Sl.bw (.list d)).rd = pure (.list d) := rfl
@[simp] theorem kp_fz (d : D) : (Sl.fz d).kp = pure d := rfl
@[simp] theorem kp_ow (ds : List D) : (Sl.ow (.list ds)).kp = pure (.list ds) := rfl
@[simp] theorem fr_fz (d : D) : (Sl.fz d).fr = pure (.fz d) := rfl
@[simp] theorem fr_ow (ds : List D) : (Sl.ow (.list ds)).fr = pure (.fz (.list ds)) := rfl
@[simp] theorem fr_bw (d : D) : (Sl.bw d).fr = pure (.bw d) := rfl
@[simp] theorem fr_st : Sl.st.fr = pure .st := rfl
@[simp] theorem seen_fz (d : D) : (Sl.fz d).seen = .fz d := rfl
@[simp] theorem seen_ow (d : D) : (Sl.ow d).seen = .bw d := rfl
@[simp] theorem seen_bw (d : D) : (Sl.bw d).seen = .bw d := rfl
@[simp] theorem seen_st : Sl.st.seen = .st := rfl
@[simp] theorem asB_bool (b : Bool) : asB (.bool b) = pure b := rfl
@[simp] theorem keepS_fz (d : D) : keepS (.fz d) = some (.fz d) := rfl
@[simp] theorem keepS_ow (d : D) : keepS (.ow d) = some (.ow d) := rfl
@[simp] theorem intOf_int (i : Int) : intOf (.int i) = some i := rfl
@[simp] theorem strOf_str (x : Str) : strOf (.str x) = some x := rfl
@[simp] theorem lstOf_list (x : List D) : lstOf (.list x) = some x := rfl
@[simp] theorem owOf_ow (d : D) : owOf (.ow d) = some d := rfl
@[simp] theorem ev_non : ev Φ .non ρ = pure (.fz .none) := by rw [ev]
@[simp] theorem ev_bl (b : Bool) : ev Φ (.bl b) ρ = pure (.fz (.bool b)) := by rw [ev]
@[simp] theorem ev_int (i : Int) : ev Φ (.int i) ρ = pure (.fz (.int i)) := by rw [ev]
@[simp] theorem ev_str (x : Str) : ev Φ (.str x) ρ = pure (.fz (.str x)) := by rw [ev]
@[simp] theorem ev_v (i : Nat) : ev Φ (.v i) ρ = (do let s ← ofO (slAt ρ i); pure s.seen) := by rw [ev]
@[simp] theorem ev_lenS (i : Nat) : ev Φ (.lenS i) ρ = (do let s ← ofO (slAt ρ i); let _ ← ofO (isSt s); let n ← getM; pure (.fz (.int n))) := by rw [ev]
@[simp] theorem ev_gl (x : Str) : ev Φ (.gl x) ρ = ofO ((Φ.gl x).map .fz) := by rw [ev]
@[simp] theorem ev_tup (es : List Ex) : ev Φ (.tup es) ρ = (do let ds ← evk Φ es ρ; if ds.length ≤ sizeLine then pure (.fz (.tuple ds)) else M.fail) := by rw [ev]
@[simp] theorem ev_lst (es : List Ex) : ev Φ (.lst es) ρ = (do let ds ← evk Φ es ρ; if ds.length ≤ sizeLine then pure (.ow (.list ds)) else M.fail) := by rw [ev]
@[simp] theorem ev_bin (o : Operator) (a b : Ex) : ev Φ (.bin o a b) ρ = (do let x ← ev Φ a ρ; let d ← x.rd; let y ← ev Φ b ρ; let e ← y.rd; ofO (binD o d e)) := by rw [ev]
@[simp] theorem ev_not (a : Ex) : ev Φ (.not a) ρ = (do let x ← ev Φ a ρ; let d ← x.rd; let b ← asB d; pure (.fz (.bool (!b)))) := by rw [ev]
@[simp] theorem ev_neg (a : Ex) : ev Φ (.neg a) ρ = (do let x ← ev Φ a ρ; let d ← x.rd; let i ← ofO (intOf d); pure (.fz (.int (-i)))) := by rw [ev]
@[simp] theorem ev_and (a b : Ex) : ev Φ (.and a b) ρ = (do let x ← ev Φ a ρ; let d ← x.rd; let k ← asB d; if k then ev Φ b ρ else pure (.fz (.bool false))) := by rw [ev]
@[simp] theorem ev_or (a b : Ex) : ev Φ (.or a b) ρ = (do let x ← ev Φ a ρ; let d ← x.rd; let k ← asB d; if k then pure (.fz (.bool true)) else ev Φ b ρ) := by rw [ev]
@[simp] theorem ev_cmp (o : CmpOp) (a b : Ex) : ev Φ (.cmp o a b) ρ = (do let x ← ev Φ a ρ; let d ← x.rd; let y ← ev Φ b ρ; let e ← y.rd; ofO ((cmpD o d e).map fun k => .fz (.bool k))) := by rw [ev]
@[simp] theorem ev_chain (o o' : CmpOp) (a b c : Ex) : ev Φ (.chain o o' a b c) ρ = (do let x ← ev Φ a ρ; let d ← x.rd; let y ← ev Φ b ρ; let e ← y.rd; let k ← ofO (cmpD o d e); if k then do let z ← ev Φ c ρ; let f ← z.rd; ofO ((cmpD o' e f).map fun k => .fz (.bool k)) else pure (.fz (.bool false))) := by rw [ev]
@[simp] theorem ev_ife (c a b : Ex) : ev Φ (.ife c a b) ρ = (do let x ← ev Φ c ρ; let d ← x.rd; let k ← asB d; if k then ev Φ a ρ else ev Φ b ρ) := by rw [ev]
@[simp] theorem ev_call (f : Str) (es : List Ex) : ev Φ (.call f es) ρ = (do let rs ← eva Φ es ρ; let g ← ofO (Φ.fn f); g rs) := by rw [ev]
@[simp] theorem ev_blt (f : Bf) (es : List Ex) : ev Φ (.blt f es) ρ = (do let ds ← evr Φ es ρ; ofO (bltD f ds)) := by rw [ev]
@[simp] theorem ev_isa (a : Ex) (T : Ty) : ev Φ (.isa a T) ρ = (do let x ← ev Φ a ρ; let d ← x.rd; pure (.fz (.bool (isaD T d)))) := by rw [ev]
@[simp] theorem ev_inG (ng : Bool) (a : Ex) (x : Str) : ev Φ (.inG ng a x) ρ = (do let y ← ev Φ a ρ; let d ← y.rd; let z ← ofO (strOf d); let kvs ← ofO (Φ.gd x); pure (.fz (.bool (ng != (kvs.lookup z).isSome)))) := by rw [ev]
@[simp] theorem ev_getG (a : Ex) (x : Str) : ev Φ (.getG x a) ρ = (do let y ← ev Φ a ρ; let d ← y.rd; let z ← ofO (strOf d); let kvs ← ofO (Φ.gd x); let i ← ofO (kvs.lookup z); pure (.fz (.int i))) := by rw [ev]
@[simp] theorem ev_dget (ks : List (Str × Int)) (a b : Ex) : ev Φ (.dget ks a b) ρ = (do let y ← ev Φ a ρ; let d ← y.rd; let z ← ev Φ b ρ; let e ← z.rd; let x ← ofO (strOf d); let j ← ofO (intOf e); pure (.fz (.int ((lastOf x ks).getD j)))) := by rw [ev]
@[simp] theorem ev_rng (l : Bool) (es : List Ex) : ev Φ (.rng l es) ρ = (do let ds ← evr Φ es ρ; let xs ← ofO (iterD .range ds); if l then pure (.ow (.list xs)) else pure (.fz (.tuple xs))) := by rw [ev]
@[simp] theorem ev_ix (a i : Ex) : ev Φ (.ix a i) ρ = (do let x ← ev Φ a ρ; let d ← x.rd; let y ← ev Φ i ρ; let e ← y.rd; ofO (ixD d e)) := by rw [ev]
@[simp] theorem ev_sl (a : Ex) (lo hi : List Ex) : ev Φ (.sl a lo hi) ρ = (do let x ← ev Φ a ρ; let d ← x.rd; let l ← evr Φ lo ρ; let lo ← optI l; let h ← evr Φ hi ρ; let hi ← optI h; ofO (slD d lo hi)) := by rw [ev]
@[simp] theorem eva_nil : eva Φ [] ρ = pure [] := by rw [eva]
@[simp] theorem eva_cons (e : Ex) (es : List Ex) : eva Φ (e :: es) ρ = (do let x ← ev Φ e ρ; let y ← x.fr; let r ← eva Φ es ρ; pure (y :: r)) := by rw [eva]
@[simp] theorem evk_nil : evk Φ [] ρ = pure [] := by rw [evk]
@[simp] theorem evk_cons (e : Ex) (es : List Ex) : evk Φ (e :: es) ρ = (do let x ← ev Φ e ρ; let y ← x.kp; let r ← evk Φ es ρ; pure (y :: r)) := by rw [evk]
@[simp] theorem evr_nil : evr Φ [] ρ = pure [] := by rw [evr]
@[simp] theorem evr_cons (e : Ex) (es : List Ex) : evr Φ (e :: es) ρ = (do let x ← ev Φ e ρ; let y ← x.rd; let r ← evr Φ es ρ; pure (y :: r)) := by rw [evr]
@[simp] theorem evc_nil : evc Φ [] ρ = pure true := by rw [evc]
@[simp] theorem evc_one (e : Ex) : evc Φ [e] ρ = (do let x ← ev Φ e ρ; let d ← x.rd; asB d) := by rw [evc]
@[simp] theorem optI_nil : optI [] = pure none := rfl
@[simp] theorem optI_one (i : Int) : optI [.int i] = pure (some i) := rfl
/-- what follows a statement in a block -/
def nextS (Φ : Tab) (ss : List SB.St) : Fl → M Fl
  | .nx ρ => exs Φ ss ρ
  | .rt v => pure (.rt v)
@[simp] theorem nextS_nx (ss : List SB.St) (ρ : Rho) : nextS Φ ss (.nx ρ) = exs Φ ss ρ := rfl
@[simp] theorem nextS_rt (ss : List SB.St) (v : Sl) : nextS Φ ss (.rt v) = pure (.rt v) := rfl
@[simp] theorem exs_nil : exs Φ [] ρ = pure (.nx ρ) := by rw [exs]
@[simp] theorem exs_cons (s : SB.St) (ss : List SB.St) : exs Φ (s :: ss) ρ = ex Φ s ρ >>= nextS Φ ss := by
  rw [exs]
  rfl
@[simp] theorem ex_asg (i : Nat) (e : Ex) : ex Φ (.asg i e) ρ = (do let x ← ev Φ e ρ; let y ← ofO (keepS x); pure (.nx (ρ.set i (some y)))) := by rw [ex]
@[simp] theorem ex_asgT (is : List Nat) (e : Ex) : ex Φ (.asgT is e) ρ = (do let x ← ev Φ e ρ; let d ← x.rd; let ρ' ← ofO (bindT false is d ρ); pure (.nx ρ')) := by rw [ex]
@[simp] theorem ex_ret (e : Ex) : ex Φ (.ret e) ρ = (do let x ← ev Φ e ρ; let y ← ofO (keepS x); pure (.rt y)) := by rw [ex]
@[simp] theorem ex_retv (i : Nat) : ex Φ (.retv i) ρ = (do let s ← ofO (slAt ρ i); let y ← ofO (keepS s); pure (.rt y)) := by rw [ex]
@[simp] theorem ex_ifs (c : Ex) (a b : List SB.St) : ex Φ (.ifs c a b) ρ = (do let x ← ev Φ c ρ; let d ← x.rd; let k ← asB d; if k then exs Φ a ρ else exs Φ b ρ) := by rw [ex]
@[simp] theorem ex_aug (o : Operator) (i : Nat) (e : Ex) : ex Φ (.aug o i e) ρ = (do let s ← ofO (slAt ρ i); let d ← s.rd; let y ← ev Φ e ρ; let f ← y.rd; let z ← ofO (augD o d f); pure (.nx (ρ.set i (some (.fz z))))) := by rw [ex]
@[simp] theorem ex_frz (is : List Nat) : ex Φ (.frz is) ρ = pure (.nx (frzR is ρ)) := by rw [ex]
@[simp] theorem ex_mv (i j : Nat) : ex Φ (.mv i j) ρ = (do let s ← ofO (slAt ρ j); let d ← ofO (owOf s); pure (.nx ((ρ.set j none).set i (some (.ow d))))) := by rw [ex]
@[simp] theorem ex_init (i : Nat) : ex Φ (.init i) ρ = (do let _ ← initM; pure (.nx (ρ.set i (some .st)))) := by rw [ex]
@[simp] theorem ex_app (i : Nat) (e : Ex) : ex Φ (.app i e) ρ = (do let x ← ev Φ e ρ; let d ← x.kp; let s ← ofO (slAt ρ i); let k ← ofO (appK s); let ρ' ← appTo ρ i d k; pure (.nx ρ')) := by rw [ex]
@[simp] theorem ex_ext (i : Nat) (e : Ex) : ex Φ (.ext i e) ρ = (do let x ← ev Φ e ρ; let d ← x.rd; let es ← ofO (lstOf d); let ds ← ofO (owL ρ i); if ds.length + es.length ≤ sizeLine then pure (.nx (ρ.set i (some (.ow (.list (ds ++ es)))))) else M.fail) := by rw [ex]
@[simp] theorem evo_nil : evo Φ [] ρ = pure [] := by rw [evo]
@[simp] theorem evo_cons' (e : Ex) (es : List Ex) : evo Φ (e :: es) ρ = (do let x ← ev Φ e ρ; let y ← ofO (keepS x); let r ← evo Φ es ρ; pure (y :: r)) := by rw [evo]
theorem ex_par2 (i j : Nat) (a b : Ex) : ex Φ (.par [i, j] [a, b]) ρ = (do let x ← ev Φ a ρ; let x ← ofO (keepS x); let y ← ev Φ b ρ; let y ← ofO (keepS y); pure (.nx ((ρ.set i (some x)).set j (some y)))) := by
  rw [ex]
  simp only [evo, bind_assoc, pure_bind]
@[simp] theorem appTo_some (i : Nat) (d : D) (ds : List D) : appTo ρ i d (some ds) = (if ds.length < sizeLine then pure (ρ.set i (some (.ow (.list (ds ++ [d]))))) else M.fail) := rfl
@[simp] theorem appK_ow (ds : List D) : appK (.ow (.list ds)) = some (some ds) := rfl
/-! ### comprehensions -/
theorem turns_map {f : D → M (Option D)} {g : D → D} : ∀ {xs : List D}, (∀ d ∈ xs, f d = pure (some (g d))) → turns f xs = pure (xs.map g)
  | [], _ => rfl
  | x :: xs, h => by
    have ih := turns_map (f := f) (g := g) (xs := xs) fun d hd => h d (List.mem_cons_of_mem _ hd)
    rw [turns, h x List.mem_cons_self, pure_bind, ih, pure_bind]
    rfl
theorem comp_map {elt : Ex} {own tg : List Nat} {one : Bool} {k : IK} {args : List Ex} {ds xs : List D} (g : D → D) (h1 : evr Φ args ρ = pure ds) (h2 : iterD k ds = some xs)
    (h3 : ∀ d ∈ xs, (do let ρ1 ← ofO (bindT one tg d (wipeR ρ own)); let y ← ev Φ elt ρ1; y.kp) = pure (g d)) : ev Φ (.comp elt own tg one k args []) ρ = pure (.ow (.list (xs.map g))) := by
  rw [ev, h1, pure_bind, h2, ofO_some, pure_bind]
  rw [turns_map (g := g) fun d hd => ?_, pure_bind]
  have h := h3 d hd
  cases hb : bindT one tg d (wipeR ρ own) with
  | none =>
    rw [hb] at h
    exact absurd (congrFun h none) (by simp [M.pure_run])
  | some ρ1 =>
    rw [hb, ofO_some, pure_bind] at h
    rw [ofO_some, pure_bind, evc_nil, pure_bind, if_pos rfl, ← bind_assoc, h, pure_bind]
theorem turns_over {α : Type} {f : D → M (Option D)} {a : α → D} {g : α → D} : ∀ {l : List α}, (∀ x ∈ l, f (a x) = pure (some (g x))) → turns f (l.map a) = pure (l.map g)
  | [], _ => rfl
  | x :: xs, h => by
    have ih := turns_over (f := f) (a := a) (g := g) (l := xs) fun d hd => h d (List.mem_cons_of_mem _ hd)
    rw [List.map_cons, turns, h x List.mem_cons_self, pure_bind, ih, pure_bind]
    rfl
theorem turn_one {elt : Ex} {own tg : List Nat} {one : Bool} {d e : D} (h : (do let ρ1 ← ofO (bindT one tg d (wipeR ρ own)); let y ← ev Φ elt ρ1; y.kp) = pure e) :
    (do let ρ1 ← ofO (bindT one tg d (wipeR ρ own)); let t ← evc Φ [] ρ1; if t then do let y ← ev Φ elt ρ1; let e ← y.kp; pure (some e) else pure none) = (pure (some e) : M (Option D)) := by
  cases hb : bindT one tg d (wipeR ρ own) with
  | none =>
    rw [hb] at h
    exact absurd (congrFun h none) (by simp [M.pure_run])
  | some ρ1 =>
    rw [hb, ofO_some, pure_bind] at h
    rw [ofO_some, pure_bind, evc_nil, pure_bind, if_pos rfl, ← bind_assoc, h, pure_bind]
/-- a comprehension over what comes of a list -/
theorem comp_over {α : Type} {elt : Ex} {own tg : List Nat} {one : Bool} {k : IK} {args : List Ex} {ds : List D} (l : List α) (f g : α → D) (h1 : evr Φ args ρ = pure ds) (h2 : iterD k ds = some (l.map f))
    (h3 : ∀ x ∈ l, (do let ρ1 ← ofO (bindT one tg (f x) (wipeR ρ own)); let y ← ev Φ elt ρ1; y.kp) = pure (g x)) : ev Φ (.comp elt own tg one k args []) ρ = pure (.ow (.list (l.map g))) := by
  rw [ev, h1, pure_bind, h2, ofO_some, pure_bind]
  rw [turns_over (g := g) fun x hx => turn_one (h3 x hx), pure_bind]
theorem boolsOf_map {α : Type} (f : α → Bool) : ∀ xs : List α, boolsOf (xs.map fun d => .bool (f d)) = some (xs.map f)
  | [] => rfl
  | x :: xs => by
    rw [List.map_cons, boolsOf, boolsOf_map f xs]
    rfl
theorem all_bools {α : Type} (f : α → Bool) (xs : List α) : bltD .all [.list (xs.map fun d => .bool (f d))] = some (.fz (.bool (xs.all f))) := by
  simp [bltD, boolsOf_map]
theorem any_bools {α : Type} (f : α → Bool) (xs : List α) : bltD .any [.list (xs.map fun d => .bool (f d))] = some (.fz (.bool (xs.any f))) := by
  simp [bltD, boolsOf_map]
/-! ### loops -/
theorem loop_fold {σ α : Type} {f : D → Rho → M Fl} (a : α → D) (R : σ → Rho) (step : σ → α → σ) : ∀ (l : List α) (s : σ), (∀ s, ∀ x ∈ l, f (a x) (R s) = pure (.nx (R (step s x)))) → loop f (l.map a) (R s) = pure (.nx (R (l.foldl step s)))
  | [], s, _ => rfl
  | x :: l, s, h => by
    have ih := loop_fold (f := f) a R step l (step s x) fun s y hy => h s y (List.mem_cons_of_mem _ hy)
    rw [List.map_cons, loop, h s x List.mem_cons_self, pure_bind]
    exact ih
@[simp] theorem ex_for (tg : List Nat) (one : Bool) (k : IK) (args : List Ex) (body : List SB.St) : ex Φ (.for tg one k args body) ρ = (do let ds ← evk Φ args ρ; let xs ← ofO (iterD k ds); loop (fun d ρ => ofO (bindT one tg d ρ) >>= exs Φ body) xs ρ) := by rw [ex]
end
end SB
/-! What the defs compute: numbers, texts, things, steps, recipes. -/
namespace SB
open PySem

theorem cut_one {α : Type} (xs : List α) : cutL xs (some 1) none = xs.drop 1 := by
  have e1 : HT.sIx xs.length 0 (some 1) = min 1 xs.length := HT.sIx_nat xs.length 0 1
  unfold cutL
  rw [e1, HT.sIx_none]
  cases xs with
  | nil => rfl
  | cons x r =>
    have e2 : min 1 (x :: r).length = 1 := by simp
    rw [e2]
    simp
theorem cut_to {α : Type} (xs : List α) (n : Nat) : cutL xs none (some (n : Int)) = xs.take n := by
  have e1 : HT.sIx xs.length xs.length (some (n : Int)) = min n xs.length := HT.sIx_nat xs.length xs.length n
  unfold cutL
  rw [e1, HT.sIx_none]
  simp [List.take_eq_take_iff]
/-! ### data that every operation takes -/
mutual
def fit : D → Bool
  | .none | .bool _ | .int _ => true
  | .str x => PyData.strOk x && decide (x.length ≤ sizeLine)
  | .list xs => fitAll xs
  | .tuple xs => fitAll xs
  | .dict _ => false
def fitAll : List D → Bool
  | [] => true
  | x :: xs => fit x && fitAll xs
end
@[simp] theorem fit_none : fit .none = true := by rw [fit]
@[simp] theorem fit_bool (b : Bool) : fit (.bool b) = true := by rw [fit]
@[simp] theorem fit_int (i : Int) : fit (.int i) = true := by rw [fit]
@[simp] theorem fit_list (xs : List D) : fit (.list xs) = fitAll xs := by rw [fit]
@[simp] theorem fit_tuple (xs : List D) : fit (.tuple xs) = fitAll xs := by rw [fit]
@[simp] theorem fitAll_nil : fitAll [] = true := by rw [fitAll]
@[simp] theorem fitAll_cons (x : D) (xs : List D) : fitAll (x :: xs) = (fit x && fitAll xs) := by rw [fitAll]
theorem fitAll_iff : ∀ {xs : List D}, fitAll xs = true ↔ ∀ x ∈ xs, fit x = true
  | [] => by simp
  | x :: xs => by
    rw [fitAll_cons, Bool.and_eq_true, fitAll_iff]
    simp
theorem fit_mem {xs : List D} {x : D} (h : fit (.tuple xs) = true) (hx : x ∈ xs) : fit x = true := fitAll_iff.mp (by simpa using h) x hx
theorem fit_str {x : Str} (h : fit (.str x) = true) : PyData.strOk x = true ∧ x.length ≤ sizeLine := by
  rw [fit, Bool.and_eq_true, decide_eq_true_eq] at h
  exact h
mutual
theorem fit_lay : ∀ d : D, fit d = true → d.canLay0 = true
  | .none, _ => rfl
  | .bool _, _ => rfl
  | .int _, _ => rfl
  | .str x, h => (fit_str h).1
  | .list xs, h => by
    rw [PyData.canLay0]
    exact fitAll_lay xs (by simpa using h)
  | .tuple xs, h => by
    rw [PyData.canLay0]
    exact fitAll_lay xs (by simpa using h)
  | .dict _, h => by
    rw [fit] at h
    cases h
theorem fitAll_lay : ∀ xs : List D, fitAll xs = true → PyData.canLayAll0 xs = true
  | [], _ => rfl
  | x :: xs, h => by
    rw [fitAll_cons, Bool.and_eq_true] at h
    rw [PyData.canLayAll0, fit_lay x h.1, fitAll_lay xs h.2]
    rfl
end
theorem ok_fit {d : D} (h : fit d = true) (hd : d.depth ≤ 64) : okD d = true := by
  show (d.canLay0 && decide (d.depth ≤ 64)) = true
  rw [fit_lay d h, decide_eq_true hd]
  rfl
theorem ok_str {x : Str} (h : fit (.str x) = true) : okD (.str x) = true := ok_fit h (by rw [PyData.depth]; omega)
theorem ok_int (i : Int) : okD (.int i) = true := by rfl
theorem ok_thing : okD (.str "thing") = true := by decide +kernel
theorem ok_step : okD (.str "step") = true := by decide +kernel
theorem thing_step : (("thing" : Str) = "step") = False := by
  rw [eq_iff_iff]
  exact ⟨fun h => absurd h (by decide +kernel), fun h => h.elim⟩
theorem step_thing : (("step" : Str) = "thing") = False := by
  rw [eq_iff_iff]
  exact ⟨fun h => absurd h (by decide +kernel), fun h => h.elim⟩
/-! ### numbers -/
def isIntD (d : D) (lo hi : Int) : Bool := match d with
  | .int i => decide (lo ≤ i) && decide (i ≤ hi)
  | _ => false
theorem run_is_integer (d : D) (lo hi : Int) : S_is_integer [.fz d, .fz (.int lo), .fz (.int hi)] = pure (.fz (.bool (isIntD d lo hi))) := by
  refine guardF_pure ?_
  rw [runD_eq rfl rfl]
  cases d with
  | int i => by_cases h : lo ≤ i <;> simp [d_is_integer, isaD, PyData.isInt, PyData.isBool, isIntD, cmpD, h]
  | _ => simp [d_is_integer, isaD, PyData.isInt, PyData.isBool, isIntD, cmpD]
/-! ### texts -/
def okText (x : Str) (most : Int) : Bool := decide ((x.length : Int) ≤ most) && x.cps.toList.all fun c => decide (c ∈ lettersT.cps.toList)
def isTextD (d : D) (most : Int) : Bool := match d with
  | .str x => okText x most
  | _ => false
theorem run_is_text (d : D) (most : Int) (h : fit d = true) : S_is_text [.fz d, .fz (.int most)] = pure (.fz (.bool (isTextD d most))) := by
  refine guardF_pure ?_
  rw [runD_eq rfl rfl]
  cases d with
  | str x =>
    have hx := (fit_str h).2
    have hc : ev T_is_text (.comp (.cmp .In (.v 2) (.gl "LETTERS")) [2] [2] true .seq [.v 0] []) [some (.fz (.str x)), some (.fz (.int most)), none] = pure (.ow (.list (x.cps.toList.map fun c => .bool (decide (c ∈ lettersT.cps.toList))))) := by
      refine comp_over (ds := [.str x]) x.cps.toList (fun c => .str ⟨#[c]⟩) _ (by simp) (by simp [iterD, hx]) fun c _ => ?_
      simp [bindT, wipeR, T_is_text, tabOf, cmpD]
    by_cases hl : (x.length : Int) ≤ most
    · simp [d_is_text, isaD, PyData.isStr, isTextD, okText, cmpD, bltD, hx, hl, hc, boolsOf_map]
    · simp [d_is_text, isaD, PyData.isStr, isTextD, okText, cmpD, bltD, hx, hl]
  | _ => simp [d_is_text, isaD, PyData.isStr, isTextD]
/-! ### what rises -/
def lesD : D → D → Bool
  | .int i, .int j => decide (i < j)
  | .str x, .str y => decide (x.cps.toList < y.cps.toList)
  | _, _ => false
def risesB {α : Type} (lt : α → α → Bool) : List α → Bool
  | x :: y :: r => lt x y && risesB lt (y :: r)
  | _ => true
theorem rises_zip {α : Type} (lt : α → α → Bool) : ∀ l : List α, ((l.zip (l.drop 1)).all fun p => lt p.1 p.2) = risesB lt l
  | [] => rfl
  | [_] => rfl
  | x :: y :: r => by
    have ih := rises_zip lt (y :: r)
    show (lt x y && _) = (lt x y && _)
    exact congrArg _ ih
theorem run_rises (xs : List D) (hlt : ∀ x ∈ xs, ∀ y ∈ xs, cmpD .Lt x y = some (lesD x y)) : S_rises [.fz (.tuple xs)] = pure (.fz (.bool (risesB lesD xs))) := by
  refine guardF_pure ?_
  rw [runD_eq rfl rfl]
  have hc : ev T_rises (.comp (.cmp .Lt (.v 1) (.v 2)) [1, 2] [1, 2] false .zip [.v 0, .sl (.v 0) [.int 1] []] []) [some (.fz (.tuple xs)), none, none] = pure (.ow (.list ((xs.zip (xs.drop 1)).map fun p => .bool (lesD p.1 p.2)))) := by
    refine comp_over (ds := [.tuple xs, .tuple (xs.drop 1)]) (xs.zip (xs.drop 1)) (fun p => .tuple [p.1, p.2]) _ ?_ ?_ fun p hp => ?_
    · simp [slD, cut_one]
    · simp only [iterD]
    · have hp' := List.of_mem_zip (a := p.1) (b := p.2) hp
      have hl := hlt _ hp'.1 _ (List.mem_of_mem_drop hp'.2)
      simp [bindT, wipeR, setAll, hl]
  rw [← rises_zip]
  simp [d_rises, hc, all_bools]
theorem lt_str {xs : List D} {n : Int} (h : xs.all (isTextD · n) = true) : ∀ x ∈ xs, ∀ y ∈ xs, cmpD .Lt x y = some (lesD x y) := by
  intro x hx y hy
  have h1 := List.all_eq_true.mp h x hx
  have h2 := List.all_eq_true.mp h y hy
  cases x <;> simp [isTextD] at h1
  cases y <;> simp [isTextD] at h2
  simp [cmpD, lesD]
theorem lt_int {xs : List D} {lo hi : Int} (h : xs.all (isIntD · lo hi) = true) : ∀ x ∈ xs, ∀ y ∈ xs, cmpD .Lt x y = some (lesD x y) := by
  intro x hx y hy
  have h1 := List.all_eq_true.mp h x hx
  have h2 := List.all_eq_true.mp h y hy
  cases x <;> simp [isIntD] at h1
  cases y <;> simp [isIntD] at h2
  simp [cmpD, lesD]
/-! ### things -/
def isThingD : D → Bool
  | .tuple xs => decide (1 ≤ xs.length) && (decide (xs.length ≤ 4) && (xs.all (isTextD · 4) && risesB lesD xs))
  | _ => false
theorem run_is_thing (d : D) (h : fit d = true) : S_is_thing [.fz d] = pure (.fz (.bool (isThingD d))) := by
  refine guardF_pure ?_
  rw [runD_eq rfl rfl]
  cases d with
  | tuple xs =>
    have hc : ev T_is_thing (.comp (.call "is_text" [.v 1, .int 4]) [1] [1] true .seq [.v 0] []) [some (.fz (.tuple xs)), none] = pure (.ow (.list (xs.map fun d => .bool (isTextD d 4)))) := by
      refine comp_map _ (ds := [.tuple xs]) (by simp) (by simp [iterD]) fun d hd => ?_
      have ht := run_is_text d 4 (fit_mem h hd)
      simp [bindT, wipeR, T_is_thing_is_text, ht]
    have hi : ((xs.length : Int) ≤ 4) = (xs.length ≤ 4) := by simp only [eq_iff_iff]; omega
    have hj : ((1 : Int) ≤ xs.length) = (1 ≤ xs.length) := by simp only [eq_iff_iff]; omega
    by_cases h1 : 1 ≤ xs.length
    · by_cases h2 : xs.length ≤ 4
      · cases h3 : xs.all (isTextD · 4) with
        | false => simp [d_is_thing, isaD, PyData.isTuple, isThingD, cmpD, bltD, hi, hj, h1, h2, hc, boolsOf_map, h3]
        | true =>
          have hr := run_rises xs (lt_str h3)
          simp [d_is_thing, isaD, PyData.isTuple, isThingD, cmpD, bltD, hi, hj, h1, h2, hc, boolsOf_map, h3, T_is_thing_rises, hr]
      · simp [d_is_thing, isaD, PyData.isTuple, isThingD, cmpD, bltD, hi, hj, h1, h2]
    · simp [d_is_thing, isaD, PyData.isTuple, isThingD, cmpD, bltD, hi, hj, h1]
  | _ => simp [d_is_thing, isaD, PyData.isTuple, isThingD]
def lenD : D → Nat
  | .tuple xs => xs.length
  | _ => 0
def prodD (xs : List D) : Int := xs.foldl (fun c t => c * (lenD t : Int)) 1
def areThingsD : D → Bool
  | .tuple xs => decide (1 ≤ xs.length) && (decide (xs.length ≤ 5) && (xs.all isThingD && decide (prodD xs ≤ 256)))
  | _ => false
theorem run_are_things (d : D) (h : fit d = true) : S_are_things [.fz d] = pure (.fz (.bool (areThingsD d))) := by
  refine guardF_pure ?_
  rw [runD_eq rfl rfl]
  cases d with
  | tuple xs =>
    have hc : ev T_are_things (.comp (.call "is_thing" [.v 3]) [3] [3] true .seq [.v 0] []) [some (.fz (.tuple xs)), none, none, none] = pure (.ow (.list (xs.map fun d => .bool (isThingD d)))) := by
      refine comp_map _ (ds := [.tuple xs]) (by simp) (by simp [iterD]) fun d hd => ?_
      have ht := run_is_thing d (fit_mem h hd)
      simp [bindT, wipeR, T_are_things_is_thing, ht]
    have hi : ((xs.length : Int) ≤ 5) = (xs.length ≤ 5) := by simp only [eq_iff_iff]; omega
    have hj : ((1 : Int) ≤ xs.length) = (1 ≤ xs.length) := by simp only [eq_iff_iff]; omega
    by_cases h1 : 1 ≤ xs.length
    · by_cases h2 : xs.length ≤ 5
      · cases h3 : xs.all isThingD with
        | false => simp [d_are_things, isaD, PyData.isTuple, areThingsD, cmpD, bltD, hi, hj, h1, h2, hc, boolsOf_map, h3]
        | true =>
          have hb : ∀ t ∈ xs, ∃ ys, t = .tuple ys ∧ ys.length ≤ 4 := fun t ht => by
            have q := List.all_eq_true.mp h3 t ht
            cases t <;> simp [isThingD] at q
            exact ⟨_, rfl, q.2.1⟩
          have hl : loop (fun d ρ => ofO (bindT true [2] d ρ) >>= exs T_are_things [.aug .Mult 1 (.blt .len [.v 2])]) xs [some (.fz (.tuple xs)), some (.fz (.int 1)), none, none] = pure (.nx [some (.fz (.tuple xs)), some (.fz (.int (prodD xs))), xs.foldl (fun _ t => some (.fz t)) none, none]) := by
            have q := loop_fold (f := fun d ρ => ofO (bindT true [2] d ρ) >>= exs T_are_things [.aug .Mult 1 (.blt .len [.v 2])]) (fun x => x) (fun s : Int × Option Sl => [some (.fz (.tuple xs)), some (.fz (.int s.1)), s.2, none]) (fun s t => (s.1 * (lenD t : Int), some (.fz t))) xs (1, none) fun s t ht => ?_
            · rw [List.map_id'] at q
              rw [q]
              have e : ∀ (l : List D) (c : Int) (o : Option Sl), l.foldl (fun (s : Int × Option Sl) t => (s.1 * (lenD t : Int), some (.fz t))) (c, o) = (l.foldl (fun c t => c * (lenD t : Int)) c, l.foldl (fun _ t => some (.fz t)) o) := by
                intro l
                induction l with
                | nil => intros; rfl
                | cons x l ih => intro c o; exact ih _ _
              rw [e]
              rfl
            · obtain ⟨ys, rfl, hy⟩ := hb t ht
              have hy2 : (-(18446744073709551616 : Int) < ys.length ∧ (ys.length : Int) < 18446744073709551616) := by omega
              simp [bindT, bltD, augD, binD, lenD, hy2]
          simp [d_are_things, isaD, PyData.isTuple, areThingsD, cmpD, bltD, hi, hj, h1, h2, hc, boolsOf_map, h3, iterD]
          rw [hl]
          simp [cmpD]
      · simp [d_are_things, isaD, PyData.isTuple, areThingsD, cmpD, bltD, hi, hj, h1, h2]
    · simp [d_are_things, isaD, PyData.isTuple, areThingsD, cmpD, bltD, hi, hj, h1]
  | _ => simp [d_are_things, isaD, PyData.isTuple, areThingsD]
/-! ### steps -/
def isReadingD (things steps : Int) : D → Bool
  | .tuple [.str x, y] => if x = "thing" then isIntD y 0 (things - 1) else decide (x = "step") && isIntD y 0 (steps - 1)
  | _ => false
theorem run_is_reading (things steps : Int) (d : D) (h : fit d = true) : S_is_reading [.fz (.int things), .fz (.int steps), .fz d] = pure (.fz (.bool (isReadingD things steps d))) := by
  refine guardF_pure ?_
  rw [runD_eq rfl rfl]
  cases d with
  | tuple xs =>
    match xs with
    | [] => simp [d_is_reading, isaD, PyData.isTuple, isReadingD, cmpD, bltD, ok_int, PyData.eqv]
    | [a] => simp [d_is_reading, isaD, PyData.isTuple, isReadingD, cmpD, bltD, ok_int, PyData.eqv]
    | a :: b :: c :: r =>
      have e : ¬ ((r.length : Int) + 1 + 1 + 1 = 2) := by omega
      simp [d_is_reading, isaD, PyData.isTuple, isReadingD, cmpD, bltD, ok_int, PyData.eqv, e]
    | [a, b] =>
      have r1 := run_is_integer b 0 (things - 1)
      have r2 := run_is_integer b 0 (steps - 1)
      cases a with
      | str x =>
        have ox : okD (.str x) = true := ok_str (fit_mem h List.mem_cons_self)
        by_cases h1 : x = "thing"
        · subst h1
          simp [d_is_reading, isaD, PyData.isTuple, PyData.isStr, isReadingD, cmpD, bltD, ok_int, ok_thing, ok_step, PyData.eqv, ixD, L2.atI, L2.ixN, binD, T_is_reading_is_integer, r1]
        · by_cases h2 : x = "step"
          · subst h2
            simp [d_is_reading, isaD, PyData.isTuple, PyData.isStr, isReadingD, cmpD, bltD, ok_int, ok_thing, ok_step, PyData.eqv, ixD, L2.atI, L2.ixN, step_thing, binD, T_is_reading_is_integer, r2]
          · simp [d_is_reading, isaD, PyData.isTuple, PyData.isStr, isReadingD, cmpD, bltD, ok_int, ok_thing, ok_step, ox, PyData.eqv, ixD, L2.atI, L2.ixN, h1, h2, binD]
      | _ => simp [d_is_reading, isaD, PyData.isTuple, PyData.isStr, isReadingD, cmpD, bltD, ok_int, PyData.eqv, ixD, L2.atI, L2.ixN]
  | _ => simp [d_is_reading, isaD, PyData.isTuple, isReadingD]
def isStepD (things steps : Int) : D → Bool
  | .tuple [.str x, .tuple rs] => (match readsL.lookup x with
    | some n => decide ((rs.length : Int) = n) && rs.all (isReadingD things steps)
    | none => false)
  | _ => false
theorem run_is_step (things steps : Int) (d : D) (h : fit d = true) : S_is_step [.fz (.int things), .fz (.int steps), .fz d] = pure (.fz (.bool (isStepD things steps d))) := by
  refine guardF_pure ?_
  rw [runD_eq rfl rfl]
  have gd : T_is_step.gd "READS" = some readsL := rfl
  cases d with
  | tuple xs =>
    match xs with
    | [] => simp [d_is_step, isaD, PyData.isTuple, isStepD, cmpD, bltD, ok_int, PyData.eqv]
    | [a] => simp [d_is_step, isaD, PyData.isTuple, isStepD, cmpD, bltD, ok_int, PyData.eqv]
    | a :: b :: c :: r =>
      have e : ¬ ((r.length : Int) + 1 + 1 + 1 = 2) := by omega
      simp [d_is_step, isaD, PyData.isTuple, isStepD, cmpD, bltD, ok_int, PyData.eqv, e]
    | [a, b] =>
      cases a with
      | str x =>
        cases hr : readsL.lookup x with
        | none =>
          have e : isStepD things steps (.tuple [.str x, b]) = false := by cases b <;> simp [isStepD, hr]
          simp [d_is_step, isaD, PyData.isTuple, PyData.isStr, cmpD, bltD, ok_int, PyData.eqv, ixD, L2.atI, L2.ixN, gd, hr, e]
        | some n =>
          cases b with
          | tuple rs =>
            have hc : ev T_is_step (.comp (.call "is_reading" [.v 0, .v 1, .v 3]) [3] [3] true .seq [.ix (.v 2) (.int 1)] []) [some (.fz (.int things)), some (.fz (.int steps)), some (.fz (.tuple [.str x, .tuple rs])), none] = pure (.ow (.list (rs.map fun d => .bool (isReadingD things steps d)))) := by
              refine comp_map _ (ds := [.tuple rs]) (by simp [ixD, L2.atI, L2.ixN]) (by simp [iterD]) fun d hd => ?_
              have ht := run_is_reading things steps d (fit_mem (fit_mem h (by simp)) hd)
              simp [bindT, wipeR, T_is_step_is_reading, ht]
            by_cases hn : (rs.length : Int) = n
            · simp [d_is_step, isaD, PyData.isTuple, PyData.isStr, isStepD, cmpD, bltD, ok_int, PyData.eqv, ixD, L2.atI, L2.ixN, gd, hr, hn, hc, boolsOf_map]
            · simp [d_is_step, isaD, PyData.isTuple, PyData.isStr, isStepD, cmpD, bltD, ok_int, PyData.eqv, ixD, L2.atI, L2.ixN, gd, hr, hn]
          | _ => simp [d_is_step, isaD, PyData.isTuple, PyData.isStr, isStepD, cmpD, bltD, ok_int, PyData.eqv, ixD, L2.atI, L2.ixN, gd, hr]
      | _ => simp [d_is_step, isaD, PyData.isTuple, PyData.isStr, isStepD, cmpD, bltD, ok_int, PyData.eqv, ixD, L2.atI, L2.ixN]
  | _ => simp [d_is_step, isaD, PyData.isTuple, isStepD]
/-! ### recipes -/
def areNumbersD (d : D) (lo hi : Int) : Bool := match d with
  | .tuple xs => xs.all (isIntD · lo hi) && risesB lesD xs
  | _ => false
theorem run_are_numbers (d : D) (lo hi : Int) : S_are_numbers [.fz d, .fz (.int lo), .fz (.int hi)] = pure (.fz (.bool (areNumbersD d lo hi))) := by
  refine guardF_pure ?_
  rw [runD_eq rfl rfl]
  cases d with
  | tuple xs =>
    have hc : ev T_are_numbers (.comp (.call "is_integer" [.v 3, .v 1, .v 2]) [3] [3] true .seq [.v 0] []) [some (.fz (.tuple xs)), some (.fz (.int lo)), some (.fz (.int hi)), none] = pure (.ow (.list (xs.map fun d => .bool (isIntD d lo hi)))) := by
      refine comp_map _ (ds := [.tuple xs]) (by simp) (by simp [iterD]) fun d hd => ?_
      simp [bindT, wipeR, T_are_numbers_is_integer, run_is_integer]
    cases h3 : xs.all (isIntD · lo hi) with
    | false => simp [d_are_numbers, isaD, PyData.isTuple, areNumbersD, bltD, hc, boolsOf_map, h3]
    | true =>
      have hr := run_rises xs (lt_int h3)
      simp [d_are_numbers, isaD, PyData.isTuple, areNumbersD, bltD, hc, boolsOf_map, h3, T_are_numbers_rises, hr]
  | _ => simp [d_are_numbers, isaD, PyData.isTuple, areNumbersD]
def standsD : D → Bool
  | .tuple [th, .tuple st, made] => areThingsD th && (decide (1 ≤ st.length) && (decide (st.length ≤ 8) && ((st.zipIdx.all fun p => isStepD (lenD th) p.2 p.1) && (areNumbersD made 0 (st.length - 1) && (decide (1 ≤ lenD made) && decide (lenD made ≤ 3))))))
  | _ => false
end SB
/-! Recipes; the draws. -/
namespace SB
open PySem

theorem things_tuple {d : D} (h : areThingsD d = true) : ∃ xs, d = .tuple xs := by
  cases d <;> simp [areThingsD] at h
  exact ⟨_, rfl⟩
theorem numbers_tuple {d : D} {lo hi : Int} (h : areNumbersD d lo hi = true) : ∃ xs, d = .tuple xs := by
  cases d <;> simp [areNumbersD] at h
  exact ⟨_, rfl⟩
theorem run_stands (d : D) (h : fit d = true) : S_stands [.fz d] = pure (.fz (.bool (standsD d))) := by
  refine guardF_pure ?_
  rw [runD_eq rfl rfl]
  cases d with
  | tuple xs =>
    match xs with
    | [] => simp [d_stands, isaD, PyData.isTuple, standsD, cmpD, bltD, ok_int, PyData.eqv]
    | [a] => simp [d_stands, isaD, PyData.isTuple, standsD, cmpD, bltD, ok_int, PyData.eqv]
    | [a, b] => simp [d_stands, isaD, PyData.isTuple, standsD, cmpD, bltD, ok_int, PyData.eqv]
    | a :: b :: c :: z :: r =>
      have e : ¬ ((r.length : Int) + 1 + 1 + 1 + 1 = 3) := by omega
      simp [d_stands, isaD, PyData.isTuple, standsD, cmpD, bltD, ok_int, PyData.eqv, e]
    | [th, st, made] =>
      have r1 := run_are_things th (fit_mem h (by simp))
      cases h1 : areThingsD th with
      | false =>
        have e : standsD (.tuple [th, st, made]) = false := by cases st <;> simp [standsD, h1]
        simp [d_stands, isaD, PyData.isTuple, cmpD, bltD, ok_int, PyData.eqv, ixD, L2.atI, L2.ixN, T_stands_are_things, r1, h1, e]
      | true =>
        obtain ⟨ths, rfl⟩ := things_tuple h1
        cases st with
        | tuple ss =>
          have hi : ((ss.length : Int) ≤ 8) = (ss.length ≤ 8) := by simp only [eq_iff_iff]; omega
          have hj : ((1 : Int) ≤ ss.length) = (1 ≤ ss.length) := by simp only [eq_iff_iff]; omega
          by_cases h2 : 1 ≤ ss.length
          · by_cases h3 : ss.length ≤ 8
            · have hc : ev T_stands (.comp (.call "is_step" [.blt .len [.v 1], .v 4, .v 5]) [4, 5] [4, 5] false .enum [.v 2] []) [some (.fz (.tuple [.tuple ths, .tuple ss, made])), some (.fz (.tuple ths)), some (.fz (.tuple ss)), some (.fz made), none, none] = pure (.ow (.list (ss.zipIdx.map fun p => .bool (isStepD ths.length p.2 p.1)))) := by
                refine comp_over (ds := [.tuple ss]) ss.zipIdx (fun p => .tuple [.int ((p.2 : Nat) : Int), p.1]) _ (by simp) (by simp [iterD]) fun p hp => ?_
                have hm : p.1 ∈ ss := by
                  obtain ⟨_, _, e⟩ := List.mem_zipIdx (x := p.1) (i := p.2) (k := 0) hp
                  rw [e]
                  exact List.getElem_mem _
                have ht := run_is_step ths.length p.2 p.1 (fit_mem (fit_mem h (by simp)) hm)
                simp [bindT, wipeR, setAll, bltD, T_stands_is_step, ht]
              cases h4 : ss.zipIdx.all (fun p => isStepD ths.length p.2 p.1) with
              | false =>
                simp [d_stands, isaD, PyData.isTuple, cmpD, bltD, ok_int, PyData.eqv, ixD, L2.atI, L2.ixN, T_stands_are_things, r1, h1, bindT, setAll, hi, hj, h2, h3, hc, boolsOf_map, h4, standsD, lenD]
              | true =>
                have r2 := run_are_numbers made 0 (ss.length - 1)
                cases h5 : areNumbersD made 0 (ss.length - 1) with
                | false => simp [d_stands, isaD, PyData.isTuple, cmpD, bltD, ok_int, PyData.eqv, ixD, L2.atI, L2.ixN, T_stands_are_things, r1, h1, bindT, setAll, hi, hj, h2, h3, hc, boolsOf_map, h4, standsD, lenD, binD, T_stands_are_numbers, r2, h5]
                | true =>
                  obtain ⟨ms, rfl⟩ := numbers_tuple h5
                  have mi : ((ms.length : Int) ≤ 3) = (ms.length ≤ 3) := by simp only [eq_iff_iff]; omega
                  have mj : ((1 : Int) ≤ ms.length) = (1 ≤ ms.length) := by simp only [eq_iff_iff]; omega
                  by_cases h6 : 1 ≤ ms.length <;> by_cases h7 : ms.length ≤ 3 <;> simp [d_stands, isaD, PyData.isTuple, cmpD, bltD, ok_int, PyData.eqv, ixD, L2.atI, L2.ixN, T_stands_are_things, r1, h1, bindT, setAll, hi, hj, h2, h3, hc, boolsOf_map, h4, standsD, lenD, binD, T_stands_are_numbers, r2, h5, mi, mj, h6, h7]
            · simp [d_stands, isaD, PyData.isTuple, standsD, cmpD, bltD, ok_int, PyData.eqv, ixD, L2.atI, L2.ixN, T_stands_are_things, r1, h1, bindT, setAll, hi, hj, h2, h3]
          · simp [d_stands, isaD, PyData.isTuple, standsD, cmpD, bltD, ok_int, PyData.eqv, ixD, L2.atI, L2.ixN, T_stands_are_things, r1, h1, bindT, setAll, hi, hj, h2]
        | _ => simp [d_stands, isaD, PyData.isTuple, standsD, cmpD, bltD, ok_int, PyData.eqv, ixD, L2.atI, L2.ixN, T_stands_are_things, r1, h1, bindT, setAll]
  | _ => simp [d_stands, isaD, PyData.isTuple, standsD]
end SB
/-! The draws. -/
namespace SB
open PySem

/-- m runs at n draws, and Q holds of what it gives -/
def Wp {α : Type} (m : M α) (n : Nat) (Q : α → Nat → Prop) : Prop := ∃ a n', m (some n) = some (a, some n') ∧ Q a n'
theorem Wp.pure {α : Type} {a : α} {n : Nat} {Q : α → Nat → Prop} (h : Q a n) : Wp (Pure.pure a) n Q := ⟨a, n, rfl, h⟩
theorem Wp.bind {α β : Type} {m : M α} {f : α → M β} {n : Nat} {Q : β → Nat → Prop} (h : Wp m n fun a n' => Wp (f a) n' Q) : Wp (m >>= f) n Q := by
  obtain ⟨a, n1, h1, b, n2, h2, q⟩ := h
  refine ⟨b, n2, ?_, q⟩
  rw [M.bind_run, h1]
  exact h2
theorem Wp.mono {α : Type} {m : M α} {n : Nat} {Q R : α → Nat → Prop} (h : Wp m n Q) (f : ∀ a n', Q a n' → R a n') : Wp m n R := let ⟨a, n', h1, q⟩ := h; ⟨a, n', h1, f a n' q⟩
theorem Wp.guard {g : Fn} {args : List Sl} {n : Nat} {Q : Sl → Nat → Prop} (h : Wp (g args) n Q) : Wp (guardF g args) n Q := by
  obtain ⟨r, n', h1, q⟩ := h
  exact ⟨r, n', guardF_draw h1, q⟩
theorem Wp.tick {n : Nat} {Q : Nat → Nat → Prop} (h : n < 1000000) (q : Q (n + 1) (n + 1)) : Wp tickM n Q := ⟨n + 1, n + 1, by show (if n < 1000000 then _ else _) = _; rw [if_pos h], q⟩
theorem Wp.get {n : Nat} {Q : Nat → Nat → Prop} (q : Q n n) : Wp getM n Q := ⟨n, n, rfl, q⟩
/-- a loop: an invariant by the number of turns -/
theorem Wp.loop {f : D → Rho → M Fl} {Q : Fl → Nat → Prop} (Inv : Nat → Rho → Nat → Prop) (xs : List D) : ∀ (i : Nat) (ρ : Rho) (n : Nat), Inv i ρ n → (∀ j d ρ n, i ≤ j → xs[j - i]? = some d → Inv j ρ n → Wp (f d ρ) n fun fl n' => ∃ ρ', fl = .nx ρ' ∧ Inv (j + 1) ρ' n') →
    (∀ ρ n, Inv (i + xs.length) ρ n → Q (.nx ρ) n) → Wp (SB.loop f xs ρ) n Q := by
  induction xs with
  | nil => intro i ρ n hi _ hq; exact Wp.pure (hq ρ n hi)
  | cons d xs ih =>
    intro i ρ n hi hs hq
    rw [SB.loop]
    refine Wp.bind (Wp.mono (hs i d ρ n (Nat.le_refl _) (by simp) hi) fun fl n' h => ?_)
    obtain ⟨ρ', rfl, hi'⟩ := h
    refine ih (i + 1) ρ' n' hi' (fun j e ρ n hj he hI => hs j e ρ n (by omega) ?_ hI) fun ρ n h => hq ρ n (by rw [List.length_cons]; rw [show i + (xs.length + 1) = i + 1 + xs.length by omega]; exact h)
    have : j - i = (j - (i + 1)) + 1 := by omega
    rw [this, List.getElem?_cons_succ]
    exact he
@[simp] theorem cmp_lt_int (i j : Int) : cmpD .Lt (.int i) (.int j) = some (decide (i < j)) := rfl
@[simp] theorem cmp_le_int (i j : Int) : cmpD .LtE (.int i) (.int j) = some (decide (i ≤ j)) := rfl
@[simp] theorem cmp_gt_int (i j : Int) : cmpD .Gt (.int i) (.int j) = some (decide (j < i)) := rfl
@[simp] theorem cmp_ge_int (i j : Int) : cmpD .GtE (.int i) (.int j) = some (decide (j ≤ i)) := rfl
@[simp] theorem cmp_eq_int (i j : Int) : cmpD .Eq (.int i) (.int j) = some (i == j) := rfl
@[simp] theorem cmp_ne_int (i j : Int) : cmpD .NotEq (.int i) (.int j) = some (!(i == j)) := rfl
@[simp] theorem cmp_is_bool (a b : Bool) : cmpD .Is (.bool a) (.bool b) = some (decide (a = b)) := rfl
@[simp] theorem len_list (xs : List D) : bltD .len [.list xs] = some (.fz (.int xs.length)) := rfl
@[simp] theorem len_tuple (xs : List D) : bltD .len [.tuple xs] = some (.fz (.int xs.length)) := rfl
@[simp] theorem add_int (i j : Int) : binD .Add (.int i) (.int j) = some (.fz (.int (i + j))) := rfl
@[simp] theorem sub_int (i j : Int) : binD .Sub (.int i) (.int j) = some (.fz (.int (i - j))) := rfl
theorem mul_int {i j : Int} (h : -(2 ^ 64) < j ∧ j < 2 ^ 64) : binD .Mult (.int i) (.int j) = some (.fz (.int (i * j))) := by
  show (if _ then _ else _) = _
  rw [if_pos (.inr h)]
theorem mul_int' {i j : Int} (h : -(2 ^ 64) < i ∧ i < 2 ^ 64) : binD .Mult (.int i) (.int j) = some (.fz (.int (i * j))) := by
  show (if _ then _ else _) = _
  rw [if_pos (.inl h)]
theorem mod_int {i j : Int} (h : 0 < j) : binD .Mod (.int i) (.int j) = some (.fz (.int (i % j))) := by
  show (if _ then _ else _) = _
  rw [if_pos h]
theorem div_int {i j : Int} (h : 0 < j ∧ j < 1073741824) : binD .FloorDiv (.int i) (.int j) = some (.fz (.int (i / j))) := by
  show (if _ then _ else _) = _
  rw [if_pos h]
theorem pow_int {i j : Int} (h : 0 ≤ j ∧ j ≤ 1000000 ∧ i.natAbs < 2 ^ 64) : binD .Pow (.int i) (.int j) = some (.fz (.int (i ^ j.toNat))) := by
  show (if _ then _ else _) = _
  rw [if_pos h]
abbrev scr (ns : List Int) : Sl := .fz (.list (ns.map .int))
theorem atI_ints {ns : List Int} {k : Nat} (h : k < ns.length) : L2.atI (ns.map PyData.int) (k : Int) = some (.int ns[k]) := by
  unfold L2.atI L2.ixN
  rw [if_pos (by omega), if_pos (by rw [List.length_map]; omega)]
  simp [h]
theorem run_cell (ns : List Int) (hn : ns.length ≤ 63) (k : Nat) : ∃ v : Int, S__law_cell_at [scr ns, .fz (.int k)] = pure (.fz (.int v)) := by
  by_cases h : k < ns.length
  · refine ⟨ns[k], guardF_pure ?_⟩
    rw [runD_eq rfl rfl]
    simp [d__law_cell_at, h, ixD, atI_ints h]
  · cases ns with
    | nil =>
      refine ⟨0, guardF_pure ?_⟩
      rw [runD_eq rfl rfl]
      have hk : ¬ ((k : Int) < 0) := by omega
      have e : cmpD .Eq (.list []) (.list []) = some true := rfl
      simp [d__law_cell_at, hk, e]
    | cons x r =>
      generalize hns : x :: r = ns at *
      have hl : 0 < ns.length := by rw [← hns]; simp
      have hk : k % ns.length < ns.length := Nat.mod_lt _ hl
      have e : cmpD .Eq (.list (ns.map .int)) (.list []) = some false := by
        have o1 : okD (.list (ns.map .int)) = true := PySem.W.shaped_ints _
        have o2 : okD (.list []) = true := rfl
        simp only [cmpD, o1, o2, Bool.and_self, if_true]
        rw [← hns]
        simp [PyData.eqv, PyData.eqvAll]
      have h1 : ¬ ((k : Int) < ns.length) := by omega
      obtain ⟨i, hi, m1⟩ : ∃ i : Nat, i < ns.length ∧ binD .Mod (.int k) (.int ns.length) = some (.fz (.int (i : Int))) := ⟨k % ns.length, hk, by rw [mod_int (by omega)]; simp⟩
      obtain ⟨u, m2⟩ : ∃ u : Nat, binD .FloorDiv (.int k) (.int ns.length) = some (.fz (.int (u : Int))) := ⟨k / ns.length, by rw [div_int (by omega)]; simp⟩
      have a1 := atI_ints hi
      obtain ⟨j, hj, mn⟩ : ∃ j : Nat, j ≤ 60 ∧ bltD .min [.int (u : Int), .int 60] = some (.fz (.int (j : Int))) := by
        refine ⟨min u 60, Nat.min_le_right _ _, ?_⟩
        show some (Sl.fz (.int (if (60 : Int) < (u : Int) then 60 else (u : Int)))) = _
        congr 3
        split <;> omega
      have it : ∀ j : Nat, j ≤ 60 → iterD .range [.int (j : Int)] = some ((List.range j).map fun i => .int ((i : Nat) : Int)) := fun j hj => by
        show (if _ then _ else _) = _
        rw [if_pos ⟨by have : (60 : Int) ≤ (sizeLine : Nat) := by decide +kernel
                       omega, by omega⟩]
        simp
      have lp : ∀ (j : Nat) (s : Int), ∃ (t : Int) (o : Option Sl), loop (fun d ρ => ofO (bindT true [3] d ρ) >>= exs T__law_cell_at [.asg 2 (.bin .FloorDiv (.v 2) (.int 1000003))]) ((List.range j).map fun i => .int ((i : Nat) : Int)) [some (scr ns), some (.fz (.int k)), some (.fz (.int s)), none] = pure (.nx [some (scr ns), some (.fz (.int k)), some (.fz (.int t)), o]) := fun j s => by
        refine ⟨_, _, loop_fold (f := fun d ρ => ofO (bindT true [3] d ρ) >>= exs T__law_cell_at [.asg 2 (.bin .FloorDiv (.v 2) (.int 1000003))]) (fun i : Nat => .int ((i : Nat) : Int)) (fun s : Int × Option Sl => [some (scr ns), some (.fz (.int k)), some (.fz (.int s.1)), s.2]) (fun s i => (s.1 / 1000003, some (.fz (.int (i : Int))))) (List.range j) (s, none) fun s x _ => ?_⟩
        simp [bindT, div_int (i := s.1) (j := 1000003) (by decide)]
      obtain ⟨t, o, lp⟩ := lp j ns[i]
      refine ⟨ns[i] * 31 + k + t * 101, guardF_pure ?_⟩
      rw [runD_eq rfl rfl]
      simp [d__law_cell_at, h1, e, m1, m2, ixD, a1, mn, it j hj]
      rw [lp]
      simp [m1, a1, ixD, mul_int (i := ns[i]) (j := 31) (by decide), mul_int (i := t) (j := 101) (by decide)]
end SB
/-! The draws: one of many, some of many, a step. -/
namespace SB
open PySem

@[simp] theorem ex_while (c : Ex) (body : List SB.St) {Φ : Tab} {ρ : Rho} : ex Φ (.while c body) ρ = wloop (fun ρ => do let x ← ev Φ c ρ; let d ← x.rd; asB d) (fun ρ => exs Φ body ρ) fuel ρ := by rw [ex]
@[simp] theorem ex_appPop (i j : Nat) (e : Ex) {Φ : Tab} {ρ : Rho} : ex Φ (.appPop i j e) ρ = (do
    let x ← ev Φ e ρ
    let d ← x.rd
    let k ← ofO (intOf d)
    let xs ← ofO (owL ρ i)
    let ys ← ofO (owL ρ j)
    let y ← ofO ys[k.toNat]?
    if 0 ≤ k ∧ k < 2 ^ 62 ∧ i ≠ j ∧ xs.length < sizeLine then pure (.nx ((ρ.set j (some (.ow (.list (ys.eraseIdx k.toNat))))).set i (some (.ow (.list (xs ++ [y])))))) else M.fail) := by rw [ex]
theorem run_mixed (ns : List Int) (hn : ns.length ≤ 63) (k : Nat) (many : Int) (hm : 0 < many) : ∃ v : Int, 0 ≤ v ∧ v < many ∧ S__law_mixed [scr ns, .fz (.int k), .fz (.int many)] = pure (.fz (.int v)) := by
  obtain ⟨c, hc⟩ := run_cell ns hn k
  have e1 := mul_int (i := c) (j := 1103515245) (by decide)
  have e2 := mul_int' (i := 7919) (j := (k : Int)) (by decide)
  obtain ⟨s, hs⟩ : ∃ s : Int, s = (c * 1103515245 + 7919 * (k : Int) + 12345) % 2147483647 := ⟨_, rfl⟩
  have e3 : binD .Mod (.int (c * 1103515245 + 7919 * (k : Int) + 12345)) (.int 2147483647) = some (.fz (.int s)) := by rw [mod_int (by decide), hs]
  have h0 : 0 ≤ s := by rw [hs]; exact Int.emod_nonneg _ (by decide)
  have h1 : s < 2147483647 := by rw [hs]; exact Int.emod_lt_of_pos _ (by decide)
  have e4 : binD .Pow (.int s) (.int 5) = some (.fz (.int (s ^ 5))) := pow_int (j := 5) ⟨by decide, by decide, by omega⟩
  have e5 := mod_int (i := s ^ 5) (j := 2147483647) (by decide)
  have e6 := mod_int (i := s ^ 5 % 2147483647) (j := 999983) (by decide)
  have e7 := mod_int (i := s ^ 5 % 2147483647 % 999983) (j := many) hm
  refine ⟨s ^ 5 % 2147483647 % 999983 % many, Int.emod_nonneg _ (by omega), Int.emod_lt_of_pos _ hm, guardF_pure ?_⟩
  rw [runD_eq rfl rfl]
  simp [d__law_mixed, T__law_mixed__law_cell_at, hc, e1, e2, e3, e4, e5, e6, e7]
theorem run_draw (ns : List Int) (hn : ns.length ≤ 63) (many : Int) (hm : 0 < many) {n : Nat} (h : n < 1000000) {Q : Sl → Nat → Prop} (q : ∀ v : Int, 0 ≤ v → v < many → Q (.fz (.int v)) (n + 1)) : Wp (S__law_draw [scr ns, .st, .fz (.int many)]) n Q := by
  refine Wp.guard ?_
  rw [runD_eq rfl rfl]
  obtain ⟨v, h0, h1, hv⟩ := run_mixed ns hn (n + 1) many hm
  have hv' : S__law_mixed [scr ns, .fz (.int ((n : Int) + 1)), .fz (.int many)] = pure (.fz (.int v)) := by
    rw [← hv]
    simp
  simp [d__law_draw, appK, appTo, isSt]
  refine Wp.bind (Wp.tick h ?_)
  refine Wp.bind (Wp.get ?_)
  simp [T__law_draw__law_mixed, hv']
  exact Wp.pure (q v h0 h1)
end SB
/-! A step is drawn. -/
namespace SB
open PySem

theorem range_it (j : Nat) (hj : j ≤ 1000) : iterD .range [.int (j : Int)] = some ((List.range j).map fun i => .int ((i : Nat) : Int)) := by
  show (if _ then _ else _) = _
  have : (1000 : Int) ≤ (sizeLine : Nat) := by decide +kernel
  rw [if_pos ⟨by omega, by omega⟩]
  simp
theorem size1000 {n : Nat} (h : n ≤ 1000) : n ≤ sizeLine := Nat.le_trans h (by decide +kernel)
theorem size1000' {n : Nat} (h : n ≤ 1000) : n < sizeLine := Nat.lt_of_le_of_lt h (by decide +kernel)
theorem is_thingR {t c v : Int} (h0 : 0 ≤ v) (h1 : v < t) : isReadingD t c (.tuple [.str "thing", .int v]) = true := by
  simp [isReadingD, isIntD]
  omega
theorem is_stepR {t c v : Int} (h0 : 0 ≤ v) (h1 : v < c) : isReadingD t c (.tuple [.str "step", .int v]) = true := by
  simp [isReadingD, isIntD, step_thing]
  omega
end SB
/-! Some of many are drawn. -/
namespace SB
open PySem

theorem rises_ints : ∀ {ys : List Int}, ys.Pairwise (· < ·) → risesB lesD (ys.map .int) = true
  | [], _ => rfl
  | [_], _ => rfl
  | a :: b :: r, h => by
    cases h with
    | cons h1 h2 =>
      have ih := rises_ints h2
      simp only [List.map_cons] at ih ⊢
      simp only [risesB, lesD, ih, Bool.and_true]
      simpa using h1 b (by simp)
theorem ints_numbers {ys : List Int} {lo hi : Int} (h : ys.Pairwise (· < ·)) (hb : ∀ y ∈ ys, lo ≤ y ∧ y ≤ hi) : areNumbersD (.tuple (ys.map .int)) lo hi = true := by
  simp only [areNumbersD, rises_ints h, Bool.and_true, List.all_map, List.all_eq_true]
  intro y hy
  simpa [isIntD] using hb y hy
end SB
/-! Facts of steps; law k02. -/
namespace SB
open PySem

theorem law_of {f : Unit → M Sl} (h : Wp (f ()) 0 fun a _ => a = .fz (.bool true)) : ∃ c, (initM >>= f) none = some (.fz (.bool true), c) := by
  obtain ⟨a, n, h1, rfl⟩ := h
  exact ⟨some n, h1⟩
theorem reads_fit {x : Str} {n : Int} (h : readsL.lookup x = some n) : fit (.str x) = true := by
  have m := PySem.mem_of_lookup h
  simp only [readsL, List.mem_cons, Prod.mk.injEq, List.not_mem_nil, or_false] at m
  rcases m with ⟨rfl, _⟩ | ⟨rfl, _⟩ | ⟨rfl, _⟩ | ⟨rfl, _⟩ | ⟨rfl, _⟩ | ⟨rfl, _⟩ | ⟨rfl, _⟩ | ⟨rfl, _⟩ <;> decide +kernel
theorem reading_cases {t c : Int} {d : D} (h : isReadingD t c d = true) : ∃ x v, d = .tuple [.str x, .int v] ∧ ((x = "thing" ∧ 0 ≤ v ∧ v < t) ∨ (x = "step" ∧ 0 ≤ v ∧ v < c)) := by
  unfold isReadingD at h
  split at h
  · rename_i x y
    by_cases hx : x = "thing"
    · rw [if_pos hx] at h
      cases y <;> simp [isIntD] at h
      exact ⟨_, _, rfl, .inl ⟨hx, h.1, by omega⟩⟩
    · rw [if_neg hx] at h
      simp only [Bool.and_eq_true, decide_eq_true_eq] at h
      obtain ⟨hx, h⟩ := h
      cases y <;> simp [isIntD] at h
      exact ⟨_, _, rfl, .inr ⟨hx, h.1, by omega⟩⟩
  · cases h
theorem reading_mono {t t' c : Int} {d : D} (ht : t ≤ t') (h : isReadingD t c d = true) : isReadingD t' c d = true := by
  obtain ⟨x, v, rfl, ⟨rfl, h0, h1⟩ | ⟨rfl, h0, h1⟩⟩ := reading_cases h
  · exact is_thingR h0 (by omega)
  · exact is_stepR h0 h1
theorem step_cases {t c : Int} {d : D} (h : isStepD t c d = true) : ∃ x rs n, d = .tuple [.str x, .tuple rs] ∧ readsL.lookup x = some n ∧ (rs.length : Int) = n ∧ rs.all (isReadingD t c) = true := by
  unfold isStepD at h
  split at h
  · rename_i x rs
    split at h
    · rename_i n e
      simp only [Bool.and_eq_true, decide_eq_true_eq] at h
      exact ⟨x, rs, n, rfl, e, h.1, h.2⟩
    · cases h
  · cases h
theorem step_mono {t t' c : Int} {d : D} (ht : t ≤ t') (h : isStepD t c d = true) : isStepD t' c d = true := by
  obtain ⟨x, rs, n, rfl, h1, h2, h3⟩ := step_cases h
  simp only [isStepD, h1, h2, decide_true, Bool.true_and, List.all_eq_true]
  exact fun r hr => reading_mono ht (List.all_eq_true.mp h3 r hr)
theorem reading_fit {t c : Int} {d : D} (h : isReadingD t c d = true) : fit d = true := by
  obtain ⟨x, v, rfl, ⟨rfl, _⟩ | ⟨rfl, _⟩⟩ := reading_cases h
  · have e : fit (.str "thing") = true := by decide +kernel
    simp [e]
  · have e : fit (.str "step") = true := by decide +kernel
    simp [e]
theorem step_fit {t c : Int} {d : D} (h : isStepD t c d = true) : fit d = true := by
  obtain ⟨x, rs, n, rfl, h1, h2, h3⟩ := step_cases h
  have e : fitAll rs = true := fitAll_iff.mpr fun r hr => reading_fit (List.all_eq_true.mp h3 r hr)
  simp [reads_fit h1, e]
/-- a list of steps, each of which reads what stands before it -/
def stepsOk (t : Int) (ss : List D) : Prop := ∀ (i : Nat) (d : D), ss[i]? = some d → isStepD t (i : Int) d = true
theorem stepsOk.all {t t' : Int} {ss : List D} (h : stepsOk t ss) (ht : t ≤ t') : (ss.zipIdx.all fun p => isStepD t' p.2 p.1) = true := by
  rw [List.all_eq_true]
  rintro ⟨d, i⟩ hp
  have := List.mk_mem_zipIdx_iff_getElem?.mp hp
  exact step_mono ht (h i d this)
theorem stepsOk.fit {t : Int} {ss : List D} (h : stepsOk t ss) : fitAll ss = true := by
  refine fitAll_iff.mpr fun d hd => ?_
  obtain ⟨i, hi⟩ := List.getElem?_of_mem hd
  exact step_fit (h i d hi)
theorem ints_fit (ys : List Int) : fitAll (ys.map .int) = true := fitAll_iff.mpr fun d hd => by
  obtain ⟨i, _, rfl⟩ := List.mem_map.mp hd
  simp
end SB
/-! A recipe is drawn. -/
namespace SB
open PySem

theorem Wp.turns {f : D → M (Option D)} (P : D → Prop) (B N : Nat) : ∀ (xs : List D) (n : Nat), n + B * xs.length ≤ N → (∀ d ∈ xs, ∀ m, m + B ≤ N → Wp (f d) m fun o m' => ∃ y, o = some y ∧ P y ∧ m ≤ m' ∧ m' ≤ m + B) →
    Wp (SB.turns f xs) n fun ys n' => ys.length = xs.length ∧ (∀ y ∈ ys, P y) ∧ n ≤ n' ∧ n' ≤ n + B * xs.length
  | [], n, _, _ => Wp.pure ⟨rfl, by simp, Nat.le_refl _, by omega⟩
  | d :: xs, n, hb, h => by
    rw [List.length_cons, Nat.mul_succ] at hb
    rw [SB.turns]
    refine Wp.bind (Wp.mono (h d List.mem_cons_self n (by omega)) fun o m h1 => ?_)
    obtain ⟨y, rfl, hy, m1, m2⟩ := h1
    refine Wp.bind (Wp.mono (Wp.turns P B N xs m (by omega) fun e he => h e (List.mem_cons_of_mem _ he)) fun ys m' h2 => ?_)
    obtain ⟨h3, h4, h5, h6⟩ := h2
    refine Wp.pure ⟨by simp [h3], fun z hz => ?_, by omega, by rw [List.length_cons, Nat.mul_succ]; omega⟩
    rcases List.mem_cons.mp hz with rfl | hz
    · exact hy
    · exact h4 z hz
theorem Wp.comp {Φ : Tab} {ρ : Rho} {elt : Ex} {own tg : List Nat} {one : Bool} {k : IK} {args : List Ex} {n : Nat} {Q : Sl → Nat → Prop} (P : D → Prop) (B N : Nat)
    (h : Wp (evr Φ args ρ) n fun ds n1 => ∃ xs, iterD k ds = some xs ∧ n1 + B * xs.length ≤ N ∧
      (∀ d ∈ xs, ∀ m, m + B ≤ N → Wp (do let ρ1 ← ofO (bindT one tg d (wipeR ρ own)); let y ← ev Φ elt ρ1; y.kp) m fun y m' => P y ∧ m ≤ m' ∧ m' ≤ m + B) ∧
      ∀ ys n', ys.length = xs.length → (∀ y ∈ ys, P y) → n1 ≤ n' → n' ≤ n1 + B * xs.length → Q (.ow (.list ys)) n') : Wp (ev Φ (.comp elt own tg one k args []) ρ) n Q := by
  rw [ev]
  refine Wp.bind (Wp.mono h fun ds n1 h1 => ?_)
  obtain ⟨xs, h2, h3, h4, h5⟩ := h1
  rw [h2, ofO_some, pure_bind]
  refine Wp.bind (Wp.mono (Wp.turns P B N xs n1 h3 fun d hd m hm => ?_) fun ys n' h6 => Wp.pure (h5 ys n' h6.1 h6.2.1 h6.2.2.1 h6.2.2.2))
  have h7 := h4 d hd m hm
  cases hb : bindT one tg d (wipeR ρ own) with
  | none =>
    rw [hb] at h7
    obtain ⟨_, _, h8, _⟩ := h7
    cases h8
  | some ρ1 =>
    rw [hb, ofO_some, pure_bind] at h7
    rw [ofO_some, pure_bind, evc_nil, pure_bind, if_pos rfl, ← bind_assoc]
    refine Wp.bind (Wp.mono h7 fun y m' h8 => Wp.pure ⟨y, rfl, h8.1, h8.2.1, h8.2.2⟩)
/-! ### things -/
def sixT : List D := [.tuple [.str "a", .str "b"], .tuple [.str "", .str "x"], .tuple [.str "ab", .str "ba"], .tuple [.str "", .str "a", .str "aab"], .tuple [.str "c"], .tuple [.str "b", .str "ca", .str "cb"]]
def manyT : List D := sixT ++ [.tuple [.str "", .str "a"], .tuple [.str "b", .str "ca"]]
def okThing (d : D) : Prop := d ∈ manyT
theorem many_facts : ∀ d ∈ manyT, isThingD d = true ∧ fit d = true ∧ 1 ≤ lenD d ∧ lenD d ≤ 3 := by
  intro d hd
  simp only [manyT, sixT, List.cons_append, List.nil_append, List.mem_cons, List.not_mem_nil, or_false] at hd
  rcases hd with rfl | rfl | rfl | rfl | rfl | rfl | rfl | rfl <;> decide +kernel
end SB
/-! A recipe is drawn. -/
namespace SB
open PySem

structure RecOk (ths ss : List D) (ys : List Int) : Prop where
  th : ∀ t ∈ ths, okThing t
  t1 : 1 ≤ ths.length
  t3 : ths.length ≤ 3
  st : stepsOk ths.length ss
  s1 : 1 ≤ ss.length
  s5 : ss.length ≤ 5
  up : ys.Pairwise (· < ·)
  bd : ∀ y ∈ ys, 0 ≤ y ∧ y < ss.length
  hi : ((ss.length : Int) - 1) ∈ ys
  y2 : ys.length ≤ 2
abbrev recD (ths ss : List D) (ys : List Int) : D := .tuple [.tuple ths, .tuple ss, .tuple (ys.map .int)]
theorem prod_le : ∀ (l : List D) (c : Int), 0 ≤ c → (∀ t ∈ l, lenD t ≤ 3) → l.foldl (fun c t => c * (lenD t : Int)) c ≤ c * 3 ^ l.length
  | [], c, _, _ => by simp
  | t :: l, c, h0, h => by
    have h3 : (lenD t : Int) ≤ 3 := by have := h t List.mem_cons_self; omega
    have h4 : c * (lenD t : Int) ≤ c * 3 := Int.mul_le_mul_of_nonneg_left h3 h0
    have h5 : 0 ≤ c * (lenD t : Int) := Int.mul_nonneg h0 (by omega)
    refine Int.le_trans (prod_le l _ h5 fun x hx => h x (List.mem_cons_of_mem _ hx)) ?_
    rw [List.length_cons, Int.pow_succ']
    rw [show c * (3 * 3 ^ l.length) = (c * 3) * (3 : Int) ^ l.length by rw [Int.mul_assoc]]
    exact Int.mul_le_mul_of_nonneg_right h4 (Int.pow_nonneg (by decide))
theorem things_ok {ths : List D} (h : ∀ t ∈ ths, okThing t) (h1 : 1 ≤ ths.length) (h3 : ths.length ≤ 3) : areThingsD (.tuple ths) = true := by
  have p := prod_le ths 1 (by decide) fun t ht => (many_facts t (h t ht)).2.2.2
  have p3 : (1 : Int) * 3 ^ ths.length ≤ 27 := by
    have : ths.length = 1 ∨ ths.length = 2 ∨ ths.length = 3 := by omega
    rcases this with e | e | e <;> rw [e] <;> decide
  have a : ths.all isThingD = true := List.all_eq_true.mpr fun t ht => (many_facts t (h t ht)).1
  have p4 : prodD ths ≤ 256 := by
    show ths.foldl (fun c t => c * (lenD t : Int)) 1 ≤ 256
    omega
  simp [areThingsD, h1, a, p4]
  omega
theorem things_fit {ths : List D} (h : ∀ t ∈ ths, okThing t) : fitAll ths = true := fitAll_iff.mpr fun t ht => (many_facts t (h t ht)).2.1
theorem RecOk.fit {ths ss : List D} {ys : List Int} (r : RecOk ths ss ys) : fit (recD ths ss ys) = true := by
  simp [things_fit r.th, r.st.fit, ints_fit]
theorem RecOk.made {ths ss : List D} {ys : List Int} (r : RecOk ths ss ys) : areNumbersD (.tuple (ys.map .int)) 0 ((ss.length : Int) - 1) = true := ints_numbers r.up fun y hy => by
  have := r.bd y hy
  omega
theorem stands_of' {th made : D} {ss : List D} {t : Int} (h1 : areThingsD th = true) (h2 : 1 ≤ ss.length) (h3 : ss.length ≤ 8) (h4 : stepsOk t ss) (ht : t ≤ lenD th) (h5 : areNumbersD made 0 (ss.length - 1) = true) (h6 : 1 ≤ lenD made) (h7 : lenD made ≤ 3) : standsD (.tuple [th, .tuple ss, made]) = true := by
  simp only [standsD, h1, h2, h3, h4.all ht, h5, h6, h7, decide_true, Bool.and_self]
theorem RecOk.stands {ths ss : List D} {ys : List Int} (r : RecOk ths ss ys) : standsD (recD ths ss ys) = true := by
  refine stands_of' (things_ok r.th r.t1 r.t3) r.s1 (by have := r.s5; omega) r.st (by simp [lenD]) r.made ?_ ?_
  · have := List.length_pos_of_mem r.hi
    simp [lenD]
    omega
  · have := r.y2
    simp [lenD]
    omega
@[simp] theorem ev_sset (a : Ex) {Φ : Tab} {ρ : Rho} : ev Φ (.sset a) ρ = (do let x ← ev Φ a ρ; let d ← x.rd; ofO (ssetD d)) := by rw [ev]
end SB
/-! Recipes with types. -/
namespace SB
open PySem

/-- a reading: of a thing, or of a step -/
structure Rg where
  th : Bool
  ix : Nat
structure Stp where
  op : Str
  rs : List Rg
structure Rec where
  th : List (List Str)
  st : List Stp
  md : List Nat
abbrev natD (n : Nat) : D := .int (n : Int)
def Rg.d (g : Rg) : D := .tuple [.str (if g.th then "thing" else "step"), natD g.ix]
def Stp.d (s : Stp) : D := .tuple [.str s.op, .tuple (s.rs.map Rg.d)]
def thD (t : List Str) : D := .tuple (t.map .str)
def Rec.d (r : Rec) : D := .tuple [.tuple (r.th.map thD), .tuple (r.st.map Stp.d), .tuple (r.md.map natD)]
def Stp.ok (t c : Nat) (s : Stp) : Prop := readsL.lookup s.op = some (s.rs.length : Int) ∧ ∀ g ∈ s.rs, g.ix < (if g.th then t else c)
def thOk (t : List Str) : Prop := 1 ≤ t.length ∧ t.length ≤ 4 ∧ (∀ x ∈ t, okText x 4 = true) ∧ risesB lesD (t.map .str) = true
def prodN : List (List Str) → Nat
  | [] => 1
  | t :: ts => t.length * prodN ts
structure Rec.Ok (r : Rec) : Prop where
  t1 : 1 ≤ r.th.length
  t5 : r.th.length ≤ 5
  th : ∀ t ∈ r.th, thOk t
  pr : prodN r.th ≤ 256
  s1 : 1 ≤ r.st.length
  s8 : r.st.length ≤ 8
  st : ∀ (i : Nat) s, r.st[i]? = some s → s.ok r.th.length i
  up : r.md.Pairwise (· < ·)
  bd : ∀ y ∈ r.md, y < r.st.length
  m1 : 1 ≤ r.md.length
  m3 : r.md.length ≤ 3
theorem nats_rise : ∀ {ns : List Nat}, ns.Pairwise (· < ·) → risesB lesD (ns.map natD) = true
  | [], _ => rfl
  | [_], _ => rfl
  | a :: b :: r, h => by
    simp only [List.map_cons, risesB, Bool.and_eq_true]
    have h1 := List.pairwise_cons.mp h
    refine ⟨?_, by have := nats_rise h1.2; simpa using this⟩
    have := h1.1 b List.mem_cons_self
    simpa [natD, lesD] using this
theorem prod_eq : ∀ (ts : List (List Str)) (c : Int), (ts.map thD).foldl (fun c t => c * (lenD t : Int)) c = c * (prodN ts : Int)
  | [], c => by simp [prodN]
  | t :: ts, c => by
    rw [List.map_cons, List.foldl_cons, prod_eq ts]
    simp [thD, lenD, prodN, Int.mul_assoc]
theorem step_is {t c : Nat} {s : Stp} (h : s.ok t c) : isStepD t c s.d = true := by
  obtain ⟨h1, h2⟩ := h
  simp only [Stp.d, isStepD, h1, List.length_map, decide_true, Bool.true_and, List.all_map, List.all_eq_true]
  intro g hg
  have := h2 g hg
  show isReadingD t c g.d = true
  cases hb : g.th
  · simp [hb] at this
    simp [Rg.d, hb, natD, isReadingD, step_thing, isIntD]
    omega
  · simp [hb] at this
    simp [Rg.d, hb, natD, isReadingD, isIntD]
    omega
theorem Rec.Ok.stands {r : Rec} (h : r.Ok) : standsD r.d = true := by
  have e : prodD (r.th.map thD) = 1 * (prodN r.th : Int) := prod_eq r.th 1
  have hp := h.pr
  have h1 := h.t1; have h5 := h.t5; have s1 := h.s1; have s8 := h.s8; have m1 := h.m1; have m3 := h.m3
  have a1 : areThingsD (.tuple (r.th.map thD)) = true := by
    simp only [areThingsD, List.length_map, e, Bool.and_eq_true, decide_eq_true_eq, List.all_map, List.all_eq_true]
    refine ⟨h1, h5, fun t ht => ?_, by omega⟩
    obtain ⟨b1, b2, b3, b4⟩ := h.th t ht
    show isThingD (thD t) = true
    simp only [thD, isThingD, List.length_map, b1, b2, b4, decide_true, Bool.true_and, Bool.and_true, List.all_map, List.all_eq_true]
    exact fun x hx => b3 x hx
  have a2 : ((r.st.map Stp.d).zipIdx.all fun p => isStepD (lenD (.tuple (r.th.map thD))) p.2 p.1) = true := by
    rw [List.all_eq_true]
    rintro ⟨d, i⟩ hp
    have hd := List.mk_mem_zipIdx_iff_getElem?.mp hp
    rw [List.getElem?_map] at hd
    obtain ⟨s, hs, rfl⟩ := Option.map_eq_some_iff.mp hd
    have := step_is (h.st i s hs)
    simpa [lenD] using this
  have a3 : areNumbersD (.tuple (r.md.map natD)) 0 (((r.st.map Stp.d).length : Int) - 1) = true := by
    simp only [areNumbersD, nats_rise h.up, Bool.and_true, List.all_map, List.all_eq_true, List.length_map]
    intro y hy
    have := h.bd y hy
    show isIntD (natD y) 0 ((r.st.length : Int) - 1) = true
    simp [natD, isIntD]
    omega
  simp only [Rec.d, standsD, a1, a2, a3, Bool.true_and]
  simp [lenD]
  omega
/-! ### texts of letters -/
def Ltr (x : Str) : Prop := ∀ c ∈ x.cps.toList, c ∈ lettersT.cps.toList
theorem letters_ok : lettersT.cps.toList.all (fun c => decide (c < 0x110000) && !(decide (0xD800 ≤ c) && decide (c ≤ 0xDFFF))) = true := by decide +kernel
theorem okText_ltr {x : Str} {n : Int} (h : okText x n = true) : Ltr x ∧ (x.length : Int) ≤ n := by
  simp only [okText, Bool.and_eq_true, decide_eq_true_eq, List.all_eq_true] at h
  exact ⟨h.2, h.1⟩
theorem Rec.Ok.fit {r : Rec} (h : r.Ok) (hf : ∀ t ∈ r.th, ∀ x ∈ t, fit (.str x) = true) : fit r.d = true := by
  have f1 : fitAll (r.th.map thD) = true := fitAll_iff.mpr fun d hd => by
    obtain ⟨t, ht, rfl⟩ := List.mem_map.mp hd
    rw [thD, fit_tuple]
    exact fitAll_iff.mpr fun e he => by
      obtain ⟨x, hx, rfl⟩ := List.mem_map.mp he
      exact hf t ht x hx
  have f2 : fitAll (r.st.map Stp.d) = true := fitAll_iff.mpr fun d hd => by
    obtain ⟨i, hi⟩ := List.getElem?_of_mem hd
    rw [List.getElem?_map] at hi
    obtain ⟨s, hs, rfl⟩ := Option.map_eq_some_iff.mp hi
    exact step_fit (step_is (h.st i s hs))
  have f3 : fitAll (r.md.map natD) = true := fitAll_iff.mpr fun d hd => by
    obtain ⟨n, _, rfl⟩ := List.mem_map.mp hd
    simp [natD]
  simp [Rec.d, f1, f2, f3]
end SB
/-! All worlds. -/
namespace SB
open PySem

theorem ltr_fit {x : Str} (h : Ltr x) (hl : x.length ≤ 100000) : fit (.str x) = true := by
  have s : (100000 : Nat) ≤ sizeLine := by decide +kernel
  have e : PyData.strOk x = true := by
    show x.cps.all (fun c => decide (c < 0x110000)) = true
    rw [← Array.all_toList, List.all_eq_true]
    intro c hc
    have := List.all_eq_true.mp letters_ok c (h c hc)
    simp only [Bool.and_eq_true] at this
    exact this.1
  rw [fit, e, Bool.true_and, decide_eq_true_eq]
  omega
theorem Rec.Ok.ltr {r : Rec} (h : r.Ok) {t : List Str} {x : Str} (ht : t ∈ r.th) (hx : x ∈ t) : Ltr x ∧ x.length ≤ 4 := by
  have := okText_ltr ((h.th t ht).2.2.1 x hx)
  exact ⟨this.1, by omega⟩
theorem Rec.Ok.fit' {r : Rec} (h : r.Ok) : SB.fit r.d = true := h.fit fun t ht x hx => ltr_fit (h.ltr ht hx).1 (by have := (h.ltr ht hx).2; omega)
/-! ### worlds -/
def wD (w : List Nat) : D := .tuple (w.map natD)
/-- all worlds of things of so many texts, behind some beginnings -/
def grow (found : List (List Nat)) (n : Nat) : List (List Nat) := found.flatMap fun w => (List.range n).map fun i => w ++ [i]
def allW (ns : List Nat) : List (List Nat) := ns.foldl grow [[]]
def Rec.ns (r : Rec) : List Nat := r.th.map List.length
/-- a world -/
def Wld (r : Rec) (w : List Nat) : Prop := w.length = r.th.length ∧ ∀ (i : Nat) x t, w[i]? = some x → r.th[i]? = some t → x < t.length
end SB
/-! The worlds of a recipe are made. -/
namespace SB
open PySem

theorem atI_nat {α : Type} {xs : List α} {i : Nat} (h : i < xs.length) : L2.atI xs (i : Int) = some xs[i] := by
  unfold L2.atI L2.ixN
  rw [if_pos (by omega), if_pos (by omega)]
  simp [h]
theorem atI_mapN {α β : Type} (f : α → β) {xs : List α} {i : Nat} (h : i < xs.length) : L2.atI (xs.map f) (i : Int) = some (f xs[i]) := by
  rw [atI_nat (by simpa using h)]
  simp
@[simp] theorem ix_t0 (a : D) (l : List D) : ixD (.tuple (a :: l)) (.int 0) = some (.fz a) := by
  have := atI_nat (xs := a :: l) (i := 0) (by simp)
  simp [ixD]
  exact this
@[simp] theorem ix_t1 (a b : D) (l : List D) : ixD (.tuple (a :: b :: l)) (.int 1) = some (.fz b) := by
  have := atI_nat (xs := a :: b :: l) (i := 1) (by simp)
  simp [ixD]
  exact this
@[simp] theorem ix_t2 (a b c : D) (l : List D) : ixD (.tuple (a :: b :: c :: l)) (.int 2) = some (.fz c) := by
  have := atI_nat (xs := a :: b :: c :: l) (i := 2) (by simp)
  simp [ixD]
  exact this
theorem s1000 {n : Nat} (h : n ≤ 1000) : n ≤ sizeLine := size1000 h
/-- the same, by the number of turns -/
theorem loop_ix {α : Type} {f : D → Rho → M Fl} (a : α → D) (Inv : Nat → Rho → Prop) : ∀ (l : List α) (k : Nat) (ρ : Rho), Inv k ρ →
    (∀ i x ρ, l[i]? = some x → Inv (k + i) ρ → ∃ ρ', f (a x) ρ = pure (.nx ρ') ∧ Inv (k + i + 1) ρ') → ∃ ρ', loop f (l.map a) ρ = pure (.nx ρ') ∧ Inv (k + l.length) ρ'
  | [], k, ρ, h, _ => ⟨ρ, rfl, h⟩
  | x :: l, k, ρ, h, ht => by
    obtain ⟨ρ1, h1, h2⟩ := ht 0 x ρ rfl h
    obtain ⟨ρ2, h3, h4⟩ := loop_ix (f := f) a Inv l (k + 1) ρ1 h2 fun i y ρ hy hi => by
      have := ht (i + 1) y ρ hy (by rw [show k + (i + 1) = k + 1 + i by omega]; exact hi)
      rw [show k + (i + 1) = k + 1 + i by omega] at this
      exact this
    refine ⟨ρ2, ?_, ?_⟩
    · rw [List.map_cons, loop, h1, pure_bind]
      exact h3
    · rw [List.length_cons, show k + (l.length + 1) = k + 1 + l.length by omega]
      exact h4
theorem take_snoc {α : Type} {l : List α} {i : Nat} {x : α} (h : l[i]? = some x) : l.take (i + 1) = l.take i ++ [x] := by
  rw [List.take_succ, h]
  rfl
theorem run_need_recipe (r : Rec) (h : r.Ok) : S_need_recipe [.fz r.d] = pure (.fz .none) := by
  refine guardF_pure ?_
  rw [runD_eq rfl rfl]
  simp [d_need_recipe, T_need_recipe_stands, run_stands r.d h.fit', h.stands]
end SB
/-! Texts: what the operations make. -/
namespace SB
open PySem

def ofL (l : List Nat) : Str := ⟨l.toArray⟩
@[simp] theorem cps_ofL (l : List Nat) : (ofL l).cps.toList = l := by simp [ofL]
theorem str_ext {x y : Str} (h : x.cps.toList = y.cps.toList) : x = y := by
  cases x; cases y
  simp only [Str.mk.injEq]
  simpa using h
theorem len_cps (x : Str) : x.length = x.cps.toList.length := rfl
theorem len_ofL (l : List Nat) : (ofL l).length = l.length := by rw [len_cps, cps_ofL]
theorem cps_add (x y : Str) : (x ++ y).cps.toList = x.cps.toList ++ y.cps.toList := by
  show (x.cps ++ y.cps).toList = _
  simp
theorem len_add (x y : Str) : (x ++ y).length = x.length + y.length := by
  rw [len_cps, cps_add, List.length_append]
  rfl
abbrev sg (c : Nat) : Str := ⟨#[c]⟩
theorem signs_eq (x : Str) : signs x = x.cps.toList.map fun c => .str (sg c) := rfl
theorem join_one : ∀ cs : List Nat, Str.join "" (cs.map sg) = ofL cs
  | [] => rfl
  | [c] => rfl
  | c :: d :: r => by
    have ih := join_one (d :: r)
    show sg c ++ "" ++ Str.join "" ((d :: r).map sg) = _
    rw [ih]
    refine str_ext ?_
    rw [cps_add, cps_add, cps_ofL, cps_ofL]
    rfl
theorem join_sg (cs : List Nat) : Txt.join "" (cs.map sg) = ofL cs := by
  unfold Txt.join
  rw [StrLaws.glued_eq_join, join_one]
theorem strs_map {α : Type} (f : α → Str) : ∀ l : List α, strsOf (l.map fun c => PyData.str (f c)) = some (l.map f)
  | [] => rfl
  | c :: l => by rw [List.map_cons, strsOf, strs_map f l]; rfl
theorem sum_ones (cs : List Nat) : ((cs.map sg).map (·.length)).sum = cs.length := by
  induction cs with
  | nil => rfl
  | cons c cs ih =>
    rw [List.map_cons, List.map_cons, List.sum_cons, ih, List.length_cons]
    show 1 + cs.length = cs.length + 1
    omega
theorem meth_join {cs : List Nat} (h : cs.length ≤ 100000) : methD .join (.str "") [.list (cs.map fun c => PyData.str (sg c))] = some (.fz (.str (ofL cs))) := by
  have e0 : (("" : Str)).length = 0 := rfl
  simp only [methD, strs_map sg, sum_ones, e0, Nat.mul_zero, Nat.add_zero]
  rw [if_pos (by omega), join_sg]
theorem dataLe_sg (a b : Nat) : PySem.W.dataLe false id (.str (sg a)) (.str (sg b)) = decide (a ≤ b) := by
  have h := congrFun (congrFun (PySem.W.dataLe_str (fun c : Nat => sg c)) a) b
  have h' : PySem.W.dataLe false id (.str (sg a)) (.str (sg b)) = decide ((sg a).cps.toList ≤ (sg b).cps.toList) := h
  rw [h']
  show decide ([a] ≤ [b]) = decide (a ≤ b)
  rw [Bool.eq_iff_iff]
  simp only [decide_eq_true_eq]
  show ¬ ([b] < [a]) ↔ a ≤ b
  rw [List.cons_lt_cons_iff]
  simp
def sortN (cs : List Nat) : List Nat := cs.mergeSort fun a b => decide (a ≤ b)
theorem sort_signs (x : Str) : sortD (signs x) = some ((sortN x.cps.toList).map fun c => .str (sg c)) := by
  unfold sortD
  rw [if_pos ?_]
  · rw [signs_eq]
    have e := List.map_mergeSort (r := fun a b : Nat => decide (a ≤ b)) (s := PySem.W.dataLe false id) (f := fun c => PyData.str (sg c)) (l := x.cps.toList) fun a _ b _ => (dataLe_sg a b).symm
    rw [← e]
    rfl
  · rw [signs_eq]
    simp [PySem.W.alike, notTup, PyData.depth]
theorem blt_sorted {x : Str} (h : x.length ≤ 1000) : bltD .sorted [.str x] = some (.ow (.list ((sortN x.cps.toList).map fun c => .str (sg c)))) := by
  simp only [bltD, h, if_true, sort_signs, Option.map_some]
theorem cut_first (x : Str) : L2.cutS x none (some 1) = ofL (x.cps.toList.take 1) := by
  refine str_ext ?_
  rw [cps_ofL]
  have e := cut_to x.cps.toList 1
  unfold cutL at e
  unfold L2.cutS
  simpa [len_cps] using e
theorem cut_rest (x : Str) : L2.cutS x (some 1) none = ofL (x.cps.toList.drop 1) := by
  refine str_ext ?_
  rw [cps_ofL]
  have e := cut_one x.cps.toList
  unfold cutL at e
  unfold L2.cutS
  simpa [len_cps] using e
/-- the text that an operation makes -/
def mkT (op : Str) (ts : List Str) : Str :=
  if op = "join" then ts.getD 0 "" ++ ts.getD 1 ""
  else if op = "sort" then ofL (sortN (ts.getD 0 "").cps.toList)
  else if op = "turn" then ofL (ts.getD 0 "").cps.toList.reverse
  else if op = "first" then ofL ((ts.getD 0 "").cps.toList.take 1)
  else if op = "rest" then ofL ((ts.getD 0 "").cps.toList.drop 1)
  else if op = "less" then ofL ((ts.getD 0 "").cps.toList.filter fun c => !decide (c ∈ (ts.getD 1 "").cps.toList))
  else if op = "same" then (if ts.getD 0 "" = ts.getD 1 "" then "y" else "")
  else if ts.getD 0 "" = "" then ts.getD 2 "" else ts.getD 1 ""
/-! ### a comprehension with a test -/
theorem turns_if {α : Type} {f : D → M (Option D)} {a : α → D} {p : α → Bool} {g : α → D} : ∀ {l : List α}, (∀ x ∈ l, f (a x) = pure (if p x then some (g x) else none)) → turns f (l.map a) = pure ((l.filter p).map g)
  | [], _ => rfl
  | x :: xs, h => by
    have ih := turns_if (f := f) (a := a) (p := p) (g := g) (l := xs) fun d hd => h d (List.mem_cons_of_mem _ hd)
    rw [List.map_cons, turns, h x List.mem_cons_self, pure_bind, ih, pure_bind, List.filter_cons]
    cases p x <;> rfl
theorem comp_if {Φ : Tab} {ρ : Rho} {α : Type} {elt cond : Ex} {own tg : List Nat} {one : Bool} {k : IK} {args : List Ex} {ds : List D} (l : List α) (f : α → D) (p : α → Bool) (g : α → D) (h1 : evr Φ args ρ = pure ds) (h2 : iterD k ds = some (l.map f))
    (h3 : ∀ x ∈ l, ∃ ρ1, bindT one tg (f x) (wipeR ρ own) = some ρ1 ∧ (do let y ← ev Φ cond ρ1; let d ← y.rd; asB d) = pure (p x) ∧ (p x = true → (do let y ← ev Φ elt ρ1; y.kp) = pure (g x))) :
    ev Φ (.comp elt own tg one k args [cond]) ρ = pure (.ow (.list ((l.filter p).map g))) := by
  rw [ev, h1, pure_bind, h2, ofO_some, pure_bind]
  rw [turns_if (p := p) (g := g) fun x hx => ?_, pure_bind]
  obtain ⟨ρ1, e1, e2, e3⟩ := h3 x hx
  rw [e1, ofO_some, pure_bind, evc_one, e2, pure_bind]
  cases hp : p x with
  | false => simp
  | true =>
    rw [if_pos rfl, if_pos rfl, ← bind_assoc, e3 hp, pure_bind]
@[simp] theorem ev_meth1 {Φ : Tab} {ρ : Rho} (m : Mf) (o e : Ex) : ev Φ (.meth m o [e]) ρ = (do let x ← ev Φ o ρ; let d ← x.rd; let y ← ev Φ e ρ; let c ← y.rd; ofO (methD m d [c])) := by
  rw [ev]
  simp only [evr, bind_assoc, pure_bind]
@[simp] theorem ev_rev {Φ : Tab} {ρ : Rho} (a : Ex) : ev Φ (.rev a) ρ = (do let x ← ev Φ a ρ; let d ← x.rd; ofO (revD d)) := by rw [ev]
theorem eq_str {x y : Str} (hx : fit (.str x) = true) (hy : fit (.str y) = true) : cmpD .Eq (.str x) (.str y) = some (decide (x = y)) := by
  simp only [cmpD, ok_str hx, ok_str hy, Bool.and_self, if_true, PyData.eqv]
  exact congrArg some (by rw [Bool.eq_iff_iff]; simp)
theorem ne_str {x y : Str} (hx : fit (.str x) = true) (hy : fit (.str y) = true) : cmpD .NotEq (.str x) (.str y) = some (!decide (x = y)) := by
  simp only [cmpD, ok_str hx, ok_str hy, Bool.and_self, if_true, PyData.eqv]
  exact congrArg (fun b => some (!b)) (by rw [Bool.eq_iff_iff]; simp)
end SB
/-! The operations, as the program and the laws compute them. -/
namespace SB
open PySem

theorem op_cases {op : Str} {n : Nat} (h : readsL.lookup op = some (n : Int)) : (op = "join" ∧ n = 2) ∨ (op = "sort" ∧ n = 1) ∨ (op = "turn" ∧ n = 1) ∨ (op = "first" ∧ n = 1) ∨ (op = "rest" ∧ n = 1) ∨ (op = "less" ∧ n = 2) ∨ (op = "same" ∧ n = 2) ∨ (op = "pick" ∧ n = 3) := by
  have m := PySem.mem_of_lookup h
  simp only [readsL, List.mem_cons, Prod.mk.injEq, List.not_mem_nil, or_false] at m
  rcases m with ⟨e, h⟩ | ⟨e, h⟩ | ⟨e, h⟩ | ⟨e, h⟩ | ⟨e, h⟩ | ⟨e, h⟩ | ⟨e, h⟩ | ⟨e, h⟩
  · exact .inl ⟨e, by omega⟩
  · exact .inr (.inl ⟨e, by omega⟩)
  · exact .inr (.inr (.inl ⟨e, by omega⟩))
  · exact .inr (.inr (.inr (.inl ⟨e, by omega⟩)))
  · exact .inr (.inr (.inr (.inr (.inl ⟨e, by omega⟩))))
  · exact .inr (.inr (.inr (.inr (.inr (.inl ⟨e, by omega⟩)))))
  · exact .inr (.inr (.inr (.inr (.inr (.inr (.inl ⟨e, by omega⟩))))))
  · exact .inr (.inr (.inr (.inr (.inr (.inr (.inr ⟨e, by omega⟩))))))
theorem len1 {α : Type} {l : List α} (h : l.length = 1) : ∃ a, l = [a] := by
  match l, h with
  | [a], _ => exact ⟨a, rfl⟩
theorem len2 {α : Type} {l : List α} (h : l.length = 2) : ∃ a b, l = [a, b] := by
  match l, h with
  | [a, b], _ => exact ⟨a, b, rfl⟩
theorem len3 {α : Type} {l : List α} (h : l.length = 3) : ∃ a b c, l = [a, b, c] := by
  match l, h with
  | [a, b, c], _ => exact ⟨a, b, c, rfl⟩
theorem q_join_join : cmpD .Eq (.str "join") (.str "join") = some true := by decide +kernel
theorem q_sort_join : cmpD .Eq (.str "sort") (.str "join") = some false := by decide +kernel
theorem q_sort_sort : cmpD .Eq (.str "sort") (.str "sort") = some true := by decide +kernel
theorem q_turn_join : cmpD .Eq (.str "turn") (.str "join") = some false := by decide +kernel
theorem q_turn_sort : cmpD .Eq (.str "turn") (.str "sort") = some false := by decide +kernel
theorem q_turn_turn : cmpD .Eq (.str "turn") (.str "turn") = some true := by decide +kernel
theorem q_first_join : cmpD .Eq (.str "first") (.str "join") = some false := by decide +kernel
theorem q_first_sort : cmpD .Eq (.str "first") (.str "sort") = some false := by decide +kernel
theorem q_first_turn : cmpD .Eq (.str "first") (.str "turn") = some false := by decide +kernel
theorem q_first_first : cmpD .Eq (.str "first") (.str "first") = some true := by decide +kernel
theorem q_rest_join : cmpD .Eq (.str "rest") (.str "join") = some false := by decide +kernel
theorem q_rest_sort : cmpD .Eq (.str "rest") (.str "sort") = some false := by decide +kernel
theorem q_rest_turn : cmpD .Eq (.str "rest") (.str "turn") = some false := by decide +kernel
theorem q_rest_first : cmpD .Eq (.str "rest") (.str "first") = some false := by decide +kernel
theorem q_rest_rest : cmpD .Eq (.str "rest") (.str "rest") = some true := by decide +kernel
theorem q_less_join : cmpD .Eq (.str "less") (.str "join") = some false := by decide +kernel
theorem q_less_sort : cmpD .Eq (.str "less") (.str "sort") = some false := by decide +kernel
theorem q_less_turn : cmpD .Eq (.str "less") (.str "turn") = some false := by decide +kernel
theorem q_less_first : cmpD .Eq (.str "less") (.str "first") = some false := by decide +kernel
theorem q_less_rest : cmpD .Eq (.str "less") (.str "rest") = some false := by decide +kernel
theorem q_less_less : cmpD .Eq (.str "less") (.str "less") = some true := by decide +kernel
theorem q_same_join : cmpD .Eq (.str "same") (.str "join") = some false := by decide +kernel
theorem q_same_sort : cmpD .Eq (.str "same") (.str "sort") = some false := by decide +kernel
theorem q_same_turn : cmpD .Eq (.str "same") (.str "turn") = some false := by decide +kernel
theorem q_same_first : cmpD .Eq (.str "same") (.str "first") = some false := by decide +kernel
theorem q_same_rest : cmpD .Eq (.str "same") (.str "rest") = some false := by decide +kernel
theorem q_same_less : cmpD .Eq (.str "same") (.str "less") = some false := by decide +kernel
theorem q_same_same : cmpD .Eq (.str "same") (.str "same") = some true := by decide +kernel
theorem q_pick_join : cmpD .Eq (.str "pick") (.str "join") = some false := by decide +kernel
theorem q_pick_sort : cmpD .Eq (.str "pick") (.str "sort") = some false := by decide +kernel
theorem q_pick_turn : cmpD .Eq (.str "pick") (.str "turn") = some false := by decide +kernel
theorem q_pick_first : cmpD .Eq (.str "pick") (.str "first") = some false := by decide +kernel
theorem q_pick_rest : cmpD .Eq (.str "pick") (.str "rest") = some false := by decide +kernel
theorem q_pick_less : cmpD .Eq (.str "pick") (.str "less") = some false := by decide +kernel
theorem q_pick_same : cmpD .Eq (.str "pick") (.str "same") = some false := by decide +kernel
theorem n_sort_join : (("sort" : Str) = "join") = False := eq_false (by decide +kernel)
theorem n_turn_join : (("turn" : Str) = "join") = False := eq_false (by decide +kernel)
theorem n_turn_sort : (("turn" : Str) = "sort") = False := eq_false (by decide +kernel)
theorem n_first_join : (("first" : Str) = "join") = False := eq_false (by decide +kernel)
theorem n_first_sort : (("first" : Str) = "sort") = False := eq_false (by decide +kernel)
theorem n_first_turn : (("first" : Str) = "turn") = False := eq_false (by decide +kernel)
theorem n_rest_join : (("rest" : Str) = "join") = False := eq_false (by decide +kernel)
theorem n_rest_sort : (("rest" : Str) = "sort") = False := eq_false (by decide +kernel)
theorem n_rest_turn : (("rest" : Str) = "turn") = False := eq_false (by decide +kernel)
theorem n_rest_first : (("rest" : Str) = "first") = False := eq_false (by decide +kernel)
theorem n_less_join : (("less" : Str) = "join") = False := eq_false (by decide +kernel)
theorem n_less_sort : (("less" : Str) = "sort") = False := eq_false (by decide +kernel)
theorem n_less_turn : (("less" : Str) = "turn") = False := eq_false (by decide +kernel)
theorem n_less_first : (("less" : Str) = "first") = False := eq_false (by decide +kernel)
theorem n_less_rest : (("less" : Str) = "rest") = False := eq_false (by decide +kernel)
theorem n_same_join : (("same" : Str) = "join") = False := eq_false (by decide +kernel)
theorem n_same_sort : (("same" : Str) = "sort") = False := eq_false (by decide +kernel)
theorem n_same_turn : (("same" : Str) = "turn") = False := eq_false (by decide +kernel)
theorem n_same_first : (("same" : Str) = "first") = False := eq_false (by decide +kernel)
theorem n_same_rest : (("same" : Str) = "rest") = False := eq_false (by decide +kernel)
theorem n_same_less : (("same" : Str) = "less") = False := eq_false (by decide +kernel)
theorem n_pick_join : (("pick" : Str) = "join") = False := eq_false (by decide +kernel)
theorem n_pick_sort : (("pick" : Str) = "sort") = False := eq_false (by decide +kernel)
theorem n_pick_turn : (("pick" : Str) = "turn") = False := eq_false (by decide +kernel)
theorem n_pick_first : (("pick" : Str) = "first") = False := eq_false (by decide +kernel)
theorem n_pick_rest : (("pick" : Str) = "rest") = False := eq_false (by decide +kernel)
theorem n_pick_less : (("pick" : Str) = "less") = False := eq_false (by decide +kernel)
theorem n_pick_same : (("pick" : Str) = "same") = False := eq_false (by decide +kernel)
theorem fit_empty : fit (.str "") = true := by decide +kernel
theorem sl_first {x : Str} (h : x.length ≤ sizeLine) : slD (.str x) none (some 1) = some (.fz (.str (ofL (x.cps.toList.take 1)))) := by
  simp only [slD, h, if_true, cut_first]
theorem sl_rest {x : Str} (h : x.length ≤ sizeLine) : slD (.str x) (some 1) none = some (.fz (.str (ofL (x.cps.toList.drop 1)))) := by
  simp only [slD, h, if_true, cut_rest]
theorem rev_str {x : Str} (h : x.length ≤ sizeLine) : revD (.str x) = some (.fz (.str (ofL x.cps.toList.reverse))) := by
  simp only [revD, h, if_true]
  rfl
theorem add_str {x y : Str} (h : x.length + y.length ≤ sizeLine) : binD .Add (.str x) (.str y) = some (.fz (.str (x ++ y))) := by
  simp only [binD, h, if_true]
theorem notin_sg (c : Nat) (y : Str) : cmpD .NotIn (.str (sg c)) (.str y) = some (!decide (c ∈ y.cps.toList)) := rfl
/-- the letters of a text that are not in another one -/
theorem less_comp {Φ : Tab} {ρ : Rho} {i : Nat} {src cond : Ex} {a b : Str} (ha : a.length ≤ sizeLine) (hs : ev Φ src ρ = pure (.fz (.str a))) (hi : i < ρ.length)
    (hc : ∀ c, (do let y ← ev Φ cond ((ρ.set i none).set i (some (.fz (.str (sg c))))); let d ← y.rd; asB d) = pure (!decide (c ∈ b.cps.toList))) :
    ev Φ (.comp (.v i) [i] [i] true .seq [src] [cond]) ρ = pure (.ow (.list ((a.cps.toList.filter fun c => !decide (c ∈ b.cps.toList)).map fun c => PyData.str (sg c)))) := by
  refine comp_if (ds := [.str a]) a.cps.toList (fun c => .str (sg c)) _ _ (by simp [hs]) (by simp [iterD, ha]) fun c _ => ⟨(ρ.set i none).set i (some (.fz (.str (sg c)))), by simp [bindT, wipeR], hc c, fun _ => ?_⟩
  have e : slAt ((ρ.set i none).set i (some (.fz (.str (sg c))))) i = some (.fz (.str (sg c))) := by
    unfold slAt
    rw [List.getElem?_set_self (by simpa using hi)]
    rfl
  rw [ev_v, e]
  rfl
theorem run_made_of (op : Str) (ts : List Str) (hop : readsL.lookup op = some (ts.length : Int)) (hf : ∀ t ∈ ts, fit (.str t) = true ∧ t.length ≤ 600) : S_made_of [.fz (.str op), .fz (.tuple (ts.map .str))] = pure (.fz (.str (mkT op ts))) := by
  refine guardF_pure ?_
  rw [runD_eq rfl rfl]
  have big : (1200 : Nat) ≤ sizeLine := by decide +kernel
  rcases op_cases hop with ⟨rfl, hl⟩ | ⟨rfl, hl⟩ | ⟨rfl, hl⟩ | ⟨rfl, hl⟩ | ⟨rfl, hl⟩ | ⟨rfl, hl⟩ | ⟨rfl, hl⟩ | ⟨rfl, hl⟩
  · obtain ⟨a, b, rfl⟩ := len2 hl
    have fa := hf a (by simp)
    have fb := hf b (by simp)
    have ad := add_str (x := a) (y := b) (by omega)
    simp [d_made_of, mkT, ad, q_join_join]
  · obtain ⟨a, rfl⟩ := len1 hl
    have fa := hf a (by simp)
    have so := blt_sorted (x := a) (by omega)
    have jo := meth_join (cs := sortN a.cps.toList) (by rw [sortN, List.length_mergeSort]; have := fa.2; rw [len_cps] at this; omega)
    simp [d_made_of, mkT, so, jo, q_sort_join, q_sort_sort, n_sort_join]
  · obtain ⟨a, rfl⟩ := len1 hl
    have fa := hf a (by simp)
    have re := rev_str (x := a) (by omega)
    simp [d_made_of, mkT, re, q_turn_join, q_turn_sort, q_turn_turn, n_turn_join, n_turn_sort]
  · obtain ⟨a, rfl⟩ := len1 hl
    have fa := hf a (by simp)
    have re := sl_first (x := a) (by omega)
    simp [d_made_of, mkT, re, q_first_join, q_first_sort, q_first_turn, q_first_first, n_first_join, n_first_sort, n_first_turn]
  · obtain ⟨a, rfl⟩ := len1 hl
    have fa := hf a (by simp)
    have re := sl_rest (x := a) (by omega)
    simp [d_made_of, mkT, re, q_rest_join, q_rest_sort, q_rest_turn, q_rest_first, q_rest_rest, n_rest_join, n_rest_sort, n_rest_turn, n_rest_first]
  · obtain ⟨a, b, rfl⟩ := len2 hl
    have fa := hf a (by simp)
    have fb := hf b (by simp)
    have lc := less_comp (Φ := T_made_of) (ρ := [some (.fz (.str "less")), some (.fz (.tuple [.str a, .str b])), some (.fz (.str a)), none]) (i := 3) (src := .v 2) (cond := .cmp .NotIn (.v 3) (.ix (.v 1) (.int 1))) (a := a) (b := b) (by omega) (by simp) (by simp) fun c => by simp [notin_sg]
    have jo := meth_join (cs := a.cps.toList.filter fun c => !decide (c ∈ b.cps.toList)) (by have h1 := List.length_filter_le (fun c => !decide (c ∈ b.cps.toList)) a.cps.toList; have := fa.2; rw [len_cps] at this; omega)
    simp [d_made_of, mkT, q_less_join, q_less_sort, q_less_turn, q_less_first, q_less_rest, q_less_less, n_less_join, n_less_sort, n_less_turn, n_less_first, n_less_rest]
    rw [lc]
    simp only [pure_bind, rd_ow]
    rw [jo]
    simp
  · obtain ⟨a, b, rfl⟩ := len2 hl
    have fa := hf a (by simp)
    have fb := hf b (by simp)
    have e := eq_str fa.1 fb.1
    by_cases hab : a = b
    · simp [d_made_of, mkT, e, hab, q_same_join, q_same_sort, q_same_turn, q_same_first, q_same_rest, q_same_less, q_same_same, n_same_join, n_same_sort, n_same_turn, n_same_first, n_same_rest, n_same_less]
      rw [← hab, eq_str fa.1 fa.1]
      simp
    · simp [d_made_of, mkT, e, hab, q_same_join, q_same_sort, q_same_turn, q_same_first, q_same_rest, q_same_less, q_same_same, n_same_join, n_same_sort, n_same_turn, n_same_first, n_same_rest, n_same_less]
  · obtain ⟨a, b, c, rfl⟩ := len3 hl
    have fa := hf a (by simp)
    have fb := hf b (by simp)
    have fc := hf c (by simp)
    have e := ne_str fa.1 fit_empty
    by_cases hab : a = ""
    · simp [d_made_of, mkT, e, hab, q_pick_join, q_pick_sort, q_pick_turn, q_pick_first, q_pick_rest, q_pick_less, q_pick_same, n_pick_join, n_pick_sort, n_pick_turn, n_pick_first, n_pick_rest, n_pick_less, n_pick_same]
      rw [ne_str fit_empty fit_empty]
      simp
    · simp [d_made_of, mkT, e, hab, q_pick_join, q_pick_sort, q_pick_turn, q_pick_first, q_pick_rest, q_pick_less, q_pick_same, n_pick_join, n_pick_sort, n_pick_turn, n_pick_first, n_pick_rest, n_pick_less, n_pick_same]
end SB
/-! The operations, as the laws compute them. -/
namespace SB
open PySem

@[simp] theorem ix_l0 (a : D) (l : List D) : ixD (.list (a :: l)) (.int 0) = some (.fz a) := by
  have := atI_nat (xs := a :: l) (i := 0) (by simp)
  simp [ixD]
  exact this
@[simp] theorem ix_l1 (a b : D) (l : List D) : ixD (.list (a :: b :: l)) (.int 1) = some (.fz b) := by
  have := atI_nat (xs := a :: b :: l) (i := 1) (by simp)
  simp [ixD]
  exact this
@[simp] theorem ix_l2 (a b c : D) (l : List D) : ixD (.list (a :: b :: c :: l)) (.int 2) = some (.fz c) := by
  have := atI_nat (xs := a :: b :: c :: l) (i := 2) (by simp)
  simp [ixD]
  exact this
end SB
/-! Acts; the texts of all steps. -/
namespace SB
open PySem

inductive Act where
  | pin (t x : Nat)
  | hide (s t : Nat)
  deriving DecidableEq
def Act.d : Act → D
  | .pin t x => .tuple [.str "pin", natD t, natD x]
  | .hide s t => .tuple [.str "hide", natD s, natD t]
def actsD (as : List Act) : D := .tuple (as.map Act.d)
theorem pin_hide : (("pin" : Str) = "hide") = False := eq_false (by decide +kernel)
theorem hide_pin : (("hide" : Str) = "pin") = False := eq_false (by decide +kernel)
theorem fit_pin : fit (.str "pin") = true := by decide +kernel
theorem fit_hide : fit (.str "hide") = true := by decide +kernel
theorem act_fit (a : Act) : fit a.d = true := by
  cases a <;> simp [Act.d, natD, fit_pin, fit_hide]
theorem acts_fit (as : List Act) : fit (actsD as) = true := by
  rw [actsD, fit_tuple]
  exact fitAll_iff.mpr fun d hd => by
    obtain ⟨a, _, rfl⟩ := List.mem_map.mp hd
    exact act_fit a
theorem act_eqv (a b : Act) : PyData.eqv a.d b.d = decide (a = b) := by
  have e : ∀ m n : Nat, ((m : Int) == (n : Int)) = decide (m = n) := fun m n => by rw [Bool.eq_iff_iff]; simp; omega
  cases a <;> cases b <;> simp [Act.d, natD, PyData.eqv, PyData.eqvAll, pin_hide, hide_pin, e]
theorem act_depth (a : Act) : a.d.depth = 1 := by
  cases a <;> simp [Act.d, natD, PyData.depth, PyData.depthAll]
theorem depthAll_le {n : Nat} : ∀ {l : List D}, (∀ d ∈ l, d.depth ≤ n) → PyData.depthAll l ≤ n
  | [], _ => Nat.zero_le _
  | d :: l, h => by
    rw [PyData.depthAll]
    have h1 := h d List.mem_cons_self
    have h2 := depthAll_le fun e he => h e (List.mem_cons_of_mem _ he)
    omega
theorem acts_ok (as : List Act) : okD (actsD as) = true := by
  refine ok_fit (acts_fit as) ?_
  rw [actsD, PyData.depth]
  have := depthAll_le (n := 1) (l := as.map Act.d) fun d hd => by
    obtain ⟨a, _, rfl⟩ := List.mem_map.mp hd
    rw [act_depth]
    exact Nat.le_refl _
  omega
theorem act_ok (a : Act) : okD a.d = true := ok_fit (act_fit a) (by rw [act_depth]; omega)
theorem in_acts (a : Act) (as : List Act) : cmpD .In a.d (actsD as) = some (decide (a ∈ as)) := by
  have e : cmpD .In a.d (actsD as) = if okD a.d && okD (actsD as) then some ((as.map Act.d).any fun z => PyData.eqv z a.d) else none := by
    cases a <;> rfl
  rw [e, act_ok, acts_ok, Bool.and_self, if_pos rfl]
  refine congrArg some ?_
  rw [List.any_map, Bool.eq_iff_iff, List.any_eq_true, decide_eq_true_eq]
  constructor
  · rintro ⟨x, hx, he⟩
    have he' : PyData.eqv x.d a.d = true := he
    rw [act_eqv, decide_eq_true_eq] at he'
    exact he' ▸ hx
  · intro h
    refine ⟨a, h, ?_⟩
    show PyData.eqv a.d a.d = true
    rw [act_eqv, decide_eq_true rfl]
theorem ix_nat {α : Type} (f : α → D) {xs : List α} {i : Nat} (h : i < xs.length) : ixD (.tuple (xs.map f)) (natD i) = some (.fz (f xs[i])) := by
  show (L2.atI (xs.map f) (i : Int)).map Sl.fz = _
  rw [atI_mapN f h]
  rfl
theorem ixl_nat {α : Type} (f : α → D) {xs : List α} {i : Nat} (h : i < xs.length) : ixD (.list (xs.map f)) (natD i) = some (.fz (f xs[i])) := by
  show (L2.atI (xs.map f) (i : Int)).map Sl.fz = _
  rw [atI_mapN f h]
  rfl
/-! ### what is read, what is made -/
def rdT (r : Rec) (as : List Act) (w : List Nat) (n : Nat) (made : List Str) (g : Rg) : Str :=
  if g.th then (if Act.hide n g.ix ∈ as then "" else (r.th.getD g.ix []).getD (w.getD g.ix 0) "") else made.getD g.ix ""
def tx (r : Rec) (as : List Act) (w : List Nat) : Nat → List Str
  | 0 => []
  | n + 1 => match r.st[n]? with
    | some s => tx r as w n ++ [mkT s.op (s.rs.map (rdT r as w n (tx r as w n)))]
    | none => tx r as w n
def textsT (r : Rec) (as : List Act) (w : List Nat) : List Str := tx r as w r.st.length
theorem tx_succ {r : Rec} {as : List Act} {w : List Nat} {n : Nat} {s : Stp} (h : r.st[n]? = some s) : tx r as w (n + 1) = tx r as w n ++ [mkT s.op (s.rs.map (rdT r as w n (tx r as w n)))] := by
  rw [tx, h]
theorem tx_len {r : Rec} {as : List Act} {w : List Nat} : ∀ {n : Nat}, n ≤ r.st.length → (tx r as w n).length = n
  | 0, _ => rfl
  | n + 1, h => by
    rw [tx_succ (List.getElem?_eq_getElem (by omega)), List.length_append, tx_len (by omega)]
    rfl
theorem sort_mem_n (c : Nat) (l : List Nat) : c ∈ sortN l ↔ c ∈ l := by
  unfold sortN
  rw [List.mem_mergeSort]
theorem getD_mem {α : Type} {l : List α} {i : Nat} {d x : α} (h : l.getD i d = x) : x ∈ l ∨ x = d := by
  rw [List.getD_eq_getElem?_getD] at h
  cases e : l[i]? with
  | none => rw [e] at h; exact .inr h.symm
  | some y => rw [e] at h; exact .inl (h ▸ List.mem_of_getElem? e)
theorem mk_ltr {op : Str} {ts : List Str} {L : Nat} (hL : 1 ≤ L) (h : ∀ t ∈ ts, Ltr t ∧ t.length ≤ L) : Ltr (mkT op ts) ∧ (mkT op ts).length ≤ 2 * L := by
  have e0 : Ltr "" ∧ ("" : Str).length ≤ L := ⟨(fun c hc => nomatch hc), Nat.zero_le _⟩
  have g : ∀ i, Ltr (ts.getD i "") ∧ (ts.getD i "").length ≤ L := fun i => by
    rcases getD_mem (l := ts) (i := i) (d := "") rfl with h1 | h1
    · exact h _ h1
    · rw [h1]; exact e0
  have g0 := g 0; have g1 := g 1; have g2 := g 2
  have l0 := g0.2
  rw [len_cps] at l0
  unfold mkT
  generalize ts.getD 0 "" = a at *
  generalize ts.getD 1 "" = b at *
  generalize ts.getD 2 "" = c at *
  split
  · refine ⟨fun x hx => ?_, by rw [len_add]; omega⟩
    rw [cps_add, List.mem_append] at hx
    rcases hx with hx | hx
    · exact g0.1 x hx
    · exact g1.1 x hx
  · split
    · refine ⟨fun x hx => ?_, by rw [len_ofL, sortN, List.length_mergeSort]; omega⟩
      rw [cps_ofL, sort_mem_n] at hx
      exact g0.1 x hx
    · split
      · refine ⟨fun x hx => ?_, by rw [len_ofL, List.length_reverse]; omega⟩
        rw [cps_ofL, List.mem_reverse] at hx
        exact g0.1 x hx
      · split
        · refine ⟨fun x hx => ?_, by rw [len_ofL, List.length_take]; omega⟩
          rw [cps_ofL] at hx
          exact g0.1 x (List.mem_of_mem_take hx)
        · split
          · refine ⟨fun x hx => ?_, by rw [len_ofL, List.length_drop]; omega⟩
            rw [cps_ofL] at hx
            exact g0.1 x (List.mem_of_mem_drop hx)
          · split
            · refine ⟨fun x hx => ?_, ?_⟩
              · rw [cps_ofL] at hx
                exact g0.1 x (List.mem_filter.mp hx).1
              · rw [len_ofL]
                have := List.length_filter_le (fun c => !decide (c ∈ b.cps.toList)) a.cps.toList
                omega
            · split
              · split
                · refine ⟨fun x hx => ?_, by show 1 ≤ 2 * L; omega⟩
                  have y1 : ("y" : Str).cps.toList = [121] := by decide +kernel
                  rw [y1, List.mem_singleton] at hx
                  rw [hx]
                  decide +kernel
                · exact ⟨e0.1, by omega⟩
              · split
                · exact ⟨g2.1, by omega⟩
                · exact ⟨g1.1, by omega⟩
theorem rd_ltr {r : Rec} (h : r.Ok) {as : List Act} {w : List Nat} {n : Nat} {made : List Str} {L : Nat} (hL : 4 ≤ L) (hm : ∀ t ∈ made, Ltr t ∧ t.length ≤ L) (g : Rg) : Ltr (rdT r as w n made g) ∧ (rdT r as w n made g).length ≤ L := by
  have e0 : Ltr "" ∧ ("" : Str).length ≤ L := ⟨(fun c hc => nomatch hc), Nat.zero_le _⟩
  unfold rdT
  split
  · split
    · exact e0
    · rcases getD_mem (l := r.th.getD g.ix []) (i := w.getD g.ix 0) (d := "") rfl with h1 | h1
      · rcases getD_mem (l := r.th) (i := g.ix) (d := []) rfl with h2 | h2
        · have := h.ltr h2 h1
          exact ⟨this.1, by omega⟩
        · rw [h2] at h1
          cases h1
      · rw [h1]; exact e0
  · rcases getD_mem (l := made) (i := g.ix) (d := "") rfl with h1 | h1
    · exact hm _ h1
    · rw [h1]; exact e0
theorem tx_ltr {r : Rec} (h : r.Ok) (as : List Act) (w : List Nat) : ∀ n, ∀ t ∈ tx r as w n, Ltr t ∧ t.length ≤ 4 * 2 ^ n
  | 0, t, ht => by cases ht
  | n + 1, t, ht => by
    have ih := tx_ltr h as w n
    have hp : 1 ≤ 2 ^ n := Nat.one_le_two_pow
    have hs : (2 : Nat) ^ (n + 1) = 2 * 2 ^ n := by rw [Nat.pow_succ]; omega
    rw [tx] at ht
    split at ht
    · rename_i s _
      rcases List.mem_append.mp ht with h1 | h1
      · have := ih t h1
        exact ⟨this.1, by omega⟩
      · rw [List.mem_singleton.mp h1]
        have := mk_ltr (op := s.op) (ts := s.rs.map (rdT r as w n (tx r as w n))) (L := 4 * 2 ^ n) (by omega) fun u hu => by
          obtain ⟨g, _, rfl⟩ := List.mem_map.mp hu
          exact rd_ltr h (by omega) ih g
        exact ⟨this.1, by omega⟩
    · have := ih t ht
      exact ⟨this.1, by omega⟩
end SB
/-! The texts of all steps are made. -/
namespace SB
open PySem

/-- texts, as a list that is open or as a tuple -/
def MadeAs (made : List Str) (m : Sl) : Prop := m = .bw (.list (made.map .str)) ∨ m = .fz (.tuple (made.map .str))
theorem q_step_step : cmpD .Eq (.str "step") (.str "step") = some true := by decide +kernel
theorem q_thing_step : cmpD .Eq (.str "thing") (.str "step") = some false := by decide +kernel
theorem getD_at {α : Type} {l : List α} {i : Nat} {d : α} (h : i < l.length) : l.getD i d = l[i] := by
  rw [List.getD_eq_getElem?_getD, List.getElem?_eq_getElem h]
  rfl
theorem Wld.at {r : Rec} {w : List Nat} (hw : Wld r w) {i : Nat} (hi : i < r.th.length) : ∃ (h1 : i < w.length), w[i] < (r.th[i]).length :=
  ⟨by rw [hw.1]; exact hi, hw.2 i _ _ (List.getElem?_eq_getElem (by rw [hw.1]; exact hi)) (List.getElem?_eq_getElem hi)⟩
/-- the text of a thing in a world, by subscripts -/
theorem thing_ix {r : Rec} {w : List Nat} (hw : Wld r w) {i : Nat} (hi : i < r.th.length) : ∃ (h1 : i < w.length) (h2 : w[i] < (r.th[i]).length),
    ixD (.tuple (r.th.map thD)) (natD i) = some (.fz (thD r.th[i])) ∧ ixD (wD w) (natD i) = some (.fz (natD w[i])) ∧ ixD (thD r.th[i]) (natD w[i]) = some (.fz (.str (r.th[i])[w[i]])) ∧ (r.th.getD i []).getD (w.getD i 0) "" = (r.th[i])[w[i]] := by
  obtain ⟨h1, h2⟩ := hw.at hi
  refine ⟨h1, h2, ix_nat thD hi, ix_nat natD h1, ix_nat PyData.str h2, ?_⟩
  rw [getD_at hi, getD_at h1, getD_at h2]
/-- a reading is evaluated -/
theorem run_read_by (r : Rec) (h : r.Ok) (as : List Act) (w : List Nat) (hw : Wld r w) (n : Nat) (s : Stp) (hs : r.st[n]? = some s) (made : List Str) (hm : n ≤ made.length) (m : Sl) (hma : MadeAs made m) :
    S_read_by [.fz r.d, .fz (actsD as), .fz (wD w), .fz (natD n), m] = pure (.fz (.tuple ((s.rs.map (rdT r as w n made)).map .str))) := by
  refine guardF_pure ?_
  have hok : argOk m = true := by rcases hma with rfl | rfl <;> rfl
  rw [runD_eq rfl (by rcases hma with rfl | rfl <;> rfl)]
  obtain ⟨hnl, hse⟩ := List.getElem?_eq_some_iff.mp hs
  have hst := h.st n s hs
  have rl : s.rs.length ≤ 3 := by
    have := op_cases hst.1
    omega
  have s0 : (0 : Nat) ≤ sizeLine := s1000 (by decide)
  have s3 : (3 : Nat) ≤ sizeLine := s1000 (by decide)
  have hix1 : ixD (.tuple (r.st.map Stp.d)) (natD n) = some (.fz s.d) := by rw [ix_nat Stp.d hnl, hse]
  have hix2 : ixD s.d (.int 1) = some (.fz (.tuple (s.rs.map Rg.d))) := by rw [Stp.d]; exact ix_t1 _ _ _
  obtain ⟨ρ', e, o6, o7, rfl⟩ := loop_ix (f := fun d ρ => ofO (bindT false [6, 7] d ρ) >>= exs T_read_by [.ifs (.cmp .Eq (.v 6) (.str "step")) [.app 5 (.ix (.v 4) (.v 7))] [.app 5 (.ife (.cmp .In (.tup [.str "hide", .v 3, .v 7]) (.v 1)) (.str "") (.ix (.ix (.ix (.v 0) (.int 0)) (.v 7)) (.ix (.v 2) (.v 7))))]]) Rg.d
    (fun i ρ => ∃ o6 o7, ρ = [some (.fz r.d), some (.fz (actsD as)), some (.fz (wD w)), some (.fz (natD n)), some m, some (.ow (.list (((s.rs.take i).map (rdT r as w n made)).map .str))), o6, o7]) s.rs 0
    [some (.fz r.d), some (.fz (actsD as)), some (.fz (wD w)), some (.fz (natD n)), some m, some (.ow (.list [])), none, none] ⟨none, none, rfl⟩ (by
      rintro i g ρ hi ⟨o6, o7, rfl⟩
      have hgm : g ∈ s.rs := List.mem_of_getElem? hi
      have hil := (List.getElem?_eq_some_iff.mp hi).1
      have hsz : (((s.rs.take i).map (rdT r as w n made)).map PyData.str).length < sizeLine := size1000' (by simp; omega)
      have hg := hst.2 g hgm
      rw [Nat.zero_add, take_snoc hi, List.map_append, List.map_append]
      rw [List.length_map, List.length_map, List.length_take] at hsz
      cases hb : g.th with
      | false =>
        rw [hb] at hg
        have hgi : g.ix < made.length := by simp at hg; omega
        have e1 : rdT r as w n made g = made[g.ix] := by
          unfold rdT
          rw [hb, if_neg Bool.false_ne_true, getD_at hgi]
        refine ⟨_, ?_, some (.fz (.str "step")), some (.fz (natD g.ix)), rfl⟩
        · simp only [Rg.d, hb, if_false, Bool.false_eq_true]
          simp only [bindT, setAll, if_false, Bool.false_eq_true, List.length_cons, List.length_nil, if_true, ofO_some, pure_bind]
          simp only [exs_cons, exs_nil, ex_ifs, ev_cmp, ev_v, ev_str, ex_app, ev_ix, bind_assoc, pure_bind, ofO_some]
          rcases hma with rfl | rfl
          · simp [q_step_step, ixl_nat PyData.str hgi, hsz, e1]
          · simp [q_step_step, ix_nat PyData.str hgi, hsz, e1]
      | true =>
        rw [hb] at hg
        have hgi : g.ix < r.th.length := by simpa using hg
        obtain ⟨w1, w2, x1, x2, x3, x4⟩ := thing_ix hw hgi
        have ia := in_acts (.hide n g.ix) as
        simp only [Act.d] at ia
        refine ⟨_, ?_, some (.fz (.str "thing")), some (.fz (natD g.ix)), rfl⟩
        simp only [Rg.d, hb, if_true]
        by_cases hh : Act.hide n g.ix ∈ as
        · have e1 : rdT r as w n made g = "" := by
            unfold rdT
            rw [hb, if_pos rfl, if_pos hh]
          simp [bindT, setAll, q_thing_step, s3, ia, hh, hsz, e1]
        · have e1 : rdT r as w n made g = (r.th[g.ix])[w[g.ix]] := by
            unfold rdT
            rw [hb, if_pos rfl, if_neg hh, x4]
          have rd0 : ixD r.d (.int 0) = some (.fz (.tuple (r.th.map thD))) := by rw [Rec.d]; exact ix_t0 _ _
          simp [bindT, setAll, q_thing_step, s3, ia, hh, hsz, e1, rd0, x1, x2, x3])
  rw [Nat.zero_add, List.take_length] at e
  have rd1 : ixD r.d (.int 1) = some (.fz (.tuple (r.st.map Stp.d))) := by rw [Rec.d]; exact ix_t1 _ _ _
  simp [d_read_by, s0, rd1, hix1, hix2, iterD]
  rw [e]
  simp [frzR, bltD]
end SB
/-! The texts of all steps, outcomes. -/
namespace SB
open PySem

theorem two_pow_le {i n : Nat} (h : i ≤ n) : 2 ^ i ≤ 2 ^ n := Nat.pow_le_pow_right (by decide) h
theorem reads_fitT {r : Rec} (h : r.Ok) (as : List Act) (w : List Nat) {i : Nat} (hi : i ≤ 7) (s : Stp) : ∀ t ∈ s.rs.map (rdT r as w i (tx r as w i)), fit (.str t) = true ∧ t.length ≤ 600 := fun t ht => by
  obtain ⟨g, _, rfl⟩ := List.mem_map.mp ht
  have hp := two_pow_le hi
  have h1 : 1 ≤ 2 ^ i := Nat.one_le_two_pow
  have h2 := rd_ltr h (as := as) (w := w) (n := i) (made := tx r as w i) (L := 4 * 2 ^ i) (by omega) (tx_ltr h as w i) g
  exact ⟨ltr_fit h2.1 (by omega), by omega⟩
theorem Rec.d0 (r : Rec) : ixD r.d (.int 0) = some (.fz (.tuple (r.th.map thD))) := by rw [Rec.d]; exact ix_t0 _ _
theorem Rec.d1 (r : Rec) : ixD r.d (.int 1) = some (.fz (.tuple (r.st.map Stp.d))) := by rw [Rec.d]; exact ix_t1 _ _ _
theorem Stp.d0 (s : Stp) : ixD s.d (.int 0) = some (.fz (.str s.op)) := by rw [Stp.d]; exact ix_t0 _ _
theorem Stp.d1 (s : Stp) : ixD s.d (.int 1) = some (.fz (.tuple (s.rs.map Rg.d))) := by rw [Stp.d]; exact ix_t1 _ _ _
theorem run_all_texts (r : Rec) (h : r.Ok) (as : List Act) (w : List Nat) (hw : Wld r w) : S_all_texts [.fz r.d, .fz (actsD as), .fz (wD w)] = pure (.fz (.tuple ((textsT r as w).map .str))) := by
  refine guardF_pure ?_
  rw [runD_eq rfl rfl]
  have s0 : (0 : Nat) ≤ sizeLine := s1000 (by decide)
  have s8 := h.s8
  obtain ⟨ρ', e, o4, rfl⟩ := loop_ix (f := fun d ρ => ofO (bindT true [4] d ρ) >>= exs T_all_texts [.app 3 (.call "made_of" [.ix (.ix (.ix (.v 0) (.int 1)) (.v 4)) (.int 0), .call "read_by" [.v 0, .v 1, .v 2, .v 4, .v 3]])]) natD
    (fun i ρ => ∃ o4, ρ = [some (.fz r.d), some (.fz (actsD as)), some (.fz (wD w)), some (.ow (.list ((tx r as w i).map .str))), o4]) (List.range r.st.length) 0
    [some (.fz r.d), some (.fz (actsD as)), some (.fz (wD w)), some (.ow (.list [])), none] ⟨none, rfl⟩ (by
      rintro i j ρ hi ⟨o4, rfl⟩
      obtain ⟨hil, hj⟩ := List.getElem?_eq_some_iff.mp hi
      rw [List.getElem_range] at hj
      subst hj
      rw [List.length_range] at hil
      have hs : r.st[i]? = some r.st[i] := List.getElem?_eq_getElem hil
      rw [Nat.zero_add]
      refine ⟨[some (.fz r.d), some (.fz (actsD as)), some (.fz (wD w)), some (.ow (.list ((tx r as w (i + 1)).map .str))), some (.fz (natD i))], ?_, _, rfl⟩
      rw [tx_succ hs]
      have hlen : (tx r as w i).length = i := tx_len (by omega)
      have rb := run_read_by r h as w hw i r.st[i] hs (tx r as w i) (by omega) (.bw (.list ((tx r as w i).map .str))) (.inl rfl)
      have mo := run_made_of (r.st[i]).op ((r.st[i]).rs.map (rdT r as w i (tx r as w i))) (by rw [List.length_map]; exact (h.st i _ hs).1) (reads_fitT h as w (by omega) _)
      have ix1 := ix_nat Stp.d hil
      generalize hmk : mkT (r.st[i]).op ((r.st[i]).rs.map (rdT r as w i (tx r as w i))) = mk at mo ⊢
      generalize hrd : ((r.st[i]).rs.map (rdT r as w i (tx r as w i))).map PyData.str = rd at rb mo
      have hsz : ((tx r as w i).map PyData.str).length < sizeLine := size1000' (by rw [List.length_map]; omega)
      rw [List.map_append]
      generalize (tx r as w i).map PyData.str = made at *
      simp [bindT, T_all_texts_made_of, T_all_texts_read_by, Rec.d1, ix1, Stp.d0, rb, mo, hsz])
  rw [Nat.zero_add, List.length_range] at e
  have it := range_it r.st.length (by omega)
  simp [d_all_texts, s0, Rec.d1, it]
  rw [e]
  simp [frzR, bltD, textsT]
/-! ### outcomes -/
def outT (r : Rec) (as : List Act) (w : List Nat) : List Str := r.md.map fun i => (textsT r as w).getD i ""
end SB
/-! The texts of all steps, as the laws compute them. -/
namespace SB
open PySem

theorem bind2 (i j : Nat) (a b : D) (ρ : Rho) : bindT false [i, j] (.tuple [a, b]) ρ = some ((ρ.set i (some (.fz a))).set j (some (.fz b))) := rfl
def rowD (ts : List Str) : D := .tuple (ts.map .str)
end SB
/-! Equality of data; loops that look for something; recipes that are alike. -/
namespace SB
open PySem

theorem eqv_nat (m n : Nat) : PyData.eqv (natD m) (natD n) = decide (m = n) := by
  show ((m : Int) == (n : Int)) = _
  rw [Bool.eq_iff_iff]
  simp
  omega
/-- may be compared, within a depth -/
def Okd (k : Nat) (d : D) : Prop := fit d = true ∧ d.depth ≤ k
theorem Okd.ok {k : Nat} {d : D} (h : Okd k d) (hk : k ≤ 64) : okD d = true := ok_fit h.1 (Nat.le_trans h.2 hk)
theorem Okd.int (i : Int) : Okd 0 (.int i) := ⟨by simp, by simp [PyData.depth]⟩
theorem Okd.str {x : Str} (h : fit (.str x) = true) : Okd 0 (.str x) := ⟨h, by simp [PyData.depth]⟩
theorem Okd.tuple {k : Nat} {ds : List D} (h : ∀ d ∈ ds, Okd k d) : Okd (k + 1) (.tuple ds) := by
  refine ⟨by rw [fit_tuple]; exact fitAll_iff.mpr fun d hd => (h d hd).1, ?_⟩
  rw [PyData.depth]
  have := depthAll_le fun d hd => (h d hd).2
  omega
theorem Okd.list {k : Nat} {ds : List D} (h : ∀ d ∈ ds, Okd k d) : Okd (k + 1) (.list ds) := by
  refine ⟨by rw [fit_list]; exact fitAll_iff.mpr fun d hd => (h d hd).1, ?_⟩
  rw [PyData.depth]
  have := depthAll_le fun d hd => (h d hd).2
  omega
theorem Okd.mono {k l : Nat} {d : D} (h : Okd k d) (hl : k ≤ l) : Okd l d := ⟨h.1, Nat.le_trans h.2 hl⟩
theorem cmp_eq {d e : D} (h1 : okD d = true) (h2 : okD e = true) : cmpD .Eq d e = some (PyData.eqv d e) := by
  have : cmpD .Eq d e = if okD d && okD e then some (PyData.eqv d e) else none := by cases d <;> rfl
  rw [this, h1, h2]
  rfl
theorem cmp_ne {d e : D} (h1 : okD d = true) (h2 : okD e = true) : cmpD .NotEq d e = some (!PyData.eqv d e) := by
  have : cmpD .NotEq d e = if okD d && okD e then some (!PyData.eqv d e) else none := by cases d <;> rfl
  rw [this, h1, h2]
  rfl
theorem texts_fit {r : Rec} (h : r.Ok) (as : List Act) (w : List Nat) : ∀ t ∈ textsT r as w, fit (.str t) = true := fun t ht => by
  have h1 := tx_ltr h as w r.st.length t ht
  have h2 := two_pow_le h.s8
  exact ltr_fit h1.1 (by omega)
theorem out_fit {r : Rec} (h : r.Ok) (as : List Act) (w : List Nat) : ∀ t ∈ outT r as w, fit (.str t) = true := fun t ht => by
  obtain ⟨i, _, rfl⟩ := List.mem_map.mp ht
  rcases getD_mem (l := textsT r as w) (i := i) (d := "") rfl with h1 | h1
  · exact texts_fit h as w _ h1
  · rw [h1]; exact fit_empty
/-! ### alike -/
end SB
/-! Recipes are drawn, with types. -/
namespace SB
open PySem

structure Rec.Small (r : Rec) : Prop where
  t3 : r.th.length ≤ 3
  x3 : ∀ t ∈ r.th, t.length ≤ 3
  s5 : r.st.length ≤ 5
  lst : r.st.length - 1 ∈ r.md
  m2 : r.md.length ≤ 2
  kn : ∀ t ∈ r.th, thD t ∈ manyT
/-! ### texts of the first steps -/
@[simp] theorem ex_expr {Φ : Tab} {ρ : Rho} (e : Ex) : ex Φ (.expr e) ρ = (do let _ ← ev Φ e ρ; pure (.nx ρ)) := by rw [ex]
end SB
/-! Columns of texts; models; worlds drawn; needs. -/
namespace SB
open PySem

theorem range_nat (n : Nat) (h : n ≤ 1000) : iterD .range [natD n] = some ((List.range n).map natD) := by
  rw [range_it n (by omega)]
/-! ### the first column that is alike -/
/-! ### worlds -/
theorem is_int_nat (n : Nat) (m : Nat) (h : n < m) : isIntD (natD n) 0 ((m : Int) - 1) = true := by
  simp [isIntD]
  omega
theorem zip_map {α β : Type} (f : α → D) (g : β → D) (xs : List α) (ys : List β) : iterD .zip [.tuple (xs.map f), .tuple (ys.map g)] = some ((xs.zip ys).map fun p => .tuple [f p.1, g p.2]) := by
  simp only [iterD, List.zip_map, List.map_map]
  rfl
theorem run_is_world (r : Rec) (h : r.Ok) (w : List Nat) (hw : Wld r w) : S_is_world [.fz r.d, .fz (wD w)] = pure (.fz (.bool true)) := by
  refine guardF_pure ?_
  rw [runD_eq rfl rfl]
  have c : ev T_is_world (.comp (.call "is_integer" [.v 2, .int 0, .bin .Sub (.blt .len [.v 3]) (.int 1)]) [2, 3] [2, 3] false .zip [.v 1, .ix (.v 0) (.int 0)] []) [some (.fz r.d), some (.fz (wD w)), none, none] = pure (.ow (.list ((w.zip r.th).map fun p => .bool true))) := by
    refine comp_over (ds := [wD w, .tuple (r.th.map thD)]) (w.zip r.th) (fun p => .tuple [natD p.1, thD p.2]) _ (by simp [Rec.d0]) (zip_map natD thD w r.th) fun p hp => ?_
    obtain ⟨i, hi⟩ := List.getElem?_of_mem hp
    have hz := List.getElem?_zip_eq_some.mp hi
    have hx := hw.2 i p.1 p.2 hz.1 hz.2
    have ri := run_is_integer (natD p.1) 0 ((p.2.length : Int) - 1)
    rw [is_int_nat p.1 p.2.length hx] at ri
    simp [bind2, wipeR, bltD, thD, binD, T_is_world_is_integer, ri]
  have hl : bltD .len [wD w] = some (.fz (natD r.th.length)) := by
    rw [← hw.1]
    simp [wD, bltD]
  have hb : bltD .len [.tuple (r.th.map thD)] = some (.fz (natD r.th.length)) := by simp [bltD]
  have cn : cmpD .NotEq (natD r.th.length) (natD r.th.length) = some false := by
    rw [cmp_ne (ok_int _) (ok_int _), eqv_nat]
    simp
  have isT : isaD .tuple (wD w) = true := rfl
  simp [d_is_world, isT, hl, hb, Rec.d0, cn]
  rw [c]
  simp [all_bools (fun _ => true)]
  rw [List.all_eq_true.mpr fun _ _ => rfl]
theorem run_need_world (r : Rec) (h : r.Ok) (w : List Nat) (hw : Wld r w) : S_need_world [.fz r.d, .fz (wD w)] = pure (.fz .none) := by
  refine guardF_pure ?_
  rw [runD_eq rfl rfl]
  simp [d_need_world, T_need_world_is_world, run_is_world r h w hw]
/-! ### a comprehension that draws, item by item -/
theorem Wp.turnsR {α β : Type} {f : D → M (Option D)} (a : α → D) (b : β → D) (R : α → β → Prop) (B N : Nat) : ∀ (xs : List α) (n : Nat), n + B * xs.length ≤ N → (∀ x ∈ xs, ∀ m, m + B ≤ N → Wp (f (a x)) m fun o m' => ∃ y, o = some (b y) ∧ R x y ∧ m ≤ m' ∧ m' ≤ m + B) →
    Wp (SB.turns f (xs.map a)) n fun ds n' => ∃ ys : List β, ds = ys.map b ∧ ys.length = xs.length ∧ (∀ (i : Nat) x y, xs[i]? = some x → ys[i]? = some y → R x y) ∧ n ≤ n' ∧ n' ≤ n + B * xs.length
  | [], n, _, _ => Wp.pure ⟨[], rfl, rfl, by simp, Nat.le_refl _, by omega⟩
  | d :: xs, n, hb, h => by
    rw [List.length_cons, Nat.mul_succ] at hb
    rw [List.map_cons, SB.turns]
    refine Wp.bind (Wp.mono (h d List.mem_cons_self n (by omega)) fun o m h1 => ?_)
    obtain ⟨y, rfl, hy, m1, m2⟩ := h1
    refine Wp.bind (Wp.mono (Wp.turnsR a b R B N xs m (by omega) fun e he => h e (List.mem_cons_of_mem _ he)) fun ds m' h2 => ?_)
    obtain ⟨ys, rfl, h3, h4, h5, h6⟩ := h2
    refine Wp.pure ⟨y :: ys, rfl, by simp [h3], fun i u v hu hv => ?_, by omega, by rw [List.length_cons, Nat.mul_succ]; omega⟩
    cases i with
    | zero =>
      simp at hu hv
      rw [← hu, ← hv]
      exact hy
    | succ i => exact h4 i u v (by simpa using hu) (by simpa using hv)
end SB
/-! Acts: what stands, what is left. -/
namespace SB
open PySem

theorem run_risesT {α : Type} (f : α → D) (lt : α → α → Bool) (xs : List α) (hlt : ∀ x ∈ xs, ∀ y ∈ xs, cmpD .Lt (f x) (f y) = some (lt x y)) : S_rises [.fz (.tuple (xs.map f))] = pure (.fz (.bool (risesB lt xs))) := by
  refine guardF_pure ?_
  rw [runD_eq rfl rfl]
  have hc : ev T_rises (.comp (.cmp .Lt (.v 1) (.v 2)) [1, 2] [1, 2] false .zip [.v 0, .sl (.v 0) [.int 1] []] []) [some (.fz (.tuple (xs.map f))), none, none] = pure (.ow (.list ((xs.zip (xs.drop 1)).map fun p => .bool (lt p.1 p.2)))) := by
    refine comp_over (ds := [.tuple (xs.map f), .tuple ((xs.drop 1).map f)]) (xs.zip (xs.drop 1)) (fun p => .tuple [f p.1, f p.2]) _ ?_ (zip_map f f xs (xs.drop 1)) fun p hp => ?_
    · simp [slD, cut_one]
    · have hp' := List.of_mem_zip (a := p.1) (b := p.2) hp
      have hl := hlt _ hp'.1 _ (List.mem_of_mem_drop hp'.2)
      simp [bind2, wipeR, hl]
  rw [← rises_zip]
  simp [d_rises, hc, all_bools]
theorem rises_of {α : Type} {lt : α → α → Bool} : ∀ {l : List α}, l.Pairwise (fun a b => lt a b = true) → risesB lt l = true
  | [], _ => rfl
  | [_], _ => rfl
  | x :: y :: r, h => by
    obtain ⟨h1, h2⟩ := List.pairwise_cons.mp h
    show (lt x y && risesB lt (y :: r)) = true
    rw [h1 y List.mem_cons_self, rises_of h2]
    rfl
/-! ### acts -/
def actLt (a b : Act) : Bool := W.dataLt a.d b.d
theorem act_alike (a b : Act) : W.alike a.d b.d = true := by
  cases a <;> cases b <;> simp [Act.d, W.alike, W.alikeAll]
theorem cmp_act (a b : Act) : cmpD .Lt a.d b.d = some (actLt a b) := by
  have h := act_alike a b
  have o1 := act_ok a
  have o2 := act_ok b
  have e : cmpD .Lt a.d b.d = if W.alike a.d b.d && okD a.d && okD b.d then some (W.dataLt a.d b.d) else none := by
    cases a <;> cases b <;> rfl
  rw [e, h, o1, o2]
  rfl
def Act.ok (r : Rec) : Act → Prop
  | .pin t x => ∃ l, r.th[t]? = some l ∧ x < l.length
  | .hide s t => t < r.th.length ∧ ∃ z, r.st[s]? = some z ∧ ∃ g ∈ z.rs, g.th = true ∧ g.ix = t
structure ActsOk (r : Rec) (as : List Act) : Prop where
  len : as.length ≤ 12
  ok : ∀ a ∈ as, a.ok r
  up : as.Pairwise fun a b => actLt a b = true
theorem eq_lit {x y : Str} (hx : fit (.str x) = true) (hy : fit (.str y) = true) (h : x = y) : cmpD .Eq (.str x) (.str y) = some true := by
  rw [eq_str hx hy, decide_eq_true h]
theorem pin_pin : cmpD .Eq (.str "pin") (.str "pin") = some true := eq_lit fit_pin fit_pin rfl
theorem hide_pin' : cmpD .Eq (.str "hide") (.str "pin") = some false := by rw [eq_str fit_hide fit_pin]; simp [hide_pin]
theorem hide_hide : cmpD .NotEq (.str "hide") (.str "hide") = some false := by rw [ne_str fit_hide fit_hide]; simp
theorem fit_thing : fit (.str "thing") = true := by decide +kernel
theorem fit_step : fit (.str "step") = true := by decide +kernel
theorem rg_eqv (g h : Rg) : PyData.eqv g.d h.d = (decide (g.th = h.th) && decide (g.ix = h.ix)) := by
  have e : ∀ m n : Nat, ((m : Int) == (n : Int)) = decide (m = n) := fun m n => by rw [Bool.eq_iff_iff]; simp; omega
  obtain ⟨a, m⟩ := g
  obtain ⟨b, n⟩ := h
  cases a <;> cases b <;> simp [Rg.d, natD, PyData.eqv, PyData.eqvAll, thing_step, step_thing, e]
theorem okd_rg (g : Rg) : Okd 1 g.d := .tuple fun d hd => by
  rcases List.mem_cons.mp hd with rfl | hd
  · cases g.th
    · exact .str fit_step
    · exact .str fit_thing
  · rw [List.mem_singleton.mp hd]
    exact .int _
theorem in_rgs (t : Nat) (rs : List Rg) : cmpD .In (.tuple [.str "thing", natD t]) (.tuple (rs.map Rg.d)) = some (rs.any fun g => g.th && decide (g.ix = t)) := by
  have o1 : okD (Rg.d ⟨true, t⟩) = true := (okd_rg _).ok (by decide)
  have o2 : okD (.tuple (rs.map Rg.d)) = true := (Okd.tuple (k := 1) fun d hd => by
    obtain ⟨g, _, rfl⟩ := List.mem_map.mp hd
    exact okd_rg g).ok (by decide)
  have e : cmpD .In (Rg.d ⟨true, t⟩) (.tuple (rs.map Rg.d)) = if okD (Rg.d ⟨true, t⟩) && okD (.tuple (rs.map Rg.d)) then some ((rs.map Rg.d).any fun z => PyData.eqv z (Rg.d ⟨true, t⟩)) else none := rfl
  rw [o1, o2] at e
  refine e.trans ?_
  rw [Bool.and_self, if_pos rfl, List.any_map]
  refine congrArg some (congrArg rs.any (funext fun g => ?_))
  show PyData.eqv g.d (Rg.d ⟨true, t⟩) = _
  rw [rg_eqv]
  cases g.th <;> simp
theorem run_is_act (r : Rec) (h : r.Ok) (a : Act) (ha : a.ok r) : S_is_act [.fz r.d, .fz a.d] = pure (.fz (.bool true)) := by
  refine guardF_pure ?_
  rw [runD_eq rfl rfl]
  have c3 : cmpD .NotEq (.int 3) (.int 3) = some false := by rw [cmp_ne (ok_int _) (ok_int _)]; rfl
  have lt : bltD .len [.tuple (r.th.map thD)] = some (.fz (natD r.th.length)) := by simp [bltD]
  have ls : bltD .len [.tuple (r.st.map Stp.d)] = some (.fz (natD r.st.length)) := by simp [bltD]
  cases a with
  | pin t x =>
    obtain ⟨l, hl, hx⟩ := ha
    obtain ⟨htl, hte⟩ := List.getElem?_eq_some_iff.mp hl
    have i1 := run_is_integer (natD t) 0 ((r.th.length : Int) - 1)
    rw [is_int_nat t _ htl] at i1
    have i2 := run_is_integer (natD x) 0 ((l.length : Int) - 1)
    rw [is_int_nat x _ hx] at i2
    have x1 : ixD (.tuple (r.th.map thD)) (natD t) = some (.fz (thD l)) := by rw [ix_nat thD htl, hte]
    have ll : bltD .len [thD l] = some (.fz (natD l.length)) := by simp [bltD, thD]
    have b3 : bltD .len [.tuple [.str "pin", natD t, natD x]] = some (.fz (.int 3)) := rfl
    have is1 : isaD .tuple (.tuple [.str "pin", natD t, natD x]) = true := rfl
    have is2 : isaD .str (.str "pin") = true := rfl
    simp [d_is_act, Act.d, is1, is2, b3, c3, Rec.d0, Rec.d1, ex_par2, pin_pin, lt, binD, T_is_act_is_integer, i1, x1, ll, i2]
  | hide s t =>
    obtain ⟨htl, z, hz, g, hg, hg1, hg2⟩ := ha
    obtain ⟨hsl, hse⟩ := List.getElem?_eq_some_iff.mp hz
    have i1 := run_is_integer (natD s) 0 ((r.st.length : Int) - 1)
    rw [is_int_nat s _ hsl] at i1
    have i2 := run_is_integer (natD t) 0 ((r.th.length : Int) - 1)
    rw [is_int_nat t _ htl] at i2
    have x1 : ixD (.tuple (r.st.map Stp.d)) (natD s) = some (.fz z.d) := by rw [ix_nat Stp.d hsl, hse]
    have b3 : bltD .len [.tuple [.str "hide", natD s, natD t]] = some (.fz (.int 3)) := rfl
    have is1 : isaD .tuple (.tuple [.str "hide", natD s, natD t]) = true := rfl
    have is2 : isaD .str (.str "hide") = true := rfl
    have s2 : (2 : Nat) ≤ sizeLine := s1000 (by decide)
    have cin := in_rgs t z.rs
    have an : (z.rs.any fun g => g.th && decide (g.ix = t)) = true := List.any_eq_true.mpr ⟨g, hg, by simp [hg1, hg2]⟩
    rw [an] at cin
    simp [d_is_act, Act.d, is1, is2, b3, c3, Rec.d0, Rec.d1, ex_par2, hide_pin', hide_hide, lt, ls, binD, T_is_act_is_integer, i1, x1, i2, Stp.d1, s2, cin]
theorem run_acts_stand (r : Rec) (h : r.Ok) (as : List Act) (ha : ActsOk r as) : S_acts_stand [.fz r.d, .fz (actsD as)] = pure (.fz (.bool true)) := by
  refine guardF_pure ?_
  rw [runD_eq rfl rfl]
  have ri := run_risesT Act.d actLt as fun a _ b _ => cmp_act a b
  rw [rises_of ha.up] at ri
  have c : ev T_acts_stand (.comp (.call "is_act" [.v 0, .v 2]) [2] [2] true .seq [.v 1] []) [some (.fz r.d), some (.fz (actsD as)), none] = pure (.ow (.list (as.map fun a => .bool true))) := by
    refine comp_over (ds := [actsD as]) as Act.d _ (by simp) rfl fun a hm => ?_
    have := run_is_act r h a (ha.ok a hm)
    simp [bindT, wipeR, T_acts_stand_is_act, this]
  have is1 : isaD .tuple (actsD as) = true := rfl
  have ln : bltD .len [actsD as] = some (.fz (natD as.length)) := by simp [bltD, actsD]
  have hl := ha.len
  have c12 : cmpD .Gt (natD as.length) (.int 12) = some false := by simp [cmpD]; omega
  have ri' : S_rises [.fz (actsD as)] = pure (.fz (.bool true)) := ri
  simp [d_acts_stand, is1, ln, c12]
  rw [c]
  simp [all_bools (fun _ => true)]
  simp [T_acts_stand_rises, ri']
theorem run_need_acts (r : Rec) (h : r.Ok) (as : List Act) (ha : ActsOk r as) : S_need_acts [.fz r.d, .fz (actsD as)] = pure (.fz .none) := by
  refine guardF_pure ?_
  rw [runD_eq rfl rfl]
  simp [d_need_acts, T_need_acts_need_recipe, run_need_recipe r h, T_need_acts_acts_stand, run_acts_stand r h as ha]
/-! ### what is left -/
def isPin : Act → Bool
  | .pin _ _ => true
  | .hide _ _ => false
def keeps (w : List Nat) : Act → Bool
  | .pin t x => decide (w.getD t 0 = x)
  | .hide _ _ => true
def leftT (as : List Act) (w : List Nat) : Bool := as.all (keeps w)
theorem act0 (a : Act) : ixD a.d (.int 0) = some (.fz (.str (if isPin a then "pin" else "hide"))) := by
  cases a <;> (simp only [Act.d]; exact ix_t0 _ _)
theorem is_pin (a : Act) : cmpD .Eq (.str (if isPin a then "pin" else "hide")) (.str "pin") = some (isPin a) := by
  cases a
  · exact pin_pin
  · exact hide_pin'
theorem eq_nat (m n : Nat) : cmpD .Eq (natD m) (natD n) = some (decide (m = n)) := by rw [cmp_eq (ok_int _) (ok_int _), eqv_nat]
theorem ne_nat (m n : Nat) : cmpD .NotEq (natD m) (natD n) = some (!decide (m = n)) := by rw [cmp_ne (ok_int _) (ok_int _), eqv_nat]
theorem filter_keeps (as : List Act) (w : List Nat) : ((as.filter isPin).all (keeps w)) = leftT as w := by
  unfold leftT
  induction as with
  | nil => rfl
  | cons a as ih =>
    cases a with
    | pin t x => rw [List.filter_cons_of_pos (by rfl), List.all_cons, List.all_cons, ih]
    | hide s t => rw [List.filter_cons_of_neg (by simp [isPin]), List.all_cons, ih]; rfl
theorem pin_lt {r : Rec} {t x : Nat} (h : (Act.pin t x).ok r) : t < r.th.length := by
  obtain ⟨l, hl, _⟩ := h
  exact (List.getElem?_eq_some_iff.mp hl).1
theorem run_is_left (r : Rec) (as : List Act) (ha : ∀ a ∈ as, a.ok r) (w : List Nat) (hw : Wld r w) : S_is_left [.fz (actsD as), .fz (wD w)] = pure (.fz (.bool (leftT as w))) := by
  refine guardF_pure ?_
  rw [runD_eq rfl rfl]
  have c : ev T_is_left (.comp (.cmp .Eq (.ix (.v 1) (.ix (.v 2) (.int 1))) (.ix (.v 2) (.int 2))) [2] [2] true .seq [.v 0] [.cmp .Eq (.ix (.v 2) (.int 0)) (.str "pin")]) [some (.fz (actsD as)), some (.fz (wD w)), none] = pure (.ow (.list ((as.filter isPin).map fun a => .bool (keeps w a)))) := by
    refine comp_if (ds := [actsD as]) as Act.d isPin _ (by simp) rfl fun a hm => ?_
    refine ⟨[some (.fz (actsD as)), some (.fz (wD w)), some (.fz a.d)], by simp [bindT, wipeR], ?_, fun hp => ?_⟩
    · simp [act0, is_pin]
    · cases a with
      | hide s t => cases hp
      | pin t x =>
        have ht := pin_lt (ha _ hm)
        have hwl : t < w.length := by rw [hw.1]; exact ht
        have x1 : ixD (wD w) (natD t) = some (.fz (natD (w.getD t 0))) := by rw [wD, ix_nat natD hwl, getD_at hwl]
        have i1 : ixD (Act.pin t x).d (.int 1) = some (.fz (natD t)) := ix_t1 _ _ _
        have i2 : ixD (Act.pin t x).d (.int 2) = some (.fz (natD x)) := ix_t2 _ _ _ _
        simp only [ev_cmp, ev_ix, ev_v, slAt_succ, slAt_zero, ofO_some, pure_bind, seen_fz, rd_fz, ev_int, i1, i2, x1, eq_nat, Option.map_some, kp_fz, keeps]
  have ab := all_bools (keeps w) (as.filter isPin)
  rw [filter_keeps] at ab
  simp [d_is_left]
  rw [c]
  simp only [pure_bind, rd_ow, ab, ofO_some, keepS_fz, finD_rt]
theorem run_need_left (r : Rec) (h : r.Ok) (as : List Act) (ha : ActsOk r as) (w : List Nat) (hw : Wld r w) (hl : leftT as w = true) : S_need_left [.fz r.d, .fz (actsD as), .fz (wD w)] = pure (.fz .none) := by
  refine guardF_pure ?_
  rw [runD_eq rfl rfl]
  have l := run_is_left r as ha.ok w hw
  rw [hl] at l
  simp [d_need_left, T_need_left_need_acts, run_need_acts r h as ha, T_need_left_need_world, run_need_world r h w hw, T_need_left_is_left, l]
theorem run_texts_in (r : Rec) (h : r.Ok) (as : List Act) (ha : ActsOk r as) (w : List Nat) (hw : Wld r w) (hl : leftT as w = true) : S_texts_in [.fz r.d, .fz (actsD as), .fz (wD w)] = pure (.fz (rowD (textsT r as w))) := by
  refine guardF_pure ?_
  rw [runD_eq rfl rfl]
  simp [d_texts_in, T_texts_in_need_left, run_need_left r h as ha w hw hl, T_texts_in_all_texts, run_all_texts r h as w hw, rowD]
def leftW (r : Rec) (as : List Act) : List (List Nat) := (allW r.ns).filter (leftT as)
/-! ### touching -/
def touchT (r : Rec) (w : List Nat) : Act → Bool
  | .pin t x => !decide (w.getD t 0 = x)
  | .hide _ t => !decide ((r.th.getD t []).getD (w.getD t 0) "" = "")
theorem acts_nil (r : Rec) : ActsOk r [] := ⟨by simp, (fun _ h => nomatch h), List.Pairwise.nil⟩
theorem left_nil (w : List Nat) : leftT [] w = true := rfl
end SB
/-! Steps that are made again. -/
namespace SB
open PySem

end SB
/-! Acts are sorted; sets of acts. -/
namespace SB
open PySem

/-! ### the order of acts -/
theorem lt_irrefl (a : Act) : actLt a a = false := PyProof.Rows.lex_irrefl _
theorem lt_trans {a b c : Act} (h1 : actLt a b = true) (h2 : actLt b c = true) : actLt a c = true := PyProof.Rows.lex_trans _ _ _ h1 h2
def actLe (a b : Act) : Bool := !actLt b a
def sortA (as : List Act) : List Act := as.mergeSort actLe
end SB
/-! All acts of a recipe; some of them. -/
namespace SB
open PySem

end SB
/-! Acts are drawn; the worlds left. -/
namespace SB
open PySem

end SB
/-! Worlds beside; on which things steps hang; constant steps. -/
namespace SB
open PySem

/-! ### pairs of worlds -/
end SB
/-! Outcomes that hang on no thing are the same in all worlds left. -/
namespace SB
open PySem

end SB
/-! Sets of things between two worlds. -/
namespace SB
open PySem

/-! ### tuples of numbers, sorted -/
/-! ### sets -/
/-! ### the least of some sets -/
end SB
/-! Least sets of things. -/
namespace SB
open PySem

end SB
/-! Worlds by outcomes: groups, same_under, classes. -/
namespace SB
open PySem

/-! ### lists by keys, typed -/
section
variable {κ α : Type} [DecidableEq κ]
/-- what is true of lists by keys -/
structure GOk (f : α → κ) (ws : List α) (g : List (κ × List α)) : Prop where
  nd : (g.map (·.1)).Nodup
  is : ∀ p ∈ g, p.2 = ws.filter (fun w => decide (f w = p.1)) ∧ p.2 ≠ []
  all : ∀ w ∈ ws, f w ∈ g.map (·.1)
theorem GOk.nil (f : α → κ) : GOk f [] [] := ⟨List.nodup_nil, fun p hp => (nomatch hp), fun w hw => (nomatch hw)⟩
end
section
variable {Φ : Tab} {ρ : Rho}
@[simp] theorem ev_dnew : ev Φ .dnew ρ = pure (.ow (.dict [])) := by rw [ev]
@[simp] theorem ev_dlen (a : Ex) : ev Φ (.dlen a) ρ = (do let x ← ev Φ a ρ; let kvs ← ofO (dicOf x); pure (.fz (.int kvs.length))) := by rw [ev]
@[simp] theorem ev_dsort (i : Nat) : ev Φ (.dsort i) ρ = (do let kvs ← ofO (owK ρ i); let ys ← ofO (dsortD (kvs.map (·.1))); pure (.ow (.list ys))) := by rw [ev]
@[simp] theorem ev_dat (i : Nat) (k : Ex) : ev Φ (.dat i k) ρ = (do let kvs ← ofO (owK ρ i); let x ← ev Φ k ρ; let d ← ofO (fzOf x); let kk ← ofO (keyT d); let v ← ofO (dGet kk kvs); pure (.fz v)) := by rw [ev]
@[simp] theorem ev_dgt (i : Nat) (k e : Ex) : ev Φ (.dgt i k e) ρ = (do let kvs ← ofO (owK ρ i); let x ← ev Φ k ρ; let d ← ofO (fzOf x); let kk ← ofO (keyT d); let y ← ev Φ e ρ; let z ← ofO (fzOf y); pure (.fz ((dGet kk kvs).getD z))) := by rw [ev]
@[simp] theorem ev_din (ng : Bool) (k : Ex) (i : Nat) : ev Φ (.din ng k i) ρ = (do let x ← ev Φ k ρ; let d ← ofO (fzOf x); let kk ← ofO (keyT d); let kvs ← ofO (owK ρ i); pure (.fz (.bool (ng != (dGet kk kvs).isSome)))) := by rw [ev]
@[simp] theorem ex_put (i : Nat) (k e : Ex) : ex Φ (.put i k e) ρ = (do let x ← ev Φ e ρ; let v ← ofO (fzOf x); let y ← ev Φ k ρ; let d ← ofO (fzOf y); let kk ← ofO (keyT d); let kvs ← ofO (owK ρ i); if kvs.length < sizeLine then pure (.nx (ρ.set i (some (.ow (.dict (dPut kk d v kvs)))))) else M.fail) := by rw [ex]
@[simp] theorem fzOf_fz (d : D) : fzOf (.fz d) = some d := rfl
@[simp] theorem dicOf_ow (kvs : KD) : dicOf (.ow (.dict kvs)) = some kvs := rfl
end
/-! ### as data -/
/-- whether all worlds left have one outcome, and there is one -/
def isSameT (r : Rec) (as : List Act) : Bool := decide (leftW r as ≠ []) && decide (∀ v ∈ leftW r as, ∀ w ∈ leftW r as, outT r as v = outT r as w)
end SB
/-! Classes: sorted keys of lists by keys. -/
namespace SB
open PySem

end SB
/-! The worlds ascend; the first two that part. -/
namespace SB
open PySem

/-! ### the first two that part -/
section
variable {κ : Type} [DecidableEq κ]
def firstPart (f : List Nat → κ) : List (List Nat) → Option (List Nat × List Nat)
  | [] => none
  | w :: ws => match ws.find? fun v => !decide (f v = f w) with
    | some v => some (w, v)
    | none => firstPart f ws
end
def partT (r : Rec) (as : List Act) : Option (List Nat × List Nat) := firstPart (outT r as) (leftW r as)
end SB
/-! On which things outcomes hang. -/
namespace SB
open PySem

/-! ### plain facts -/
end SB
/-! Offers and wishes; a case is drawn. -/
namespace SB
open PySem

structure OffOk (r : Rec) (os : List (Act × Nat)) : Prop where
  len : os.length ≤ 8
  ok : ∀ p ∈ os, p.1.ok r ∧ 1 ≤ p.2 ∧ p.2 ≤ 9
  up : (os.map (·.1)).Pairwise fun a b => actLt a b = true
def WishOk (r : Rec) (w : Option (List Str)) : Prop := ∀ ts, w = some ts → ∃ bs v, Wld r v ∧ ts = outT r bs v
end SB
/-! Offers and wishes that stand; bought acts; prices. -/
namespace SB
open PySem

/-! ### wishes -/
structure WishFit (r : Rec) (w : Option (List Str)) : Prop where
  len : ∀ ts, w = some ts → ts.length = r.md.length
  txt : ∀ ts, w = some ts → ∀ t ∈ ts, isTextD (.str t) 2000 = true ∧ fit (.str t) = true
theorem okText_of {x : Str} {n : Int} (h : Ltr x) (hl : (x.length : Int) ≤ n) : okText x n = true := by
  simp only [okText, Bool.and_eq_true, decide_eq_true_eq, List.all_eq_true]
  exact ⟨hl, fun c hc => by simpa using h c hc⟩
theorem out_len (r : Rec) (as : List Act) (w : List Nat) : (outT r as w).length = r.md.length := by
  unfold outT
  rw [List.length_map]
theorem out_text {r : Rec} (h : r.Ok) (as : List Act) (w : List Nat) : ∀ t ∈ outT r as w, Ltr t ∧ t.length ≤ 1024 := fun t ht => by
  obtain ⟨i, hi, rfl⟩ := List.mem_map.mp ht
  have hb := h.bd i hi
  rcases getD_mem (l := textsT r as w) (i := i) (d := "") rfl with h1 | h1
  · obtain ⟨h2, h3⟩ := tx_ltr h as w r.st.length _ h1
    refine ⟨h2, ?_⟩
    have := two_pow_le h.s8
    omega
  · rw [h1]
    have e : ("" : Str).cps.toList = [] := by decide +kernel
    refine ⟨fun c hc => ?_, by decide +kernel⟩
    rw [e] at hc
    cases hc
theorem WishOk.fit {r : Rec} (h : r.Ok) {w : Option (List Str)} (hw : WishOk r w) : WishFit r w := by
  refine ⟨fun ts e => ?_, fun ts e t ht => ?_⟩
  · obtain ⟨bs, v, _, rfl⟩ := hw ts e
    exact out_len r bs v
  · obtain ⟨bs, v, _, rfl⟩ := hw ts e
    refine ⟨?_, out_fit h bs v t ht⟩
    obtain ⟨h1, h2⟩ := out_text h bs v t ht
    exact okText_of h1 (by omega)
/-! ### bought acts -/
/-- some of the offered acts, in their order -/
def Bought (os : List (Act × Nat)) (as : List Act) : Prop := as.Sublist (os.map (·.1))
theorem Bought.up {r : Rec} {os : List (Act × Nat)} (ho : OffOk r os) {as : List Act} (hb : Bought os as) : as.Pairwise fun a b => actLt a b = true := List.Pairwise.sublist hb ho.up
/-! ### prices -/
def costT (os : List (Act × Nat)) (as : List Act) : Nat := ((os.filter fun p => decide (p.1 ∈ as)).map (·.2)).sum
end SB
/-! All bought acts; prices and numbers of classes. -/
namespace SB
open PySem

/-! ### all parts of a list -/
end SB
/-! Prices against classes. -/
namespace SB
open PySem

end SB
/-! The fewest classes for a budget. -/
namespace SB
open PySem

end SB
/-! Trades. -/
namespace SB
open PySem

end SB
/-! Cures. -/
namespace SB
open PySem

def curesT (r : Rec) (w : Option (List Str)) (as : List Act) : Bool := match w with
  | none => isSameT r as
  | some ts => !decide (leftW r as = []) && (leftW r as).all fun v => decide (outT r as v = ts)
end SB
/-! Values that are no acts. -/
namespace SB
open PySem

/-! ### no acts -/
end SB
/-! Values that are no offers; offers are drawn. -/
namespace SB
open PySem

theorem compRW {Φ : Tab} {ρ : Rho} {α β : Type} {elt : Ex} {own tg : List Nat} {one : Bool} {k : IK} {args : List Ex} {n : Nat} {Q : Sl → Nat → Prop} (a : α → D) (b : β → D) (R : α → β → Prop) (B N : Nat)
    (h1 : Wp (evr Φ args ρ) n fun ds n1 => ∃ l : List α, iterD k ds = some (l.map a) ∧ n1 + B * l.length ≤ N ∧
      (∀ x ∈ l, ∀ m, m + B ≤ N → Wp (do let ρ1 ← ofO (bindT one tg (a x) (wipeR ρ own)); let y ← ev Φ elt ρ1; y.kp) m fun d m' => ∃ y, d = b y ∧ R x y ∧ m ≤ m' ∧ m' ≤ m + B) ∧
      ∀ (ys : List β) n', ys.length = l.length → (∀ (i : Nat) x y, l[i]? = some x → ys[i]? = some y → R x y) → n1 ≤ n' → n' ≤ n1 + B * l.length → Q (.ow (.list (ys.map b))) n') : Wp (ev Φ (.comp elt own tg one k args []) ρ) n Q := by
  rw [ev]
  refine Wp.bind (Wp.mono h1 fun ds n1 h => ?_)
  obtain ⟨l, h2, h3, h4, h5⟩ := h
  rw [h2, ofO_some, pure_bind]
  refine Wp.bind (Wp.mono (Wp.turnsR a b R B N l n1 h3 fun x hx m hm => ?_) fun ds n' h6 => ?_)
  · have h7 := h4 x hx m hm
    cases hb : bindT one tg (a x) (wipeR ρ own) with
    | none =>
      rw [hb] at h7
      obtain ⟨_, _, h8, _⟩ := h7
      cases h8
    | some ρ1 =>
      rw [hb, ofO_some, pure_bind] at h7
      rw [ofO_some, pure_bind, evc_nil, pure_bind, if_pos rfl, ← bind_assoc]
      refine Wp.bind (Wp.mono h7 fun d m' h8 => ?_)
      obtain ⟨y, rfl, h9⟩ := h8
      exact Wp.pure ⟨y, rfl, h9⟩
  · obtain ⟨ys, rfl, g1, g2, g3, g4⟩ := h6
    exact Wp.pure (h5 ys n' g1 g2 g3 g4)
end SB
/-! Runs that are counted. -/
namespace SB
open PySem

/-! ### without repeats -/
/-! ### the runs of worlds -/
/-! ### count_runs -/
end SB
/-! Rows of papers. -/
namespace SB
open PySem

/-! ### worlds that are none -/
/-! ### is_bought -/
/-! ### is_row -/
/-! ### is_right -/
end SB
/-! Papers. -/
namespace SB
open PySem

/-! ### bars_cures -/
/-! ### is_paper -/
end SB
/-! Papers, judged. -/
namespace SB
open PySem

/-! ### the order of rows -/
end SB
/-! Rows that bar cures. -/
namespace SB
open PySem

/-! ### acts that touch -/
/-- rows: the empty one bars cures, the others are too dear -/
def unlikeD (own : List (List Nat)) : D := .tuple [.str "unlike", .tuple (own.map wD)]
end SB
/-! Papers that bar cures by worlds that are unlike. -/
namespace SB
open PySem

end SB
/-! Law k25: one choice of worlds. -/
namespace SB
open PySem

end SB
/-! The search for the cheapest cures, in plain Lean. -/
namespace SB
open PySem

/-! ### acts that do not touch a world -/
/-! ### what bars acts from being a cure -/
def barsT (r : Rec) (w : Option (List Str)) (as : List Act) : Option (List (List Nat)) :=
  if leftW r as = [] then none else match w with
    | none => (match partT r as with
      | none => some []
      | some (u, v) => some [u, v])
    | some ts => (match (leftW r as).find? fun v => !decide (outT r as v = ts) with
      | none => some []
      | some v => some [v])
/-! ### bought acts as sets -/
theorem sub_of_up : ∀ {m l : List Act}, m.Pairwise (fun a b => actLt a b = true) → l.Pairwise (fun a b => actLt a b = true) → (∀ a ∈ l, a ∈ m) → l.Sublist m
  | [], l, _, _, h => by
    cases l with
    | nil => exact List.Sublist.refl _
    | cons a l => exact absurd (h a List.mem_cons_self) (by simp)
  | x :: m, [], _, _, _ => List.nil_sublist _
  | x :: m, y :: l, hm, hl, h => by
    have hm' := List.pairwise_cons.mp hm
    have hl' := List.pairwise_cons.mp hl
    by_cases e : y = x
    · subst e
      refine List.Sublist.cons₂ _ (sub_of_up hm'.2 hl'.2 fun a ha => ?_)
      rcases List.mem_cons.mp (h a (List.mem_cons_of_mem _ ha)) with q | q
      · subst q
        have := hl'.1 a ha
        rw [lt_irrefl] at this
        cases this
      · exact q
    · have hy : y ∈ m := by
        rcases List.mem_cons.mp (h y List.mem_cons_self) with q | q
        · exact absurd q e
        · exact q
      have hxy := hm'.1 y hy
      refine List.Sublist.cons _ (sub_of_up hm'.2 hl fun a ha => ?_)
      rcases List.mem_cons.mp (h a ha) with q | q
      · exfalso
        subst q
        rcases List.mem_cons.mp ha with q | q
        · exact e q.symm
        · have := lt_trans hxy (hl'.1 a q)
          rw [lt_irrefl] at this
          cases this
      · exact q
section
variable {r : Rec} {os : List (Act × Nat)}
theorem Bought.of (ho : OffOk r os) {as : List Act} (hu : as.Pairwise fun a b => actLt a b = true) (h : ∀ a ∈ as, a ∈ os.map (·.1)) : Bought os as := sub_of_up ho.up hu h
def withA (as : List Act) (a : Act) : List Act := sortA (as ++ [a])
end

/-! ### the search -/
structure Sst where
  best : Option Nat
  found : List (List Act)
  seen : List (List Act)
  line : List (List Act)
/-- the further offered acts that touch one of some worlds -/
def touchB (r : Rec) (os : List (Act × Nat)) (as : List Act) (own : List (List Nat)) : List Act := (os.map (·.1)).filter fun a => !decide (a ∈ as) && own.any fun v => touchT r v a
def DoneT (r : Rec) (os : List (Act × Nat)) (w : Option (List Str)) (st : Sst) (s : List Act) : Prop :=
  (∃ b, st.best = some b ∧ b < costT os s) ∨ s ∈ st.found ∨ barsT r w s = none ∨ ∃ ws, barsT r w s = some ws ∧ ws ≠ [] ∧ ∀ a ∈ touchB r os s ws, withA s a ∈ st.seen
structure Srch (r : Rec) (os : List (Act × Nat)) (w : Option (List Str)) (st : Sst) : Prop where
  bo : ∀ s ∈ st.seen, Bought os s
  nd : st.seen.Nodup
  li : ∀ s ∈ st.line, s ∈ st.seen
  nl : st.line.Nodup
  nil : [] ∈ st.seen
  fd : ∀ s ∈ st.found, curesT r w s = true ∧ st.best = some (costT os s)
  fs : ∀ s ∈ st.found, s ∈ st.seen ∧ s ∉ st.line
  fn : st.found.Nodup
  bs : st.best ≠ none → st.found ≠ []
  dn : ∀ s ∈ st.seen, s ∈ st.line ∨ DoneT r os w st s
section
variable {r : Rec} {os : List (Act × Nat)} {w : Option (List Str)} {st : Sst}
/-- what one turn keeps of the search, but for the acts that it treats -/
structure Half (r : Rec) (os : List (Act × Nat)) (w : Option (List Str)) (as : List Act) (st : Sst) : Prop where
  bo : ∀ s ∈ st.seen, Bought os s
  nd : st.seen.Nodup
  li : ∀ s ∈ st.line, s ∈ st.seen
  nl : st.line.Nodup
  nil : [] ∈ st.seen
  fd : ∀ s ∈ st.found, curesT r w s = true ∧ st.best = some (costT os s)
  fs : ∀ s ∈ st.found, s ∈ st.seen ∧ s ∉ st.line
  fn : st.found.Nodup
  bs : st.best ≠ none → st.found ≠ []
  own : as ∈ st.seen ∧ as ∉ st.line ∧ Bought os as
  dn : ∀ s ∈ st.seen, s ≠ as → s ∈ st.line ∨ DoneT r os w st s
end
/-- the least price of a cure, and the cures with it -/
structure Cheap (r : Rec) (os : List (Act × Nat)) (w : Option (List Str)) (best : Option Nat) (found : List (List Act)) : Prop where
  bo : ∀ s ∈ found, Bought os s
  cu : ∀ s ∈ found, curesT r w s = true
  eq : ∀ s ∈ found, best = some (costT os s)
  nd : found.Nodup
  ne : best ≠ none → found ≠ []
  all : ∀ C, Bought os C → curesT r w C = true → ∃ b, best = some b ∧ (b < costT os C ∨ C ∈ found)
end SB
/-! The search for the cheapest cures: what the program computes. -/
namespace SB
open PySem

section
variable {Φ : Tab} {ρ : Rho}
@[simp] theorem ev_dlit (k e : Ex) : ev Φ (.dlit k e) ρ = (do let x ← ev Φ k ρ; let d ← ofO (fzOf x); let _ ← ofO (keyT d); let y ← ev Φ e ρ; let v ← ofO (fzOf y); pure (.ow (.dict [(d, v)]))) := by rw [ev]
@[simp] theorem ex_parT (is : List Nat) (es : List Ex) : ex Φ (.parT is es) ρ = (do let rs ← evo Φ es ρ; if is.length = rs.length ∧ rs.length ≤ 1000 then pure (.nx (setR is rs ρ)) else M.fail) := by rw [ex]
@[simp] theorem ex_popA' (i j : Nat) : ex Φ (.popA i j) ρ = (do let ds ← ofO (owL ρ j); let d ← ofO ds.getLast?; pure (.nx ((ρ.set j (some (.ow (.list ds.dropLast)))).set i (some (.fz d))))) := by rw [ex]
end
/-! ### unlike_worlds -/
/-! ### touching_acts, with_act -/
/-! ### dicts of acts -/
/-! ### cheapest -/
section
variable {r : Rec} {os : List (Act × Nat)} {w : Option (List Str)}
end
end SB
/-! The search for the cheapest cures: its loop. -/
namespace SB
open PySem

section
variable {r : Rec} {os : List (Act × Nat)} {w : Option (List Str)}
end
end SB
/-! The order of tuples of acts; least prices and cheapest cures. -/
namespace SB
open PySem

/-! ### the least price -/
section
variable {r : Rec} {os : List (Act × Nat)} {w : Option (List Str)}
/-! ### the program's answers -/
end
end SB
/-! Papers: their reasons and the search for them. -/
namespace SB
open PySem

def rsnT (r : Rec) (os : List (Act × Nat)) (w : Option (List Str)) (n : Nat) (as : List Act) : Option D :=
  if n ≤ costT os as then some (.tuple [.str "dear"]) else match barsT r w as with
    | none => some (.tuple [.str "none"])
    | some [] => none
    | some (v :: vs) => some (.tuple [.str "unlike", .tuple ((v :: vs).map wD)])
section
variable {r : Rec} {os : List (Act × Nat)} {w : Option (List Str)} {n : Nat}
/-! ### the search -/
def nextP (r : Rec) (os : List (Act × Nat)) (w : Option (List Str)) (n : Nat) (as : List Act) : List (List Act) :=
  if n ≤ costT os as then [] else match barsT r w as with
    | some (v :: vs) => (touchB r os as (v :: vs)).map (withA as)
    | _ => []
structure Pap (r : Rec) (os : List (Act × Nat)) (w : Option (List Str)) (n : Nat) (rows line : List (List Act)) : Prop where
  bo : ∀ s ∈ rows, Bought os s
  bl : ∀ s ∈ line, Bought os s
  nd : rows.Nodup
  st : (rows = [] ∧ line = [[]]) ∨ ∃ m, rows = [] :: m
  ok : ∀ s ∈ rows, rsnT r os w n s ≠ none
  cl : ∀ s ∈ rows, ∀ t ∈ nextP r os w n s, t ∈ rows ∨ t ∈ line
  ll : line.length ≤ 8 * rows.length + 1
/-! ### the whole of it -/
end
end SB
/-! Papers, judged. -/
namespace SB
open PySem

/-- a reason -/
inductive Rsn where
  | dear
  | none
  | unlike (own : List (List Nat))
def Rsn.d : Rsn → D
  | .dear => .tuple [.str "dear"]
  | .none => .tuple [.str "none"]
  | .unlike own => unlikeD own
/-! ### the paper that is found is a paper -/
section
variable {r : Rec} {os : List (Act × Nat)} {w : Option (List Str)} {n : Nat}
end
end SB
/-! The law's own judge of papers. -/
namespace SB
open PySem

end SB
/-! What defs that may raise compute. -/
namespace SB
open PySem

section
variable {Φ : Tab} {Ψ : XTab} {ρ : Rho}
def nextXS (Φ : Tab) (Ψ : XTab) (ss : List XS) : XFl → M XFl
  | .nx ρ => xexs Φ Ψ ss ρ
  | .rt v => pure (.rt v)
  | .rz n => pure (.rz n)
@[simp] theorem nextXS_nx (ss : List XS) (ρ : Rho) : nextXS Φ Ψ ss (.nx ρ) = xexs Φ Ψ ss ρ := rfl
@[simp] theorem nextXS_rt (ss : List XS) (v : Sl) : nextXS Φ Ψ ss (.rt v) = pure (.rt v) := rfl
@[simp] theorem nextXS_rz (ss : List XS) (n : Str) : nextXS Φ Ψ ss (.rz n) = pure (.rz n) := rfl
@[simp] theorem xexs_nil : xexs Φ Ψ [] ρ = pure (.nx ρ) := by rw [xexs]
@[simp] theorem xexs_cons (s : XS) (ss : List XS) : xexs Φ Ψ (s :: ss) ρ = xex Φ Ψ s ρ >>= nextXS Φ Ψ ss := by
  rw [xexs]
  refine congrArg (fun k => xex Φ Ψ s ρ >>= k) (funext fun fl => ?_)
  cases fl <;> rfl
@[simp] theorem xex_pl (s : SB.St) : xex Φ Ψ (.pl s) ρ = (do let r ← ex Φ s ρ; pure (ofFl r)) := by rw [xex]
@[simp] theorem xex_frz (is : List Nat) : xex Φ Ψ (.frz is) ρ = pure (.nx (frzR is ρ)) := by rw [xex]
@[simp] theorem xex_cal (f : Str) (es : List Ex) : xex Φ Ψ (.cal f es) ρ = (do let rs ← eva Φ es ρ; let g ← ofO (Ψ f); let r ← g rs; pure (nextX ρ r)) := by
  rw [xex]
  unfold xcallM
  simp only [bind_assoc]
@[simp] theorem xex_ifx (c : Ex) (a b : List XS) : xex Φ Ψ (.ifx c a b) ρ = (do let x ← ev Φ c ρ; let d ← x.rd; let k ← asB d; if k then xexs Φ Ψ a ρ else xexs Φ Ψ b ρ) := by rw [xex]
@[simp] theorem xex_rz (n : Str) : xex Φ Ψ (.rz n) ρ = pure (.rz n) := by rw [xex]
@[simp] theorem xex_rcal (f : Str) (es : List Ex) : xex Φ Ψ (.rcal f es) ρ = (do let rs ← eva Φ es ρ; let g ← ofO (Ψ f); let r ← g rs; retX r) := by
  rw [xex]
  unfold xcallM
  simp only [bind_assoc]
@[simp] theorem xex_rife (c : Ex) (f : Str) (es : List Ex) (g : Str) (fs : List Ex) : xex Φ Ψ (.rife c f es g fs) ρ = (do let x ← ev Φ c ρ; let d ← x.rd; let k ← asB d; if k then xex Φ Ψ (.rcal f es) ρ else xex Φ Ψ (.rcal g fs) ρ) := by
  rw [xex, xex, xex]
@[simp] theorem retX_v (s : Sl) : retX (.v s) = (do let y ← ofO (keepS s); pure (.rt y)) := rfl
@[simp] theorem retX_x (n : Str) : retX (.x n) = pure (.rz n) := rfl
@[simp] theorem nextX_v (s : Sl) : nextX ρ (.v s) = .nx ρ := rfl
@[simp] theorem nextX_x (n : Str) : nextX ρ (.x n) = .rz n := rfl
@[simp] theorem ofFl_nx : ofFl (.nx ρ) = .nx ρ := rfl
@[simp] theorem ofFl_rt (v : Sl) : ofFl (.rt v) = .rt v := rfl
@[simp] theorem endX_nx : endX (.nx ρ) = .v (.fz .none) := rfl
@[simp] theorem endX_rt (v : Sl) : endX (.rt v) = .v v := rfl
@[simp] theorem endX_rz (n : Str) : endX (.rz n) = .x n := rfl
@[simp] theorem toldE_nx (es : List Str) : toldE es (.nx ρ) = pure (.fz .none) := rfl
@[simp] theorem toldE_rt (es : List Str) (v : Sl) : toldE es (.rt v) = pure v := rfl
end
/-! ### the doors -/
def okX (b : Bool) (n : Str) : XR := if b = true then .v (.fz .none) else .x n
@[simp] theorem okX_true (n : Str) : okX true n = .v (.fz .none) := rfl
@[simp] theorem okX_false (n : Str) : okX false n = .x n := rfl
end SB
/-! What defs that may raise compute, further. -/
namespace SB
open PySem

/-! ### comparing -/
end SB
/-! Worlds and acts that are none. -/
namespace SB
open PySem

/-! ### the door of making -/
end SB
/-! Lists of worlds, and two worlds. -/
namespace SB
open PySem

/-! ### two worlds -/
/-! ### lists of worlds -/
end SB
/-! The newer parts of the language, as rules for simp; all worlds as a list that is owned. -/
namespace SB
open PySem

section
variable {Φ : Tab} {ρ : Rho}
@[simp] theorem ex_forO (tg : List Nat) (one : Bool) (i : Nat) (body : List St) : ex Φ (.forO tg one i body) ρ = (do
    let ds ← ofO (owL ρ i)
    let r ← loop (fun d ρ => ofO (bindT one tg d ρ) >>= exs Φ body) ds (ρ.set i none)
    match r with
    | .nx ρ' => if noBw ρ' then pure (.nx ρ') else M.fail
    | .rt _ => M.fail) := by first | (rw [ex]; rfl) | rw [ex]
@[simp] theorem ex_forD (tg : List Nat) (one : Bool) (i : Nat) (body : List St) : ex Φ (.forD tg one i body) ρ = (do
    let kvs ← ofO (owK ρ i)
    let r ← loop (fun d ρ => ofO (bindT one tg d ρ) >>= exs Φ body) (kvs.map (·.1)) (ρ.set i (some (.bw (.dict kvs))))
    match r with
    | .nx ρ' => if noBw (ρ'.set i none) then pure (.nx (ρ'.set i none)) else M.fail
    | .rt _ => M.fail) := by first | (rw [ex]; rfl) | rw [ex]
@[simp] theorem ex_iput (i : Nat) (k : Ex) : ex Φ (.iput i k) ρ = (do
    let y ← ev Φ k ρ
    let d ← y.rd
    let n ← ofO (intOf d)
    let ns ← ofO (owI ρ i)
    if ns.length < sizeLine then pure (.nx (ρ.set i (some (.ow (.tuple ((addI ns n).map .int)))))) else M.fail) := by rw [ex]
@[simp] theorem ev_datB (i : Nat) (k : Ex) : ev Φ (.datB i k) ρ = (do let kvs ← ofO (bwK ρ i); let x ← ev Φ k ρ; let d ← ofO (fzOf x); let kk ← ofO (keyT d); let v ← ofO (dGet kk kvs); pure (.fz v)) := by rw [ev]
@[simp] theorem ev_inew : ev Φ .inew ρ = pure (.ow (.tuple [])) := by rw [ev]
@[simp] theorem ev_isort (i : Nat) : ev Φ (.isort i) ρ = (do let ns ← ofO (owI ρ i); let ys ← ofO (sortD (ns.map .int)); pure (.ow (.list ys))) := by rw [ev]
@[simp] theorem ev_iin (ng : Bool) (k : Ex) (i : Nat) : ev Φ (.iin ng k i) ρ = (do let x ← ev Φ k ρ; let d ← x.rd; let n ← ofO (intOf d); let ns ← ofO (owI ρ i); pure (.fz (.bool (ng != decide (n ∈ ns))))) := by rw [ev]
@[simp] theorem ev_dcomp (elt : Ex) (own tg : List Nat) (one : Bool) (i : Nat) : ev Φ (.dcomp elt own tg one i) ρ = (do
    let kvs ← ofO (owK ρ i)
    let ys ← turns (fun d => do
      let ρ1 ← ofO (bindT one tg d (wipeR ρ own))
      let y ← ev Φ elt ρ1
      let e ← y.kp
      pure (some e)) (kvs.map (·.1))
    pure (.ow (.list ys))) := by rw [ev]
@[simp] theorem ev_lzip (a b : Ex) : ev Φ (.lzip a b) ρ = (do let x ← ev Φ a ρ; let d ← x.rd; let y ← ev Φ b ρ; let e ← y.rd; let xs ← ofO (iterD .zip [d, e]); if xs.length ≤ sizeLine then pure (.ow (.list xs)) else M.fail) := by rw [ev]
end
/-- a slot that is empty or frozen -/
def Fzn (o : Option Sl) : Prop := o = none ∨ ∃ d, o = some (.fz d)
theorem Fzn.fz (d : D) : Fzn (some (.fz d)) := .inr ⟨d, rfl⟩
end SB
/-! Texts of recipes. -/
namespace SB
open PySem

theorem add_strT {x y : Str} (h : x.length + y.length ≤ 100000) : binD .Add (.str x) (.str y) = some (.fz (.str (x ++ y))) := by
  show (if x.length + y.length ≤ sizeLine then some (Sl.fz (.str (x ++ y))) else none) = _
  rw [if_pos (by rw [sizeLine_eq]; omega)]
theorem b1t (i : Nat) (d : D) (ρ : Rho) : bindT true [i] d ρ = some (ρ.set i (some (.fz d))) := rfl
end SB
/-! Texts read back. -/
namespace SB
open PySem

/-- of which signs a text is -/
def Chr (P : Nat → Prop) (x : Str) : Prop := ∀ c ∈ x.cps.toList, P c
/-- plain signs -/
def Pl (x : Str) : Prop := Chr (· < 1000) x ∧ x.length ≤ 100000
theorem Pl.fit {x : Str} (h : Pl x) : fit (.str x) = true := by
  rw [SB.fit, Bool.and_eq_true, decide_eq_true_eq]
  refine ⟨?_, by rw [sizeLine_eq]; have := h.2; omega⟩
  show x.cps.all (· < 0x110000) = true
  rw [← Array.all_toList, List.all_eq_true]
  intro c hc
  have := h.1 c hc
  simp
  omega
/-! ### numbers -/
/-! ### readings -/
@[simp] theorem ev_dgetS {Φ : Tab} {ρ : Rho} (ks : List (Str × Str)) (a b : Ex) : ev Φ (.dgetS ks a b) ρ = (do
    let y ← ev Φ a ρ
    let d ← y.rd
    let z ← ev Φ b ρ
    let e ← z.rd
    let x ← ofO (strOf d)
    let j ← ofO (strOf e)
    pure (.fz (.str ((lastOfS x ks).getD j)))) := by rw [ev]
/-! ### steps -/
/-! ### what is read -/
section
variable {Φ : Tab} {x : Str} (h : Pl x)
include h
end
end SB
/-! A recipe's text, read back. -/
namespace SB
open PySem

theorem ltr_range {x : Str} (h : Ltr x) : Chr (fun c => 97 ≤ c ∧ c ≤ 122) x := fun c hc => by
  have k : ∀ c ∈ lettersT.cps.toList, 97 ≤ c ∧ c ≤ 122 := by decide +kernel
  exact k c (h c hc)
theorem chr_mono {P Q : Nat → Prop} {x : Str} (h : Chr P x) (k : ∀ c, P c → Q c) : Chr Q x := fun c hc => k c (h c hc)
section
variable {P : Nat → Prop} (hl : ∀ c, 97 ≤ c → c ≤ 122 → P c)
include hl
end
/-! ### cuts -/
end SB
/-! Law k06. -/
namespace SB
open PySem

def abz : List Nat := [97, 98, 122]
structure T06 (cs : List Nat) : Prop where
  m : ∀ c ∈ cs, c ∈ abz
  l : cs.length ≤ 4
theorem T06.ltr {cs : List Nat} (h : T06 cs) : Ltr (ofL cs) := fun c hc => by
  rw [cps_ofL] at hc
  have k : ∀ c ∈ abz, c ∈ lettersT.cps.toList := by decide +kernel
  exact k c (h.m c hc)
theorem T06.pl {cs : List Nat} (h : T06 cs) : Pl (ofL cs) := ⟨chr_mono (ltr_range h.ltr) fun c z => by omega, by rw [len_ofL]; have := h.l; omega⟩
def pl6 (cs : List Nat) : D := .str (ofL cs)
/-! ### one operation -/
def rec06 (name : Str) (xs : List (List Nat)) : Rec := ⟨xs.map fun cs => [ofL cs], [⟨name, (List.range xs.length).map fun i => ⟨true, i⟩⟩], [0]⟩
theorem prod06 : ∀ xs : List (List Nat), prodN (xs.map fun cs => [ofL cs]) = 1
  | [] => rfl
  | x :: xs => by rw [List.map_cons, prodN, prod06 xs]; rfl
theorem rec06_ok {name : Str} {xs : List (List Nat)} (hn : readsL.lookup name = some (xs.length : Int)) (hx : ∀ cs ∈ xs, T06 cs) : (rec06 name xs).Ok ∧ 1 ≤ xs.length ∧ xs.length ≤ 3 := by
  have l3 : 1 ≤ xs.length ∧ xs.length ≤ 3 := by
    rcases op_cases hn with ⟨_, h⟩ | ⟨_, h⟩ | ⟨_, h⟩ | ⟨_, h⟩ | ⟨_, h⟩ | ⟨_, h⟩ | ⟨_, h⟩ | ⟨_, h⟩ <;> omega
  have lt : (rec06 name xs).th.length = xs.length := by simp [rec06]
  refine ⟨⟨by omega, by omega, fun t ht => ?_, ?_, by simp [rec06], by simp [rec06], fun i s hs => ?_, by simp [rec06], by simp [rec06], by simp [rec06], by simp [rec06]⟩, l3⟩
  · obtain ⟨cs, hcs, rfl⟩ := List.mem_map.mp ht
    refine ⟨by simp, by simp, fun x hx' => ?_, rfl⟩
    rw [List.mem_singleton.mp hx']
    refine okText_of (hx cs hcs).ltr ?_
    rw [len_ofL]
    have := (hx cs hcs).l
    omega
  · show prodN (xs.map fun cs => [ofL cs]) ≤ 256
    rw [prod06]
    decide
  · have hs : ([⟨name, (List.range xs.length).map fun i => ⟨true, i⟩⟩] : List Stp)[i]? = some s := hs
    match i, hs with
    | 0, hs =>
      cases hs
      refine ⟨by simpa using hn, fun g hg => ?_⟩
      obtain ⟨j, hj, rfl⟩ := List.mem_map.mp hg
      rw [if_pos rfl, lt]
      exact List.mem_range.mp hj
    | i + 1, hs => simp at hs
theorem mult06 (k : Nat) (h1 : 1 ≤ k) (h3 : k ≤ 3) : binD .Mult (.tuple [.int 0]) (natD k) = some (.fz (wD (List.replicate k 0))) := by
  match k, h1, h3 with
  | 1, _, _ => simp [binD, wD, natD]
  | 2, _, _ => simp [binD, wD, natD, List.replicate]
  | 3, _, _ => simp [binD, wD, natD, List.replicate]
theorem made06 {name : Str} {xs : List (List Nat)} : textsT (rec06 name xs) [] (List.replicate xs.length 0) = [mkT name (xs.map ofL)] := by
  have e : textsT (rec06 name xs) [] (List.replicate xs.length 0) = [mkT name (((List.range xs.length).map fun i => (⟨true, i⟩ : Rg)).map (rdT (rec06 name xs) [] (List.replicate xs.length 0) 0 []))] := rfl
  rw [e, List.map_map]
  refine congrArg (fun z => [mkT name z]) (List.ext_getElem (by simp) fun i h1 h2 => ?_)
  have hi : i < xs.length := by simpa using h2
  rw [List.getElem_map, List.getElem_map, List.getElem_range]
  show (if Act.hide 0 i ∈ ([] : List Act) then ("" : Str) else ((rec06 name xs).th.getD i []).getD ((List.replicate xs.length 0).getD i 0) "") = _
  rw [if_neg (by simp)]
  have e1 : (rec06 name xs).th.getD i [] = [ofL xs[i]] := by
    show (xs.map fun cs => [ofL cs]).getD i [] = _
    rw [getD_at (by simpa using hi), List.getElem_map]
  have e2 : (List.replicate xs.length 0).getD i 0 = 0 := by
    rw [getD_at (by simpa using hi), List.getElem_replicate]
  rw [e1, e2]
  rfl
theorem run_one (name : Str) (xs : List (List Nat)) (hn : readsL.lookup name = some (xs.length : Int)) (hx : ∀ cs ∈ xs, T06 cs) : S__law_one [.fz (.str name), .fz (.list (xs.map pl6))] = pure (.fz (.str (mkT name (xs.map ofL)))) := by
  obtain ⟨ok, k1, k3⟩ := rec06_ok hn hx
  refine guardF_pure ?_
  rw [runD_eq rfl rfl]
  have s0 : (0 : Nat) ≤ sizeLine := s1000 (by decide)
  have s1 : (1 : Nat) ≤ sizeLine := s1000 (by decide)
  have s2 : (2 : Nat) ≤ sizeLine := s1000 (by decide)
  have s3 : (3 : Nat) ≤ sizeLine := s1000 (by decide)
  have c1 : ev T__law_one (.comp (.tup [.v 4]) [4] [4] true .seq [.v 1] []) [some (.fz (.str name)), some (.fz (.list (xs.map pl6))), none, none, none, none] = pure (.ow (.list ((rec06 name xs).th.map thD))) := by
    have e : (rec06 name xs).th.map thD = xs.map fun cs => thD [ofL cs] := by
      show (xs.map fun cs => [ofL cs]).map thD = _
      rw [List.map_map]
      rfl
    rw [e]
    refine comp_over (ds := [.list (xs.map pl6)]) xs pl6 _ (by simp) rfl fun cs hcs => ?_
    show _ = pure (PyData.tuple [pl6 cs])
    generalize pl6 cs = z at *
    simp [b1t, wipeR, s1]
  have ln : bltD .len [.list (xs.map pl6)] = some (.fz (natD xs.length)) := by simp [bltD]
  have rn : iterD .range [natD xs.length] = some ((List.range xs.length).map natD) := range_nat _ (by omega)
  have c2 : ∀ x2 : Option Sl, ev T__law_one (.comp (.tup [.str "thing", .v 5]) [5] [5] true .range [.blt .len [.v 1]] []) [some (.fz (.str name)), some (.fz (.list (xs.map pl6))), x2, none, none, none] = pure (.ow (.list (((List.range xs.length).map fun i => (⟨true, i⟩ : Rg)).map Rg.d))) := by
    intro x2
    rw [List.map_map]
    refine comp_over (ds := [natD xs.length]) (List.range xs.length) natD _ ?_ rn fun i hi => ?_
    · generalize PyData.list (xs.map pl6) = L at *
      generalize natD xs.length = nl at *
      simp [ln]
    · show _ = pure (PyData.tuple [.str "thing", natD i])
      generalize natD i = nd at *
      generalize PyData.list (xs.map pl6) = L at *
      simp [b1t, wipeR, s2]
  have bt : ∀ xs : List D, bltD .tuple [.list xs] = some (.fz (.tuple xs)) := fun _ => rfl
  have mu : binD .Mult (.tuple [.int 0]) (.int (((xs.map pl6).length : Nat) : Int)) = some (.fz (wD (List.replicate xs.length 0))) := by
    rw [List.length_map]
    exact mult06 xs.length k1 k3
  have w : Wld (rec06 name xs) (List.replicate xs.length 0) := by
    refine ⟨by simp [rec06], fun i x t h1 h2 => ?_⟩
    rw [List.getElem?_replicate] at h1
    split at h1
    · cases h1
      have h2 : (xs.map fun cs => [ofL cs])[i]? = some t := h2
      rw [List.getElem?_map] at h2
      obtain ⟨cs, _, rfl⟩ := Option.map_eq_some_iff.mp h2
      exact Nat.one_pos
    · cases h1
  have tx := run_texts_in _ ok [] (acts_nil _) _ w (left_nil _)
  rw [made06] at tx
  have e0 : actsD [] = .tuple [] := rfl
  rw [e0] at tx
  have er : (rec06 name xs).d = .tuple [.tuple ((rec06 name xs).th.map thD), .tuple [.tuple [.str name, .tuple (((List.range xs.length).map fun i => (⟨true, i⟩ : Rg)).map Rg.d)]], .tuple [.int 0]] := rfl
  have ix : ixD (rowD [mkT name (xs.map ofL)]) (.int 0) = some (.fz (.str (mkT name (xs.map ofL)))) := ix_t0 _ _
  rw [er] at tx
  generalize rowD [mkT name (xs.map ofL)] = rd at *
  generalize mkT name (xs.map ofL) = mt at *
  generalize wD (List.replicate xs.length 0) = wd at *
  generalize natD xs.length = nl at *
  generalize ((List.range xs.length).map fun i => (⟨true, i⟩ : Rg)).map Rg.d = gl at *
  generalize (rec06 name xs).th.map thD = tl at *
  generalize xs.map pl6 = pl at *
  simp [d__law_one, List.replicate]
  rw [c1]
  simp [bt]
  rw [c2]
  simp [bt, s0, s1, s2, s3, ln, mu, T__law_one_texts_in, tx, ix]
theorem run_pairs6 (cs : List Nat) (h : cs.length ≤ 100) : S__law_pairs [.fz (pl6 cs)] = pure (.ow (.list ((cs.zip (cs.drop 1)).map fun p => .tuple [.str (sg p.1), .str (sg p.2)]))) := by
  refine guardF_pure ?_
  rw [runD_eq rfl rfl]
  have c2 : slD (pl6 cs) (some 1) none = some (.fz (pl6 (cs.drop 1))) := by
    show (if (ofL cs).length ≤ sizeLine then some (Sl.fz (.str (L2.cutS (ofL cs) (some 1) none))) else none) = _
    rw [if_pos (by rw [len_ofL]; exact s1000 (by omega)), cut_rest, cps_ofL]
    rfl
  have it : iterD .zip [pl6 cs, pl6 (cs.drop 1)] = some ((cs.zip (cs.drop 1)).map fun p => .tuple [.str (sg p.1), .str (sg p.2)]) := by
    show (if (ofL cs).length ≤ sizeLine ∧ (ofL (cs.drop 1)).length ≤ sizeLine then some (((signs (ofL cs)).zip (signs (ofL (cs.drop 1)))).map fun p => PyData.tuple [p.1, p.2]) else none) = _
    rw [if_pos ⟨by rw [len_ofL]; exact s1000 (by omega), by rw [len_ofL, List.length_drop]; exact s1000 (by omega)⟩, signs_eq, signs_eq, cps_ofL, cps_ofL, List.zip_map, List.map_map]
    rfl
  have hl : ((cs.zip (cs.drop 1)).map fun p => (PyData.tuple [.str (sg p.1), .str (sg p.2)])).length ≤ sizeLine := by
    rw [List.length_map, List.length_zip]
    exact s1000 (by omega)
  generalize (cs.zip (cs.drop 1)).map (fun p => (PyData.tuple [.str (sg p.1), .str (sg p.2)])) = zl at *
  generalize pl6 (cs.drop 1) = p2 at *
  generalize pl6 cs = p1 at *
  simp [d__law_pairs, c2, it, hl]
theorem adj6 {R : Nat → Nat → Prop} : ∀ {l : List Nat}, l.Pairwise R → ∀ p ∈ l.zip (l.drop 1), R p.1 p.2
  | [], _, p, hp => by simp at hp
  | [a], _, p, hp => by simp at hp
  | a :: b :: l, h, p, hp => by
    have h' := List.pairwise_cons.mp h
    have hp : p ∈ (a, b) :: (b :: l).zip ((b :: l).drop 1) := hp
    rcases List.mem_cons.mp hp with rfl | hp
    · exact h'.1 b List.mem_cons_self
    · exact adj6 h'.2 p hp
/-! ### counts -/
theorem cnt_perm {c : Nat} {l m : List Nat} (h : l.Perm m) : PyProof.Rows.cnt c l = PyProof.Rows.cnt c m := by
  induction h with
  | nil => rfl
  | cons a _ ih => rw [PyProof.Rows.cnt_cons, PyProof.Rows.cnt_cons, ih]
  | swap a b l => simp only [PyProof.Rows.cnt_cons]; omega
  | trans _ _ h1 h2 => exact h1.trans h2
theorem cnt_filter (c : Nat) (p : Nat → Bool) : ∀ l : List Nat, PyProof.Rows.cnt c (l.filter p) = if p c then PyProof.Rows.cnt c l else 0
  | [] => by simp [PyProof.Rows.cnt_nil]
  | a :: l => by
    have ih := cnt_filter c p l
    rw [List.filter_cons, PyProof.Rows.cnt_cons]
    by_cases hp : p a = true
    · rw [if_pos hp, PyProof.Rows.cnt_cons, ih]
      by_cases e : a = c
      · subst e
        rw [if_pos hp, if_pos hp]
      · simp [e]
    · rw [if_neg hp, ih]
      by_cases e : a = c
      · subst e
        rw [if_neg hp, if_neg hp]
      · simp [e]
theorem rep6 (cs : List Nat) : Txt.replace (ofL cs) "b" "" = ofL (cs.filter fun c => !decide (c ∈ [98])) := by
  have e : (("b" : Str)) = ⟨#[98]⟩ := by decide +kernel
  rw [e, StrLaws.replace_one]
  have hj : ∀ parts : List Str, (∀ p ∈ parts, 98 ∉ p.cps.toList) → (Str.join "" parts).cps.toList = (Str.join ⟨#[98]⟩ parts).cps.toList.filter fun c => !decide (c ∈ [98]) := by
    intro parts
    induction parts with
    | nil => intro _; rfl
    | cons p r ih =>
      intro h
      have hp : p.cps.toList.filter (fun c => !decide (c ∈ [98])) = p.cps.toList := by
        rw [List.filter_eq_self]
        intro c hc
        have : c ≠ 98 := fun z => h p List.mem_cons_self (z ▸ hc)
        simp [this]
      cases r with
      | nil =>
        show p.cps.toList = p.cps.toList.filter _
        exact hp.symm
      | cons q r =>
        have ih := ih fun z hz => h z (List.mem_cons_of_mem _ hz)
        show (p ++ "" ++ Str.join "" (q :: r)).cps.toList = (p ++ ⟨#[98]⟩ ++ Str.join ⟨#[98]⟩ (q :: r)).cps.toList.filter _
        rw [cps_add, cps_add, cps_add, cps_add, List.filter_append, List.filter_append, hp, ih]
        rfl
  refine str_ext ?_
  rw [cps_ofL, hj _ (StrLaws.split_free (ofL cs) 98), StrLaws.join_split, cps_ofL]
/-! ### the draws -/
theorem run_pick6 (ns : List Int) (hn : ns.length ≤ 63) {n : Nat} (h : n < 1000000) {Q : Sl → Nat → Prop} (q : ∀ c ∈ abz, Q (.fz (.str (sg c))) (n + 1)) : Wp (S__law_pick [scr ns, .st, .fz (.str "abz")]) n Q := by
  refine Wp.guard ?_
  rw [runD_eq rfl rfl]
  have s3 : (3 : Nat) ≤ sizeLine := s1000 (by decide)
  have ln : bltD .len [.str "abz"] = some (.fz (.int 3)) := by
    show (if (3 : Nat) ≤ sizeLine then some (Sl.fz (.int 3)) else none) = _
    rw [if_pos s3]
  have ix : ∀ i : Nat, i < 3 → ∃ c ∈ abz, ixD (.str "abz") (.int (i : Int)) = some (.fz (.str (sg c))) := fun i hi => by
    have e : ∀ i : Nat, ixD (.str "abz") (.int (i : Int)) = (L2.atI abz (i : Int)).map fun c => Sl.fz (.str (sg c)) := fun i => by
      show (if (3 : Nat) ≤ sizeLine then (L2.atI (("abz" : Str)).cps.toList (i : Int)).map (fun c => Sl.fz (.str ⟨#[c]⟩)) else none) = _
      rw [if_pos s3]
      rfl
    have ha : i < abz.length := hi
    refine ⟨abz[i], List.getElem_mem _, ?_⟩
    rw [e i, atI_nat ha]
    rfl
  simp [d__law_pick, T__law_pick__law_draw, ln]
  refine Wp.bind (run_draw ns hn 3 (by decide) h fun v h0 h1 => ?_)
  obtain ⟨i, rfl⟩ := Int.eq_ofNat_of_zero_le h0
  obtain ⟨c, hc, e⟩ := ix i (by omega)
  simp [e]
  exact Wp.pure (q c hc)
def A06 (ns : List Int) (s2 : Sl) (o3 : Option Sl) : Rho := [some (scr ns), some .st, some s2, o3, none, none, none, none, none, none, none, none, none, none, none, none, none, none, none]
def b06 : List SB.St := [.app 2 (.meth .join (.str "") [.comp (.call "_law_pick" [.v 0, .v 1, .str "abz"]) [18] [18] true .range [.call "_law_draw" [.v 0, .v 1, .int 5]] []])]
theorem turn06 (ns : List Int) (hn : ns.length ≤ 63) {n : Nat} (hb : n + 10 < 1000000) (rs : List (List Nat)) (hl : rs.length ≤ 100) (o3 : Option Sl) {Q : Fl → Nat → Prop}
    (q : ∀ cs n', T06 cs → n' ≤ n + 6 → Q (.nx (A06 ns (.ow (.list ((rs ++ [cs]).map pl6))) o3)) n') : Wp (exs T_law_k06 b06 (A06 ns (.ow (.list (rs.map pl6))) o3)) n Q := by
  have hsz : (rs.map pl6).length < sizeLine := size1000' (by simp; omega)
  have q : ∀ cs n', T06 cs → n' ≤ n + 6 → Q (.nx (A06 ns (.ow (.list (rs.map pl6 ++ [pl6 cs]))) o3)) n' := fun cs n' a b => by
    have := q cs n' a b
    rw [List.map_append] at this
    exact this
  generalize rs.map pl6 = acc at *
  unfold A06 b06
  rw [exs_cons, ex_app]
  simp only [ev_meth1, ev_str, pure_bind, rd_fz, bind_assoc]
  refine Wp.bind (compRW (n := n) natD (fun c : Nat => .str (sg c)) (fun _ c => c ∈ abz) 1 (n + 6) ?_)
  simp [T_law_k06__law_draw]
  refine Wp.bind (run_draw ns hn 5 (by decide) (by omega) fun v v0 v1 => ?_)
  obtain ⟨v, rfl⟩ := Int.eq_ofNat_of_zero_le v0
  simp
  refine Wp.pure ⟨List.range v, range_nat v (by omega), by rw [List.length_range]; omega, fun x hx m hm => ?_, fun ys n' hys hr h1 h2 => ?_⟩
  · rw [b1t]
    generalize natD x = nx at *
    simp [wipeR, T_law_k06__law_pick]
    refine Wp.bind (run_pick6 ns hn (by omega) fun c hc => ?_)
    exact Wp.pure ⟨c, rfl, hc, by omega, by omega⟩
  · rw [List.length_range] at hys h2
    have t : T06 ys := ⟨fun c hc => by
      obtain ⟨i, hi⟩ := List.mem_iff_getElem?.mp hc
      have il := (List.getElem?_eq_some_iff.mp hi).1
      exact hr i i c (by rw [List.getElem?_range (by omega)]) hi, by omega⟩
    have mj : methD .join (.str "") [.list (ys.map fun c => PyData.str (sg c))] = some (.fz (pl6 ys)) := meth_join (by omega)
    have fin := q ys n' t (by omega)
    unfold A06 at fin
    generalize ys.map (fun c => PyData.str (sg c)) = yl at *
    generalize pl6 ys = py at *
    simp [mj, appK, hsz]
    exact Wp.pure fin
/-! ### the end of the law -/
def E06 (ns : List Int) (A B C : List Nat) (o3 o7 o8 o9 o10 o11 o12 o13 : Option Sl) : Rho := [some (scr ns), some .st, some (.fz (.list [pl6 A, pl6 B, pl6 C])), o3, some (.fz (pl6 A)), some (.fz (pl6 B)), some (.fz (pl6 C)), o7, o8, o9, o10, o11, o12, o13, none, none, none, none, none]
theorem count6 (A : List Nat) (c : Nat) : methD .count (pl6 A) [.str (sg c)] = some (.fz (.int (PyProof.Rows.cnt c A))) := by
  show some (Sl.fz (.int (Txt.count (ofL A) (sg c)))) = _
  rw [PyProof.Rows.count_cnt, cps_ofL]
theorem len6 {A : List Nat} (h : A.length ≤ 1000) : bltD .len [pl6 A] = some (.fz (natD A.length)) := by
  show (if (ofL A).length ≤ sizeLine then some (Sl.fz (.int ((ofL A).length : Nat))) else none) = _
  rw [if_pos (by rw [len_ofL]; exact s1000 h), len_ofL]
theorem ix6 {A : List Nat} (h : A.length ≤ 1000) {i : Nat} (hi : i < A.length) : ixD (pl6 A) (natD i) = some (.fz (.str (sg A[i]))) := by
  show (if (ofL A).length ≤ sizeLine then (L2.atI (ofL A).cps.toList (i : Int)).map (fun c => Sl.fz (.str ⟨#[c]⟩)) else none) = _
  rw [if_pos (by rw [len_ofL]; exact s1000 h), cps_ofL, atI_nat hi]
  rfl
theorem in6 (c : Nat) (B : List Nat) : cmpD .In (.str (sg c)) (pl6 B) = some (decide (c ∈ B)) := by
  show some (decide (c ∈ (ofL B).cps.toList)) = _
  rw [cps_ofL]
theorem add6 {A B : List Nat} (h : A.length + B.length ≤ 1000) : binD .Add (pl6 A) (pl6 B) = some (.fz (pl6 (A ++ B))) := by
  have e : ofL A ++ ofL B = ofL (A ++ B) := str_ext (by rw [cps_add, cps_ofL, cps_ofL, cps_ofL])
  show binD .Add (.str (ofL A)) (.str (ofL B)) = _
  rw [add_strT (by rw [len_ofL, len_ofL]; omega), e]
  rfl
theorem pl6_pl {A : List Nat} (h : ∀ c ∈ A, c ∈ abz) (hl : A.length ≤ 1000) : Pl (ofL A) := by
  refine ⟨fun c hc => ?_, by rw [len_ofL]; omega⟩
  rw [cps_ofL] at hc
  have k : ∀ c ∈ abz, c < 1000 := by decide
  exact k c (h c hc)
theorem ne6 {A B : List Nat} (ha : Pl (ofL A)) (hb : Pl (ofL B)) : cmpD .NotEq (pl6 A) (pl6 B) = some (!decide (A = B)) := by
  show cmpD .NotEq (.str (ofL A)) (.str (ofL B)) = _
  rw [ne_str ha.fit hb.fit]
  refine congrArg (fun b => some (!b)) (decide_eq_decide.mpr ⟨fun h => ?_, fun h => by rw [h]⟩)
  have := congrArg (fun x : Str => x.cps.toList) h
  simpa using this
theorem eq6 {A B : List Nat} (ha : Pl (ofL A)) (hb : Pl (ofL B)) : cmpD .Eq (pl6 A) (pl6 B) = some (decide (A = B)) := by
  show cmpD .Eq (.str (ofL A)) (.str (ofL B)) = _
  rw [eq_str ha.fit hb.fit]
  refine congrArg some (decide_eq_decide.mpr ⟨fun h => ?_, fun h => by rw [h]⟩)
  have := congrArg (fun x : Str => x.cps.toList) h
  simpa using this
theorem mk6 (A B C : List Nat) : mkT "sort" [ofL A] = ofL (sortN A) ∧ mkT "turn" [ofL A] = ofL A.reverse ∧ mkT "first" [ofL A] = ofL (A.take 1) ∧ mkT "rest" [ofL A] = ofL (A.drop 1) ∧ mkT "join" [ofL A, ofL B] = ofL (A ++ B) ∧
    mkT "less" [ofL A, ofL B] = ofL (A.filter fun c => !decide (c ∈ B)) ∧ mkT "same" [ofL A, ofL B] = (if A = B then ofL [121] else ofL []) ∧ mkT "pick" [ofL A, ofL B, ofL C] = (if A = [] then ofL C else ofL B) := by
  have n1 : ¬ ("sort" : Str) = "join" := by decide +kernel
  have n2 : ¬ ("turn" : Str) = "join" := by decide +kernel
  have n3 : ¬ ("turn" : Str) = "sort" := by decide +kernel
  have n4 : ¬ ("first" : Str) = "join" := by decide +kernel
  have n5 : ¬ ("first" : Str) = "sort" := by decide +kernel
  have n6 : ¬ ("first" : Str) = "turn" := by decide +kernel
  have n7 : ¬ ("rest" : Str) = "join" := by decide +kernel
  have n8 : ¬ ("rest" : Str) = "sort" := by decide +kernel
  have n9 : ¬ ("rest" : Str) = "turn" := by decide +kernel
  have n10 : ¬ ("rest" : Str) = "first" := by decide +kernel
  have n11 : ¬ ("less" : Str) = "join" := by decide +kernel
  have n12 : ¬ ("less" : Str) = "sort" := by decide +kernel
  have n13 : ¬ ("less" : Str) = "turn" := by decide +kernel
  have n14 : ¬ ("less" : Str) = "first" := by decide +kernel
  have n15 : ¬ ("less" : Str) = "rest" := by decide +kernel
  have n16 : ¬ ("same" : Str) = "join" := by decide +kernel
  have n17 : ¬ ("same" : Str) = "sort" := by decide +kernel
  have n18 : ¬ ("same" : Str) = "turn" := by decide +kernel
  have n19 : ¬ ("same" : Str) = "first" := by decide +kernel
  have n20 : ¬ ("same" : Str) = "rest" := by decide +kernel
  have n21 : ¬ ("same" : Str) = "less" := by decide +kernel
  have n22 : ¬ ("pick" : Str) = "join" := by decide +kernel
  have n23 : ¬ ("pick" : Str) = "sort" := by decide +kernel
  have n24 : ¬ ("pick" : Str) = "turn" := by decide +kernel
  have n25 : ¬ ("pick" : Str) = "first" := by decide +kernel
  have n26 : ¬ ("pick" : Str) = "rest" := by decide +kernel
  have n27 : ¬ ("pick" : Str) = "less" := by decide +kernel
  have n28 : ¬ ("pick" : Str) = "same" := by decide +kernel
  have ie : ∀ {A B : List Nat}, (ofL A = ofL B) = (A = B) := fun {A B} => propext ⟨fun h => by
    have := congrArg (fun x : Str => x.cps.toList) h
    simpa using this, fun h => by rw [h]⟩
  have ya : ("y" : Str) = ofL [121] := by decide +kernel
  have em : ("" : Str) = ofL [] := by decide +kernel
  refine ⟨?_, ?_, ?_, ?_, ?_, ?_, ?_, ?_⟩
  · rw [mkT, if_neg n1, if_pos rfl]
    simp
  · rw [mkT, if_neg n2, if_neg n3, if_pos rfl]
    simp
  · rw [mkT, if_neg n4, if_neg n5, if_neg n6, if_pos rfl]
    simp
  · rw [mkT, if_neg n7, if_neg n8, if_neg n9, if_neg n10, if_pos rfl]
    simp
  · rw [mkT, if_pos rfl]
    refine str_ext ?_
    show (ofL A ++ ofL B).cps.toList = _
    rw [cps_add, cps_ofL, cps_ofL, cps_ofL]
  · rw [mkT, if_neg n11, if_neg n12, if_neg n13, if_neg n14, if_neg n15, if_pos rfl]
    show ofL ((ofL A).cps.toList.filter fun c => !decide (c ∈ (ofL B).cps.toList)) = _
    rw [cps_ofL, cps_ofL]
  · rw [mkT, if_neg n16, if_neg n17, if_neg n18, if_neg n19, if_neg n20, if_neg n21, if_pos rfl]
    show (if ofL A = ofL B then ("y" : Str) else "") = _
    rw [ya, em]
    simp only [ie]
  · rw [mkT, if_neg n22, if_neg n23, if_neg n24, if_neg n25, if_neg n26, if_neg n27, if_neg n28]
    show (if ofL A = "" then ofL C else ofL B) = _
    rw [em]
    simp only [ie]
theorem T06.sub {A B : List Nat} (h : T06 A) (hm : ∀ c ∈ B, c ∈ A) (hl : B.length ≤ A.length) : T06 B := ⟨fun c hc => h.m c (hm c hc), Nat.le_trans hl h.l⟩
def t06 : List SB.St := [.frz [2],
    .asgT [4, 5, 6] (.v 2),
    .asg 7 (.call "_law_one" [.str "sort", .lst [.v 4]]),
    .ifs (.blt .any [.comp (.cmp .Gt (.v 15) (.v 16)) [15, 16] [15, 16] false .seq [.call "_law_pairs" [.v 7]] []]) [.ret (.bl false)] [],
    .asg 8 (.comp (.cmp .Eq (.meth .count (.v 7) [.v 14]) (.meth .count (.v 4) [.v 14])) [14] [14] true .seq [.str "abz"] []),
    .frz [8],
    .ifs (.not (.blt .all [.v 8])) [.ret (.bl false)] [],
    .asg 9 (.call "_law_one" [.str "turn", .lst [.v 4]]),
    .asg 10 (.blt .len [.v 4]),
    .ifs (.or (.cmp .NotEq (.blt .len [.v 9]) (.v 10)) (.blt .any [.comp (.cmp .NotEq (.ix (.v 4) (.v 17)) (.ix (.v 9) (.bin .Sub (.bin .Sub (.v 10) (.int 1)) (.v 17)))) [17] [17] true .range [.v 10] []])) [.ret (.bl false)] [],
    .par [11, 12] [.call "_law_one" [.str "first", .lst [.v 4]], .call "_law_one" [.str "rest", .lst [.v 4]]],
    .ifs (.or (.cmp .NotEq (.bin .Add (.v 11) (.v 12)) (.v 4)) (.or (.cmp .NotEq (.blt .len [.v 11]) (.blt .min [.int 1, .blt .len [.v 4]])) (.cmp .NotEq (.call "_law_one" [.str "join", .lst [.v 4, .v 5]]) (.bin .Add (.v 4) (.v 5))))) [.ret (.bl false)] [],
    .asg 13 (.call "_law_one" [.str "less", .lst [.v 4, .v 5]]),
    .ifs (.blt .any [.comp (.cmp .NotEq (.meth .count (.v 13) [.v 14]) (.ife (.cmp .In (.v 14) (.v 5)) (.int 0) (.meth .count (.v 4) [.v 14]))) [14] [14] true .seq [.str "abz"] []]) [.ret (.bl false)] [],
    .ifs (.or (.cmp .NotEq (.call "_law_one" [.str "less", .lst [.v 4, .str "b"]]) (.meth2 .replace (.v 4) (.str "b") (.str ""))) (.cmp .NotEq (.call "_law_one" [.str "less", .lst [.v 4, .str ""]]) (.v 4))) [.ret (.bl false)] [],
    .ifs (.or (.cmp .NotEq (.call "_law_one" [.str "same", .lst [.v 4, .v 5]]) (.ife (.cmp .Eq (.v 4) (.v 5)) (.str "y") (.str ""))) (.cmp .NotEq (.call "_law_one" [.str "same", .lst [.v 4, .v 4]]) (.str "y"))) [.ret (.bl false)] [],
    .ret (.cmp .Eq (.call "_law_one" [.str "pick", .lst [.v 4, .v 5, .v 6]]) (.ife (.cmp .Eq (.blt .len [.v 4]) (.int 0)) (.v 6) (.v 5)))]
theorem body06 : d_law_k06.body = [.init 1, .asg 2 (.lst []), .for [3] true .range [.int 3] b06] ++ t06 := rfl
@[simp] theorem ev_meth2 {Φ : Tab} {ρ : Rho} (m : Mf) (o a b : Ex) : ev Φ (.meth2 m o a b) ρ = (do let x ← ev Φ o ρ; let d ← x.rd; let y ← ev Φ a ρ; let e ← y.rd; let z ← ev Φ b ρ; let f ← z.rd; ofO (methD m d [e, f])) := by rw [ev]
set_option maxHeartbeats 2000000 in
theorem tail06 (ns : List Int) (A B C : List Nat) (hA : T06 A) (hB : T06 B) (hC : T06 C) (o3 : Option Sl) : (exs T_law_k06 t06 (A06 ns (.ow (.list ([A, B, C].map pl6))) o3) >>= finD) = pure (.fz (.bool true)) := by
  have s1 : (1 : Nat) ≤ sizeLine := s1000 (by decide)
  have s2 : (2 : Nat) ≤ sizeLine := s1000 (by decide)
  have s3 : (3 : Nat) ≤ sizeLine := s1000 (by decide)
  obtain ⟨m1, m2, m3, m4, m5, m6, m7, m8⟩ := mk6 A B C
  have la := hA.l
  have lb := hB.l
  have b98 : T06 [98] := ⟨by decide, by decide⟩
  have b0 : T06 [] := ⟨by simp, by decide⟩
  have one : ∀ (name : Str) (xs : List (List Nat)) (L : List D), L = xs.map pl6 → readsL.lookup name = some (xs.length : Int) → (∀ cs ∈ xs, T06 cs) → ∀ z, mkT name (xs.map ofL) = z → S__law_one [.fz (.str name), .fz (.list L)] = pure (.fz (.str z)) := fun name xs L e h1 h2 z hz => by
    rw [e, ← hz]
    exact run_one name xs h1 h2
  have in1 : ∀ {X : List Nat}, T06 X → ∀ cs ∈ [X], T06 cs := fun h cs hc => by rw [List.mem_singleton.mp hc]; exact h
  have in2 : ∀ {X Y : List Nat}, T06 X → T06 Y → ∀ cs ∈ [X, Y], T06 cs := fun h h' cs hc => by
    simp at hc
    rcases hc with rfl | rfl
    · exact h
    · exact h'
  have in3 : ∀ cs ∈ [A, B, C], T06 cs := fun cs hc => by
    simp at hc
    rcases hc with rfl | rfl | rfl
    · exact hA
    · exact hB
    · exact hC
  have k1 : S__law_one [.fz (.str "sort"), .fz (.list [pl6 A])] = pure (.fz (pl6 (sortN A))) := one _ [A] _ rfl (show readsL.lookup ("sort" : Str) = some (1 : Int) by decide +kernel) (in1 hA) _ m1
  have k2 : S__law_one [.fz (.str "turn"), .fz (.list [pl6 A])] = pure (.fz (pl6 A.reverse)) := one _ [A] _ rfl (show readsL.lookup ("turn" : Str) = some (1 : Int) by decide +kernel) (in1 hA) _ m2
  have k3 : S__law_one [.fz (.str "first"), .fz (.list [pl6 A])] = pure (.fz (pl6 (A.take 1))) := one _ [A] _ rfl (show readsL.lookup ("first" : Str) = some (1 : Int) by decide +kernel) (in1 hA) _ m3
  have k4 : S__law_one [.fz (.str "rest"), .fz (.list [pl6 A])] = pure (.fz (pl6 (A.drop 1))) := one _ [A] _ rfl (show readsL.lookup ("rest" : Str) = some (1 : Int) by decide +kernel) (in1 hA) _ m4
  have k5 : S__law_one [.fz (.str "join"), .fz (.list [pl6 A, pl6 B])] = pure (.fz (pl6 (A ++ B))) := one _ [A, B] _ rfl (show readsL.lookup ("join" : Str) = some (2 : Int) by decide +kernel) (in2 hA hB) _ m5
  have k6 : S__law_one [.fz (.str "less"), .fz (.list [pl6 A, pl6 B])] = pure (.fz (pl6 (A.filter fun c => !decide (c ∈ B)))) := one _ [A, B] _ rfl (show readsL.lookup ("less" : Str) = some (2 : Int) by decide +kernel) (in2 hA hB) _ m6
  have e98 : PyData.str "b" = pl6 [98] := by
    have : ("b" : Str) = ofL [98] := by decide +kernel
    rw [this]; rfl
  have e00 : PyData.str "" = pl6 [] := by
    have : ("" : Str) = ofL [] := by decide +kernel
    rw [this]; rfl
  have e121 : PyData.str "y" = pl6 [121] := by
    have : ("y" : Str) = ofL [121] := by decide +kernel
    rw [this]; rfl
  have k7 : S__law_one [.fz (.str "less"), .fz (.list [pl6 A, .str "b"])] = pure (.fz (pl6 (A.filter fun c => !decide (c ∈ [98])))) := one _ [A, [98]] _ (by rw [e98]; rfl) (show readsL.lookup ("less" : Str) = some (2 : Int) by decide +kernel) (in2 hA b98) _ (mk6 A [98] C).2.2.2.2.2.1
  have k8 : S__law_one [.fz (.str "less"), .fz (.list [pl6 A, .str ""])] = pure (.fz (pl6 A)) := one _ [A, []] _ (by rw [e00]; rfl) (show readsL.lookup ("less" : Str) = some (2 : Int) by decide +kernel) (in2 hA b0) _ (by
    show mkT "less" [ofL A, ofL []] = ofL A
    have := (mk6 A [] C).2.2.2.2.2.1
    rw [this]
    refine congrArg ofL (List.filter_eq_self.mpr fun c _ => ?_)
    simp)
  have k9 : S__law_one [.fz (.str "same"), .fz (.list [pl6 A, pl6 B])] = pure (.fz (if A = B then pl6 [121] else pl6 [])) := by
    rw [one _ [A, B] [pl6 A, pl6 B] rfl (show readsL.lookup ("same" : Str) = some (2 : Int) by decide +kernel) (in2 hA hB) _ m7]
    split <;> rfl
  have k10 : S__law_one [.fz (.str "same"), .fz (.list [pl6 A, pl6 A])] = pure (.fz (pl6 [121])) := by
    have := (mk6 A A C).2.2.2.2.2.2.1
    rw [if_pos rfl] at this
    exact one _ [A, A] _ rfl (show readsL.lookup ("same" : Str) = some (2 : Int) by decide +kernel) (in2 hA hA) _ this
  have k11 : S__law_one [.fz (.str "pick"), .fz (.list [pl6 A, pl6 B, pl6 C])] = pure (.fz (if A = [] then pl6 C else pl6 B)) := by
    rw [one _ [A, B, C] [pl6 A, pl6 B, pl6 C] rfl (show readsL.lookup ("pick" : Str) = some (3 : Int) by decide +kernel) in3 _ m8]
    split <;> rfl
  have pm : (sortN A).Perm A := List.mergeSort_perm _ _
  have ls : (sortN A).length = A.length := pm.length_eq
  have kp := run_pairs6 (sortN A) (by omega)
  have srt : (sortN A).Pairwise fun a b => a ≤ b := by
    have h : (sortN A).Pairwise fun a b => decide (a ≤ b) = true := List.pairwise_mergeSort (fun a b c h1 h2 => by simp at *; omega) (fun a b => by simp; omega) A
    exact h.imp fun {a b} h => of_decide_eq_true h
  have cG : ∀ o8, ev T_law_k06 (.comp (.cmp .Gt (.v 15) (.v 16)) [15, 16] [15, 16] false .seq [.call "_law_pairs" [.v 7]] []) (E06 ns A B C o3 (some (.fz (pl6 (sortN A)))) o8 none none none none none) = pure (.ow (.list (((sortN A).zip ((sortN A).drop 1)).map fun p => .bool (decide ([p.2] < [p.1]))))) := by
    intro o8
    unfold E06
    refine comp_over (ds := [.list (((sortN A).zip ((sortN A).drop 1)).map fun p => .tuple [.str (sg p.1), .str (sg p.2)])]) ((sortN A).zip ((sortN A).drop 1)) (fun p => .tuple [.str (sg p.1), .str (sg p.2)]) _ ?_ rfl fun p hp => ?_
    · generalize ((sortN A).zip ((sortN A).drop 1)).map (fun p => (PyData.tuple [.str (sg p.1), .str (sg p.2)])) = zl at *
      generalize pl6 (sortN A) = ps at *
      simp [T_law_k06__law_pairs, kp]
    · have g : cmpD .Gt (.str (sg p.1)) (.str (sg p.2)) = some (decide ([p.2] < [p.1])) := rfl
      rw [bind2]
      generalize pl6 (sortN A) = ps at *
      generalize pl6 A = pa at *
      generalize PyData.str (sg p.1) = q1 at *
      generalize PyData.str (sg p.2) = q2 at *
      simp [wipeR, g]
  have aG := any_bools (fun p : Nat × Nat => decide ([p.2] < [p.1])) ((sortN A).zip ((sortN A).drop 1))
  have fG : (((sortN A).zip ((sortN A).drop 1)).any fun p => decide ([p.2] < [p.1])) = false := by
    rw [List.any_eq_false]
    intro p hp
    have := adj6 srt p hp
    have n : ¬ [p.2] < [p.1] := by
      rw [List.cons_lt_cons_iff]
      simp
      omega
    simp [n]
  rw [fG] at aG
  have itz : iterD .seq [.str "abz"] = some (abz.map fun c => .str (sg c)) := by
    show (if (3 : Nat) ≤ sizeLine then some ((("abz" : Str)).cps.toList.map fun c => (PyData.str ⟨#[c]⟩)) else none) = _
    rw [if_pos s3]
    rfl
  have cC : ev T_law_k06 (.comp (.cmp .Eq (.meth .count (.v 7) [.v 14]) (.meth .count (.v 4) [.v 14])) [14] [14] true .seq [.str "abz"] []) (E06 ns A B C o3 (some (.fz (pl6 (sortN A)))) none none none none none none) = pure (.ow (.list (abz.map fun c => .bool true))) := by
    unfold E06
    refine comp_over (ds := [.str "abz"]) abz (fun c => .str (sg c)) _ (by simp) itz fun c hc => ?_
    have q1 := count6 (sortN A) c
    have q2 := count6 A c
    rw [cnt_perm pm] at q1
    rw [b1t]
    generalize pl6 (sortN A) = ps at *
    generalize pl6 A = pa at *
    generalize PyProof.Rows.cnt c A = n at *
    generalize PyData.str (sg c) = qc at *
    simp [wipeR, q1, q2]
  have aC := all_bools (fun _ : Nat => true) abz
  have fC : (abz.all fun _ => true) = true := rfl
  rw [fC] at aC
  have l1 := len6 (A := A) (by omega)
  have l2 : bltD .len [pl6 A.reverse] = some (.fz (natD A.length)) := by
    have := len6 (A := A.reverse) (by rw [List.length_reverse]; omega)
    rw [List.length_reverse] at this
    exact this
  have cT : ev T_law_k06 (.comp (.cmp .NotEq (.ix (.v 4) (.v 17)) (.ix (.v 9) (.bin .Sub (.bin .Sub (.v 10) (.int 1)) (.v 17)))) [17] [17] true .range [.v 10] []) (E06 ns A B C o3 (some (.fz (pl6 (sortN A)))) (some (.fz (.list (abz.map fun c => .bool true)))) (some (.fz (pl6 A.reverse))) (some (.fz (natD A.length))) none none none) = pure (.ow (.list ((List.range A.length).map fun i => .bool false))) := by
    unfold E06
    refine comp_over (ds := [natD A.length]) (List.range A.length) natD _ (by simp) (range_nat _ (by omega)) fun i hi => ?_
    have hi := List.mem_range.mp hi
    have x1 := ix6 (by omega) hi
    have hj : A.length - 1 - i < A.reverse.length := by rw [List.length_reverse]; omega
    have x2 := ix6 (by rw [List.length_reverse]; omega) hj
    have er : A.reverse[A.length - 1 - i] = A[i] := by
      rw [List.getElem_reverse]
      congr 1
      omega
    rw [er] at x2
    have sb1 : binD .Sub (natD A.length) (.int 1) = some (.fz (natD (A.length - 1))) := by
      show some (Sl.fz (.int ((A.length : Int) - 1))) = _
      refine congrArg (fun z => some (Sl.fz (PyData.int z))) ?_
      omega
    have sb2 : binD .Sub (natD (A.length - 1)) (natD i) = some (.fz (natD (A.length - 1 - i))) := by
      show some (Sl.fz (.int (((A.length - 1 : Nat) : Int) - (i : Int)))) = _
      refine congrArg (fun z => some (Sl.fz (PyData.int z))) ?_
      omega
    have pa : Pl (ofL [A[i]]) := (T06.sub hA (B := [A[i]]) (fun c hc => by rw [List.mem_singleton.mp hc]; exact List.getElem_mem _) (by simp; omega)).pl
    have ne : cmpD .NotEq (.str (sg A[i])) (.str (sg A[i])) = some false := by
      have := ne6 pa pa
      rw [decide_eq_true rfl] at this
      exact this
    rw [b1t]
    generalize pl6 (sortN A) = ps at *
    generalize pl6 A.reverse = pr at *
    generalize pl6 A = pa at *
    generalize natD (A.length - 1 - i) = n3 at *
    generalize natD (A.length - 1) = n2 at *
    generalize natD A.length = n1 at *
    generalize natD i = ni at *
    generalize PyData.str (sg A[i]) = qc at *
    simp [wipeR, x1, x2, sb1, sb2, ne]
  have aT := any_bools (fun _ : Nat => false) (List.range A.length)
  have fT : ((List.range A.length).any fun _ => false) = false := by simp
  rw [fT] at aT
  have nn := ne_nat A.length A.length
  rw [decide_eq_true rfl] at nn
  have tA : T06 (A.take 1) := hA.sub (fun c hc => List.mem_of_mem_take hc) (by rw [List.length_take]; omega)
  have dA : T06 (A.drop 1) := hA.sub (fun c hc => List.mem_of_mem_drop hc) (by rw [List.length_drop]; omega)
  have ad := add6 (A := A.take 1) (B := A.drop 1) (by have := tA.l; have := dA.l; omega)
  rw [List.take_append_drop] at ad
  have nA : cmpD .NotEq (pl6 A) (pl6 A) = some false := by rw [ne6 hA.pl hA.pl]; simp
  have l3 := len6 (A := A.take 1) (by have := tA.l; omega)
  have mn : bltD .min [.int 1, natD A.length] = some (.fz (natD (A.take 1).length)) := by
    show some (Sl.fz (.int (if (A.length : Int) < 1 then (A.length : Int) else 1))) = _
    refine congrArg (fun z => some (Sl.fz (PyData.int z))) ?_
    rw [List.length_take]
    split <;> omega
  have n3 := ne_nat (A.take 1).length (A.take 1).length
  rw [decide_eq_true rfl] at n3
  have ab := add6 (A := A) (B := B) (by omega)
  have pAB : Pl (ofL (A ++ B)) := pl6_pl (fun c hc => (List.mem_append.mp hc).elim (hA.m c) (hB.m c)) (by rw [List.length_append]; omega)
  have nAB : cmpD .NotEq (pl6 (A ++ B)) (pl6 (A ++ B)) = some false := by rw [ne6 pAB pAB]; simp
  have cL : ∀ o8 o9 o10 o11 o12, ev T_law_k06 (.comp (.cmp .NotEq (.meth .count (.v 13) [.v 14]) (.ife (.cmp .In (.v 14) (.v 5)) (.int 0) (.meth .count (.v 4) [.v 14]))) [14] [14] true .seq [.str "abz"] []) (E06 ns A B C o3 (some (.fz (pl6 (sortN A)))) o8 o9 o10 o11 o12 (some (.fz (pl6 (A.filter fun c => !decide (c ∈ B)))))) = pure (.ow (.list (abz.map fun c => .bool false))) := by
    intro o8 o9 o10 o11 o12
    unfold E06
    refine comp_over (ds := [.str "abz"]) abz (fun c => .str (sg c)) _ (by simp) itz fun c hc => ?_
    have q1 := count6 (A.filter fun c => !decide (c ∈ B)) c
    rw [cnt_filter] at q1
    have q2 := count6 A c
    have q3 := in6 c B
    rw [b1t]
    generalize pl6 (A.filter fun c => !decide (c ∈ B)) = pf at *
    generalize pl6 (sortN A) = ps at *
    generalize pl6 A = pa at *
    generalize pl6 B = pb at *
    generalize PyProof.Rows.cnt c A = n at *
    generalize PyData.str (sg c) = qc at *
    by_cases hm : c ∈ B
    · rw [decide_eq_true hm] at q1 q3
      simp at q1
      simp [wipeR, q1, q3]
    · rw [decide_eq_false hm] at q1 q3
      simp at q1
      simp [wipeR, q1, q2, q3]
  have aL := any_bools (fun _ : Nat => false) abz
  have fL : (abz.any fun _ => false) = false := rfl
  rw [fL] at aL
  have rp : methD .replace (pl6 A) [.str "b", .str ""] = some (.fz (pl6 (A.filter fun c => !decide (c ∈ [98])))) := by
    show (if (ofL A).length + ((ofL A).length + 1) * 0 ≤ 16777216 then some (Sl.fz (.str (Txt.replace (ofL A) "b" ""))) else none) = _
    rw [if_pos (by rw [len_ofL]; omega), rep6]
    rfl
  have pF : Pl (ofL (A.filter fun c => !decide (c ∈ [98]))) := pl6_pl (fun c hc => hA.m c (List.mem_filter.mp hc).1) (by have := List.length_filter_le (fun c => !decide (c ∈ [98])) A; omega)
  have nF : cmpD .NotEq (pl6 (A.filter fun c => !decide (c ∈ [98]))) (pl6 (A.filter fun c => !decide (c ∈ [98]))) = some false := by rw [ne6 pF pF]; simp
  have eAB := eq6 hA.pl hB.pl
  have py : Pl (ofL [121]) := ⟨fun c hc => by
    have hc : c ∈ [121] := hc
    rw [List.mem_singleton.mp hc]; decide, by decide⟩
  have n121 : cmpD .NotEq (pl6 [121]) (pl6 [121]) = some false := by rw [ne6 py py]; simp
  have n000 : cmpD .NotEq (pl6 []) (pl6 []) = some false := by rw [ne6 b0.pl b0.pl]; simp
  have eB : cmpD .Eq (pl6 B) (pl6 B) = some true := by rw [eq6 hB.pl hB.pl]; simp
  have eC : cmpD .Eq (pl6 C) (pl6 C) = some true := by rw [eq6 hC.pl hC.pl]; simp
  have e0 : cmpD .Eq (natD A.length) (.int 0) = some (decide (A = [])) := by
    have := eq_nat A.length 0
    rw [show decide (A.length = 0) = decide (A = []) from decide_eq_decide.mpr List.length_eq_zero_iff] at this
    exact this
  have bt : ∀ (a b c : D) (ρ : Rho), bindT false [4, 5, 6] (.list [a, b, c]) ρ = some (((ρ.set 4 (some (.fz a))).set 5 (some (.fz b))).set 6 (some (.fz c))) := fun _ _ _ _ => rfl
  rw [← e121, ← e00] at k9
  rw [← e121] at k10 n121
  rw [← e00] at n000
  have hmap : [A, B, C].map pl6 = [pl6 A, pl6 B, pl6 C] := rfl
  rw [hmap]
  unfold t06 A06
  unfold E06 at cG cC cT cL
  generalize ((sortN A).zip ((sortN A).drop 1)).map (fun p => PyData.bool (decide ([p.2] < [p.1]))) = zG at *
  generalize (abz.map fun _ => PyData.bool true) = zC at *
  generalize (abz.map fun _ => PyData.bool false) = zL at *
  generalize ((List.range A.length).map fun _ => PyData.bool false) = zT at *
  generalize pl6 (sortN A) = pS at *
  generalize pl6 A.reverse = pR at *
  generalize pl6 (A.take 1) = pT at *
  generalize pl6 (A.drop 1) = pD at *
  generalize pl6 (A ++ B) = pAB at *
  generalize pl6 (A.filter fun c => !decide (c ∈ [98])) = pF at *
  generalize pl6 (A.filter fun c => !decide (c ∈ B)) = pG at *
  generalize pl6 A = pA at *
  generalize pl6 B = pB at *
  generalize pl6 C = pC at *
  generalize natD A.length = nA' at *
  generalize natD (A.take 1).length = nT at *
  simp [frzR, bt, T_law_k06__law_one, k1, s1]
  rw [cG]
  simp [aG]
  rw [cC]
  simp [frzR, aC, T_law_k06__law_one, k2, s1, l1, l2, nn]
  rw [cT]
  simp [aT, ex_par2, T_law_k06__law_one, k3, k4, s1, s2, ad, nA, l1, l3, mn, n3, k5, ab, nAB, k6]
  rw [cL]
  by_cases hAB : A = B
  · rw [decide_eq_true hAB] at eAB
    rw [if_pos hAB] at k9
    by_cases hA0 : A = []
    · rw [decide_eq_true hA0] at e0
      rw [if_pos hA0] at k11
      simp [aL, T_law_k06__law_one, s2, s3, k7, rp, nF, k8, nA, k9, eAB, n121, k10, k11, l1, e0, eC]
    · rw [decide_eq_false hA0] at e0
      rw [if_neg hA0] at k11
      simp [aL, T_law_k06__law_one, s2, s3, k7, rp, nF, k8, nA, k9, eAB, n121, k10, k11, l1, e0, eB]
  · rw [decide_eq_false hAB] at eAB
    rw [if_neg hAB] at k9
    by_cases hA0 : A = []
    · rw [decide_eq_true hA0] at e0
      rw [if_pos hA0] at k11
      simp [aL, T_law_k06__law_one, s2, s3, k7, rp, nF, k8, nA, k9, eAB, n000, n121, k10, k11, l1, e0, eC]
    · rw [decide_eq_false hA0] at e0
      rw [if_neg hA0] at k11
      simp [aL, T_law_k06__law_one, s2, s3, k7, rp, nF, k8, nA, k9, eAB, n000, n121, k10, k11, l1, e0, eB]
theorem run_law_k06 (ns : List Int) (hn : ns.length ≤ 63) : ∃ c, runD T_law_k06 d_law_k06 [.fz (.list (ns.map .int))] none = some (.fz (.bool true), c) := by
  rw [runD_eq rfl rfl, body06]
  have eN : d_law_k06.N.length - d_law_k06.np = 18 := rfl
  rw [eN]
  generalize hT : t06 = T
  generalize hB : b06 = B
  simp only [List.cons_append, List.nil_append, exs_cons, ex_init, bind_assoc]
  refine law_of ?_
  have s0 : (0 : Nat) ≤ sizeLine := s1000 (by decide)
  have r3 : iterD .range [.int 3] = some ((List.range 3).map natD) := range_nat 3 (by decide)
  simp [s0, r3, List.replicate]
  refine Wp.bind (Wp.loop (fun j ρ c => ∃ rs o3, rs.length = j ∧ (∀ p ∈ rs, T06 p) ∧ ρ = A06 ns (.ow (.list (rs.map pl6))) o3 ∧ c ≤ 6 * j) _ 0 _ _ ⟨[], none, rfl, (fun _ h => nomatch h), rfl, by omega⟩ ?_ ?_)
  · rintro j d ρ c hj hd ⟨rs, o3, rfl, hcs, rfl, hc⟩
    have hjl := (List.getElem?_eq_some_iff.mp hd).1
    simp at hjl
    have b3 : bindT true [3] d (A06 ns (.ow (.list (rs.map pl6))) o3) = some (A06 ns (.ow (.list (rs.map pl6))) (some (.fz d))) := rfl
    rw [b3, ofO_some, pure_bind, ← hB]
    refine turn06 ns hn (by omega) rs (by omega) (some (.fz d)) fun cs n' hp hn' => ⟨_, rfl, rs ++ [cs], _, by simp, fun p' hp' => ?_, rfl, by omega⟩
    rcases List.mem_append.mp hp' with h | h
    · exact hcs p' h
    · rw [List.mem_singleton.mp h]; exact hp
  · rintro ρ c ⟨rs, o3, hl, hcs, rfl, hc⟩
    simp at hl
    match rs, hl, hcs with
    | [A, B', C], _, hcs =>
      simp only [nextS_nx]
      rw [← hT, tail06 ns A B' C (hcs _ (by simp)) (hcs _ (by simp)) (hcs _ (by simp)) o3]
      exact Wp.pure rfl
end SB
namespace SB
open PySem PySem.Spec PyProof.Rows L2
def top_k06 (i : Nat) : Stmt := PySem.Challenge.pw_samebuilds_k06_whole_operations.main.body.getD i (.Pass ⟨0, 0, 0, 0⟩)
theorem sc_k06__law_cell_at : FnScope d__law_cell_at.N ["script", "k"] (defScope (top_k06 32)) := ⟨rfl, rfl, rfl, by decide +kernel, rfl, by decide +kernel, by decide +kernel⟩
theorem ck_k06__law_cell_at : mSs d__law_cell_at.N (defScope (top_k06 32)).names d__law_cell_at.body (defBody (top_k06 32)) = true := by decide +kernel
theorem sc_k06__law_mixed : FnScope d__law_mixed.N ["script", "k", "many"] (defScope (top_k06 33)) := ⟨rfl, rfl, rfl, by decide +kernel, rfl, by decide +kernel, by decide +kernel⟩
theorem ck_k06__law_mixed : mSs d__law_mixed.N (defScope (top_k06 33)).names d__law_mixed.body (defBody (top_k06 33)) = true := by decide +kernel
theorem sc_k06__law_draw : FnScope d__law_draw.N ["script", "state", "many"] (defScope (top_k06 34)) := ⟨rfl, rfl, rfl, by decide +kernel, rfl, by decide +kernel, by decide +kernel⟩
theorem ck_k06__law_draw : mSs d__law_draw.N (defScope (top_k06 34)).names d__law_draw.body (defBody (top_k06 34)) = true := by decide +kernel
theorem sc_k06__law_pick : FnScope d__law_pick.N ["script", "state", "some"] (defScope (top_k06 35)) := ⟨rfl, rfl, rfl, by decide +kernel, rfl, by decide +kernel, by decide +kernel⟩
theorem ck_k06__law_pick : mSs d__law_pick.N (defScope (top_k06 35)).names d__law_pick.body (defBody (top_k06 35)) = true := by decide +kernel
theorem sc_k06_is_text : FnScope d_is_text.N ["value", "most"] (defScope (top_k06 10)) := ⟨rfl, rfl, rfl, by decide +kernel, rfl, by decide +kernel, by decide +kernel⟩
theorem ck_k06_is_text : mSs d_is_text.N (defScope (top_k06 10)).names d_is_text.body (defBody (top_k06 10)) = true := by decide +kernel
theorem sc_k06_rises : FnScope d_rises.N ["some"] (defScope (top_k06 11)) := ⟨rfl, rfl, rfl, by decide +kernel, rfl, by decide +kernel, by decide +kernel⟩
theorem ck_k06_rises : mSs d_rises.N (defScope (top_k06 11)).names d_rises.body (defBody (top_k06 11)) = true := by decide +kernel
theorem sc_k06_is_thing : FnScope d_is_thing.N ["value"] (defScope (top_k06 12)) := ⟨rfl, rfl, rfl, by decide +kernel, rfl, by decide +kernel, by decide +kernel⟩
theorem ck_k06_is_thing : mSs d_is_thing.N (defScope (top_k06 12)).names d_is_thing.body (defBody (top_k06 12)) = true := by decide +kernel
theorem sc_k06_are_things : FnScope d_are_things.N ["value"] (defScope (top_k06 13)) := ⟨rfl, rfl, rfl, by decide +kernel, rfl, by decide +kernel, by decide +kernel⟩
theorem ck_k06_are_things : mSs d_are_things.N (defScope (top_k06 13)).names d_are_things.body (defBody (top_k06 13)) = true := by decide +kernel
theorem sc_k06_is_integer : FnScope d_is_integer.N ["value", "low", "high"] (defScope (top_k06 9)) := ⟨rfl, rfl, rfl, by decide +kernel, rfl, by decide +kernel, by decide +kernel⟩
theorem ck_k06_is_integer : mSs d_is_integer.N (defScope (top_k06 9)).names d_is_integer.body (defBody (top_k06 9)) = true := by decide +kernel
theorem sc_k06_is_reading : FnScope d_is_reading.N ["things", "steps", "value"] (defScope (top_k06 14)) := ⟨rfl, rfl, rfl, by decide +kernel, rfl, by decide +kernel, by decide +kernel⟩
theorem ck_k06_is_reading : mSs d_is_reading.N (defScope (top_k06 14)).names d_is_reading.body (defBody (top_k06 14)) = true := by decide +kernel
theorem sc_k06_is_step : FnScope d_is_step.N ["things", "steps", "value"] (defScope (top_k06 15)) := ⟨rfl, rfl, rfl, by decide +kernel, rfl, by decide +kernel, by decide +kernel⟩
theorem ck_k06_is_step : mSs d_is_step.N (defScope (top_k06 15)).names d_is_step.body (defBody (top_k06 15)) = true := by decide +kernel
theorem sc_k06_are_numbers : FnScope d_are_numbers.N ["value", "low", "high"] (defScope (top_k06 16)) := ⟨rfl, rfl, rfl, by decide +kernel, rfl, by decide +kernel, by decide +kernel⟩
theorem ck_k06_are_numbers : mSs d_are_numbers.N (defScope (top_k06 16)).names d_are_numbers.body (defBody (top_k06 16)) = true := by decide +kernel
theorem sc_k06_stands : FnScope d_stands.N ["value"] (defScope (top_k06 17)) := ⟨rfl, rfl, rfl, by decide +kernel, rfl, by decide +kernel, by decide +kernel⟩
theorem ck_k06_stands : mSs d_stands.N (defScope (top_k06 17)).names d_stands.body (defBody (top_k06 17)) = true := by decide +kernel
theorem sc_k06_need_recipe : FnScope d_need_recipe.N ["recipe"] (defScope (top_k06 18)) := ⟨rfl, rfl, rfl, by decide +kernel, rfl, by decide +kernel, by decide +kernel⟩
theorem ck_k06_need_recipe : mSs d_need_recipe.N (defScope (top_k06 18)).names d_need_recipe.body (defBody (top_k06 18)) = true := by decide +kernel
theorem sc_k06_is_act : FnScope d_is_act.N ["recipe", "value"] (defScope (top_k06 21)) := ⟨rfl, rfl, rfl, by decide +kernel, rfl, by decide +kernel, by decide +kernel⟩
theorem ck_k06_is_act : mSs d_is_act.N (defScope (top_k06 21)).names d_is_act.body (defBody (top_k06 21)) = true := by decide +kernel
theorem sc_k06_acts_stand : FnScope d_acts_stand.N ["recipe", "value"] (defScope (top_k06 22)) := ⟨rfl, rfl, rfl, by decide +kernel, rfl, by decide +kernel, by decide +kernel⟩
theorem ck_k06_acts_stand : mSs d_acts_stand.N (defScope (top_k06 22)).names d_acts_stand.body (defBody (top_k06 22)) = true := by decide +kernel
theorem sc_k06_need_acts : FnScope d_need_acts.N ["recipe", "acts"] (defScope (top_k06 23)) := ⟨rfl, rfl, rfl, by decide +kernel, rfl, by decide +kernel, by decide +kernel⟩
theorem ck_k06_need_acts : mSs d_need_acts.N (defScope (top_k06 23)).names d_need_acts.body (defBody (top_k06 23)) = true := by decide +kernel
theorem sc_k06_is_world : FnScope d_is_world.N ["recipe", "value"] (defScope (top_k06 19)) := ⟨rfl, rfl, rfl, by decide +kernel, rfl, by decide +kernel, by decide +kernel⟩
theorem ck_k06_is_world : mSs d_is_world.N (defScope (top_k06 19)).names d_is_world.body (defBody (top_k06 19)) = true := by decide +kernel
theorem sc_k06_need_world : FnScope d_need_world.N ["recipe", "world"] (defScope (top_k06 20)) := ⟨rfl, rfl, rfl, by decide +kernel, rfl, by decide +kernel, by decide +kernel⟩
theorem ck_k06_need_world : mSs d_need_world.N (defScope (top_k06 20)).names d_need_world.body (defBody (top_k06 20)) = true := by decide +kernel
theorem sc_k06_is_left : FnScope d_is_left.N ["acts", "world"] (defScope (top_k06 28)) := ⟨rfl, rfl, rfl, by decide +kernel, rfl, by decide +kernel, by decide +kernel⟩
theorem ck_k06_is_left : mSs d_is_left.N (defScope (top_k06 28)).names d_is_left.body (defBody (top_k06 28)) = true := by decide +kernel
theorem sc_k06_need_left : FnScope d_need_left.N ["recipe", "acts", "world"] (defScope (top_k06 29)) := ⟨rfl, rfl, rfl, by decide +kernel, rfl, by decide +kernel, by decide +kernel⟩
theorem ck_k06_need_left : mSs d_need_left.N (defScope (top_k06 29)).names d_need_left.body (defBody (top_k06 29)) = true := by decide +kernel
theorem sc_k06_made_of : FnScope d_made_of.N ["operation", "some"] (defScope (top_k06 25)) := ⟨rfl, rfl, rfl, by decide +kernel, rfl, by decide +kernel, by decide +kernel⟩
theorem ck_k06_made_of : mSs d_made_of.N (defScope (top_k06 25)).names d_made_of.body (defBody (top_k06 25)) = true := by decide +kernel
theorem sc_k06_read_by : FnScope d_read_by.N ["recipe", "acts", "world", "number", "made"] (defScope (top_k06 26)) := ⟨rfl, rfl, rfl, by decide +kernel, rfl, by decide +kernel, by decide +kernel⟩
theorem ck_k06_read_by : mSs d_read_by.N (defScope (top_k06 26)).names d_read_by.body (defBody (top_k06 26)) = true := by decide +kernel
theorem sc_k06_all_texts : FnScope d_all_texts.N ["recipe", "acts", "world"] (defScope (top_k06 27)) := ⟨rfl, rfl, rfl, by decide +kernel, rfl, by decide +kernel, by decide +kernel⟩
theorem ck_k06_all_texts : mSs d_all_texts.N (defScope (top_k06 27)).names d_all_texts.body (defBody (top_k06 27)) = true := by decide +kernel
theorem sc_k06_texts_in : FnScope d_texts_in.N ["recipe", "acts", "world"] (defScope (top_k06 30)) := ⟨rfl, rfl, rfl, by decide +kernel, rfl, by decide +kernel, by decide +kernel⟩
theorem ck_k06_texts_in : mSs d_texts_in.N (defScope (top_k06 30)).names d_texts_in.body (defBody (top_k06 30)) = true := by decide +kernel
theorem sc_k06__law_one : FnScope d__law_one.N ["name", "texts"] (defScope (top_k06 37)) := ⟨rfl, rfl, rfl, by decide +kernel, rfl, by decide +kernel, by decide +kernel⟩
theorem ck_k06__law_one : mSs d__law_one.N (defScope (top_k06 37)).names d__law_one.body (defBody (top_k06 37)) = true := by decide +kernel
theorem sc_k06__law_pairs : FnScope d__law_pairs.N ["row"] (defScope (top_k06 36)) := ⟨rfl, rfl, rfl, by decide +kernel, rfl, by decide +kernel, by decide +kernel⟩
theorem ck_k06__law_pairs : mSs d__law_pairs.N (defScope (top_k06 36)).names d__law_pairs.body (defBody (top_k06 36)) = true := by decide +kernel
theorem sc_k06_law : FnScope d_law_k06.N ["script"] (defScope (top_k06 38)) := ⟨rfl, rfl, rfl, by decide +kernel, rfl, by decide +kernel, by decide +kernel⟩
theorem ck_k06_law : mSs d_law_k06.N (defScope (top_k06 38)).names d_law_k06.body (defBody (top_k06 38)) = true := by decide +kernel
theorem at_k06__law_cell_at {l : PySem.W.OpenLaw} {w : World} {K : PySem.W.Frag} {h base : Heap} {mg : Str → Option Value} (X : K.In h) (G : h.Ns mainGlobals mg) (T0 : ∀ k, TabF l.prog w K mg base k (tabOf [])) (hd : DefAt K "_law_cell_at" (top_k06 32))  : At l.prog w K mg base 1 "_law_cell_at" S__law_cell_at := by
  obtain ⟨f, _, kV, dc, pm, cd, ct, _, an, _, a, l, c, k⟩ := hd
  have F := fun_mk (st := top_k06 32) l c k
  have b := F.binds (ps := ["script", "k"]) fun _ _ _ _ _ _ us hl => match us, hl with | [_, _], _ => rfl
  exact at_def (d := d__law_cell_at) (T0 0) (PySem.W.mg_of X G a) F b sc_k06__law_cell_at rfl ck_k06__law_cell_at
theorem at_k06__law_mixed {l : PySem.W.OpenLaw} {w : World} {K : PySem.W.Frag} {h base : Heap} {mg : Str → Option Value} (X : K.In h) (G : h.Ns mainGlobals mg) (T0 : ∀ k, TabF l.prog w K mg base k (tabOf [])) (hd : DefAt K "_law_mixed" (top_k06 33)) (A0 : At l.prog w K mg base 1 "_law_cell_at" S__law_cell_at) : At l.prog w K mg base 2 "_law_mixed" S__law_mixed := by
  obtain ⟨f, _, kV, dc, pm, cd, ct, _, an, _, a, l, c, k⟩ := hd
  have F := fun_mk (st := top_k06 33) l c k
  have b := F.binds (ps := ["script", "k", "many"]) fun _ _ _ _ _ _ us hl => match us, hl with | [_, _, _], _ => rfl
  exact at_def (d := d__law_mixed) (tab_cons (At.mono (k := 1) A0 (by decide)) (T0 1)) (PySem.W.mg_of X G a) F b sc_k06__law_mixed rfl ck_k06__law_mixed
theorem at_k06__law_draw {l : PySem.W.OpenLaw} {w : World} {K : PySem.W.Frag} {h base : Heap} {mg : Str → Option Value} (X : K.In h) (G : h.Ns mainGlobals mg) (T0 : ∀ k, TabF l.prog w K mg base k (tabOf [])) (hd : DefAt K "_law_draw" (top_k06 34)) (A1 : At l.prog w K mg base 2 "_law_mixed" S__law_mixed) : At l.prog w K mg base 3 "_law_draw" S__law_draw := by
  obtain ⟨f, _, kV, dc, pm, cd, ct, _, an, _, a, l, c, k⟩ := hd
  have F := fun_mk (st := top_k06 34) l c k
  have b := F.binds (ps := ["script", "state", "many"]) fun _ _ _ _ _ _ us hl => match us, hl with | [_, _, _], _ => rfl
  exact at_def (d := d__law_draw) (tab_cons (At.mono (k := 2) A1 (by decide)) (T0 2)) (PySem.W.mg_of X G a) F b sc_k06__law_draw rfl ck_k06__law_draw
theorem at_k06__law_pick {l : PySem.W.OpenLaw} {w : World} {K : PySem.W.Frag} {h base : Heap} {mg : Str → Option Value} (X : K.In h) (G : h.Ns mainGlobals mg) (T0 : ∀ k, TabF l.prog w K mg base k (tabOf [])) (hd : DefAt K "_law_pick" (top_k06 35)) (A2 : At l.prog w K mg base 3 "_law_draw" S__law_draw) : At l.prog w K mg base 4 "_law_pick" S__law_pick := by
  obtain ⟨f, _, kV, dc, pm, cd, ct, _, an, _, a, l, c, k⟩ := hd
  have F := fun_mk (st := top_k06 35) l c k
  have b := F.binds (ps := ["script", "state", "some"]) fun _ _ _ _ _ _ us hl => match us, hl with | [_, _, _], _ => rfl
  exact at_def (d := d__law_pick) (tab_cons (At.mono (k := 3) A2 (by decide)) (T0 3)) (PySem.W.mg_of X G a) F b sc_k06__law_pick rfl ck_k06__law_pick
theorem at_k06_is_text {l : PySem.W.OpenLaw} {w : World} {K : PySem.W.Frag} {h base : Heap} {mg : Str → Option Value} (X : K.In h) (G : h.Ns mainGlobals mg) (T0 : ∀ k, TabF l.prog w K mg base k (tabOf [])) (hd : DefAt K "is_text" (top_k06 10))  : At l.prog w K mg base 5 "is_text" S_is_text := by
  obtain ⟨f, _, kV, dc, pm, cd, ct, _, an, _, a, l, c, k⟩ := hd
  have F := fun_mk (st := top_k06 10) l c k
  have b := F.binds (ps := ["value", "most"]) fun _ _ _ _ _ _ us hl => match us, hl with | [_, _], _ => rfl
  exact at_def (d := d_is_text) (T0 4) (PySem.W.mg_of X G a) F b sc_k06_is_text rfl ck_k06_is_text
theorem at_k06_rises {l : PySem.W.OpenLaw} {w : World} {K : PySem.W.Frag} {h base : Heap} {mg : Str → Option Value} (X : K.In h) (G : h.Ns mainGlobals mg) (T0 : ∀ k, TabF l.prog w K mg base k (tabOf [])) (hd : DefAt K "rises" (top_k06 11))  : At l.prog w K mg base 6 "rises" S_rises := by
  obtain ⟨f, _, kV, dc, pm, cd, ct, _, an, _, a, l, c, k⟩ := hd
  have F := fun_mk (st := top_k06 11) l c k
  have b := F.binds (ps := ["some"]) fun _ _ _ _ _ _ us hl => match us, hl with | [_], _ => rfl
  exact at_def (d := d_rises) (T0 5) (PySem.W.mg_of X G a) F b sc_k06_rises rfl ck_k06_rises
theorem at_k06_is_thing {l : PySem.W.OpenLaw} {w : World} {K : PySem.W.Frag} {h base : Heap} {mg : Str → Option Value} (X : K.In h) (G : h.Ns mainGlobals mg) (T0 : ∀ k, TabF l.prog w K mg base k (tabOf [])) (hd : DefAt K "is_thing" (top_k06 12)) (A4 : At l.prog w K mg base 5 "is_text" S_is_text) (A5 : At l.prog w K mg base 6 "rises" S_rises) : At l.prog w K mg base 7 "is_thing" S_is_thing := by
  obtain ⟨f, _, kV, dc, pm, cd, ct, _, an, _, a, l, c, k⟩ := hd
  have F := fun_mk (st := top_k06 12) l c k
  have b := F.binds (ps := ["value"]) fun _ _ _ _ _ _ us hl => match us, hl with | [_], _ => rfl
  exact at_def (d := d_is_thing) (tab_cons (At.mono (k := 6) A4 (by decide)) (tab_cons (At.mono (k := 6) A5 (by decide)) (T0 6))) (PySem.W.mg_of X G a) F b sc_k06_is_thing rfl ck_k06_is_thing
theorem at_k06_are_things {l : PySem.W.OpenLaw} {w : World} {K : PySem.W.Frag} {h base : Heap} {mg : Str → Option Value} (X : K.In h) (G : h.Ns mainGlobals mg) (T0 : ∀ k, TabF l.prog w K mg base k (tabOf [])) (hd : DefAt K "are_things" (top_k06 13)) (A6 : At l.prog w K mg base 7 "is_thing" S_is_thing) : At l.prog w K mg base 8 "are_things" S_are_things := by
  obtain ⟨f, _, kV, dc, pm, cd, ct, _, an, _, a, l, c, k⟩ := hd
  have F := fun_mk (st := top_k06 13) l c k
  have b := F.binds (ps := ["value"]) fun _ _ _ _ _ _ us hl => match us, hl with | [_], _ => rfl
  exact at_def (d := d_are_things) (tab_cons (At.mono (k := 7) A6 (by decide)) (T0 7)) (PySem.W.mg_of X G a) F b sc_k06_are_things rfl ck_k06_are_things
theorem at_k06_is_integer {l : PySem.W.OpenLaw} {w : World} {K : PySem.W.Frag} {h base : Heap} {mg : Str → Option Value} (X : K.In h) (G : h.Ns mainGlobals mg) (T0 : ∀ k, TabF l.prog w K mg base k (tabOf [])) (hd : DefAt K "is_integer" (top_k06 9))  : At l.prog w K mg base 9 "is_integer" S_is_integer := by
  obtain ⟨f, _, kV, dc, pm, cd, ct, _, an, _, a, l, c, k⟩ := hd
  have F := fun_mk (st := top_k06 9) l c k
  have b := F.binds (ps := ["value", "low", "high"]) fun _ _ _ _ _ _ us hl => match us, hl with | [_, _, _], _ => rfl
  exact at_def (d := d_is_integer) (T0 8) (PySem.W.mg_of X G a) F b sc_k06_is_integer rfl ck_k06_is_integer
theorem at_k06_is_reading {l : PySem.W.OpenLaw} {w : World} {K : PySem.W.Frag} {h base : Heap} {mg : Str → Option Value} (X : K.In h) (G : h.Ns mainGlobals mg) (T0 : ∀ k, TabF l.prog w K mg base k (tabOf [])) (hd : DefAt K "is_reading" (top_k06 14)) (A8 : At l.prog w K mg base 9 "is_integer" S_is_integer) : At l.prog w K mg base 10 "is_reading" S_is_reading := by
  obtain ⟨f, _, kV, dc, pm, cd, ct, _, an, _, a, l, c, k⟩ := hd
  have F := fun_mk (st := top_k06 14) l c k
  have b := F.binds (ps := ["things", "steps", "value"]) fun _ _ _ _ _ _ us hl => match us, hl with | [_, _, _], _ => rfl
  exact at_def (d := d_is_reading) (tab_cons (At.mono (k := 9) A8 (by decide)) (T0 9)) (PySem.W.mg_of X G a) F b sc_k06_is_reading rfl ck_k06_is_reading
theorem at_k06_is_step {l : PySem.W.OpenLaw} {w : World} {K : PySem.W.Frag} {h base : Heap} {mg : Str → Option Value} (X : K.In h) (G : h.Ns mainGlobals mg) (T0 : ∀ k, TabF l.prog w K mg base k (tabOf [])) (hd : DefAt K "is_step" (top_k06 15)) (A9 : At l.prog w K mg base 10 "is_reading" S_is_reading) : At l.prog w K mg base 11 "is_step" S_is_step := by
  obtain ⟨f, _, kV, dc, pm, cd, ct, _, an, _, a, l, c, k⟩ := hd
  have F := fun_mk (st := top_k06 15) l c k
  have b := F.binds (ps := ["things", "steps", "value"]) fun _ _ _ _ _ _ us hl => match us, hl with | [_, _, _], _ => rfl
  exact at_def (d := d_is_step) (tab_cons (At.mono (k := 10) A9 (by decide)) (T0 10)) (PySem.W.mg_of X G a) F b sc_k06_is_step rfl ck_k06_is_step
theorem at_k06_are_numbers {l : PySem.W.OpenLaw} {w : World} {K : PySem.W.Frag} {h base : Heap} {mg : Str → Option Value} (X : K.In h) (G : h.Ns mainGlobals mg) (T0 : ∀ k, TabF l.prog w K mg base k (tabOf [])) (hd : DefAt K "are_numbers" (top_k06 16)) (A8 : At l.prog w K mg base 9 "is_integer" S_is_integer) (A5 : At l.prog w K mg base 6 "rises" S_rises) : At l.prog w K mg base 12 "are_numbers" S_are_numbers := by
  obtain ⟨f, _, kV, dc, pm, cd, ct, _, an, _, a, l, c, k⟩ := hd
  have F := fun_mk (st := top_k06 16) l c k
  have b := F.binds (ps := ["value", "low", "high"]) fun _ _ _ _ _ _ us hl => match us, hl with | [_, _, _], _ => rfl
  exact at_def (d := d_are_numbers) (tab_cons (At.mono (k := 11) A8 (by decide)) (tab_cons (At.mono (k := 11) A5 (by decide)) (T0 11))) (PySem.W.mg_of X G a) F b sc_k06_are_numbers rfl ck_k06_are_numbers
theorem at_k06_stands {l : PySem.W.OpenLaw} {w : World} {K : PySem.W.Frag} {h base : Heap} {mg : Str → Option Value} (X : K.In h) (G : h.Ns mainGlobals mg) (T0 : ∀ k, TabF l.prog w K mg base k (tabOf [])) (hd : DefAt K "stands" (top_k06 17)) (A7 : At l.prog w K mg base 8 "are_things" S_are_things) (A10 : At l.prog w K mg base 11 "is_step" S_is_step) (A11 : At l.prog w K mg base 12 "are_numbers" S_are_numbers) : At l.prog w K mg base 13 "stands" S_stands := by
  obtain ⟨f, _, kV, dc, pm, cd, ct, _, an, _, a, l, c, k⟩ := hd
  have F := fun_mk (st := top_k06 17) l c k
  have b := F.binds (ps := ["value"]) fun _ _ _ _ _ _ us hl => match us, hl with | [_], _ => rfl
  exact at_def (d := d_stands) (tab_cons (At.mono (k := 12) A7 (by decide)) (tab_cons (At.mono (k := 12) A10 (by decide)) (tab_cons (At.mono (k := 12) A11 (by decide)) (T0 12)))) (PySem.W.mg_of X G a) F b sc_k06_stands rfl ck_k06_stands
theorem at_k06_need_recipe {l : PySem.W.OpenLaw} {w : World} {K : PySem.W.Frag} {h base : Heap} {mg : Str → Option Value} (X : K.In h) (G : h.Ns mainGlobals mg) (T0 : ∀ k, TabF l.prog w K mg base k (tabOf [])) (hd : DefAt K "need_recipe" (top_k06 18)) (A12 : At l.prog w K mg base 13 "stands" S_stands) : At l.prog w K mg base 14 "need_recipe" S_need_recipe := by
  obtain ⟨f, _, kV, dc, pm, cd, ct, _, an, _, a, l, c, k⟩ := hd
  have F := fun_mk (st := top_k06 18) l c k
  have b := F.binds (ps := ["recipe"]) fun _ _ _ _ _ _ us hl => match us, hl with | [_], _ => rfl
  exact at_def (d := d_need_recipe) (tab_cons (At.mono (k := 13) A12 (by decide)) (T0 13)) (PySem.W.mg_of X G a) F b sc_k06_need_recipe rfl ck_k06_need_recipe
theorem at_k06_is_act {l : PySem.W.OpenLaw} {w : World} {K : PySem.W.Frag} {h base : Heap} {mg : Str → Option Value} (X : K.In h) (G : h.Ns mainGlobals mg) (T0 : ∀ k, TabF l.prog w K mg base k (tabOf [])) (hd : DefAt K "is_act" (top_k06 21)) (A8 : At l.prog w K mg base 9 "is_integer" S_is_integer) : At l.prog w K mg base 15 "is_act" S_is_act := by
  obtain ⟨f, _, kV, dc, pm, cd, ct, _, an, _, a, l, c, k⟩ := hd
  have F := fun_mk (st := top_k06 21) l c k
  have b := F.binds (ps := ["recipe", "value"]) fun _ _ _ _ _ _ us hl => match us, hl with | [_, _], _ => rfl
  exact at_def (d := d_is_act) (tab_cons (At.mono (k := 14) A8 (by decide)) (T0 14)) (PySem.W.mg_of X G a) F b sc_k06_is_act rfl ck_k06_is_act
theorem at_k06_acts_stand {l : PySem.W.OpenLaw} {w : World} {K : PySem.W.Frag} {h base : Heap} {mg : Str → Option Value} (X : K.In h) (G : h.Ns mainGlobals mg) (T0 : ∀ k, TabF l.prog w K mg base k (tabOf [])) (hd : DefAt K "acts_stand" (top_k06 22)) (A14 : At l.prog w K mg base 15 "is_act" S_is_act) (A5 : At l.prog w K mg base 6 "rises" S_rises) : At l.prog w K mg base 16 "acts_stand" S_acts_stand := by
  obtain ⟨f, _, kV, dc, pm, cd, ct, _, an, _, a, l, c, k⟩ := hd
  have F := fun_mk (st := top_k06 22) l c k
  have b := F.binds (ps := ["recipe", "value"]) fun _ _ _ _ _ _ us hl => match us, hl with | [_, _], _ => rfl
  exact at_def (d := d_acts_stand) (tab_cons (At.mono (k := 15) A14 (by decide)) (tab_cons (At.mono (k := 15) A5 (by decide)) (T0 15))) (PySem.W.mg_of X G a) F b sc_k06_acts_stand rfl ck_k06_acts_stand
theorem at_k06_need_acts {l : PySem.W.OpenLaw} {w : World} {K : PySem.W.Frag} {h base : Heap} {mg : Str → Option Value} (X : K.In h) (G : h.Ns mainGlobals mg) (T0 : ∀ k, TabF l.prog w K mg base k (tabOf [])) (hd : DefAt K "need_acts" (top_k06 23)) (A13 : At l.prog w K mg base 14 "need_recipe" S_need_recipe) (A15 : At l.prog w K mg base 16 "acts_stand" S_acts_stand) : At l.prog w K mg base 17 "need_acts" S_need_acts := by
  obtain ⟨f, _, kV, dc, pm, cd, ct, _, an, _, a, l, c, k⟩ := hd
  have F := fun_mk (st := top_k06 23) l c k
  have b := F.binds (ps := ["recipe", "acts"]) fun _ _ _ _ _ _ us hl => match us, hl with | [_, _], _ => rfl
  exact at_def (d := d_need_acts) (tab_cons (At.mono (k := 16) A13 (by decide)) (tab_cons (At.mono (k := 16) A15 (by decide)) (T0 16))) (PySem.W.mg_of X G a) F b sc_k06_need_acts rfl ck_k06_need_acts
theorem at_k06_is_world {l : PySem.W.OpenLaw} {w : World} {K : PySem.W.Frag} {h base : Heap} {mg : Str → Option Value} (X : K.In h) (G : h.Ns mainGlobals mg) (T0 : ∀ k, TabF l.prog w K mg base k (tabOf [])) (hd : DefAt K "is_world" (top_k06 19)) (A8 : At l.prog w K mg base 9 "is_integer" S_is_integer) : At l.prog w K mg base 18 "is_world" S_is_world := by
  obtain ⟨f, _, kV, dc, pm, cd, ct, _, an, _, a, l, c, k⟩ := hd
  have F := fun_mk (st := top_k06 19) l c k
  have b := F.binds (ps := ["recipe", "value"]) fun _ _ _ _ _ _ us hl => match us, hl with | [_, _], _ => rfl
  exact at_def (d := d_is_world) (tab_cons (At.mono (k := 17) A8 (by decide)) (T0 17)) (PySem.W.mg_of X G a) F b sc_k06_is_world rfl ck_k06_is_world
theorem at_k06_need_world {l : PySem.W.OpenLaw} {w : World} {K : PySem.W.Frag} {h base : Heap} {mg : Str → Option Value} (X : K.In h) (G : h.Ns mainGlobals mg) (T0 : ∀ k, TabF l.prog w K mg base k (tabOf [])) (hd : DefAt K "need_world" (top_k06 20)) (A17 : At l.prog w K mg base 18 "is_world" S_is_world) : At l.prog w K mg base 19 "need_world" S_need_world := by
  obtain ⟨f, _, kV, dc, pm, cd, ct, _, an, _, a, l, c, k⟩ := hd
  have F := fun_mk (st := top_k06 20) l c k
  have b := F.binds (ps := ["recipe", "world"]) fun _ _ _ _ _ _ us hl => match us, hl with | [_, _], _ => rfl
  exact at_def (d := d_need_world) (tab_cons (At.mono (k := 18) A17 (by decide)) (T0 18)) (PySem.W.mg_of X G a) F b sc_k06_need_world rfl ck_k06_need_world
theorem at_k06_is_left {l : PySem.W.OpenLaw} {w : World} {K : PySem.W.Frag} {h base : Heap} {mg : Str → Option Value} (X : K.In h) (G : h.Ns mainGlobals mg) (T0 : ∀ k, TabF l.prog w K mg base k (tabOf [])) (hd : DefAt K "is_left" (top_k06 28))  : At l.prog w K mg base 20 "is_left" S_is_left := by
  obtain ⟨f, _, kV, dc, pm, cd, ct, _, an, _, a, l, c, k⟩ := hd
  have F := fun_mk (st := top_k06 28) l c k
  have b := F.binds (ps := ["acts", "world"]) fun _ _ _ _ _ _ us hl => match us, hl with | [_, _], _ => rfl
  exact at_def (d := d_is_left) (T0 19) (PySem.W.mg_of X G a) F b sc_k06_is_left rfl ck_k06_is_left
theorem at_k06_need_left {l : PySem.W.OpenLaw} {w : World} {K : PySem.W.Frag} {h base : Heap} {mg : Str → Option Value} (X : K.In h) (G : h.Ns mainGlobals mg) (T0 : ∀ k, TabF l.prog w K mg base k (tabOf [])) (hd : DefAt K "need_left" (top_k06 29)) (A16 : At l.prog w K mg base 17 "need_acts" S_need_acts) (A18 : At l.prog w K mg base 19 "need_world" S_need_world) (A19 : At l.prog w K mg base 20 "is_left" S_is_left) : At l.prog w K mg base 21 "need_left" S_need_left := by
  obtain ⟨f, _, kV, dc, pm, cd, ct, _, an, _, a, l, c, k⟩ := hd
  have F := fun_mk (st := top_k06 29) l c k
  have b := F.binds (ps := ["recipe", "acts", "world"]) fun _ _ _ _ _ _ us hl => match us, hl with | [_, _, _], _ => rfl
  exact at_def (d := d_need_left) (tab_cons (At.mono (k := 20) A16 (by decide)) (tab_cons (At.mono (k := 20) A18 (by decide)) (tab_cons (At.mono (k := 20) A19 (by decide)) (T0 20)))) (PySem.W.mg_of X G a) F b sc_k06_need_left rfl ck_k06_need_left
theorem at_k06_made_of {l : PySem.W.OpenLaw} {w : World} {K : PySem.W.Frag} {h base : Heap} {mg : Str → Option Value} (X : K.In h) (G : h.Ns mainGlobals mg) (T0 : ∀ k, TabF l.prog w K mg base k (tabOf [])) (hd : DefAt K "made_of" (top_k06 25))  : At l.prog w K mg base 22 "made_of" S_made_of := by
  obtain ⟨f, _, kV, dc, pm, cd, ct, _, an, _, a, l, c, k⟩ := hd
  have F := fun_mk (st := top_k06 25) l c k
  have b := F.binds (ps := ["operation", "some"]) fun _ _ _ _ _ _ us hl => match us, hl with | [_, _], _ => rfl
  exact at_def (d := d_made_of) (T0 21) (PySem.W.mg_of X G a) F b sc_k06_made_of rfl ck_k06_made_of
theorem at_k06_read_by {l : PySem.W.OpenLaw} {w : World} {K : PySem.W.Frag} {h base : Heap} {mg : Str → Option Value} (X : K.In h) (G : h.Ns mainGlobals mg) (T0 : ∀ k, TabF l.prog w K mg base k (tabOf [])) (hd : DefAt K "read_by" (top_k06 26))  : At l.prog w K mg base 23 "read_by" S_read_by := by
  obtain ⟨f, _, kV, dc, pm, cd, ct, _, an, _, a, l, c, k⟩ := hd
  have F := fun_mk (st := top_k06 26) l c k
  have b := F.binds (ps := ["recipe", "acts", "world", "number", "made"]) fun _ _ _ _ _ _ us hl => match us, hl with | [_, _, _, _, _], _ => rfl
  exact at_def (d := d_read_by) (T0 22) (PySem.W.mg_of X G a) F b sc_k06_read_by rfl ck_k06_read_by
theorem at_k06_all_texts {l : PySem.W.OpenLaw} {w : World} {K : PySem.W.Frag} {h base : Heap} {mg : Str → Option Value} (X : K.In h) (G : h.Ns mainGlobals mg) (T0 : ∀ k, TabF l.prog w K mg base k (tabOf [])) (hd : DefAt K "all_texts" (top_k06 27)) (A21 : At l.prog w K mg base 22 "made_of" S_made_of) (A22 : At l.prog w K mg base 23 "read_by" S_read_by) : At l.prog w K mg base 24 "all_texts" S_all_texts := by
  obtain ⟨f, _, kV, dc, pm, cd, ct, _, an, _, a, l, c, k⟩ := hd
  have F := fun_mk (st := top_k06 27) l c k
  have b := F.binds (ps := ["recipe", "acts", "world"]) fun _ _ _ _ _ _ us hl => match us, hl with | [_, _, _], _ => rfl
  exact at_def (d := d_all_texts) (tab_cons (At.mono (k := 23) A21 (by decide)) (tab_cons (At.mono (k := 23) A22 (by decide)) (T0 23))) (PySem.W.mg_of X G a) F b sc_k06_all_texts rfl ck_k06_all_texts
theorem at_k06_texts_in {l : PySem.W.OpenLaw} {w : World} {K : PySem.W.Frag} {h base : Heap} {mg : Str → Option Value} (X : K.In h) (G : h.Ns mainGlobals mg) (T0 : ∀ k, TabF l.prog w K mg base k (tabOf [])) (hd : DefAt K "texts_in" (top_k06 30)) (A20 : At l.prog w K mg base 21 "need_left" S_need_left) (A23 : At l.prog w K mg base 24 "all_texts" S_all_texts) : At l.prog w K mg base 25 "texts_in" S_texts_in := by
  obtain ⟨f, _, kV, dc, pm, cd, ct, _, an, _, a, l, c, k⟩ := hd
  have F := fun_mk (st := top_k06 30) l c k
  have b := F.binds (ps := ["recipe", "acts", "world"]) fun _ _ _ _ _ _ us hl => match us, hl with | [_, _, _], _ => rfl
  exact at_def (d := d_texts_in) (tab_cons (At.mono (k := 24) A20 (by decide)) (tab_cons (At.mono (k := 24) A23 (by decide)) (T0 24))) (PySem.W.mg_of X G a) F b sc_k06_texts_in rfl ck_k06_texts_in
theorem at_k06__law_one {l : PySem.W.OpenLaw} {w : World} {K : PySem.W.Frag} {h base : Heap} {mg : Str → Option Value} (X : K.In h) (G : h.Ns mainGlobals mg) (T0 : ∀ k, TabF l.prog w K mg base k (tabOf [])) (hd : DefAt K "_law_one" (top_k06 37)) (A24 : At l.prog w K mg base 25 "texts_in" S_texts_in) : At l.prog w K mg base 26 "_law_one" S__law_one := by
  obtain ⟨f, _, kV, dc, pm, cd, ct, _, an, _, a, l, c, k⟩ := hd
  have F := fun_mk (st := top_k06 37) l c k
  have b := F.binds (ps := ["name", "texts"]) fun _ _ _ _ _ _ us hl => match us, hl with | [_, _], _ => rfl
  exact at_def (d := d__law_one) (tab_cons (At.mono (k := 25) A24 (by decide)) (T0 25)) (PySem.W.mg_of X G a) F b sc_k06__law_one rfl ck_k06__law_one
theorem at_k06__law_pairs {l : PySem.W.OpenLaw} {w : World} {K : PySem.W.Frag} {h base : Heap} {mg : Str → Option Value} (X : K.In h) (G : h.Ns mainGlobals mg) (T0 : ∀ k, TabF l.prog w K mg base k (tabOf [])) (hd : DefAt K "_law_pairs" (top_k06 36))  : At l.prog w K mg base 27 "_law_pairs" S__law_pairs := by
  obtain ⟨f, _, kV, dc, pm, cd, ct, _, an, _, a, l, c, k⟩ := hd
  have F := fun_mk (st := top_k06 36) l c k
  have b := F.binds (ps := ["row"]) fun _ _ _ _ _ _ us hl => match us, hl with | [_], _ => rfl
  exact at_def (d := d__law_pairs) (T0 26) (PySem.W.mg_of X G a) F b sc_k06__law_pairs rfl ck_k06__law_pairs
set_option maxHeartbeats 0 in
theorem all_k06 {l : PySem.W.OpenLaw} {w : World} {K : PySem.W.Frag} {h : Heap} {mg : Str → Option Value} {fa : Addr} {tL : Nat} {dR : Addr} {es : Array DictEntry} {n : Nat} (X : K.In h) (G : h.Ns mainGlobals mg) (hfa : mg "law" = some (.ref fa))
    (h0 : DefAt K "_law_cell_at" (top_k06 32)) (h1 : DefAt K "_law_mixed" (top_k06 33)) (h2 : DefAt K "_law_draw" (top_k06 34)) (h3 : DefAt K "_law_pick" (top_k06 35)) (h4 : DefAt K "is_text" (top_k06 10)) (h5 : DefAt K "rises" (top_k06 11)) (h6 : DefAt K "is_thing" (top_k06 12)) (h7 : DefAt K "are_things" (top_k06 13)) (h8 : DefAt K "is_integer" (top_k06 9)) (h9 : DefAt K "is_reading" (top_k06 14)) (h10 : DefAt K "is_step" (top_k06 15)) (h11 : DefAt K "are_numbers" (top_k06 16)) (h12 : DefAt K "stands" (top_k06 17)) (h13 : DefAt K "need_recipe" (top_k06 18)) (h14 : DefAt K "is_act" (top_k06 21)) (h15 : DefAt K "acts_stand" (top_k06 22)) (h16 : DefAt K "need_acts" (top_k06 23)) (h17 : DefAt K "is_world" (top_k06 19)) (h18 : DefAt K "need_world" (top_k06 20)) (h19 : DefAt K "is_left" (top_k06 28)) (h20 : DefAt K "need_left" (top_k06 29)) (h21 : DefAt K "made_of" (top_k06 25)) (h22 : DefAt K "read_by" (top_k06 26)) (h23 : DefAt K "all_texts" (top_k06 27)) (h24 : DefAt K "texts_in" (top_k06 30)) (h25 : DefAt K "_law_one" (top_k06 37)) (h26 : DefAt K "_law_pairs" (top_k06 36)) (h27 : DefAt K "law" (top_k06 38))
    (aL : PySem.W.nsIn K mainGlobals "LETTERS" = some (some (.str lettersT tL))) (aR : PySem.W.nsIn K mainGlobals "READS" = some (some (.ref dR))) (lR : K.lookup dR = some ⟨.type "dict", none, .dict es n, #[]⟩) (eR : Ents w.params es.toList readsL) (sR : (dR == sysModules) = false) (bl : ∀ x ∈ bltNames, PySem.W.nsIn K mainGlobals x = some none) :
    ∃ fd : FuncData, (∀ (s : Shared) (v : Value), BindsTo s fd ⟨[v], []⟩ [("script", v)]) ∧ ∀ base : Heap, K.In base → base.Ns mainGlobals mg → FnOk l.prog w K mg base CX0 28 fa fd ["script"] (spL K (runD T_law_k06 d_law_k06)) := by
  obtain ⟨f27, _, kV27, dc27, pm27, cd27, ct27, _, an27, _, a27, l27, c27, k27⟩ := h27
  have F27 := fun_mk (st := top_k06 38) l27 c27 k27
  have e := hfa.symm.trans (PySem.W.mg_of X G a27)
  cases e
  refine ⟨PySem.W.fnOf "law" "law" (defArgs (top_k06 38)) (defBody (top_k06 38)) (defScope (top_k06 38)) .none kV27 dc27 pm27 an27 cd27 ct27, fun s v => .of_eq rfl, fun base _ _ => ?_⟩
  have T0 : ∀ k, TabF l.prog w K mg base k (tabOf []) := fun k => tab_nil (PySem.W.mg_of X G aL) (PySem.W.mg_of X G aR) lR eR sR fun x hx => PySem.W.mg_none_of X G (bl x hx)
  have A0 := at_k06__law_cell_at X G T0 h0 
  have A1 := at_k06__law_mixed X G T0 h1 A0
  have A2 := at_k06__law_draw X G T0 h2 A1
  have A3 := at_k06__law_pick X G T0 h3 A2
  have A4 := at_k06_is_text X G T0 h4 
  have A5 := at_k06_rises X G T0 h5 
  have A6 := at_k06_is_thing X G T0 h6 A4 A5
  have A7 := at_k06_are_things X G T0 h7 A6
  have A8 := at_k06_is_integer X G T0 h8 
  have A9 := at_k06_is_reading X G T0 h9 A8
  have A10 := at_k06_is_step X G T0 h10 A9
  have A11 := at_k06_are_numbers X G T0 h11 A8 A5
  have A12 := at_k06_stands X G T0 h12 A7 A10 A11
  have A13 := at_k06_need_recipe X G T0 h13 A12
  have A14 := at_k06_is_act X G T0 h14 A8
  have A15 := at_k06_acts_stand X G T0 h15 A14 A5
  have A16 := at_k06_need_acts X G T0 h16 A13 A15
  have A17 := at_k06_is_world X G T0 h17 A8
  have A18 := at_k06_need_world X G T0 h18 A17
  have A19 := at_k06_is_left X G T0 h19 
  have A20 := at_k06_need_left X G T0 h20 A16 A18 A19
  have A21 := at_k06_made_of X G T0 h21 
  have A22 := at_k06_read_by X G T0 h22 
  have A23 := at_k06_all_texts X G T0 h23 A21 A22
  have A24 := at_k06_texts_in X G T0 h24 A20 A23
  have A25 := at_k06__law_one X G T0 h25 A24
  have A26 := at_k06__law_pairs X G T0 h26 
  exact law_ok (d := d_law_k06) F27 sc_k06_law rfl (tab_cons (At.mono (k := 27) A2 (by decide)) (tab_cons (At.mono (k := 27) A3 (by decide)) (tab_cons (At.mono (k := 27) A25 (by decide)) (tab_cons (At.mono (k := 27) A26 (by decide)) (T0 27))))) ck_k06_law
end SB
open PySem PySem.W PyProof.Rows
set_option maxHeartbeats 0 in
theorem PySem.Challenge.cw_samebuilds_k06_whole_operations_holds : PySem.Challenge.rw_samebuilds_k06_whole_operations.Holds := by
  w_on; o_law; k_head; (case hw => w_witness2)
  k_fill
  refine L2.walk_of (l := PySem.Challenge.rw_samebuilds_k06_whole_operations) (n := 63) (k := 28) (x := "script") (CX := fun _ => L2.CX0) (sp := fun w => SB.spL _ (SB.runD SB.T_law_k06 SB.d_law_k06)) rfl (by decide) rfl ⟨rfl, by decide, by decide⟩ (fun w h Y => PySem.W.kIn_of Y) ?F (fun _ _ a ns hl _ hS => (SB.run_law_k06 ns hl).elim fun c hc => ⟨a, ns, c, rfl, hS, hc, fun _ => rfl⟩) (fun _ _ _ _ _ h => h)
  case F =>
    intro w mg fa h KX G hmg
    refine' SB.all_k06 KX G hmg ?h0 ?h1 ?h2 ?h3 ?h4 ?h5 ?h6 ?h7 ?h8 ?h9 ?h10 ?h11 ?h12 ?h13 ?h14 ?h15 ?h16 ?h17 ?h18 ?h19 ?h20 ?h21 ?h22 ?h23 ?h24 ?h25 ?h26 ?h27 ?aL ?aR ?lR ?eR ?sR ?bl
    (case h0 => refine' SB.DefAt.of ?a ?l ?c ?k; (case a => k_is); (case l => k_is); (case c => k_is); (case k => k_is))
    (case h1 => refine' SB.DefAt.of ?a ?l ?c ?k; (case a => k_is); (case l => k_is); (case c => k_is); (case k => k_is))
    (case h2 => refine' SB.DefAt.of ?a ?l ?c ?k; (case a => k_is); (case l => k_is); (case c => k_is); (case k => k_is))
    (case h3 => refine' SB.DefAt.of ?a ?l ?c ?k; (case a => k_is); (case l => k_is); (case c => k_is); (case k => k_is))
    (case h4 => refine' SB.DefAt.of ?a ?l ?c ?k; (case a => k_is); (case l => k_is); (case c => k_is); (case k => k_is))
    (case h5 => refine' SB.DefAt.of ?a ?l ?c ?k; (case a => k_is); (case l => k_is); (case c => k_is); (case k => k_is))
    (case h6 => refine' SB.DefAt.of ?a ?l ?c ?k; (case a => k_is); (case l => k_is); (case c => k_is); (case k => k_is))
    (case h7 => refine' SB.DefAt.of ?a ?l ?c ?k; (case a => k_is); (case l => k_is); (case c => k_is); (case k => k_is))
    (case h8 => refine' SB.DefAt.of ?a ?l ?c ?k; (case a => k_is); (case l => k_is); (case c => k_is); (case k => k_is))
    (case h9 => refine' SB.DefAt.of ?a ?l ?c ?k; (case a => k_is); (case l => k_is); (case c => k_is); (case k => k_is))
    (case h10 => refine' SB.DefAt.of ?a ?l ?c ?k; (case a => k_is); (case l => k_is); (case c => k_is); (case k => k_is))
    (case h11 => refine' SB.DefAt.of ?a ?l ?c ?k; (case a => k_is); (case l => k_is); (case c => k_is); (case k => k_is))
    (case h12 => refine' SB.DefAt.of ?a ?l ?c ?k; (case a => k_is); (case l => k_is); (case c => k_is); (case k => k_is))
    (case h13 => refine' SB.DefAt.of ?a ?l ?c ?k; (case a => k_is); (case l => k_is); (case c => k_is); (case k => k_is))
    (case h14 => refine' SB.DefAt.of ?a ?l ?c ?k; (case a => k_is); (case l => k_is); (case c => k_is); (case k => k_is))
    (case h15 => refine' SB.DefAt.of ?a ?l ?c ?k; (case a => k_is); (case l => k_is); (case c => k_is); (case k => k_is))
    (case h16 => refine' SB.DefAt.of ?a ?l ?c ?k; (case a => k_is); (case l => k_is); (case c => k_is); (case k => k_is))
    (case h17 => refine' SB.DefAt.of ?a ?l ?c ?k; (case a => k_is); (case l => k_is); (case c => k_is); (case k => k_is))
    (case h18 => refine' SB.DefAt.of ?a ?l ?c ?k; (case a => k_is); (case l => k_is); (case c => k_is); (case k => k_is))
    (case h19 => refine' SB.DefAt.of ?a ?l ?c ?k; (case a => k_is); (case l => k_is); (case c => k_is); (case k => k_is))
    (case h20 => refine' SB.DefAt.of ?a ?l ?c ?k; (case a => k_is); (case l => k_is); (case c => k_is); (case k => k_is))
    (case h21 => refine' SB.DefAt.of ?a ?l ?c ?k; (case a => k_is); (case l => k_is); (case c => k_is); (case k => k_is))
    (case h22 => refine' SB.DefAt.of ?a ?l ?c ?k; (case a => k_is); (case l => k_is); (case c => k_is); (case k => k_is))
    (case h23 => refine' SB.DefAt.of ?a ?l ?c ?k; (case a => k_is); (case l => k_is); (case c => k_is); (case k => k_is))
    (case h24 => refine' SB.DefAt.of ?a ?l ?c ?k; (case a => k_is); (case l => k_is); (case c => k_is); (case k => k_is))
    (case h25 => refine' SB.DefAt.of ?a ?l ?c ?k; (case a => k_is); (case l => k_is); (case c => k_is); (case k => k_is))
    (case h26 => refine' SB.DefAt.of ?a ?l ?c ?k; (case a => k_is); (case l => k_is); (case c => k_is); (case k => k_is))
    (case h27 => refine' SB.DefAt.of ?a ?l ?c ?k; (case a => k_is); (case l => k_is); (case c => k_is); (case k => k_is))
    (case aL => k_is); (case aR => k_is); (case lR => k_is); (case sR => exact rfl)
    (case eR => exact .cons rfl rfl rfl (.cons rfl rfl rfl (.cons rfl rfl rfl (.cons rfl rfl rfl (.cons rfl rfl rfl (.cons rfl rfl rfl (.cons rfl rfl rfl (.cons rfl rfl rfl (.nil)))))))))
    (case bl => refine' SB.bl_of ?z0 ?z1 ?z2 ?z3 ?z4 ?z5 ?z6 ?z7 ?z8 ?z9 ?z10 ?z11 ?z12 ?z13 ?z14 ?z15 ?z16 <;> k_is)
