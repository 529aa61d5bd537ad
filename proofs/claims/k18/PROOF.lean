import PyProof.Rows.All
import Wide.All
import OpenK.AllK
import Wide.FinOn
import HandS.ForMost
import HandS.Deep
import HandS.IsInst
import HandS.Conv
import HandS.TupAny
import HandS.TupMul
import HandS.Style
import HandS.Wide
import HandS.Flow
import HandS.Zip
import HandS.Codes
import PyProof.CollectStr
import PyProof.ListNew
import PyProof.WalksMore
import PyProof.Rows.SumAny
import KE.KDictZip
import HandS.ListItems
import HandS.Exc
import HandS.Dict
import HandS.ExcOwn
import HandS.WordsExc
import HandS.SortInts
import HandS.TupLen
import HandS.RaiseMore
import HandS.Iter
import HandS.TryOnly
import HandS.DictComp
import HandS.HeadEnd
import HandS.HeadHook1
import HandS.HeadHook2
import HandS.Head0
import HandS.Head1
import HandS.Head2
import PySem.Challenge.RW_reducehouse_k18_whole_calls
set_option Elab.async false
set_option linter.all false
set_option maxRecDepth 100000
section
namespace DL
open PySem L2

abbrev DK := Sum Key (List Key)
inductive D where
  | non | bl (b : Bool) | int (i : Int) | str (x : Str)
  | tup (xs : List D) | lst (xs : List D) | dct (kvs : List (DK × D)) | obj (n : Nat) | fn (x : Str) | frz (xs : List D)
  deriving Inhabited
inductive Ob where
  | lst (xs : List D) | dct (kvs : List (DK × D)) | ins (c : Str) (fs : List (Str × D))
  deriving Inhabited
abbrev Store := List Ob
structure Exc where
  cls : Str
  fs : List (Str × D)
inductive R (α : Type) where
  | v (a : α) | ex (x : Exc)
abbrev M (α : Type) := Store → Option (R α × Store)
namespace M
def pure {α : Type} (a : α) : M α := fun S => some (.v a, S)
def bind {α β : Type} (m : M α) (f : α → M β) : M β := fun S => match m S with
  | some (.v a, S1) => f a S1
  | some (.ex x, S1) => some (.ex x, S1)
  | none => none
def fail {α : Type} : M α := fun _ => none
def of {α : Type} (o : Option α) : M α := fun S => match o with | some a => some (.v a, S) | none => none
/-- an exception is not allowed here -/
def calm {α : Type} (m : M α) : M α := fun S => match m S with | some (.v a, S1) => some (.v a, S1) | _ => none
def guard (b : Bool) : M Unit := fun S => if b = true then some (.v (), S) else none
end M
abbrev En := List (Option D)
abbrev EM := En → M D

def getO (n : Nat) : M Ob := fun S => match S[n]? with | some o => some (.v o, S) | none => none
def setO (n : Nat) (o : Ob) : M Unit := fun S => if n < S.length then some (.v (), S.set n o) else none
def alloc (o : Ob) : M D := fun S => some (.v (.obj S.length), S ++ [o])
/-- a new list: kept by value, or laid into the store -/
def mkL (st : Bool) (xs : List D) : M D := if xs.length ≤ sizeLine then (if st = true then alloc (.lst xs) else M.pure (.lst xs)) else M.fail
def mkT (xs : List D) : M D := if xs.length ≤ sizeLine then M.pure (.tup xs) else M.fail
def mkS (x : Str) : M D := if x.length ≤ sizeLine then M.pure (.str x) else M.fail
def mkD (st : Bool) (kvs : List (DK × D)) : M D := if st = true then alloc (.dct kvs) else M.pure (.dct kvs)
/-- a list's items -/
def lstOf : D → M (List D)
  | .lst xs => M.pure xs
  | .frz xs => M.pure xs
  | .obj n => M.bind (getO n) fun o => match o with | .lst xs => M.pure xs | _ => M.fail
  | _ => M.fail
/-- a list's or a tuple's items -/
def seqOf : D → M (List D)
  | .tup xs => M.pure xs
  | d => lstOf d
def dctOf : D → M (List (DK × D))
  | .dct kvs => M.pure kvs
  | .obj n => M.bind (getO n) fun o => match o with | .dct kvs => M.pure kvs | _ => M.fail
  | _ => M.fail
/-- as plain data of the library (lists of the store read where they stand) -/
def toPy (S : Store) : Nat → D → Option PyData
  | _, .non => some .none
  | _, .bl b => some (.bool b)
  | _, .int i => some (.int i)
  | _, .str x => some (.str x)
  | n + 1, .tup xs => (xs.mapM (toPy S n)).map .tuple
  | n + 1, .lst xs => (xs.mapM (toPy S n)).map .list
  | n + 1, .obj k => match S[k]? with
    | some (.lst xs) => (xs.mapM (toPy S n)).map .list
    | _ => none
  | _, _ => none
def depthF : Nat := 60
def pyOf (d : D) : M PyData := fun S => match toPy S depthF d with | some p => some (.v p, S) | none => none
def keyOf1 : D → Option Key
  | .int i => some (.inl i)
  | .str x => some (.inr x)
  | _ => none
def keyOf : D → Option DK
  | .int i => some (.inl (.inl i))
  | .str x => some (.inl (.inr x))
  | .tup xs => (xs.mapM keyOf1).map .inr
  | _ => none
def keyD1 : Key → D
  | .inl i => .int i
  | .inr x => .str x
def keyD : DK → D
  | .inl k => keyD1 k
  | .inr ks => .tup (ks.map keyD1)
def dGet (kvs : List (DK × D)) (k : DK) : Option D := (kvs.find? fun kv => decide (kv.1 = k)).map (·.2)
def dPut (kvs : List (DK × D)) (k : DK) (v : D) : List (DK × D) :=
  if (kvs.any fun kv => decide (kv.1 = k)) = true then kvs.map fun kv => if kv.1 = k then (kv.1, v) else kv else kvs ++ [(k, v)]
def dDrop (kvs : List (DK × D)) (k : DK) : List (DK × D) := kvs.filter fun kv => decide (kv.1 ≠ k)
/-- a dict's keys are of one kind: single ones, or tuples -/
def sameK : DK → DK → Bool
  | .inl _, .inl _ => true
  | .inr _, .inr _ => true
  | _, _ => false
def dFit (kvs : List (DK × D)) (k : DK) : Bool := kvs.all fun kv => sameK kv.1 k
/-- what a dict has at a key's data -/
def dLook (kvs : List (DK × D)) (x : D) : M (Option D) := match keyOf x with
  | some k => if dFit kvs k = true then M.pure (dGet kvs k) else M.fail
  | none => M.fail
/-- .. of a dict by value: single keys alone -/
def dLookV (kvs : List (DK × D)) (x : D) : M (Option D) := match keyOf x with
  | some (.inl k) => M.pure (dGet kvs (.inl k))
  | _ => M.fail
/-- truth -/
def tru : D → M Bool
  | .non => M.pure false
  | .bl b => M.pure b
  | .int i => M.pure (decide (i ≠ 0))
  | .str x => if x.length ≤ sizeLine then M.pure (decide (x.length ≠ 0)) else M.fail
  | .tup xs => M.pure (!xs.isEmpty)
  | .lst xs => M.pure (!xs.isEmpty)
  | .obj n => M.bind (getO n) fun o => match o with | .lst xs => M.pure (!xs.isEmpty) | _ => M.fail
  | _ => M.fail

def mulOk (i j : Int) : Bool := decide (i.natAbs < 18446744073709551616) || decide (j.natAbs < 18446744073709551616) || decide (i.natAbs.log2 + j.natAbs.log2 < 1000000)
def divOk (j : Int) : Bool := decide (j ≠ 0) && decide (j.natAbs.log2 < 9000)
def powOk (i j : Int) : Bool := decide (0 ≤ j) && decide (j ≤ 1000000) && decide (i.natAbs < 18446744073709551616)
def dNeg : D → M D
  | .int i => M.pure (.int (-i))
  | _ => M.fail
def repeatL (xs : List D) (n : Int) : List D := (List.replicate n.toNat xs).flatten
def dAdd (st : Bool) : D → D → M D
  | .int i, .int j => M.pure (.int (i + j))
  | .str x, .str y => mkS (x ++ y)
  | .tup xs, .tup ys => mkT (xs ++ ys)
  | x, y => M.bind (lstOf x) fun xs => M.bind (lstOf y) fun ys => mkL st (xs ++ ys)
def dMul (st : Bool) : D → D → M D
  | .int i, .int j => if mulOk i j = true then M.pure (.int (i * j)) else M.fail
  | .tup xs, .int n => if (decide (-(2 ^ 63) ≤ n) && decide (n ≤ 1000) && decide (xs.length ≤ 1000)) = true then mkT (repeatL xs n) else M.fail
  | .lst xs, .int n => if (decide (-(2 ^ 63) ≤ n) && decide (n < 2 ^ 63) && decide (xs.length * n.toNat ≤ sizeLine)) = true then mkL st (repeatL xs n) else M.fail
  | _, _ => M.fail
def dBin (st : Bool) : Operator → D → D → M D
  | .Add, x, y => dAdd st x y
  | .Sub, .int i, .int j => M.pure (.int (i - j))
  | .Mult, x, y => dMul st x y
  | .FloorDiv, .int i, .int j => if divOk j = true then M.pure (.int (i.fdiv j)) else M.fail
  | .Mod, .int i, .int j => if decide (j ≠ 0) = true then M.pure (.int (i.fmod j)) else M.fail
  | .Pow, .int i, .int j => if powOk i j = true then M.pure (.int (i ^ j.toNat)) else M.fail
  | _, _, _ => M.fail
/-- == -/
def dEq : D → D → M Bool
  | .int i, .int j => M.pure (decide (i = j))
  | .str x, .str y => M.pure (decide (x = y))
  | .bl a, .bl b => M.pure (decide (a = b))
  | .non, .non => M.pure true
  | x, y => M.bind (pyOf x) fun p => M.bind (pyOf y) fun q => if (SeqAt.shaped p && SeqAt.shaped q) = true then M.pure (PyData.eqv p q) else M.fail
def dIsNone : D → Bool
  | .non => true
  | _ => false
/-- is: None, True, False on the right -/
def dIs : D → D → M Bool
  | x, .non => M.pure (dIsNone x)
  | .bl a, .bl b => M.pure (decide (a = b))
  | _, _ => M.fail
/-- in -/
def dIn (x y : D) : M Bool := match y with
  | .str b => (match x with | .str a => M.pure (!(Builtin.Str.occurrences b a 0 b.length 1).isEmpty) | _ => M.fail)
  | .dct kvs => M.bind (dLookV kvs x) fun r => M.pure r.isSome
  | .tup _ => M.bind (pyOf x) fun p => M.bind (pyOf y) fun q => match q with
    | .tuple ds => if (SeqAt.shaped p && SeqAt.shaped q) = true then M.pure (ds.any fun z => PyData.eqv z p) else M.fail
    | _ => M.fail
  | .lst _ => M.bind (pyOf x) fun p => M.bind (pyOf y) fun q => match q with
    | .list ds => if (SeqAt.shaped p && SeqAt.shaped q) = true then M.pure (ds.any fun z => PyData.eqv z p) else M.fail
    | _ => M.fail
  | .obj n => M.bind (getO n) fun o => match o with
    | .dct kvs => M.bind (dLook kvs x) fun r => M.pure r.isSome
    | .lst _ => M.bind (pyOf x) fun p => M.bind (pyOf y) fun q => (match q with
      | .list ds => if (SeqAt.shaped p && SeqAt.shaped q) = true then M.pure (ds.any fun z => PyData.eqv z p) else M.fail
      | _ => M.fail)
    | _ => M.fail
  | _ => M.fail
def dCmp : CmpOp → D → D → M Bool
  | .Eq, x, y => dEq x y
  | .NotEq, x, y => M.bind (dEq x y) fun b => M.pure (!b)
  | .Lt, .int i, .int j => M.pure (decide (i < j))
  | .LtE, .int i, .int j => M.pure (decide (i ≤ j))
  | .Gt, .int i, .int j => M.pure (decide (j < i))
  | .GtE, .int i, .int j => M.pure (decide (j ≤ i))
  | .Is, x, y => dIs x y
  | .IsNot, x, y => M.bind (dIs x y) fun b => M.pure (!b)
  | .In, x, y => dIn x y
  | .NotIn, x, y => M.bind (dIn x y) fun b => M.pure (!b)
  | _, _, _ => M.fail
/-- x[i] -/
def dIx (x y : D) : M D := match x with
  | .str z => (match y with | .int i => (if z.length ≤ sizeLine then M.of ((atI z.cps.toList i).map fun c => D.str ⟨#[c]⟩) else M.fail) | _ => M.fail)
  | .tup xs => (match y with | .int i => M.of (atI xs i) | _ => M.fail)
  | .lst xs => (match y with | .int i => M.of (atI xs i) | _ => M.fail)
  | .dct kvs => M.bind (dLookV kvs y) M.of
  | .obj n => M.bind (getO n) fun o => match o with
    | .lst xs => (match y with | .int i => M.of (atI xs i) | _ => M.fail)
    | .dct kvs => M.bind (dLook kvs y) M.of
    | _ => M.fail
  | _ => M.fail
def cutD (xs : List D) (lo hi : Option Int) : List D := (xs.drop (HT.sIx xs.length 0 lo)).take (HT.sIx xs.length xs.length hi - HT.sIx xs.length 0 lo)
def dCut (st : Bool) (x : D) (lo hi : Option Int) : M D := match x with
  | .str z => if z.length ≤ sizeLine then M.pure (.str (Txt.slice z lo hi)) else M.fail
  | .tup xs => M.pure (.tup (cutD xs lo hi))
  | x => M.bind (lstOf x) fun xs => mkL st (cutD xs lo hi)
/-- x[i] = v -/
def dSet (o i v : D) : M Unit := match o with
  | .obj n => M.bind (getO n) fun ob => match ob with
    | .lst xs => (match i with | .int k => (match ixN xs.length k with | some j => setO n (.lst (xs.set j v)) | none => M.fail) | _ => M.fail)
    | .dct kvs => (match keyOf i with | some k => (if (decide (kvs.length < sizeLine) && dFit kvs k) = true then setO n (.dct (dPut kvs k v)) else M.fail) | none => M.fail)
    | _ => M.fail
  | _ => M.fail
def fGet (fs : List (Str × D)) (f : Str) : Option D := fs.lookup f
def fPut (f : Str) (v : D) : List (Str × D) → List (Str × D)
  | [] => [(f, v)]
  | (g, w) :: r => if g = f then (g, v) :: r else (g, w) :: fPut f v r
end DL
end

section
namespace DL
open PySem L2

inductive Out where
  | nx (η : En) | rt (d : D) | bk (η : En) | ct (η : En) | ex (x : Exc) (η : En)
abbrev SM := En → Store → Option (Out × Store)

/-- a def of the text: its key ("f", "C.m"), its parameters, all names by slot, its statement -/
structure Fn where
  key : Str
  ps : List Str
  N : List Str
  st : Stmt
structure Cl where
  name : Str
  meths : List (Str × Str)
  attrs : List Str
structure Tab where
  fns : List Fn
  top : List Str
  cls : List Cl
  glob : List (Str × D)
  free : List Str
  site : Nat → Nat → Bool
def Tab.fn (T : Tab) (x : Str) : Option Fn := T.fns.find? fun f => f.key == x
def Tab.cl (T : Tab) (x : Str) : Option Cl := T.cls.find? fun c => c.name == x
def Tab.meth (T : Tab) (C m : Str) : Option Str := match T.cl C with
  | some c => c.meths.lookup m
  | none => none
def Tab.attr (T : Tab) (C f : Str) : Bool := match T.cl C with
  | some c => c.attrs.contains f
  | none => false
def Tab.at_ (T : Tab) (p : Pos) : Bool := T.site p.line p.col

/-- where a name stands: N the slots, sc the scope as it is looked up, own the block's own names (to be stored) -/
structure Sc where
  N : List Str
  sc : Scope
  own : List (Str × NameKind)
def idxOf : List Str → Str → Option Nat
  | [], _ => none
  | y :: r, x => if y == x then some 0 else (idxOf r x).map (· + 1)
def isVis : Option NameKind → Bool
  | some .local => true
  | some .cell => true
  | some .free => true
  | _ => false
def isLoc : Option NameKind → Bool
  | some .local => true
  | some .cell => true
  | _ => false
def isGlb : Option NameKind → Bool
  | some .globalImplicit => true
  | _ => false
def Sc.kindOf (Γ : Sc) (x : Str) : Option NameKind := Γ.sc.names.lookup x
def Sc.slot (Γ : Sc) (x : Str) : Option Nat := if isVis (Γ.sc.names.lookup x) = true then idxOf Γ.N x else none
def Sc.glb (Γ : Sc) (x : Str) : Bool := isGlb (Γ.sc.names.lookup x)
/-- a slot that may be stored -/
def Sc.put (Γ : Sc) (x : Str) : Option Nat := if (isLoc (Γ.sc.names.lookup x) && isLoc (Γ.own.lookup x)) = true then idxOf Γ.N x else none
/-- within a comprehension -/
def Sc.inner (Γ : Sc) (scope : Scope) : Sc := ⟨Γ.N, relS scope Γ.sc, scope.names⟩
/-- the slots of a comprehension's own names -/
def ownSlots (N : List Str) (scope : Scope) : List (Str × Nat) := scope.names.filterMap fun y => if isLoc (some y.2) = true then (idxOf N y.1).map fun i => (y.1, i) else none
def wipeE (η : En) : List Nat → En
  | [] => η
  | v :: vs => (wipeE η vs).set v none

structure Evs where
  e : Sc → Expr → EM
  t : Sc → Expr → En → M Bool
  g : Sc → Expr → D → En → M En
  s : Sc → Stmt → SM

def eList : List EM → En → M (List D)
  | [], _ => M.pure []
  | m :: r, η => M.bind (m η) fun d => M.bind (eList r η) fun ds => M.pure (d :: ds)
def sBlock : List SM → SM
  | [], η, S => some (.nx η, S)
  | m :: r, η, S => match m η S with
    | some (.nx η', S') => sBlock r η' S'
    | o => o
def gList : List (D → En → M En) → List D → En → M En
  | [], [], η => M.pure η
  | g :: gs, d :: ds, η => M.bind (g d η) fun η' => gList gs ds η'
  | _, _, _ => M.fail
def tAll : List (En → M Bool) → En → M Bool
  | [], _ => M.pure true
  | t :: r, η => M.bind (t η) fun b => if b = true then tAll r η else M.pure false
def tAny : List (En → M Bool) → En → M Bool
  | [], _ => M.pure false
  | t :: r, η => M.bind (t η) fun b => if b = true then M.pure true else tAny r η
/-- and, or as values (bools) -/
def eAll : List EM → En → M D
  | [], _ => M.fail
  | [t], η => t η
  | t :: r, η => M.bind (t η) fun d => match d with | .bl true => eAll r η | .bl false => M.pure (.bl false) | _ => M.fail
def eAny : List EM → En → M D
  | [], _ => M.fail
  | [t], η => t η
  | t :: r, η => M.bind (t η) fun d => match d with | .bl false => eAny r η | .bl true => M.pure (.bl true) | _ => M.fail

abbrev Nx := Store → Nat → Option (Option D)
def seqAt (d : D) : Nx := fun S i => match d with
  | .tup xs => some xs[i]?
  | .lst xs => some xs[i]?
  | .frz xs => some xs[i]?
  | .obj n => (match S[n]? with | some (.lst xs) => some xs[i]? | _ => none)
  | _ => none
def lenAt (S : Store) : D → Nat
  | .tup xs => xs.length
  | .lst xs => xs.length
  | .frz xs => xs.length
  | .obj n => (match S[n]? with | some (.lst xs) => xs.length | _ => 0)
  | _ => 0
inductive Src where
  | items (xs : List D) | seq (d : D) | enum (d : D) | zip (a b : D)
def Src.nx : Src → Nx
  | .items xs => fun _ i => some xs[i]?
  | .seq d => seqAt d
  | .enum d => fun S i => match seqAt d S i with
    | some (some x) => some (some (.tup [.int (i : Nat), x]))
    | some none => some none
    | none => none
  | .zip a b => fun S i => match seqAt a S i, seqAt b S i with
    | some (some x), some (some y) => some (some (.tup [x, y]))
    | some none, some _ => some none
    | some (some _), some none => some none
    | _, _ => none
def Src.fuel (S : Store) : Src → Nat
  | .items xs => xs.length + 1
  | .seq d => lenAt S d + 1
  | .enum d => lenAt S d + 1
  | .zip a b => min (lenAt S a) (lenAt S b) + 1
def forLoop (nx : Nx) (body : D → SM) : Nat → Nat → SM
  | 0, _, _, _ => none
  | f + 1, i, η, S => match nx S i with
    | none => none
    | some none => some (.nx η, S)
    | some (some d) => match body d η S with
      | some (.nx η', S') => forLoop nx body f (i + 1) η' S'
      | some (.ct η', S') => forLoop nx body f (i + 1) η' S'
      | some (.bk η', S') => some (.nx η', S')
      | o => o
def compLoop (nx : Nx) (turn : D → M (Option D)) : Nat → Nat → List D → M (List D)
  | 0, _, _, _ => none
  | f + 1, i, acc, S => match nx S i with
    | none => none
    | some none => some (.v acc, S)
    | some (some d) => match turn d S with
      | some (.v (some y), S') => if acc.length < sizeLine then compLoop nx turn f (i + 1) (acc ++ [y]) S' else none
      | some (.v none, S') => compLoop nx turn f (i + 1) acc S'
      | _ => none
def whileLoop (c : En → M Bool) (body : SM) : Nat → SM
  | 0, _, _ => none
  | f + 1, η, S => match c η S with
    | some (.v true, S1) => (match body η S1 with
      | some (.nx η', S') => whileLoop c body f η' S'
      | some (.ct η', S') => whileLoop c body f η' S'
      | some (.bk η', S') => some (.nx η', S')
      | o => o)
    | some (.v false, S1) => some (.nx η, S1)
    | some (.ex x, S1) => some (.ex x η, S1)
    | none => none
def whileF : Nat := 100000

def isTy (T : Str) : D → Store → Option Bool
  | .non, _ => some false
  | .bl _, _ => some (T == "bool" || T == "int")
  | .int _, _ => some (T == "int")
  | .str _, _ => some (T == "str")
  | .tup _, _ => some (T == "tuple")
  | .lst _, _ => some (T == "list")
  | .frz _, _ => some (T == "list")
  | .obj n, S => (match S[n]? with | some (.lst _) => some (T == "list") | some (.dct _) => some (T == "dict") | _ => none)
  | _, _ => none
def tyNames : List Str := ["bool", "int", "str", "tuple", "list", "dict"]
def asInt : D → Option Int
  | .int i => some i
  | _ => none
def asBool : D → Option Bool
  | .bl b => some b
  | _ => none
def asStr : D → Option Str
  | .str x => some x
  | _ => none
def intsOf (xs : List D) : Option (List Int) := xs.mapM asInt
def boolsOf (xs : List D) : Option (List Bool) := xs.mapM asBool
def strsOf (xs : List D) : Option (List Str) := xs.mapM asStr
def charsOf (x : Str) : List D := x.cps.toList.map fun c => D.str ⟨#[c]⟩
def insI (a : Int) : List Int → List Int
  | [] => [a]
  | b :: r => if a ≤ b then a :: b :: r else b :: insI a r
def sortI : List Int → List Int
  | [] => []
  | a :: r => insI a (sortI r)
def bLen : D → M D
  | .str x => if x.length ≤ sizeLine then M.pure (.int (x.length : Nat)) else M.fail
  | .dct kvs => M.pure (.int (kvs.length : Nat))
  | .obj n => M.bind (getO n) fun o => match o with
    | .lst xs => M.pure (.int (xs.length : Nat))
    | .dct kvs => M.pure (.int (kvs.length : Nat))
    | _ => M.fail
  | d => M.bind (seqOf d) fun xs => M.pure (.int (xs.length : Nat))
def bStr : D → M D
  | .str x => M.pure (.str x)
  | .int i => if i.natAbs.log2 < 1920 then M.pure (.str (Str.ofString (toString i))) else M.fail
  | _ => M.fail
def bInt : D → M D
  | .int i => M.pure (.int i)
  | .bl b => M.pure (.int (if b = true then 1 else 0))
  | _ => M.fail
def bAbs : D → M D
  | .int i => M.pure (.int (i.natAbs : Nat))
  | _ => M.fail
def isBox : D → Bool
  | .tup _ => true
  | .lst _ => true
  | .obj _ => true
  | _ => false
def bRepr (d : D) : M D := if isBox d = true then M.bind (pyOf d) fun p => if (p.showable && !p.hasDict && decide (p.depth ≤ 64) && decide (p.shown.length ≤ sizeLine)) = true then M.pure (.str p.shown) else M.fail else M.fail
def bTuple : D → M D
  | .tup xs => M.pure (.tup xs)
  | d => M.bind (lstOf d) fun xs => M.pure (.tup xs)
def bSum (d : D) : M D := M.bind (seqOf d) fun xs => match intsOf xs with | some is => M.pure (.int is.sum) | none => M.fail
def bAllOf (d : D) : M D := M.bind (lstOf d) fun xs => match boolsOf xs with | some bs => M.pure (.bl (bs.all id)) | none => M.fail
def on1 (g : D → M D) : List D → M D
  | [d] => g d
  | _ => M.fail
def on2 (g : D → D → M D) : List D → M D
  | [a, b] => g a b
  | _ => M.fail
def bListA (st : Bool) (d : D) : M D := match d with
  | .str z => if z.length ≤ sizeLine then mkL st (charsOf z) else M.fail
  | d => M.bind (seqOf d) fun xs => mkL st xs
def bSorted (st : Bool) (d : D) : M D := M.bind (lstOf d) fun xs => (match intsOf xs with | some is => mkL st ((sortI is).map D.int) | none => M.fail)
def bMax : D → D → M D
  | .int i, .int j => M.pure (.int (max i j))
  | _, _ => M.fail
def bMin : D → D → M D
  | .int i, .int j => M.pure (.int (min i j))
  | _, _ => M.fail
def maxI (i : Int) (is : List Int) : Int := is.foldl max i
def minI (i : Int) (is : List Int) : Int := is.foldl min i
def bMaxL (d : D) : M D := M.bind (lstOf d) fun xs => (match intsOf xs with | some (i :: is) => M.pure (.int (maxI i is)) | _ => M.fail)
def bMinL (d : D) : M D := M.bind (lstOf d) fun xs => (match intsOf xs with | some (i :: is) => M.pure (.int (minI i is)) | _ => M.fail)
def on12 (g : D → M D) (g2 : D → D → M D) : List D → M D
  | [d] => g d
  | [a, b] => g2 a b
  | _ => M.fail
def pairK (p : D × D) : Option (DK × D) := match keyOf p.1 with
  | some (.inl k) => some (.inl k, p.2)
  | _ => none
def mergeD (kvs : List (DK × D)) : List (DK × D) := kvs.foldl (fun acc kv => dPut acc kv.1 kv.2) []
def newDisp (st : Bool) (ps : List (D × D)) : M D := match ps.mapM pairK with
  | some kvs => mkD st (mergeD kvs)
  | none => M.fail
def pairT : D → Option (D × D)
  | .tup [a, b] => some (a, b)
  | _ => none
def bDict (st : Bool) (d : D) : M D := M.bind (lstOf d) fun xs => match xs.mapM pairT with | some ps => newDisp st ps | none => M.fail
def pairsD (xs ys : List D) : List D := (xs.zip ys).map fun p => .tup [p.1, p.2]
/-- list(zip(..)) -/
def listZ (st : Bool) : List D → M D
  | [.tup xs, .tup ys] => mkL st (pairsD xs ys)
  | [d, e] => M.bind (lstOf d) fun xs => M.bind (lstOf e) fun ys => mkL st (pairsD xs ys)
  | _ => M.fail
def callB (st : Bool) (f : Str) : List D → M D :=
  if f == "len" then on1 bLen else if f == "abs" then on1 bAbs else if f == "int" then on1 bInt else if f == "str" then on1 bStr else if f == "repr" then on1 bRepr
  else if f == "list" then on1 (bListA st) else if f == "tuple" then on1 bTuple else if f == "sum" then on1 bSum else if f == "all" then on1 bAllOf
  else if f == "sorted" then on1 (bSorted st) else if f == "max" then on12 bMaxL bMax else if f == "min" then on12 bMinL bMin
  else if f == "dict" then on1 (bDict st)
  else fun _ => M.fail
def bltNames : List Str := ["len", "abs", "int", "str", "repr", "list", "tuple", "sum", "all", "sorted", "max", "min", "dict"]
/-- methods of built-in kinds -/
def bTag (S : Store) : D → Option String
  | .str _ => some "str"
  | .lst _ => some "list"
  | .dct _ => some "dict"
  | .obj n => (match S[n]? with | some (.lst _) => some "list" | some (.dct _) => some "dict" | _ => none)
  | _ => none
def mAppend (o : D) : List D → M D
  | [a] => (match o with
    | .obj n => M.bind (getO n) fun ob => (match ob with | .lst xs => (if xs.length < sizeLine then M.bind (setO n (.lst (xs ++ [a]))) fun _ => M.pure .non else M.fail) | _ => M.fail)
    | _ => M.fail)
  | _ => M.fail
def mJoin (o : D) : List D → M D
  | [a] => (match o with
    | .str sep => M.bind (lstOf a) fun xs => (match strsOf xs with
      | some ys => if (ys.map (·.length)).sum + ys.length * sep.length ≤ 16777216 then M.pure (.str (Txt.join sep ys)) else M.fail
      | none => M.fail)
    | _ => M.fail)
  | _ => M.fail
def mPopD (o : D) : List D → M D
  | [a] => (match o with
    | .obj n => M.bind (getO n) fun ob => (match ob with
      | .dct kvs => (match keyOf a with
        | some (.inl k) => (if dFit kvs (.inl k) = true then (match dGet kvs (.inl k) with | some v => M.bind (setO n (.dct (dDrop kvs (.inl k)))) fun _ => M.pure v | none => M.fail) else M.fail)
        | _ => M.fail)
      | _ => M.fail)
    | _ => M.fail)
  | _ => M.fail
def mGet (o : D) : List D → M D
  | [a, b] => (match o with
    | .dct kvs => M.bind (dLookV kvs a) fun r => M.pure (r.getD b)
    | .obj n => M.bind (getO n) fun ob => (match ob with
      | .dct kvs => M.bind (dLook kvs a) fun r => M.pure (r.getD b)
      | _ => M.fail)
    | _ => M.fail)
  | _ => M.fail
def methF (t : String) (m : Str) : Option (D → List D → M D) :=
  if (t == "list" && m == "append") = true then some mAppend
  else if (t == "str" && m == "join") = true then some mJoin
  else if (t == "dict" && m == "get") = true then some mGet
  else if (t == "dict" && m == "pop") = true then some mPopD
  else none

section
variable (T : Tab) (c : Str → List D → M D) (E : Evs)
def evName (Γ : Sc) (x : Str) : EM := match Γ.slot x with
  | some i => fun η => M.of (match η[i]? with | some (some d) => some d | _ => none)
  | none => if Γ.glb x = true then (match T.glob.lookup x with
    | some d => fun _ => M.pure d
    | none => if T.top.contains x = true then fun _ => M.pure (.fn x) else fun _ => M.fail) else fun _ => M.fail
def notStar : Expr → Bool
  | .Starred _ _ => false
  | _ => true
def evArgs (Γ : Sc) (es : List Expr) : En → M (List D) := if es.all notStar = true then eList (es.map (E.e Γ)) else fun _ => M.fail
def make (C : Str) (ds : List D) : M D := match T.meth C "__init__" with
  | some key => M.bind (alloc (.ins C [])) fun o => M.bind (c key (o :: ds)) fun r => match r with | .non => M.pure o | _ => M.fail
  | none => M.fail
/-- list(zip(a, b)), as it is written -/
def zipIn (T : Tab) (Γ : Sc) (f : Str) (args : List Expr) : Option (Expr × Expr) := match args with
  | [.Call (.Name g _) [a, b] [] _] => if (f == "list" && g == "zip" && Γ.glb g && T.free.contains g) = true then some (a, b) else none
  | _ => none
/-- a call by a global name -/
def evCallG (Γ : Sc) (f : Str) (args : List Expr) (pos : Pos) : EM :=
  if T.top.contains f = true then fun η => M.bind (evArgs E Γ args η) fun ds => c f ds
  else if (T.meth f "__init__").isSome = true then fun η => M.bind (evArgs E Γ args η) fun ds => make T c f ds
  else if T.free.contains f = true then
    if f == "isinstance" then (match args with
      | [a, .Name ty _] => if (Γ.glb ty && T.free.contains ty && tyNames.contains ty && notStar a) = true then fun η => M.bind (E.e Γ a η) fun d => fun S => (match isTy ty d S with | some r => some (.v (.bl r), S) | none => none) else fun _ => M.fail
      | _ => fun _ => M.fail)
    else (match zipIn T Γ f args with
      | some (a, b) => fun η => M.bind (evArgs E Γ [a, b] η) (listZ (T.at_ pos))
      | none => if bltNames.contains f = true then fun η => M.bind (evArgs E Γ args η) fun ds => callB (T.at_ pos) f ds else fun _ => M.fail)
  else fun _ => M.fail
/-- what is before a dot: not super() -/
def notSup : Expr → Bool
  | .Call (.Name _ _) [] [] _ => false
  | _ => true
/-- a method's call -/
def evMethB (Γ : Sc) (m : Str) (args : List Expr) (η : En) (d : D) : M D := fun S => match bTag S d with
  | some t => (match methF t m with
    | some f => M.bind (evArgs E Γ args η) (fun ds => f d ds) S
    | none => none)
  | none => none
def evMeth1 (Γ : Sc) (m : Str) (args : List Expr) (η : En) : D → M D
  | .obj n => fun S => (match S[n]? with
    | some (.ins C fs) => (match T.meth C m with
      | some key => if (fs.lookup m).isNone = true then M.bind (evArgs E Γ args η) (fun ds => c key (.obj n :: ds)) S else none
      | none => none)
    | _ => evMethB E Γ m args η (.obj n) S)
  | d => evMethB E Γ m args η d
def evMeth (Γ : Sc) (o : Expr) (m : Str) (args : List Expr) (apos pos : Pos) : EM :=
  if (notSup o && (apos.endLine == pos.line) && decide (args.length < 30) && args.all notStar) = true then
    fun η => M.bind (E.e Γ o η) (evMeth1 T c E Γ m args η)
  else fun _ => M.fail
def optI (Γ : Sc) : Option Expr → En → M (Option Int)
  | none, _ => M.pure none
  | some e, η => M.bind (E.e Γ e η) fun d => match d with | .int i => M.pure (some i) | _ => M.fail
def rangeI (lo st : Int) (n : Nat) : Src := .items ((List.range n).map fun i => D.int (lo + (i : Nat) * st))
def rangeOf (lo hi : Int) : M Src := if (decide (-(2 ^ 62) ≤ lo) && decide (lo < 2 ^ 62) && decide (-(2 ^ 62) ≤ hi) && decide (hi < 2 ^ 62)) = true then M.pure (rangeI lo 1 (hi - lo).toNat) else M.fail
def rangeBy (lo hi st : Int) : M Src := if (decide (st ≠ 0) && decide (st.natAbs < 1073741824) && Builtin.Range.small lo hi st) = true then M.pure (rangeI lo st (Builtin.Range.rangeSize lo hi st).toNat) else M.fail
def srcOf (d : D) : M Src := match d with
  | .str x => M.pure (.items (charsOf x))
  | .tup _ => M.pure (.seq d)
  | .lst _ => M.pure (.seq d)
  | .frz _ => M.pure (.seq d)
  | .obj n => M.bind (getO n) fun o => match o with | .lst _ => M.pure (.seq d) | _ => M.fail
  | _ => M.fail
/-- may be counted, paired: a list; two lists or two tuples -/
def isLst : D → M Unit
  | .lst _ => M.pure ()
  | .frz _ => M.pure ()
  | .obj n => M.bind (getO n) fun o => match o with | .lst _ => M.pure () | _ => M.fail
  | _ => M.fail
def isZip (a b : D) : M Unit := match a, b with
  | .tup _, .tup _ => M.pure ()
  | a, b => M.bind (isLst a) fun _ => isLst b
def rangeArgs : List D → M Src
  | [.int hi] => rangeOf 0 hi
  | [.int lo, .int hi] => rangeOf lo hi
  | [.int lo, .int hi, .int st] => rangeBy lo hi st
  | _ => M.fail
def enumArgs : List D → M Src
  | [d] => M.bind (isLst d) fun _ => M.pure (.enum d)
  | _ => M.fail
def zipArgs : List D → M Src
  | [d, e] => M.bind (isZip d e) fun _ => M.pure (.zip d e)
  | _ => M.fail
def isTup : Expr → Bool
  | .Tuple _ _ _ => true
  | _ => false
inductive Walk where
  | range (args : List Expr) | enum (a : Expr) | zip (a b : Expr) | plain
/-- what is to be walked, as it is written -/
def walkOf (Γ : Sc) (tg it : Expr) : Walk := match it with
  | .Call (.Name f _) args [] _ =>
    if (Γ.glb f && T.free.contains f) = true then
      (if f == "range" then .range args
      else if (f == "enumerate" && isTup tg) = true then (match args with | [a] => .enum a | _ => .plain)
      else if (f == "zip" && isTup tg) = true then (match args with | [a, b] => .zip a b | _ => .plain)
      else .plain)
    else .plain
  | _ => .plain
def evSrc (Γ : Sc) (tg it : Expr) : En → M Src := match walkOf T Γ tg it with
  | .range args => if decide (0 < args.length ∧ args.length ≤ 3) = true then fun η => M.bind (evArgs E Γ args η) rangeArgs else fun _ => M.fail
  | .enum a => fun η => M.bind (evArgs E Γ [a] η) enumArgs
  | .zip a b => fun η => M.bind (evArgs E Γ [a, b] η) zipArgs
  | .plain => fun η => M.bind (E.e Γ it η) srcOf
def notSet : Expr → Bool
  | .Set _ _ _ => false
  | _ => true
/-- stores from the right -/
def swNames (kind : Str → Option NameKind) (ts : List Expr) : List Str := ts.filterMap fun
  | .Name id pos => if (kind id == some .local && pos.line == (ts.head?.map (·.pos.line)).getD 0) = true then some id else none
  | _ => none
def swapNames (Γ : Sc) (tg e : Expr) : Option (Option (List Str)) := match tg, e with
  | .Tuple ts _ _, .Tuple vs _ _ =>
    if (!(ts.length == 2 || ts.length == 3) || vs.length != ts.length) = true then some none
    else if (vs.all notStar) = false then none
    else if ((swNames Γ.kindOf ts).length != ts.length || (swNames Γ.kindOf ts).eraseDups.length != (swNames Γ.kindOf ts).length) = true then some none
    else if vs.all (foldedForSure 8) = true then some none
    else if vs.all (constantsAlone 8) = true then none
    else some (some (swNames Γ.kindOf ts))
  | .List _ _, _ => none
  | _, _ => some none
def isComp : Expr → Bool
  | .ListComp _ _ _ _ => true
  | .SetComp _ _ _ _ => true
  | .DictComp _ _ _ _ _ => true
  | _ => false
def setAll : List Nat → List D → En → En
  | i :: is, d :: ds, η => setAll is ds (η.set i (some d))
  | _, _, η => η
/-- a comprehension's target: names alone -/
inductive Tgt where
  | nm (i : Nat) | tp (is : List Nat)
def nameSlot (Γ : Sc) : Expr → Option Nat
  | .Name x _ => Γ.put x
  | _ => none
def tgOf (Γ : Sc) : Expr → Option Tgt
  | .Name x _ => (Γ.put x).map .nm
  | .Tuple es _ _ => (es.mapM (nameSlot Γ)).map .tp
  | _ => none
def Tgt.all (p : Nat → Bool) : Tgt → Bool
  | .nm i => p i
  | .tp is => is.all p
def Tgt.set : Tgt → D → En → M En
  | .nm i, d, η => M.pure (η.set i (some d))
  | .tp is, d, η => M.bind (seqOf d) fun xs => if xs.length = is.length then M.pure (setAll is xs η) else M.fail
def evIfs (Γ : Sc) : List Expr → En → M Bool
  | [], _ => M.pure true
  | [t], η => E.t Γ t η
  | _, _ => M.fail
def compTurn (Γ' : Sc) (tg : Tgt) (own : List Nat) (elt : Expr) (ifs : List Expr) (η : En) (d : D) : M (Option D) :=
  M.bind (tg.set d (wipeE η own)) fun η' => M.bind (evIfs E Γ' ifs η') fun b => if b = true then M.bind (E.e Γ' elt η') fun y => M.pure (some y) else M.pure none
def newLst (st : Bool) (ys : List D) : M D := if st = true then alloc (.lst ys) else M.pure (.lst ys)
def evComp (Γ : Sc) (st : Bool) (elt tg it : Expr) (ifs : List Expr) (scope : Scope) : EM :=
  match tgOf (Γ.inner scope) tg with
  | some t =>
    if (notSet it && blkC Γ.N Γ.sc scope (ownSlots Γ.N scope) && decide (ifs.length ≤ 1) && t.all fun i => ((ownSlots Γ.N scope).map (·.2)).contains i) = true then
      fun η => M.bind (evSrc T E Γ tg it η) fun src => M.bind (fun S => compLoop src.nx (compTurn E (Γ.inner scope) t ((ownSlots Γ.N scope).map (·.2)) elt ifs η) (src.fuel S) 0 [] S) (newLst st)
    else fun _ => M.fail
  | none => fun _ => M.fail
/-- the pairs of a display; of a comprehension -/
def ePairs (Γ : Sc) : List (Option Expr) → List Expr → En → M (List (D × D))
  | [], [], _ => M.pure []
  | some k :: ks, v :: vs, η => M.bind (M.calm (E.e Γ k η)) fun a => M.bind (M.calm (E.e Γ v η)) fun b => M.bind (ePairs Γ ks vs η) fun r => M.pure ((a, b) :: r)
  | _, _, _ => M.fail
def dcLoop (nx : Nx) (turn : D → M (Option (D × D))) : Nat → Nat → List (DK × D) → M (List (DK × D))
  | 0, _, _, _ => none
  | f + 1, i, acc, S => match nx S i with
    | none => none
    | some none => some (.v acc, S)
    | some (some d) => match turn d S with
      | some (.v (some p), S') => (match pairK p with
        | some kv => if acc.length < sizeLine then dcLoop nx turn f (i + 1) (dPut acc kv.1 kv.2) S' else none
        | none => none)
      | some (.v none, S') => dcLoop nx turn f (i + 1) acc S'
      | _ => none
def dcTurn (Γ' : Sc) (tg : Tgt) (own : List Nat) (kx vx : Expr) (ifs : List Expr) (η : En) (d : D) : M (Option (D × D)) :=
  M.bind (tg.set d (wipeE η own)) fun η' => M.bind (evIfs E Γ' ifs η') fun b => if b = true then M.bind (E.e Γ' kx η') fun y => M.bind (E.e Γ' vx η') fun z => M.pure (some (y, z)) else M.pure none
def evDComp (Γ : Sc) (st : Bool) (kx vx tg it : Expr) (ifs : List Expr) (scope : Scope) : EM :=
  match tgOf (Γ.inner scope) tg with
  | some t =>
    if (notSet it && blkC Γ.N Γ.sc scope (ownSlots Γ.N scope) && decide (ifs.length ≤ 1) && t.all fun i => ((ownSlots Γ.N scope).map (·.2)).contains i) = true then
      fun η => M.bind (evSrc T E Γ tg it η) fun src => M.bind (fun S => dcLoop src.nx (dcTurn E (Γ.inner scope) t ((ownSlots Γ.N scope).map (·.2)) kx vx ifs η) (src.fuel S) 0 [] S) (mkD st)
    else fun _ => M.fail
  | none => fun _ => M.fail
def constD : Const → Option D
  | .none => some .non
  | .bool b => some (.bl b)
  | .int i => some (.int i)
  | .str x => some (.str x)
  | _ => none

def stepE (Γ : Sc) : Expr → EM
  | .Constant k _ _ => fun _ => M.of (constD k)
  | .Name x _ => if (x == ("__debug__" : Str) || x == ("__classdict__" : Str)) = true then fun _ => M.fail else evName T Γ x
  | .BinOp a op b pos => fun η => M.bind (E.e Γ a η) fun x => M.bind (E.e Γ b η) fun y => dBin (T.at_ pos) op x y
  | .UnaryOp .USub a _ => fun η => M.bind (E.e Γ a η) dNeg
  | .UnaryOp .Not a _ => fun η => M.bind (E.e Γ a η) fun x => (match x with | .bl b => M.pure (.bl (!b)) | _ => M.fail)
  | .BoolOp .And vs _ => eAll (vs.map (E.e Γ))
  | .BoolOp .Or vs _ => eAny (vs.map (E.e Γ))
  | .IfExp t a b _ => fun η => M.bind (E.t Γ t η) fun k => if k = true then E.e Γ a η else E.e Γ b η
  | .Compare a [op] [b] _ => if behindInMarks op b = false then fun η => M.bind (E.e Γ a η) fun x => M.bind (E.e Γ b η) fun y => M.bind (dCmp op x y) fun k => M.pure (.bl k) else fun _ => M.fail
  | .Compare a [op, op'] [b, b'] _ => if lastMarks [op, op'] [b, b'] = false then fun η => M.bind (E.e Γ a η) fun x => M.bind (E.e Γ b η) fun y => M.bind (dCmp op x y) fun k =>
      if k = true then M.bind (E.e Γ b' η) fun z => M.bind (dCmp op' y z) fun k' => M.pure (.bl k') else M.pure (.bl false)
      else fun _ => M.fail
  | .Tuple es _ _ => fun η => M.bind (evArgs E Γ es η) mkT
  | .List es pos => fun η => M.bind (evArgs E Γ es η) (mkL (T.at_ pos))
  | .Dict [] [] pos => fun _ => mkD (T.at_ pos) []
  | .Dict ks vs pos => if (ks.all (·.isSome) && ks.length == vs.length && decide (ks.length ≤ 15) && !ks.isEmpty) = true then fun η => M.bind (ePairs E Γ ks vs η) (newDisp (T.at_ pos)) else fun _ => M.fail
  | .Subscript a (.Slice lo hi none _) pos => fun η => M.bind (E.e Γ a η) fun x => M.bind (optI E Γ lo η) fun l => M.bind (optI E Γ hi η) fun h => dCut (T.at_ pos) x l h
  | .Subscript _ (.Slice _ _ _ _) _ => fun _ => M.fail
  | .Subscript a b _ => fun η => M.bind (E.e Γ a η) fun x => M.bind (E.e Γ b η) fun y => dIx x y
  | .Attribute a f _ => if notSup a = true then fun η => M.bind (E.e Γ a η) fun x => (match x with
      | .obj n => M.bind (getO n) fun o => (match o with | .ins C fs => (if T.attr C f = true then M.of (fs.lookup f) else M.fail) | _ => M.fail)
      | _ => M.fail)
      else fun _ => M.fail
  | .ListComp elt [⟨tg, it, ifs, 0⟩] scope pos => evComp T E Γ (T.at_ pos) elt tg it ifs scope
  | .DictComp kx vx [⟨tg, it, ifs, 0⟩] scope pos => evDComp T E Γ (T.at_ pos) kx vx tg it ifs scope
  | .Call (.Name f _) args [] pos => if (Γ.glb f && !(f == ("__debug__" : Str)) && !(f == ("__name__" : Str))) = true then evCallG T c E Γ f args pos else fun _ => M.fail
  | .Call (.Attribute o m apos) args [] pos => evMeth T c E Γ o m args apos pos
  | _ => fun _ => M.fail
/-- tests -/
def stepT (Γ : Sc) : Expr → En → M Bool
  | .UnaryOp .Not a _ => fun η => M.bind (E.t Γ a η) fun b => M.pure (!b)
  | .BoolOp .And vs _ => tAll (vs.map (E.t Γ))
  | .BoolOp .Or vs _ => tAny (vs.map (E.t Γ))
  | .IfExp t a b _ => fun η => M.bind (E.t Γ t η) fun k => if k = true then E.t Γ a η else E.t Γ b η
  | .Compare a [op] [b] _ => if behindInMarks op b = false then fun η => M.bind (E.e Γ a η) fun x => M.bind (E.e Γ b η) fun y => dCmp op x y else fun _ => M.fail
  | .Compare a [op, op'] [b, b'] _ => if lastMarks [op, op'] [b, b'] = false then fun η => M.bind (E.e Γ a η) fun x => M.bind (E.e Γ b η) fun y => M.bind (dCmp op x y) fun k =>
      if k = true then M.bind (E.e Γ b' η) fun z => dCmp op' y z else M.pure false
      else fun _ => M.fail
  | .Compare _ _ _ _ => fun _ => M.fail
  | e => fun η => M.bind (stepE T c E Γ e η) tru
/-- targets -/
def stepG (Γ : Sc) : Expr → D → En → M En
  | .Name x _ => (match Γ.put x with | some i => fun d η => M.pure (η.set i (some d)) | none => fun _ _ => M.fail)
  | .Tuple es _ _ => if es.all notStar = true then fun d η => M.bind (seqOf d) fun xs => gList (es.map (E.g Γ)) xs η else fun _ _ => M.fail
  | .Subscript o i _ => (match i with
      | .Slice _ _ _ _ => fun _ _ => M.fail
      | _ => fun d η => M.bind (M.calm (E.e Γ o η)) fun x => M.bind (M.calm (E.e Γ i η)) fun y => M.bind (dSet x y d) fun _ => M.pure η)
  | .Attribute o f _ => fun d η => M.bind (M.calm (E.e Γ o η)) fun x => (match x with
      | .obj n => M.bind (getO n) fun ob => (match ob with
        | .ins C fs => if (decide (fs.length ≤ 200) && T.attr C f) = true then M.bind (setO n (.ins C (fPut f d fs))) fun _ => M.pure η else M.fail
        | _ => M.fail)
      | _ => M.fail)
  | _ => fun _ _ => M.fail
def liftS {α : Type} (m : M α) (η : En) (k : α → Store → Option (Out × Store)) : Store → Option (Out × Store) := fun S => match m S with
  | some (.v a, S1) => k a S1
  | some (.ex x, S1) => some (.ex x η, S1)
  | none => none
def tupOf : D → M (List D)
  | .tup xs => M.pure xs
  | _ => M.fail
/-- name = [.. for ..] -/
def asgComp (Γ : Sc) (m : EM) (tg : Expr) : SM := match tg with
  | .Name y _ => (match Γ.put y with
    | some i => fun η => liftS (m η) η fun d S => some (.nx (η.set i (some d)), S)
    | none => fun _ _ => none)
  | _ => if notStar tg = true then fun η => liftS (m η) η fun d => liftS (E.g Γ tg d η) η fun η' S => some (.nx η', S) else fun _ _ => none
/-- o.f = {.. for ..} -/
def isName : Expr → Bool
  | .Name _ _ => true
  | _ => false
def asgDComp (Γ : Sc) (m : EM) (tg : Expr) : SM := if (notStar tg && !isName tg) = true then fun η => liftS (m η) η fun d => liftS (E.g Γ tg d η) η fun η' S => some (.nx η', S) else fun _ _ => none
def stepAsg (Γ : Sc) (tg e : Expr) : SM := match e with
  | .ListComp elt [⟨tg', it, ifs, 0⟩] scope p => asgComp E Γ (evComp T E Γ (T.at_ p) elt tg' it ifs scope) tg
  | .DictComp kx vx [⟨tg', it, ifs, 0⟩] scope p => asgDComp E Γ (evDComp T E Γ (T.at_ p) kx vx tg' it ifs scope) tg
  | e => if isComp e = true then fun _ _ => none else (match swapNames Γ tg e with
    | some none => if notStar tg = true then fun η => liftS (E.e Γ e η) η fun d => liftS (E.g Γ tg d η) η fun η' S => some (.nx η', S) else fun _ _ => none
    | some (some names) => (match names.reverse.mapM Γ.put with
      | some is => fun η => liftS (E.e Γ e η) η fun d => liftS (tupOf d) η fun xs S => if xs.length = is.length then some (.nx (setAll is xs.reverse η), S) else none
      | none => fun _ _ => none)
    | none => fun _ _ => none)
def stepS (Γ : Sc) : Stmt → SM
  | .Expr e _ => if isComp e = true then fun _ _ => none else fun η => liftS (E.e Γ e η) η fun _ S => some (.nx η, S)
  | .Return (some e) _ => fun η => liftS (E.e Γ e η) η fun d S => some (.rt d, S)
  | .Return none _ => fun _ S => some (.rt .non, S)
  | .Pass _ => fun η S => some (.nx η, S)
  | .Break _ => fun η S => some (.bk η, S)
  | .Continue _ => fun η S => some (.ct η, S)
  | .If t a b _ => fun η => liftS (E.t Γ t η) η fun k S => if k = true then sBlock (a.map (E.s Γ)) η S else sBlock (b.map (E.s Γ)) η S
  | .Assign [tg] e _ => stepAsg T E Γ tg e
  | .For tg it body [] _ => if notSet it = false then fun _ _ => none else fun η => liftS (evSrc T E Γ tg it η) η fun src S =>
      forLoop src.nx (fun d η => liftS (E.g Γ tg d η) η fun η' => sBlock (body.map (E.s Γ)) η') (src.fuel S) 0 η S
  | .While t body [] _ => whileLoop (E.t Γ t) (sBlock (body.map (E.s Γ))) whileF
  | _ => fun _ _ => none
end
def ev (T : Tab) (c : Str → List D → M D) : Nat → Evs
  | 0 => ⟨fun _ _ _ => M.fail, fun _ _ _ => M.fail, fun _ _ _ _ => M.fail, fun _ _ _ _ => none⟩
  | n + 1 => ⟨stepE T c (ev T c n), stepT T c (ev T c n), stepG T (ev T c n), stepS T (ev T c n)⟩
def syn : Nat := 40
def startE (N : List Str) (ds : List D) : En := ds.map some ++ List.replicate (N.length - ds.length) none
def Fn.Γ (F : Fn) : Sc := ⟨F.N, defScope F.st, (defScope F.st).names⟩
def callAt (T : Tab) : Nat → Str → List D → M D
  | 0, _, _ => M.fail
  | k + 1, f, ds => match T.fn f with
    | none => M.fail
    | some F => if ds.length = F.ps.length then fun S => (match sBlock ((defBody F.st).map ((ev T (callAt T k) syn).s F.Γ)) (startE F.N ds) S with
        | some (.nx _, S') => some (.v .non, S')
        | some (.rt d, S') => some (.v d, S')
        | some (.ex x _, S') => some (.ex x, S')
        | _ => none) else M.fail
end DL
end

section
namespace DL
open PySem L2

/-- a list, a tuple read by value: tracked outside the store's places -/
def ValL (K : PySem.W.Frag) (ρ : List Addr) (H : Hp) (a : Addr) (xs : List V) : Prop := H a = some (.lst xs) ∧ a ∉ ρ
def ValT (K : PySem.W.Frag) (ρ : List Addr) (H : Hp) (a : Addr) (xs : List V) : Prop := H a = some (.tup xs) ∧ a ∉ ρ
theorem ValL.sq {K : PySem.W.Frag} {ρ : List Addr} {H : Hp} {a : Addr} {xs : List V} (h : ValL K ρ H a xs) : SqL K H a xs := .inl (.inl h.1)
theorem ValT.sq {K : PySem.W.Frag} {ρ : List Addr} {H : Hp} {a : Addr} {xs : List V} (h : ValT K ρ H a xs) : SqT K H a xs := .inl (.inl h.1)
/-- a dict by value: a tracked one outside the store's places -/
def ValK (ρ : List Addr) (H : Hp) (a : Addr) (kvs : List (Key × V)) : Prop := Rd H a (.dK kvs) ∧ a ∉ ρ

/-- where the text's functions and classes stand -/
structure Gm where
  K : PySem.W.Frag
  mg : Str → Option Value
  gl : List (V × D) := []

mutual
def Rep (G : Gm) (ρ : List Addr) (H : Hp) : D → V → Prop
  | .non, v => v = .non
  | .bl b, v => v = .bl b
  | .int i, v => v = .int i
  | .str x, v => v = .str x
  | .tup ds, v => ∃ a xs, v = .ref a ∧ ValT G.K ρ H a xs ∧ RepL G ρ H ds xs
  | .lst ds, v => ∃ a xs, v = .ref a ∧ ValL G.K ρ H a xs ∧ RepL G ρ H ds xs
  | .dct kvs, v => ∃ a ks, v = .ref a ∧ ValK ρ H a ks ∧ RepK G ρ H kvs ks
  | .frz ds, v => ∃ a xs, v = .ref a ∧ (Rd H a (.lst xs) ∧ a ∉ ρ) ∧ RepL G ρ H ds xs
  | .obj n, v => ∃ a, ρ[n]? = some a ∧ v = .ref a
  | .fn x, v => ∃ a, G.mg x = some (.ref a) ∧ v = .ref a
def RepL (G : Gm) (ρ : List Addr) (H : Hp) : List D → List V → Prop
  | [], vs => vs = []
  | d :: ds, vs => ∃ v r, vs = v :: r ∧ Rep G ρ H d v ∧ RepL G ρ H ds r
def RepK (G : Gm) (ρ : List Addr) (H : Hp) : List (DK × D) → List (Key × V) → Prop
  | [], vs => vs = []
  | (k, d) :: ds, vs => ∃ q v r, k = .inl q ∧ vs = (q, v) :: r ∧ Rep G ρ H d v ∧ RepK G ρ H ds r
def RepT (G : Gm) (ρ : List Addr) (H : Hp) : List (DK × D) → List (List Key × V) → Prop
  | [], vs => vs = []
  | (k, d) :: ds, vs => ∃ q v r, k = .inr q ∧ vs = (q, v) :: r ∧ Rep G ρ H d v ∧ RepT G ρ H ds r
end
def RepF (G : Gm) (ρ : List Addr) (H : Hp) : List (Str × D) → List (Str × V) → Prop
  | [], vs => vs = []
  | (k, d) :: ds, vs => ∃ v r, vs = (k, v) :: r ∧ Rep G ρ H d v ∧ RepF G ρ H ds r
def RepO (G : Gm) (ρ : List Addr) (H : Hp) (a : Addr) : Ob → Prop
  | .lst ds => ∃ xs, H a = some (.lst xs) ∧ RepL G ρ H ds xs
  | .dct kvs => (∃ ks, H a = some (.dK ks) ∧ RepK G ρ H kvs ks) ∨ ∃ ks, H a = some (.dT ks) ∧ RepT G ρ H kvs ks
  | .ins c fs => ∃ C dx xs, H a = some (.ins C dx xs) ∧ G.mg c = some (.ref C) ∧ RepF G ρ H fs xs
structure Rel (G : Gm) (ρ : List Addr) (H : Hp) (S : Store) : Prop where
  len : ρ.length = S.length
  nd : ρ.Nodup
  ob : ∀ (n : Nat) (o : Ob) (a : Addr), S[n]? = some o → ρ[n]? = some a → RepO G ρ H a o
  gl : ∀ p ∈ G.gl, Rep G ρ H p.2 p.1
/-- later -/
structure Le (ρ : List Addr) (H : Hp) (ρ' : List Addr) (H' : Hp) : Prop where
  pre : ∃ t, ρ' = ρ ++ t
  new : ∀ a, a ∈ ρ' → a ∉ ρ → H a = none
  fr : ∀ a o, a ∉ ρ → H a = some o → H' a = some o

variable {G : Gm} {ρ ρ' ρ1 ρ2 : List Addr} {H H' H1 H2 : Hp} {S : Store}
theorem Le.refl : Le ρ H ρ H := ⟨⟨[], by simp⟩, fun a h n => absurd h n, fun _ _ _ h => h⟩
theorem Le.trans (h : Le ρ H ρ1 H1) (k : Le ρ1 H1 ρ2 H2) : Le ρ H ρ2 H2 := by
  obtain ⟨⟨t, rfl⟩, n1, f1⟩ := h
  obtain ⟨⟨u, rfl⟩, n2, f2⟩ := k
  have frK : ∀ a o, a ∉ ρ → H a = some o → a ∉ ρ ++ t := fun a o hn e hm => by
    have := n1 a hm hn
    rw [this] at e; cases e
  refine ⟨⟨t ++ u, by simp⟩, fun a ha hn => ?_, fun a o hn e => f2 a o (frK a o hn e) (f1 a o hn e)⟩
  by_cases hb : a ∈ ρ ++ t
  · exact n1 a hb hn
  · have e := n2 a ha hb
    cases q : H a with
    | none => rfl
    | some o =>
      have := f1 a o hn q
      rw [this] at e; cases e
theorem Le.notin (h : Le ρ H ρ' H') {a : Addr} {o : HO} (hn : a ∉ ρ) (e : H a = some o) : a ∉ ρ' := fun hm => by
  have := h.new a hm hn
  rw [this] at e; cases e
theorem Le.rd (h : Le ρ H ρ' H') {a : Addr} {u : HO} (r : Rd H a u) (hn : a ∉ ρ) : Rd H' a u ∧ a ∉ ρ' := by
  rcases r with r | ⟨o, r⟩
  · exact ⟨.inl (h.fr a _ hn r), h.notin hn r⟩
  · exact ⟨.inr ⟨o, h.fr a _ hn r⟩, h.notin hn r⟩
theorem Le.at_ (h : Le ρ H ρ' H') {n : Nat} {a : Addr} (e : ρ[n]? = some a) : ρ'[n]? = some a := by
  obtain ⟨t, rfl⟩ := h.pre
  rw [List.getElem?_append_left (List.getElem?_eq_some_iff.mp e).1]; exact e
mutual
theorem Rep.le (h : Le ρ H ρ' H') : ∀ (d : D) {v : V}, Rep G ρ H d v → Rep G ρ' H' d v
  | .non, _, r => by unfold Rep at r ⊢; exact r
  | .bl _, _, r => by unfold Rep at r ⊢; exact r
  | .int _, _, r => by unfold Rep at r ⊢; exact r
  | .str _, _, r => by unfold Rep at r ⊢; exact r
  | .tup ds, _, r => by
    unfold Rep at r ⊢
    obtain ⟨a, xs, e, q, l⟩ := r
    exact ⟨a, xs, e, ⟨h.fr a _ q.2 q.1, h.notin q.2 q.1⟩, RepL.le h ds l⟩
  | .lst ds, _, r => by
    unfold Rep at r ⊢
    obtain ⟨a, xs, e, q, l⟩ := r
    exact ⟨a, xs, e, ⟨h.fr a _ q.2 q.1, h.notin q.2 q.1⟩, RepL.le h ds l⟩
  | .frz ds, _, r => by
    unfold Rep at r ⊢
    obtain ⟨a, xs, e, q, l⟩ := r
    exact ⟨a, xs, e, h.rd q.1 q.2, RepL.le h ds l⟩
  | .dct kvs, _, r => by
    unfold Rep at r ⊢
    obtain ⟨a, ks, e, ⟨q1, q2⟩, l⟩ := r
    exact ⟨a, ks, e, h.rd q1 q2, RepK.le h kvs l⟩
  | .obj n, _, r => by
    unfold Rep at r ⊢
    obtain ⟨a, e, q⟩ := r
    exact ⟨a, h.at_ e, q⟩
  | .fn x, _, r => by unfold Rep at r ⊢; exact r
theorem RepL.le (h : Le ρ H ρ' H') : ∀ (ds : List D) {vs : List V}, RepL G ρ H ds vs → RepL G ρ' H' ds vs
  | [], _, r => by unfold RepL at r ⊢; exact r
  | d :: ds, _, r => by
    unfold RepL at r ⊢
    obtain ⟨v, q, e, r1, r2⟩ := r
    exact ⟨v, q, e, Rep.le h d r1, RepL.le h ds r2⟩
theorem RepK.le (h : Le ρ H ρ' H') : ∀ (ds : List (DK × D)) {vs : List (Key × V)}, RepK G ρ H ds vs → RepK G ρ' H' ds vs
  | [], _, r => by unfold RepK at r ⊢; exact r
  | (k, d) :: ds, _, r => by
    unfold RepK at r ⊢
    obtain ⟨q, v, r', e, e2, r1, r2⟩ := r
    exact ⟨q, v, r', e, e2, Rep.le h d r1, RepK.le h ds r2⟩
theorem RepT.le (h : Le ρ H ρ' H') : ∀ (ds : List (DK × D)) {vs : List (List Key × V)}, RepT G ρ H ds vs → RepT G ρ' H' ds vs
  | [], _, r => by unfold RepT at r ⊢; exact r
  | (k, d) :: ds, _, r => by
    unfold RepT at r ⊢
    obtain ⟨q, v, r', e, e2, r1, r2⟩ := r
    exact ⟨q, v, r', e, e2, Rep.le h d r1, RepT.le h ds r2⟩
end
theorem RepF.le (h : Le ρ H ρ' H') : ∀ (ds : List (Str × D)) {vs : List (Str × V)}, RepF G ρ H ds vs → RepF G ρ' H' ds vs
  | [], _, r => by unfold RepF at r ⊢; exact r
  | (k, d) :: ds, _, r => by
    unfold RepF at r ⊢
    obtain ⟨v, r', e, r1, r2⟩ := r
    exact ⟨v, r', e, Rep.le h d r1, RepF.le h ds r2⟩
theorem RepL.length : ∀ {ds : List D} {vs : List V}, RepL G ρ H ds vs → vs.length = ds.length
  | [], _, r => by unfold RepL at r; rw [r]; rfl
  | d :: ds, _, r => by
    unfold RepL at r
    obtain ⟨v, q, rfl, _, r2⟩ := r
    simp [RepL.length r2]
theorem RepL.get : ∀ {ds : List D} {vs : List V} {i : Nat} {d : D}, RepL G ρ H ds vs → ds[i]? = some d → ∃ v, vs[i]? = some v ∧ Rep G ρ H d v
  | [], _, _, _, _, e => by simp at e
  | d :: ds, _, i, d', r, e => by
    unfold RepL at r
    obtain ⟨v, q, rfl, r1, r2⟩ := r
    cases i with
    | zero => simp at e; subst e; exact ⟨v, rfl, r1⟩
    | succ i => simpa using RepL.get r2 (by simpa using e)
theorem RepL.nil : RepL G ρ H [] [] := by unfold RepL; rfl
theorem RepL.cons {d : D} {v : V} {ds : List D} {vs : List V} (r : Rep G ρ H d v) (q : RepL G ρ H ds vs) : RepL G ρ H (d :: ds) (v :: vs) := by
  unfold RepL; exact ⟨v, vs, rfl, r, q⟩
theorem RepL.append : ∀ {ds es : List D} {vs ws : List V}, RepL G ρ H ds vs → RepL G ρ H es ws → RepL G ρ H (ds ++ es) (vs ++ ws)
  | [], _, _, _, r, q => by unfold RepL at r; subst r; exact q
  | d :: ds, _, _, _, r, q => by
    unfold RepL at r
    obtain ⟨v, w, rfl, r1, r2⟩ := r
    exact .cons r1 (RepL.append r2 q)
theorem RepL.take : ∀ {ds : List D} {vs : List V} (n : Nat), RepL G ρ H ds vs → RepL G ρ H (ds.take n) (vs.take n)
  | [], _, n, r => by unfold RepL at r; subst r; simp; exact .nil
  | d :: ds, _, 0, r => by simp; exact .nil
  | d :: ds, _, n + 1, r => by
    unfold RepL at r
    obtain ⟨v, w, rfl, r1, r2⟩ := r
    exact .cons r1 (RepL.take n r2)
theorem RepL.drop : ∀ {ds : List D} {vs : List V} (n : Nat), RepL G ρ H ds vs → RepL G ρ H (ds.drop n) (vs.drop n)
  | [], _, n, r => by unfold RepL at r; subst r; simp; exact .nil
  | d :: ds, _, 0, r => by simpa using r
  | d :: ds, _, n + 1, r => by
    unfold RepL at r
    obtain ⟨v, w, rfl, r1, r2⟩ := r
    simpa using RepL.drop n r2
theorem RepL.set : ∀ {ds : List D} {vs : List V} (i : Nat) {d : D} {v : V}, RepL G ρ H ds vs → Rep G ρ H d v → RepL G ρ H (ds.set i d) (vs.set i v)
  | [], _, i, _, _, r, _ => by unfold RepL at r; subst r; simp; exact .nil
  | x :: ds, _, 0, _, _, r, q => by
    unfold RepL at r
    obtain ⟨v, w, rfl, r1, r2⟩ := r
    exact .cons q r2
  | x :: ds, _, i + 1, _, _, r, q => by
    unfold RepL at r
    obtain ⟨v, w, rfl, r1, r2⟩ := r
    exact .cons r1 (RepL.set i r2 q)
theorem RepL.repl {ds : List D} {vs : List V} (r : RepL G ρ H ds vs) : ∀ n : Nat, RepL G ρ H (List.replicate n ds).flatten (List.replicate n vs).flatten
  | 0 => by simp; exact .nil
  | n + 1 => by simp only [List.replicate_succ, List.flatten_cons]; exact r.append (RepL.repl r n)
theorem RepL.cut {ds : List D} {vs : List V} (r : RepL G ρ H ds vs) (lo hi : Option Int) : RepL G ρ H (cutD ds lo hi) (cutV vs lo hi) := by
  unfold cutD cutV
  rw [r.length]
  exact (r.drop _).take _
theorem RepL.at_ {ds : List D} {vs : List V} {i : Int} {d : D} (r : RepL G ρ H ds vs) (e : atI ds i = some d) : ∃ v, atI vs i = some v ∧ Rep G ρ H d v := by
  unfold atI at e ⊢
  rw [r.length]
  cases q : ixN ds.length i with
  | none => rw [q] at e; simp at e
  | some j =>
    rw [q] at e
    simp only [Option.bind_some] at e ⊢
    exact r.get e
theorem Rel.get (R : Rel G ρ H S) {n : Nat} {o : Ob} (e : S[n]? = some o) : ∃ a, ρ[n]? = some a ∧ RepO G ρ H a o := by
  have hl : n < ρ.length := by rw [R.len]; exact (List.getElem?_eq_some_iff.mp e).1
  exact ⟨ρ[n], List.getElem?_eq_getElem hl, R.ob n o _ e (List.getElem?_eq_getElem hl)⟩
theorem Rel.there (R : Rel G ρ H S) {a : Addr} (h : a ∈ ρ) : ∃ o, H a = some o ∧ Mut (some o) := by
  obtain ⟨n, hn, e⟩ := List.getElem_of_mem h
  have hs : n < S.length := by rw [← R.len]; exact hn
  have q := R.ob n S[n] a (List.getElem?_eq_getElem hs) (by rw [List.getElem?_eq_getElem hn, e])
  cases h : S[n] with
  | lst ds => rw [h] at q; obtain ⟨xs, e, _⟩ := q; exact ⟨_, e, trivial⟩
  | dct kvs =>
    rw [h] at q
    rcases q with ⟨xs, e, _⟩ | ⟨xs, e, _⟩
    · exact ⟨_, e, trivial⟩
    · exact ⟨_, e, trivial⟩
  | ins c fs => rw [h] at q; obtain ⟨C, dx, xs, e, _⟩ := q; exact ⟨_, e, trivial⟩
theorem Rel.fresh (R : Rel G ρ H S) {a : Addr} (h : H a = none) : a ∉ ρ := fun hm => by
  obtain ⟨o, e, _⟩ := R.there hm
  rw [e] at h; cases h
theorem RepO.le (h : Le ρ H ρ' H') {a : Addr} {o : Ob} (hk : ∀ u, H a = some u → H' a = some u) (r : RepO G ρ H a o) : RepO G ρ' H' a o := by
  cases o with
  | lst ds => obtain ⟨xs, e, l⟩ := r; exact ⟨xs, hk _ e, RepL.le h ds l⟩
  | dct kvs =>
    rcases r with ⟨xs, e, l⟩ | ⟨xs, e, l⟩
    · exact .inl ⟨xs, hk _ e, RepK.le h kvs l⟩
    · exact .inr ⟨xs, hk _ e, RepT.le h kvs l⟩
  | ins c fs => obtain ⟨C, dx, xs, e, g, l⟩ := r; exact ⟨C, dx, xs, hk _ e, g, RepF.le h fs l⟩
/-- something new stands outside the store -/
theorem Rel.out (R : Rel G ρ H S) {p : Addr} {o : HO} (np : H p = none) : Rel G ρ (upd H p o) S ∧ Le ρ H ρ (upd H p o) := by
  have L : Le ρ H ρ (upd H p o) := ⟨⟨[], by simp⟩, fun a h n => absurd h n, fun a u _ e => by rw [upd_ne (ne_of_none e np)]; exact e⟩
  exact ⟨⟨R.len, R.nd, fun n ob a e1 e2 => (R.ob n ob a e1 e2).le L fun u e => by rw [upd_ne (ne_of_none e np)]; exact e, fun p hp => Rep.le L _ (R.gl p hp)⟩, L⟩
/-- something new is laid into the store -/
theorem Rel.alloc (R : Rel G ρ H S) {p : Addr} {o : HO} {ob : Ob} (np : H p = none) (h : ∀ ρ' H', Le ρ H ρ' H' → H' p = some o → RepO G ρ' H' p ob) :
    Rel G (ρ ++ [p]) (upd H p o) (S ++ [ob]) ∧ Le ρ H (ρ ++ [p]) (upd H p o) ∧ (ρ ++ [p])[S.length]? = some p := by
  have L : Le ρ H (ρ ++ [p]) (upd H p o) := by
    refine ⟨⟨[p], rfl⟩, fun a h n => ?_, fun a u _ e => by rw [upd_ne (ne_of_none e np)]; exact e⟩
    rcases List.mem_append.mp h with q | q
    · exact absurd q n
    · rw [List.mem_singleton.mp q]; exact np
  have last : (ρ ++ [p])[S.length]? = some p := by rw [← R.len]; simp
  refine ⟨⟨by simp [R.len], ?_, fun n o' a e1 e2 => ?_, fun p hp => Rep.le L _ (R.gl p hp)⟩, L, last⟩
  · exact List.nodup_append.mpr ⟨R.nd, by simp, fun a ha b hb => by
      rw [List.mem_singleton.mp hb]
      rintro rfl
      exact R.fresh np ha⟩
  · by_cases hn : n < S.length
    · rw [List.getElem?_append_left hn] at e1
      rw [List.getElem?_append_left (by rw [R.len]; exact hn)] at e2
      exact (R.ob n o' a e1 e2).le L fun u e => by rw [upd_ne (ne_of_none e np)]; exact e
    · have hn' : n = S.length := by
        have := (List.getElem?_eq_some_iff.mp e1).1
        simp at this; omega
      subst hn'
      rw [last] at e2; cases e2
      have : o' = ob := by simpa using e1.symm
      subst this
      exact h _ _ L upd_same
/-- an object of the store is written -/
theorem Rel.write (R : Rel G ρ H S) {n : Nat} {a : Addr} {o : HO} {ob ob' : Ob} (e1 : S[n]? = some ob) (e2 : ρ[n]? = some a) (h : ∀ H', Le ρ H ρ H' → H' a = some o → RepO G ρ H' a ob') :
    Rel G ρ (upd H a o) (S.set n ob') ∧ Le ρ H ρ (upd H a o) := by
  have ha : a ∈ ρ := List.mem_of_getElem? e2
  have L : Le ρ H ρ (upd H a o) := ⟨⟨[], by simp⟩, fun a h n => absurd h n, fun b u hb e => by rw [upd_ne (by rintro rfl; exact hb ha)]; exact e⟩
  refine ⟨⟨by simp [R.len], R.nd, fun m o' b e3 e4 => ?_, fun p hp => Rep.le L _ (R.gl p hp)⟩, L⟩
  by_cases hm : m = n
  · subst hm
    rw [e2] at e4; cases e4
    rw [List.getElem?_set_self (List.getElem?_eq_some_iff.mp e1).1] at e3
    cases e3
    exact h _ L upd_same
  · rw [List.getElem?_set_ne (Ne.symm hm)] at e3
    have hb : b ≠ a := by
      rintro rfl
      obtain ⟨l1, q1⟩ := List.getElem?_eq_some_iff.mp e2
      obtain ⟨l2, q2⟩ := List.getElem?_eq_some_iff.mp e4
      exact hm ((List.getElem_inj R.nd).mp (q2.trans q1.symm))
    exact (R.ob m o' b e3 e4).le L fun u e => by rw [upd_ne hb]; exact e
structure RepE (G : Gm) (ρ : List Addr) (H : Hp) (η : En) (σ : St) : Prop where
  len : η.length = σ.length
  at_ : ∀ (i : Nat) (d : D), η[i]? = some (some d) → ∃ v, σ[i]? = some (some v) ∧ Rep G ρ H d v
theorem RepE.le {η : En} {σ : St} (h : Le ρ H ρ' H') (r : RepE G ρ H η σ) : RepE G ρ' H' η σ := ⟨r.len, fun i d e => by
  obtain ⟨v, e1, e2⟩ := r.at_ i d e
  exact ⟨v, e1, Rep.le h d e2⟩⟩
theorem RepE.set {η : En} {σ : St} {d : D} {v : V} (r : RepE G ρ H η σ) (i : Nat) (q : Rep G ρ H d v) : RepE G ρ H (η.set i (some d)) (σ.set i (some v)) := by
  refine ⟨by simp [r.len], fun j d' e => ?_⟩
  by_cases hj : j = i
  · subst hj
    have hl : j < η.length := by
      have := (List.getElem?_eq_some_iff.mp e).1
      simpa using this
    rw [List.getElem?_set_self hl] at e
    cases e
    exact ⟨v, by rw [List.getElem?_set_self (by rw [← r.len]; exact hl)], q⟩
  · rw [List.getElem?_set_ne (Ne.symm hj)] at e
    rw [List.getElem?_set_ne (Ne.symm hj)]
    exact r.at_ j d' e
theorem RepE.del {η : En} {σ : St} (r : RepE G ρ H η σ) (i : Nat) : RepE G ρ H (η.set i none) (σ.set i none) := by
  refine ⟨by simp [r.len], fun j d' e => ?_⟩
  by_cases hj : j = i
  · subst hj
    have hl : j < η.length := by
      have := (List.getElem?_eq_some_iff.mp e).1
      simpa using this
    rw [List.getElem?_set_self hl] at e
    cases e
  · rw [List.getElem?_set_ne (Ne.symm hj)] at e
    rw [List.getElem?_set_ne (Ne.symm hj)]
    exact r.at_ j d' e
theorem RepE.wipe {η : En} {σ : St} (r : RepE G ρ H η σ) : ∀ vs : List Nat, RepE G ρ H (wipeE η vs) (wipe σ vs)
  | [] => r
  | v :: vs => by unfold wipeE L2.wipe; exact (RepE.wipe r vs).del v
theorem RepE.start {ds : List D} {vs : List V} (N : List Str) (r : RepL G ρ H ds vs) : RepE G ρ H (startE N ds) (L2.start N vs) := by
  unfold startE L2.start
  refine ⟨by simp [r.length], fun i d e => ?_⟩
  by_cases hi : i < ds.length
  · rw [List.getElem?_append_left (by simpa using hi)] at e
    rw [List.getElem?_append_left (by simpa [r.length] using hi)]
    rw [List.getElem?_map] at e
    cases q : ds[i]? with
    | none => rw [q] at e; simp at e
    | some d' =>
      rw [q] at e
      simp at e
      subst e
      obtain ⟨v, e1, e2⟩ := r.get q
      exact ⟨v, by rw [List.getElem?_map, e1]; rfl, e2⟩
  · rw [List.getElem?_append_right (by simpa using hi)] at e
    rw [List.getElem?_replicate] at e
    split at e <;> simp at e
end DL
end

section
namespace DL
open PySem L2 PySem.Spec PyProof.Rows

/-- what m gives, later -/
def RunV (G : Gm) {α β : Type} (rel : List Addr → Hp → α → β → Prop) (m : M α) (ρ : List Addr) (H : Hp) (S : Store) (Q : β → Hp → Prop) : Prop :=
  ∃ a S', m S = some (.v a, S') ∧ ∀ ρ' H' b, Le ρ H ρ' H' → Rel G ρ' H' S' → rel ρ' H' a b → Q b H'
theorem RunV.fin {G : Gm} {α β : Type} {rel : List Addr → Hp → α → β → Prop} {m : M α} {ρ : List Addr} {H : Hp} {S : Store} {Q : β → Hp → Prop} {a : α} {b : β} (h : RunV G rel m ρ H S Q) (R : Rel G ρ H S)
    (e : m S = some (.v a, S)) (r : rel ρ H a b) : Q b H := by
  obtain ⟨a', S', e', q⟩ := h
  rw [e] at e'
  cases e'
  exact q ρ H b Le.refl R r
theorem fail_no {α : Type} {S : Store} {a : α} {S' : Store} : ¬ (M.fail (α := α)) S = some (.v a, S') := fun h => by cases h
theorem bind_v {α β : Type} {m : M α} {f : α → M β} {S S' : Store} {b : β} (h : M.bind m f S = some (.v b, S')) : ∃ a S1, m S = some (.v a, S1) ∧ f a S1 = some (.v b, S') := by
  unfold M.bind at h
  split at h
  · exact ⟨_, _, by assumption, h⟩
  · cases h
  · cases h
theorem bind_eq {α β : Type} {m : M α} {f : α → M β} {S S1 : Store} {a : α} (h : m S = some (.v a, S1)) : M.bind m f S = f a S1 := by
  unfold M.bind; rw [h]
theorem pure_v {α : Type} {a b : α} {S S' : Store} (h : M.pure a S = some (.v b, S')) : a = b ∧ S = S' := by
  unfold M.pure at h; cases h; exact ⟨rfl, rfl⟩
theorem of_v {α : Type} {o : Option α} {b : α} {S S' : Store} (h : M.of o S = some (.v b, S')) : o = some b ∧ S = S' := by
  unfold M.of at h; split at h <;> cases h; exact ⟨rfl, rfl⟩
theorem getO_v {n : Nat} {o : Ob} {S S' : Store} (h : getO n S = some (.v o, S')) : S[n]? = some o ∧ S' = S := by
  unfold getO at h; split at h <;> cases h; exact ⟨by assumption, rfl⟩
theorem setO_v {n : Nat} {o : Ob} {S S' : Store} {u : Unit} (h : setO n o S = some (.v u, S')) : n < S.length ∧ S' = S.set n o := by
  unfold setO at h; split at h
  · cases h; exact ⟨by assumption, rfl⟩
  · cases h
theorem alloc_v {o : Ob} {d : D} {S S' : Store} (h : alloc o S = some (.v d, S')) : d = .obj S.length ∧ S' = S ++ [o] := by
  unfold alloc at h; cases h; exact ⟨rfl, rfl⟩

section
variable {G : Gm} {ρ : List Addr} {H : Hp} {S S' : Store}
/-- a list as it stands: by value or in the store -/
theorem lstOf_sq {d : D} {v : V} {xs : List D} (R : Rel G ρ H S) (r : Rep G ρ H d v) (h : lstOf d S = some (.v xs, S')) : S' = S ∧ ∃ a ys, v = .ref a ∧ SqL G.K H a ys ∧ RepL G ρ H xs ys := by
  cases d <;> unfold lstOf at h <;> try exact absurd h fail_no
  case lst ds =>
    obtain ⟨rfl, rfl⟩ := pure_v h
    unfold Rep at r
    obtain ⟨a, ys, e, q, l⟩ := r
    exact ⟨rfl, a, ys, e, q.sq, l⟩
  case frz ds =>
    obtain ⟨rfl, rfl⟩ := pure_v h
    unfold Rep at r
    obtain ⟨a, ys, e, q, l⟩ := r
    exact ⟨rfl, a, ys, e, .inl q.1, l⟩
  case obj n =>
    obtain ⟨o, S1, h1, h2⟩ := bind_v h
    obtain ⟨e1, rfl⟩ := getO_v h1
    cases o <;> try exact absurd h2 fail_no
    case lst ds =>
      obtain ⟨rfl, rfl⟩ := pure_v h2
      obtain ⟨a, ea, ys, eo, l⟩ := R.get e1
      unfold Rep at r
      obtain ⟨a', e', rfl⟩ := r
      rw [ea] at e'
      cases e'
      exact ⟨rfl, a, ys, rfl, SqL.of eo, l⟩
theorem seqOf_sq {d : D} {v : V} {xs : List D} (R : Rel G ρ H S) (r : Rep G ρ H d v) (h : seqOf d S = some (.v xs, S')) : S' = S ∧ ∃ a ys, v = .ref a ∧ (SqL G.K H a ys ∨ SqT G.K H a ys) ∧ RepL G ρ H xs ys := by
  cases d
  case tup ds =>
    obtain ⟨rfl, rfl⟩ := pure_v (show M.pure ds S = _ from h)
    unfold Rep at r
    obtain ⟨a, ys, e, q, l⟩ := r
    exact ⟨rfl, a, ys, e, .inr q.sq, l⟩
  all_goals
    obtain ⟨e, a, ys, e1, e2, e3⟩ := lstOf_sq R r (show lstOf _ S = _ from h)
    exact ⟨e, a, ys, e1, .inl e2, e3⟩
/-- a new list, kept by value or in the store -/
theorem newL {st : Bool} {xs : List D} {ys : List V} {Q : VK} (R : Rel G ρ H S) (l : RepL G ρ H xs ys) (h : RunV G (Rep G) (if st = true then alloc (.lst xs) else M.pure (.lst xs)) ρ H S Q) : ∀ p, H p = none → Q (.ref p) (upd H p (.lst ys)) := by
  intro p np
  obtain ⟨d, S', e, q⟩ := h
  cases st with
  | true =>
    rw [if_pos rfl] at e
    obtain ⟨rfl, rfl⟩ := alloc_v e
    obtain ⟨R', L, ep⟩ := R.alloc (ob := .lst xs) (o := .lst ys) np fun ρ' H' L e => ⟨ys, e, RepL.le L xs l⟩
    exact q _ _ _ L R' (by unfold Rep; exact ⟨p, ep, rfl⟩)
  | false =>
    rw [if_neg Bool.false_ne_true] at e
    obtain ⟨rfl, rfl⟩ := pure_v e
    obtain ⟨R', L⟩ := R.out (o := .lst ys) np
    exact q _ _ _ L R' (by unfold Rep; exact ⟨p, ys, rfl, ⟨upd_same, R.fresh np⟩, RepL.le L xs l⟩)
theorem mkL_new {st : Bool} {xs : List D} {ys : List V} {Q : VK} (R : Rel G ρ H S) (l : RepL G ρ H xs ys) (h : RunV G (Rep G) (mkL st xs) ρ H S Q) : ys.length ≤ sizeLine ∧ ∀ p, H p = none → Q (.ref p) (upd H p (.lst ys)) := by
  unfold mkL at h
  by_cases hz : xs.length ≤ sizeLine
  · rw [if_pos hz] at h
    exact ⟨by rw [l.length]; exact hz, newL R l h⟩
  · rw [if_neg hz] at h
    obtain ⟨_, _, e, _⟩ := h
    exact absurd e fail_no
theorem mkT_new {xs : List D} {ys : List V} {Q : VK} (R : Rel G ρ H S) (l : RepL G ρ H xs ys) (h : RunV G (Rep G) (mkT xs) ρ H S Q) : ys.length ≤ sizeLine ∧ ∀ p, H p = none → Q (.ref p) (upd H p (.tup ys)) := by
  unfold mkT at h
  by_cases hz : xs.length ≤ sizeLine
  · rw [if_pos hz] at h
    refine ⟨by rw [l.length]; exact hz, fun p np => ?_⟩
    obtain ⟨d, S', e, q⟩ := h
    obtain ⟨rfl, rfl⟩ := pure_v e
    obtain ⟨R', L⟩ := R.out (o := .tup ys) np
    exact q _ _ _ L R' (by unfold Rep; exact ⟨p, ys, rfl, ⟨upd_same, R.fresh np⟩, RepL.le L xs l⟩)
  · rw [if_neg hz] at h
    obtain ⟨_, _, e, _⟩ := h
    exact absurd e fail_no
theorem mkS_str {x : Str} {Q : VK} (R : Rel G ρ H S) (h : RunV G (Rep G) (mkS x) ρ H S Q) : x.length ≤ sizeLine ∧ Q (.str x) H := by
  unfold mkS at h
  by_cases hz : x.length ≤ sizeLine
  · rw [if_pos hz] at h
    exact ⟨hz, h.fin R rfl (by unfold Rep; rfl)⟩
  · rw [if_neg hz] at h
    obtain ⟨_, _, e, _⟩ := h
    exact absurd e fail_no
theorem rep_int {i : Int} {v : V} (r : Rep G ρ H (.int i) v) : v = .int i := by unfold Rep at r; exact r
theorem rep_str {i : Str} {v : V} (r : Rep G ρ H (.str i) v) : v = .str i := by unfold Rep at r; exact r
theorem rep_bl {i : Bool} {v : V} (r : Rep G ρ H (.bl i) v) : v = .bl i := by unfold Rep at r; exact r
theorem rep_non {v : V} (r : Rep G ρ H .non v) : v = .non := by unfold Rep at r; exact r
theorem rep_of_int {i : Int} : Rep G ρ H (.int i) (.int i) := by unfold Rep; rfl
theorem rep_of_str {i : Str} : Rep G ρ H (.str i) (.str i) := by unfold Rep; rfl
theorem rep_of_bl {i : Bool} : Rep G ρ H (.bl i) (.bl i) := by unfold Rep; rfl
theorem rep_of_non : Rep G ρ H .non .non := by unfold Rep; rfl
theorem run_fail {α β : Type} {rel : List Addr → Hp → α → β → Prop} {Q : β → Hp → Prop} {p : Prop} (h : RunV G rel M.fail ρ H S Q) : p := by
  obtain ⟨_, _, e, _⟩ := h
  exact absurd e fail_no
theorem run_bind {α γ β : Type} {rel : List Addr → Hp → γ → β → Prop} {m : M α} {f : α → M γ} {Q : β → Hp → Prop} (h : RunV G rel (M.bind m f) ρ H S Q) : ∃ a S1, m S = some (.v a, S1) ∧ RunV G rel (f a) ρ H S1 Q := by
  obtain ⟨b, S', e, q⟩ := h
  obtain ⟨a, S1, e1, e2⟩ := bind_v e
  exact ⟨a, S1, e1, b, S', e2, q⟩
end

mutual
theorem toPy_dp {G : Gm} {ρ : List Addr} {H : Hp} {S : Store} (R : Rel G ρ H S) : ∀ (n : Nat) (d : D) (v : V) (p : PyData), Rep G ρ H d v → toPy S n d = some p → Dp G.K H v p
  | n, .non, v, p, r, h => by
    cases n <;> (unfold toPy at h; cases h; rw [rep_non r]; exact .non)
  | n, .bl b, v, p, r, h => by
    cases n <;> (unfold toPy at h; cases h; rw [rep_bl r]; exact .bl b)
  | n, .int i, v, p, r, h => by
    cases n <;> (unfold toPy at h; cases h; rw [rep_int r]; exact .int i)
  | n, .str x, v, p, r, h => by
    cases n <;> (unfold toPy at h; cases h; rw [rep_str r]; exact .str x)
  | 0, .tup ds, v, p, r, h => by unfold toPy at h; cases h
  | 0, .lst ds, v, p, r, h => by unfold toPy at h; cases h
  | 0, .obj k, v, p, r, h => by unfold toPy at h; cases h
  | n, .frz ds, v, p, r, h => by cases n <;> (unfold toPy at h; cases h)
  | n, .dct kvs, v, p, r, h => by cases n <;> (unfold toPy at h; cases h)
  | n, .fn x, v, p, r, h => by cases n <;> (unfold toPy at h; cases h)
  | n + 1, .tup ds, v, p, r, h => by
    unfold toPy at h
    cases e : ds.mapM (toPy S n) with
    | none => rw [e] at h; cases h
    | some ps =>
      rw [e] at h
      cases h
      unfold Rep at r
      obtain ⟨a, xs, rfl, q, l⟩ := r
      exact .tup q.sq (toPy_dps R n ds xs ps l e)
  | n + 1, .lst ds, v, p, r, h => by
    unfold toPy at h
    cases e : ds.mapM (toPy S n) with
    | none => rw [e] at h; cases h
    | some ps =>
      rw [e] at h
      cases h
      unfold Rep at r
      obtain ⟨a, xs, rfl, q, l⟩ := r
      exact .lst q.sq (toPy_dps R n ds xs ps l e)
  | n + 1, .obj k, v, p, r, h => by
    unfold toPy at h
    split at h
    · rename_i ds e1
      cases e : ds.mapM (toPy S n) with
      | none => rw [e] at h; cases h
      | some ps =>
        rw [e] at h
        cases h
        obtain ⟨a, ea, ys, eo, l⟩ := R.get e1
        unfold Rep at r
        obtain ⟨a', e', rfl⟩ := r
        rw [ea] at e'
        cases e'
        exact .lst (SqL.of eo) (toPy_dps R n ds ys ps l e)
    · cases h
theorem toPy_dps {G : Gm} {ρ : List Addr} {H : Hp} {S : Store} (R : Rel G ρ H S) : ∀ (n : Nat) (ds : List D) (vs : List V) (ps : List PyData), RepL G ρ H ds vs → ds.mapM (toPy S n) = some ps → DpAll G.K H vs ps
  | n, [], vs, ps, r, h => by
    unfold RepL at r
    subst r
    simp at h
    subst h
    exact .nil
  | n, d :: ds, vs, ps, r, h => by
    unfold RepL at r
    obtain ⟨v, w, rfl, r1, r2⟩ := r
    rw [List.mapM_cons] at h
    cases e1 : toPy S n d with
    | none => rw [e1] at h; cases h
    | some p =>
      cases e2 : ds.mapM (toPy S n) with
      | none => rw [e1, e2] at h; cases h
      | some qs =>
        rw [e1, e2] at h
        cases h
        exact .cons (toPy_dp R n d v p r1 e1) (toPy_dps R n ds w qs r2 e2)
end
theorem pyOf_v {d : D} {p : PyData} {S S' : Store} (h : pyOf d S = some (.v p, S')) : toPy S depthF d = some p ∧ S' = S := by
  unfold pyOf at h; split at h <;> cases h; exact ⟨by assumption, rfl⟩
end DL
end

section
namespace DL
open PySem PySem.Spec PyProof.Rows L2
section
variable {prog : Program} {w : World} {A : Around} {E : Value → Shared → Prop} {s : Shared}
/-- a new list takes a text's signs -/
theorem ext_txt {R : PySem.Result → Shared → Prop} (calm : A.handled = none) (x : Str) (t : Tok) (L : Addr) (v : Value) (c₀ : Nat) (hL : s.heap.get? L = some { cls := .type "list", data := .seq #[] c₀ }) (fits : x.cps.size ≤ sizeLine)
    (hR : ∀ s' acc c', (∀ b o, b ≠ L → s.heap.get? b = some o → s'.heap.get? b = some o) → s'.gens = s.gens → s'.drawn = s.drawn → s'.os = s.os →
      s'.heap.get? L = some { cls := .type "list", dict := none, data := .seq acc c', slots := #[] } → ItemsOf (SignAt x) acc x.cps.size → R (.ok (.ret v)) s') :
    wpAny (model prog w) A.in1 (Builtin.List.listExtendWith (.ref L) (.str x t) v)
      (fun fin s' => match fin with
        | .done f => R (.ok f) s'
        | .again c' => c'.quiet = true ∧ codeAny (model prog w) A c' R s') (fun e s' => R (.error e) s') s := by
  unfold Builtin.List.listExtendWith
  refine wpAny_bind (wpAny_typeOf (T := "str") (v := .str x t) rfl ?_)
  have e1 : Builtin.List.listSameRef (.ref L) (.str x t) = false := rfl
  have e2 : (Value.type "str" == .type "list") = false := by decide
  have e3 : (Value.type "str" == .type "tuple") = false := by decide
  simp only [e1, e2, e3, Bool.or_false, Bool.false_eq_true, if_false]
  refine wpAny_bind (wpAny_pyIter_str fun it St walks st0 => wpAny_bind (wpAny_holding ?_))
  unfold Builtin.List.listLengthHint
  refine wpAny_bind (wpAny_specialOf (T := "str") (v := .str x t) rfl PySem.F.str_len ?_)
  wp_delta
  refine wpAny_bind (wpAny_isInstance (T := "str") (v := .str x t) (b := true) rfl (by rw [isSubtype_type] <;> kernel_rfl) ?_)
  show wpAny _ A.in1 (typeOf (Value.str x t) >>= _) _ _ _
  refine wpAny_bind (wpAny_typeOf (T := "str") (v := .str x t) rfl ?_)
  refine wpAny_pure ?_
  rw [if_neg (by decide)]
  have out : L ∉ [s.heap.objs.size] := fun hm => Nat.lt_irrefl _ (List.mem_singleton.mp hm ▸ Heap.lt_size hL)
  refine wpAny_pure ⟨plainId_quiet PySem.F.plain_extend_loop _, codeAny_extend_loopS (walks A.in1 calm).toS fits _ out _ _ 0 _ #[] _ rfl (Nat.zero_le _) st0 (Heap.get?_push_of_some _ hL) (ItemsOf.nil _) fun s' acc' c' mv hL' its => ?_⟩
  refine hR s' acc' c' (fun b o hb e => mv.heap b o (fun hm => ?_) (Heap.get?_push_of_some _ e)) mv.gens mv.drawn mv.os hL' its
  rcases List.mem_cons.mp hm with hm | hm
  · exact hb hm
  · exact Nat.lt_irrefl _ (List.mem_singleton.mp hm ▸ Heap.lt_size e)
/-- list(a text) -/
theorem call_list_txt {Q : Value → Shared → Prop} (calm : A.handled = none) (x : Str) (t : Tok) (fits : x.cps.size ≤ sizeLine)
    (hQ : ∀ s' acc c', (∀ b o, s.heap.get? b = some o → s'.heap.get? b = some o) → s'.gens = s.gens → s'.drawn = s.drawn → s'.os = s.os →
      s'.heap.get? s.heap.objs.size = some { cls := .type "list", dict := none, data := .seq acc c', slots := #[] } → ItemsOf (SignAt x) acc x.cps.size → Q (.ref s.heap.objs.size) s') :
    wpAny (model prog w) A (call (.type "list") [.str x t]) Q E s := by
  refine callType_codes (Q₁ := fun obj s₁ => obj = .ref s.heap.objs.size ∧ s₁ = { s with heap := s.heap.push { cls := .type "list", data := .seq #[] } }) PySem.F.called_list (PySem.F.typeCall_list_1 _) PySem.F.entry_list_init (code_list_new _ ⟨rfl, rfl⟩) ?_
  rintro _ _ ⟨rfl, rfl⟩
  have new : (s.heap.push { cls := .type "list", data := .seq #[] }).get? s.heap.objs.size = some { cls := .type "list", data := .seq #[] } := Heap.get?_push_size _ rfl
  refine ⟨⟨_, new, rfl⟩, PySem.F.args_list_init_2 _ _, ?_⟩
  generalize hL : s.heap.objs.size = L at *
  show wpAny _ A.in1.in1 (Builtin.List.listItems (.ref L) >>= fun old => Builtin.List.listUpdate (.ref L) (fun _ => #[]) >>= fun _ => letGo old.toList.reverse >>= fun _ => Builtin.List.listExtendWith (.ref L) (.str x t) .none) _ _ _
  refine wpAny_bind ?_
  unfold Builtin.List.listItems
  refine wpAny_bind (wpAny_seqItems new rfl (wpAny_pure ?_))
  show wpAny _ A.in1.in1 (updateSeq L (fun _ => #[]) >>= fun _ => letGo (#[] : Array Value).toList.reverse >>= fun _ => Builtin.List.listExtendWith (.ref L) (.str x t) .none) _ _ _
  refine wpAny_bind (wpAny_updateSeq new rfl (wpAny_bind (wpAny_letGo ?_)))
  refine ext_txt (A := A.in1) calm x t L .none _ (Heap.get?_update_self (Obj.mapSeq (fun _ => (#[] : Array Value))) new rfl) fits fun s' acc c' keep hg hd ho hL' its => ?_
  refine ⟨rfl, hQ s' acc c' (fun b o e => ?_) hg hd ho hL' its⟩
  have hb : b ≠ L := fun h => Nat.lt_irrefl _ (hL.symm ▸ h ▸ Heap.lt_size e)
  exact keep b o hb ((Heap.get?_update_other _ _ (Ne.symm hb)).trans (Heap.get?_push_of_some _ e))
end
def charsV (z : Str) : List V := z.cps.toList.map fun c => V.str ⟨#[c]⟩
theorem call_list_signs {X : Cx} (calm : X.calm = true) : CallR X (.type "list") (fun xs H Q => ∃ z, xs = [V.str z] ∧ z.length ≤ sizeLine ∧ ∀ p, H p = none → Q (.ref p) (upd H p (.lst (charsV z)))) := by
  intro pins s σ H xs us Q I r ⟨z, e, fits, q⟩
  subst e
  obtain ⟨u, eu, t, et⟩ := vals1 r
  subst eu et
  refine call_list_txt (I.ok.hd calm) z t fits fun s' acc c' keep hg hd ho hL its => ?_
  have es : s' = { s with heap := s'.heap, toks := s'.toks } := by
    obtain ⟨h1, g1, d1, t1, o1⟩ := s'
    obtain ⟨h2, g2, d2, t2, o2⟩ := s
    cases hg; cases hd; cases ho
    rfl
  have len : (charsV z).length = z.cps.size := by simp [charsV]
  rw [es]
  refine ⟨.ref s.heap.objs.size, upd H s.heap.objs.size (.lst (charsV z)), I.laid keep (Nat.le_refl _) (show ObjOk X.prog X.w _ _ _ (.lst (charsV z)) from ⟨?_, acc.toList, c', ?_, ?_⟩), rfl, q _ (I.hok.fresh (Nat.le_refl _))⟩
  · rw [len]; exact fits
  · refine vals_of_at (by rw [len, Array.length_toList]; exact its.1.symm) fun j x v h1 h2 => ?_
    obtain ⟨c, k, e1, e2⟩ := its.2 j v (by rw [← Array.getElem?_toList]; exact h2)
    rw [e2]
    have e3 : (charsV z)[j]? = some (V.str ⟨#[c]⟩) := by
      unfold charsV
      rw [List.getElem?_map, Array.getElem?_toList, e1]
      rfl
    rw [e3] at h1
    cases h1
    exact ⟨k, rfl⟩
  · rw [Array.toArray_toList]; exact hL
theorem charsV_rep {G : Gm} {ρ : List Addr} {H : Hp} (z : Str) : RepL G ρ H (charsOf z) (charsV z) := by
  unfold charsOf charsV
  generalize z.cps.toList = l
  induction l with
  | nil => exact RepL.nil
  | cons c r ih => exact RepL.cons (by unfold Rep; rfl) ih
end DL
end

section
set_option maxHeartbeats 4000000
namespace DL
open PySem PySem.Spec PyProof.Rows L2
theorem tuple_mulS (l : Addr) (items : Array Value) (n : Nat) (dd : Option Addr) (sl : Array (Option Value)) (x : Int) (u : Tok) (c0 : (decide (x < -(2 ^ 63)) || decide (x ≥ 2 ^ 63)) = false) (c1 : (items.isEmpty || x == 1) = true) :
    Meets (Builtin.«tuple.__mul__» ⟨[.ref l, .int x u], []⟩) (fun _ R s => s.heap.get? l = some { cls := .type "tuple", dict := dd, data := .seq items n, slots := sl } ∧
      R (.ok (.ret (Value.ref l))) s) :=
  .of_wp fun prog w A R s h => by
    obtain ⟨hp, g, d, tk, os⟩ := s
    obtain ⟨hl, h⟩ := h
    have f1 := AutoSeq1.idx_int
    wp_walk using wpAny_loadPart' hl
    repeat (first
      | (refine wpAny_ite_false (decide_eq_false (by rw [c0]; exact Bool.false_ne_true)) ?_; wp_walk using wpAny_loadPart' hl)
      | (refine wpAny_ite_true (decide_eq_true (by rw [c1])) ?_; wp_walk using wpAny_loadPart' hl))
    exact ⟨_, rfl, h⟩
theorem tuple_mulZ (l : Addr) (items : Array Value) (n : Nat) (dd : Option Addr) (sl : Array (Option Value)) (x : Int) (u : Tok) (c0 : (decide (x < -(2 ^ 63)) || decide (x ≥ 2 ^ 63)) = false) (c1 : (items.isEmpty || x == 1) = false) (c2 : (decide (x ≤ 0) || items.isEmpty) = true) :
    Meets (Builtin.«tuple.__mul__» ⟨[.ref l, .int x u], []⟩) (fun _ R s => s.heap.get? l = some { cls := .type "tuple", dict := dd, data := .seq items n, slots := sl } ∧
      R (.ok (.ret (Value.ref s.heap.objs.size))) { s with heap := s.heap.push { cls := Value.type "tuple", data := Data.seq #[] }, toks := s.toks }) :=
  .of_wp fun prog w A R s h => by
    obtain ⟨hp, g, d, tk, os⟩ := s
    obtain ⟨hl, h⟩ := h
    have f1 := AutoSeq1.idx_int
    wp_walk using wpAny_loadPart' hl
    repeat (first
      | (refine wpAny_ite_false (decide_eq_false (by rw [c0]; exact Bool.false_ne_true)) ?_; wp_walk using wpAny_loadPart' hl)
      | (refine wpAny_ite_false (decide_eq_false (by rw [c1]; exact Bool.false_ne_true)) ?_; wp_walk using wpAny_loadPart' hl)
      | (refine wpAny_ite_true (decide_eq_true (by rw [c2])) ?_; wp_walk using wpAny_loadPart' hl))
    exact ⟨_, rfl, h⟩
def rRepW (K : PySem.W.Frag) : R2 := fun x y H Q => ∃ l k xs, x = .ref l ∧ y = .int k ∧ SqT K H l xs ∧ -(2 ^ 63) ≤ k ∧ k ≤ 1000 ∧ xs.length ≤ 1000 ∧ ((xs = [] ∨ k = 1) → Q (.ref l) H) ∧ (¬ (xs = [] ∨ k = 1) → ∀ p, H p = none → Q (.ref p) (upd H p (.tup (List.replicate k.toNat xs).flatten)))
theorem op_repW {X : Cx} : OpR X (binaryOp .Mult) (rRepW X.K) := by
  intro pins s σ H x y v u Q I rx ry h
  obtain ⟨l, k, xs, rfl, rfl, hT, h1, h2, hz, q1, q2⟩ := h
  by_cases big : 2 ≤ k ∧ xs ≠ []
  · exact op_repT pins s σ H _ _ v u Q I rx ry ⟨l, k, xs, rfl, rfl, hT, big.2, big.1, h2, hz, q2 (fun e => by
      rcases e with e | e
      · exact big.2 e
      · omega)⟩
  cases rx
  obtain ⟨t, rfl⟩ := ry
  obtain ⟨its, r, ⟨⟨cls, dd, data, sl⟩, ho, hc, n, hd⟩, hs⟩ := I.tuple hT
  simp only at hc hd
  subst hc hd
  have hle : its.length = xs.length := r.length.symm
  have hi : its.toArray.isEmpty = decide (xs = []) := by
    cases its with
    | nil => cases xs with
      | nil => rfl
      | cons a b => cases hle
    | cons a b => cases xs with
      | nil => cases hle
      | cons a b => rfl
  have c0 : (decide (k < -(2 ^ 63)) || decide (k ≥ 2 ^ 63)) = false := by
    rw [decide_eq_false (by omega), decide_eq_false (by omega)] <;> rfl
  by_cases same : xs = [] ∨ k = 1
  · have c1 : (its.toArray.isEmpty || k == 1) = true := by
      rw [hi]
      rcases same with e | e
      · rw [decide_eq_true e]; rfl
      · subst e; simp
    refine wpAny_binaryOp_repeat_ref (T := "tuple") (U := "int") (by decide) ⟨_, ho, rfl⟩ (fun s' => typeIs_int s' k t) noFill_tuple_mul F.fills_int_mul F.slot_int_rmul repeat_tuple F.slot_int_index.lookup
      (call_meets F.slot_int_rmul (typeIs_int s k t) F.entry_int_rmul (F.args_int_rmul_2 _ _) (int_rmul_tuple k t l its.toArray n dd sl)
        ⟨ho, rfl, ⟨_, ho, rfl⟩, call_meets F.slot_tuple_mul ⟨_, ho, rfl⟩ F.entry_tuple_mul (F.args_tuple_mul_2 _ _) (tuple_mulS l its.toArray n dd sl k t c0 c1) ⟨ho, ?_⟩⟩)
    exact ⟨.ref l, H, I, rfl, q1 same⟩
  · have nx : xs ≠ [] := fun e => same (.inl e)
    have c1 : (its.toArray.isEmpty || k == 1) = false := by
      rw [hi, decide_eq_false nx, Bool.false_or]
      exact beq_eq_false_iff_ne.mpr fun e => same (.inr e)
    have k0 : k ≤ 0 := by
      rcases Int.lt_or_le 1 k with e | e
      · exact absurd ⟨by omega, nx⟩ big
      · have : k ≠ 1 := fun e => same (.inr e)
        omega
    have c2 : (decide (k ≤ 0) || its.toArray.isEmpty) = true := by rw [decide_eq_true k0]; rfl
    refine wpAny_binaryOp_repeat_ref (T := "tuple") (U := "int") (by decide) ⟨_, ho, rfl⟩ (fun s' => typeIs_int s' k t) noFill_tuple_mul F.fills_int_mul F.slot_int_rmul repeat_tuple F.slot_int_index.lookup
      (call_meets F.slot_int_rmul (typeIs_int s k t) F.entry_int_rmul (F.args_int_rmul_2 _ _) (int_rmul_tuple k t l its.toArray n dd sl)
        ⟨ho, rfl, ⟨_, ho, rfl⟩, call_meets F.slot_tuple_mul ⟨_, ho, rfl⟩ F.entry_tuple_mul (F.args_tuple_mul_2 _ _) (tuple_mulZ l its.toArray n dd sl k t c0 c1 c2) ⟨ho, ?_⟩⟩)
    have e : (List.replicate k.toNat xs).flatten = [] := by rw [show k.toNat = 0 by omega]; rfl
    refine ⟨.ref s.heap.objs.size, _, I.laid (t' := s.toks) (o := .tup (List.replicate k.toNat xs).flatten) (fun b ob q => Heap.get?_push_of_some _ q) (Nat.le_refl _) ?_, rfl, q2 same _ (I.hok.fresh (Nat.le_refl _))⟩
    rw [e]
    exact ⟨Nat.zero_le _, [], .nil, IsTup.new _ _⟩
section
variable {prog : Program} {w : World} {A : Around} {E : Value → Shared → Prop} {s : Shared} {l : Addr} {its : List Value} {ns : List Int} {Q : Value → Shared → Prop}
theorem sum_tup_raw (hh : A.handled = none) (hl : s.heap.IsTuple l its.toArray) (hi : IntsAre its ns)
    (h : ∀ h' tk t', (∀ b o, s.heap.get? b = some o → h'.get? b = some o) → Q (.int ns.sum t') { s with heap := h', toks := tk }) : wpAny (model prog w) A (call (.builtin "sum") [.ref l]) Q E s := by
  obtain ⟨xs, e⟩ := hi.allInts.items
  have hn : numsOf (intItems xs).toList = ns := by rw [← e]; exact hi.numsOf
  rw [nums_intItems] at hn
  rw [e] at hl
  have hlt : l < s.heap.objs.size := by obtain ⟨_, e, _⟩ := hl; exact Heap.lt_size e
  refine call_sum_walkG (wpAny_pyIter_tuple hl ⟨_, _, _, _, _, _, numAt xs, rfl, Walks.tuple (A := A.in1) hh _ l (Nat.ne_of_lt hlt) (intItems xs), ⟨⟨_, Heap.get?_push_size _ rfl, rfl, rfl⟩, hl.push _⟩, fun b hb => ?_, (fun _ _ => intItems_at), fun h' tk t' hk => ?_⟩)
  · show b < (s.heap.push _).objs.size
    rw [Heap.size_push]
    rcases List.mem_cons.mp hb with rfl | hb
    · exact Nat.lt_succ_self _
    · rcases List.mem_cons.mp hb with rfl | hb
      · exact Nat.lt_succ_of_lt hlt
      · cases hb
  · have := h h' tk t' (fun b o q => hk b o (fun hb => by
      rw [List.mem_singleton.mp hb] at q
      exact Nat.lt_irrefl _ (Heap.lt_size q)) (Heap.get?_push_of_some _ q))
    rw [show (intItems xs).size = xs.size by simp [intItems], preSum_eq, List.take_of_length_le (by simp), hn]
    exact this
end
theorem cr_sumT {X : Cx} (hc : X.calm = true) : CallR X (.builtin "sum") (fun vs H Q => ∃ (a : Addr) (ns : List Int), vs = [V.ref a] ∧ SqT X.K H a (ns.map V.int) ∧ Q (.int ns.sum) H) := by
  intro pins s σ H vs us Q I r h
  obtain ⟨a, ns, rfl, hs, q⟩ := h
  obtain ⟨its, rv, hl, _⟩ := I.tuple hs
  rw [Vals.ref1 r]
  exact sum_tup_raw (I.ok.hd hc) hl rv.ints fun h' tk t' hk => ⟨.int _, H, I.kept hk, ⟨_, rfl⟩, q⟩
end DL
end

section
set_option maxHeartbeats 4000000
namespace DL
open PySem PySem.Spec PyProof.Rows L2
/-- what a zip gives, one pair after the other, while all its pairs are kept; S: the list that takes them -/
structure ZSrc (prog : Program) (w : World) (z S : Addr) (own : List Addr) (n : Nat) (P : Nat → Value → Value → Prop) (St : Nat → Heap → Prop) : Prop where
  off : S ∉ own
  typ : ∀ {i h}, St i h → ∃ o, h.get? z = some o ∧ o.cls = .type "zip"
  keep : ∀ {i h h'}, St i h → (∀ b o, b ≠ S → h.get? b = some o → h'.get? b = some o) → St i h'
  item : ∀ {A : Around} {s : Shared} {E : Value → Shared → Prop} {Q : Option Value → Shared → Prop} {i : Nat}, i < n → St i s.heap → S < s.heap.objs.size →
    (∀ x y h', P i x y → St (i + 1) h' → IsPair h' s.heap.objs.size x y → (∀ c o, c ∉ own → s.heap.get? c = some o → h'.get? c = some o) → Q (some (.ref s.heap.objs.size)) { s with heap := h' }) → wpAny (model prog w) A (pyNext (.ref z)) Q E s
  done : ∀ {A : Around} {s : Shared} {E : Value → Shared → Prop} {Q : Option Value → Shared → Prop}, A.handled = none → St n s.heap →
    (∀ h', (∀ c o, c ∉ own → s.heap.get? c = some o → h'.get? c = some o) → Q none { s with heap := h' }) → wpAny (model prog w) A (pyNext (.ref z)) Q E s
/-- the pairs that were taken -/
structure ZGot (P : Nat → Value → Value → Prop) (lo : Addr) (h : Heap) (as : List Addr) : Prop where
  rise : as.Pairwise (· < ·)
  above : ∀ a ∈ as, lo < a
  pairs : ∀ (j : Nat) (a : Addr), as[j]? = some a → ∃ x y, P j x y ∧ IsPair h a x y
theorem ZGot.lt {P : Nat → Value → Value → Prop} {lo : Addr} {h : Heap} {as : List Addr} (g : ZGot P lo h as) {a : Addr} (ha : a ∈ as) : a < h.objs.size := by
  obtain ⟨j, hj⟩ := List.mem_iff_getElem?.mp ha
  obtain ⟨_, _, _, e⟩ := g.pairs j a hj
  exact Heap.lt_size e
section
variable {prog : Program} {w : World} {A : Around} {s : Shared} {R : PySem.Result → Shared → Prop} {z S : Addr} {own : List Addr} {n : Nat} {P : Nat → Value → Value → Prop} {St : Nat → Heap → Prop}
theorem zs_loop (Z : ZSrc prog w z S own n P St) (hh : A.handled = none) (lo : Addr) (hSlo : S ≤ lo) (hown : ∀ c ∈ own, c ≤ lo) (hn : n ≤ sizeLine) (res : Value) {h0 : Heap}
    (fin : ∀ h' tk acc c as, (∀ b o, b ≠ S → b ∉ own → h0.get? b = some o → h'.get? b = some o) → h'.get? S = some { cls := .type "list", dict := none, data := .seq acc c, slots := #[] } → as.length = n → ZGot P lo h' as → acc.toList = as.map Value.ref → R (.ok (.ret res)) { s with heap := h', toks := tk }) :
    ∀ (k i : Nat) (h : Heap) (tk c : Nat) (acc : Array Value) (as : List Addr), n = i + k → St i h → (∀ b o, b ≠ S → b ∉ own → h0.get? b = some o → h.get? b = some o) →
      h.get? S = some { cls := .type "list", dict := none, data := .seq acc c, slots := #[] } → acc.toList = as.map Value.ref → as.length = i → ZGot P lo h as → lo < h.objs.size →
      codeAny (model prog w) A (.builtin "list.extend.loop" ⟨[.ref S, .ref z, res], []⟩) R { s with heap := h, toks := tk }
  | 0, i, h, tk, c, acc, as, hk, st, kp, hS, ha, hl, g, hlo => by
    have hk : n = i := hk
    subst hk
    refine codeAny_builtin PySem.F.entry_extend_loop ?_
    rw [Around.under_plainId PySem.F.plain_extend_loop _]
    show wpAny _ A.in1 (pyNext (.ref z) >>= _) _ _ _
    refine wpAny_bind (Z.done (s := { s with heap := h, toks := tk }) (A := A.in1) hh st fun h' e => ?_)
    refine wpAny_pure (fin h' tk acc c as (fun b o b1 b2 q => e b o b2 (kp b o b1 b2 q)) (e S _ Z.off hS) hl ⟨g.rise, g.above, fun j a hj => ?_⟩ ha)
    obtain ⟨x, y, p1, p2⟩ := g.pairs j a hj
    have hlt := g.above a (List.mem_of_getElem? hj)
    exact ⟨x, y, p1, e a _ (fun q => Nat.lt_irrefl _ (Nat.lt_of_lt_of_le hlt (hown a q))) p2⟩
  | k + 1, i, h, tk, c, acc, as, hk, st, kp, hS, ha, hl, g, hlo => by
    have hsz : acc.size = i := by rw [← Array.length_toList, ha, List.length_map, hl]
    have hSl : S < h.objs.size := Heap.lt_size hS
    refine codeAny_builtin PySem.F.entry_extend_loop ?_
    rw [Around.under_plainId PySem.F.plain_extend_loop _]
    show wpAny _ A.in1 (pyNext (.ref z) >>= _) _ _ _
    refine wpAny_bind (Z.item (s := { s with heap := h, toks := tk }) (A := A.in1) (by omega) st hSl fun x y h' p st' hp e => ?_)
    have hp : IsPair h' h.objs.size x y := hp
    have e : ∀ c o, c ∉ own → h.get? c = some o → h'.get? c = some o := e
    have hS' := e S _ Z.off hS
    have up : ∀ b o, b ≠ S → h'.get? b = some o → (h'.update S (Obj.mapSeq (·.push (Value.ref h.objs.size)))).get? b = some o := fun b o hb q => (Heap.get?_update_other _ _ (Ne.symm hb)).trans q
    show wpAny _ A.in1 (updateSeq S (·.push (Value.ref h.objs.size)) >>= _) _ _ _
    have next := fun c' => zs_loop Z hh lo hSlo hown hn res fin k (i + 1) (h'.update S (Obj.mapSeq (·.push (Value.ref h.objs.size)))) tk c' (acc.push (Value.ref h.objs.size)) (as ++ [h.objs.size]) (by omega) (Z.keep st' up) (fun b o b1 b2 q => up b o b1 (e b o b2 (kp b o b1 b2 q)))
    refine wpAny_bind (wpAny_updateSeq hS' rfl (wpAny_pure ⟨plainId_quiet PySem.F.plain_extend_loop _, next _ (Heap.get?_update_self _ hS' rfl) ?_ ?_ ⟨?_, ?_, ?_⟩ ?_⟩) ?_ ?_)
    · rw [Array.toList_push, ha, List.map_append]
      rfl
    · rw [List.length_append, hl]
      rfl
    · refine List.pairwise_append.mpr ⟨g.rise, List.pairwise_singleton _ _, fun a ha b hb => ?_⟩
      rw [List.mem_singleton.mp hb]
      exact g.lt ha
    · intro a ha
      rcases List.mem_append.mp ha with ha | ha
      · exact g.above a ha
      · rw [List.mem_singleton.mp ha]
        exact hlo
    · intro j b hj
      by_cases h1 : j < as.length
      · rw [List.getElem?_append_left h1] at hj
        obtain ⟨x', y', q1, q2⟩ := g.pairs j b hj
        have hb := g.above b (List.mem_of_getElem? hj)
        exact ⟨x', y', q1, up b _ (Nat.ne_of_gt (Nat.lt_of_le_of_lt hSlo hb)) (e b _ (fun q => Nat.lt_irrefl _ (Nat.lt_of_lt_of_le hb (hown b q))) q2)⟩
      · rw [List.getElem?_append_right (by omega)] at hj
        obtain ⟨hj1, hj2⟩ := List.getElem?_eq_some_iff.mp hj
        have hj0 : j - as.length = 0 := by simpa using hj1
        have hji : j = i := by omega
        subst hji
        simp only [hj0, List.getElem_cons_zero] at hj2
        subst hj2
        exact ⟨x, y, p, up _ _ (Nat.ne_of_gt hSl) hp⟩
    · have q := up _ _ (Nat.ne_of_gt hSl) hp
      exact Nat.lt_trans hlo (Heap.lt_size q)
    · rw [hsz]
      omega
    · show (acc.push (Value.ref h.objs.size)).size ≤ sizeLine + 1
      rw [Array.size_push, hsz]
      omega
end
theorem zip_no_len : typeLookup (.type "zip") "__len__" = pure none := am_miss_of_fast (by decide +kernel)
theorem zip_no_hint : typeLookup (.type "zip") "__length_hint__" = pure none := am_miss_of_fast (by decide +kernel)
section
variable {prog : Program} {w : World} {A : Around} {E : Value → Shared → Prop} {s : Shared} {z S : Addr} {own : List Addr} {n : Nat} {P : Nat → Value → Value → Prop} {St : Nat → Heap → Prop}
theorem zs_hint (hT : s.TypeIs (.ref z) "zip") {Q : Bool → Shared → Prop} (h : Q true s) : wpAny (model prog w) A (Builtin.List.listLengthHint (.ref z)) Q E s := by
  unfold Builtin.List.listLengthHint
  refine wpAny_bind (wpAny_specialOf hT zip_no_len ?_)
  wp_delta
  refine wpAny_bind (wpAny_specialOf hT zip_no_hint ?_)
  exact wpAny_pure h
theorem zs_extend {R : PySem.Result → Shared → Prop} (Z : ZSrc prog w z S own n P St) (hh : A.handled = none) {TI TO : Addr} (hz : IsZip s.heap z TI TO .none) (st : St 0 s.heap) (hown : ∀ c ∈ own, c < s.heap.objs.size) (hn : n ≤ sizeLine) (res : Value) (c₀ : Nat) (hSz : S ≠ z) (hS : s.heap.get? S = some { cls := .type "list", data := .seq #[] c₀ }) (lo : Addr) (hlo : lo < s.heap.objs.size) (hSlo : S ≤ lo) (hol : ∀ c ∈ own, c ≤ lo)
    (fin : ∀ h' tk acc c as, (∀ b o, b ≠ S → b ∉ own → s.heap.get? b = some o → h'.get? b = some o) → h'.get? S = some { cls := .type "list", dict := none, data := .seq acc c, slots := #[] } → as.length = n → ZGot P lo h' as → acc.toList = as.map Value.ref → R (.ok (.ret res)) { s with heap := h', toks := tk }) :
    wpAny (model prog w) A.in1 (Builtin.List.listExtendWith (.ref S) (.ref z) res)
      (fun f s' => match f with | .done f => R (.ok f) s' | .again c' => c'.quiet = true ∧ codeAny (model prog w) A c' R s') (fun e s' => R (.error e) s') s := by
  have hT : s.TypeIs (.ref z) "zip" := ⟨_, hz, rfl⟩
  unfold Builtin.List.listExtendWith
  refine wpAny_bind (wpAny_typeOf (T := "zip") hT ?_)
  have e1 : Builtin.List.listSameRef (.ref S) (.ref z) = false := by simp [Builtin.List.listSameRef, hSz]
  have e2 : (Value.type "zip" == Value.type "list") = false := by decide
  have e3 : (Value.type "zip" == Value.type "tuple") = false := by decide
  simp only [e1, e2, e3, Bool.or_false, Bool.false_eq_true, if_false]
  refine wpAny_bind (wpAny_pyIter_zip hz ?_)
  refine wpAny_bind (wpAny_holding (zs_hint hT ?_))
  simp only [Bool.true_or, if_true]
  refine wpAny_bind (wpAny_rule ?_)
  refine wpAny_bind ?_
  show wpAny _ _ (updateSeq S (·.push .none) >>= fun _ => updateSeq S (·.pop)) _ _ _
  refine wpAny_bind (wpAny_updateSeq hS rfl ?_)
  have hS2 := Heap.get?_update_self (Obj.mapSeq (·.push Value.none)) hS rfl
  refine wpAny_updateSeq (hz := by seq_fits) hS2 rfl ?_
  have hS3 := Heap.get?_update_self (Obj.mapSeq (·.pop)) hS2 rfl
  have up : ∀ b o, b ≠ S → s.heap.get? b = some o → ((s.heap.update S (Obj.mapSeq (·.push Value.none))).update S (Obj.mapSeq (·.pop))).get? b = some o := fun b o hb e => (Heap.get?_update_other _ _ (Ne.symm hb)).trans ((Heap.get?_update_other _ _ (Ne.symm hb)).trans e)
  refine wpAny_pure ⟨plainId_quiet PySem.F.plain_extend_loop _, ?_⟩
  exact zs_loop (s := s) (h0 := s.heap) Z hh lo hSlo hol hn res fin n 0 _ _ _ #[] [] (by omega) (Z.keep st up) (fun b o b1 _ e => up b o b1 e) hS3 rfl rfl ⟨List.Pairwise.nil, (fun _ h => nomatch h), (fun j a h => by simp at h)⟩ (by
    have q := up z _ (Ne.symm hSz) hz
    have e1 : ((s.heap.update S (Obj.mapSeq (·.push Value.none))).update S (Obj.mapSeq (·.pop))).objs.size = s.heap.objs.size := by rw [Heap.size_update, Heap.size_update]
    rw [e1]
    exact hlo)
end
structure NextK (It : Heap → Addr → Addr → Nat → Prop) (Sq : Heap → Addr → Array Value → Prop) : Prop where
  itAt : ∀ {h h' i l k}, It h i l k → (∀ o, h.get? i = some o → h'.get? i = some o) → It h' i l k
  sqAt : ∀ {h h' l xs}, Sq h l xs → (∀ o, h.get? l = some o → h'.get? l = some o) → Sq h' l xs
  itIn : ∀ {h i l k}, It h i l k → i < h.objs.size
  item : ∀ {prog : Program} {w : World} {A : Around} {E : Value → Shared → Prop} {s : Shared} {i l : Addr} {k : Nat} {xs : Array Value} {x : Value} {Q : Value → Shared → Prop}, It s.heap i l k → Sq s.heap l xs → xs[k]? = some x →
    (∀ h', It h' i l (k + 1) → Heap.SameBut i s.heap h' → Q x { s with heap := h' }) → wpAny (model prog w) A (Builtin.SmallTypes.nextOf (.ref i)) Q E s
  done : ∀ {prog : Program} {w : World} {A : Around} {E : Value → Shared → Prop} {s : Shared} {i l : Addr} {k : Nat} {xs : Array Value} {Q : Value → Shared → Prop}, A.handled = none → It s.heap i l k → Sq s.heap l xs → xs[k]? = none →
    (∀ h' e, Heap.ExtBut i s.heap h' → (∃ o, h'.get? e = some o ∧ o.cls = .type "StopIteration") → E (.ref e) { s with heap := h' }) → wpAny (model prog w) A (Builtin.SmallTypes.nextOf (.ref i)) Q E s
  newItem : ∀ {prog : Program} {w : World} {A : Around} {E : Value → Shared → Prop} {s : Shared} {z TI TO i1 i2 l1 l2 : Addr} {k1 k2 : Nat} {xs ys : Array Value} {x y a b : Value} {Q : Option Value → Shared → Prop}, ZipApart z TI TO i1 i2 l1 l2 →
    IsZip s.heap z TI TO .none → IsPair s.heap TI (.ref i1) (.ref i2) → IsPair s.heap TO a b → It s.heap i1 l1 k1 → It s.heap i2 l2 k2 → Sq s.heap l1 xs → Sq s.heap l2 ys → xs[k1]? = some x → ys[k2]? = some y →
    (∀ h', IsZip h' z TI TO (rawInt s.heap.objs.size) → IsPair h' TO x y → It h' i1 l1 (k1 + 1) → It h' i2 l2 (k2 + 1) → IsPair h' s.heap.objs.size x y → h'.objs.size = s.heap.objs.size + 1 →
      (∀ c o, c ≠ z → c ≠ TO → c ≠ i1 → c ≠ i2 → s.heap.get? c = some o → h'.get? c = some o) → Q (some (.ref s.heap.objs.size)) { s with heap := h' }) → wpAny (model prog w) A (pyNext (.ref z)) Q E s
  newDone : ∀ {prog : Program} {w : World} {A : Around} {E : Value → Shared → Prop} {s : Shared} {z TI TO i1 i2 l1 l2 : Addr} {k1 k2 : Nat} {xs ys : Array Value} {a b : Value} {Q : Option Value → Shared → Prop}, A.handled = none → ZipApart z TI TO i1 i2 l1 l2 →
    IsZip s.heap z TI TO .none → IsPair s.heap TI (.ref i1) (.ref i2) → IsPair s.heap TO a b → It s.heap i1 l1 k1 → It s.heap i2 l2 k2 → Sq s.heap l1 xs → Sq s.heap l2 ys → (xs[k1]? = none ∨ ys[k2]? = none) →
    (∀ h', (∀ c o, c ≠ z → c ≠ TO → c ≠ i1 → c ≠ i2 → s.heap.get? c = some o → h'.get? c = some o) → Q none { s with heap := h' }) → wpAny (model prog w) A (pyNext (.ref z)) Q E s
theorem nextK_list : NextK Heap.IsListIter Heap.IsList where
  itAt := fun x e => x.at e
  sqAt := fun x e => x.at e
  itIn := fun x => let ⟨_, e, _⟩ := x; Heap.lt_size e
  item := fun a b c d => wpAny_nextOf_list_item a b c d
  done := fun a b c d e => wpAny_nextOf_list_end a b c d e
  newItem := fun D a1 a2 a3 a4 a5 a6 a7 a8 a9 q => wpAny_pyNext_zip_item D a1 a2 a3 a4 a5 a6 a7 a8 a9 q
  newDone := fun hh D a1 a2 a3 a4 a5 a6 a7 a8 q => wpAny_pyNext_zip_end hh D a1 a2 a3 a4 a5 a6 a7 a8 q
theorem nextK_tup : NextK Heap.IsTupleIter Heap.IsTuple where
  itAt := fun x e => x.at e
  sqAt := fun x e => x.at e
  itIn := fun x => let ⟨_, e, _⟩ := x; Heap.lt_size e
  item := fun a b c d => RZ.nextOf_tuple_item a b c d
  done := fun a b c d e => RZ.nextOf_tuple_end a b c d e
  newItem := fun D a1 a2 a3 a4 a5 a6 a7 a8 a9 q => RZ.pyNext_zipT_item D a1 a2 a3 a4 a5 a6 a7 a8 a9 q
  newDone := fun hh D a1 a2 a3 a4 a5 a6 a7 a8 q => RZ.pyNext_zipT_end hh D a1 a2 a3 a4 a5 a6 a7 a8 q
section
variable {It : Heap → Addr → Addr → Nat → Prop} {Sq : Heap → Addr → Array Value → Prop}
variable {prog : Program} {w : World} {A : Around} {E : Value → Shared → Prop} {s : Shared} {z TI TO T i1 i2 l1 l2 : Addr} {f : Bool} {oT : Obj} {k1 k2 : Nat} {xs ys : Array Value} {x y : Value}
/-- the next pair while an earlier one is out -/
theorem heldItem (N : NextK It Sq) {Q : Option Value → Shared → Prop} (D : ZipApart z TI TO i1 i2 l1 l2) (hz : IsZipHeld s.heap z TI TO T f) (hT : s.heap.get? T = some oT) (hTI : IsPair s.heap TI (.ref i1) (.ref i2))
    (h1 : It s.heap i1 l1 k1) (h2 : It s.heap i2 l2 k2) (q1 : Sq s.heap l1 xs) (q2 : Sq s.heap l2 ys) (hx : xs[k1]? = some x) (hy : ys[k2]? = some y)
    (hQ : ∀ h', IsZipHeld h' z TI TO T true → It h' i1 l1 (k1 + 1) → It h' i2 l2 (k2 + 1) → IsPair h' s.heap.objs.size x y → (∀ c o, c ≠ z → c ≠ i1 → c ≠ i2 → s.heap.get? c = some o → h'.get? c = some o) → Q (some (.ref s.heap.objs.size)) { s with heap := h' }) :
    wpAny (model prog w) A (pyNext (.ref z)) Q E s := by
  have ty : s.TypeIs (.ref z) "zip" := ⟨_, hz, rfl⟩
  unfold pyNext
  refine wpAny_bind (wpAny_attempt (wpAny_callSpecial?_slot (name := Str.ofString "__next__") ty F.slot_zip_next (wpAny_call_entry F.slot_zip_next ty F.entry_zip_next ?_ (F.args_zip_next_1 _))))
  show wpAny _ _ (field (.ref z) 2 >>= _) _ _ _
  refine wpAny_bind (wpAny_field hz rfl (x := .bool false) rfl ?_)
  show wpAny _ _ (field (.ref z) 3 >>= _) _ _ _
  refine wpAny_bind (wpAny_field hz rfl (x := .ref TI) rfl ?_)
  refine wpAny_bind (wpAny_seqItems hTI rfl ?_)
  show wpAny _ _ (Builtin.SmallTypes.ownedTupleIsFree (.ref z) >>= _) _ _ _
  refine wpAny_bind (wpAny_tupleHeld_zip hz hT fun g1 z1 e1 => ?_)
  simp only [Bool.false_eq_true, if_false]
  refine wpAny_bind ?_
  rw [← Array.forIn_toList]
  simp only [List.forIn_cons, List.forIn_nil]
  have a1 : It g1 i1 l1 k1 := N.itAt h1 fun o q => e1.extBut _ o D.i1z q
  have b1 : Sq g1 l1 xs := N.sqAt q1 fun o q => e1.extBut _ o D.l1z q
  refine wpAny_bind (wpAny_bind (wpAny_holding ?_))
  show wpAny _ _ (Builtin.SmallTypes.nextOf (.ref i1) >>= _) _ _ _
  refine wpAny_bind (N.item (s := { s with heap := g1 }) a1 b1 hx fun g2 c1 e2 => wpAny_pure (wpAny_pure ?_))
  have e2 : Heap.SameBut i1 g1 g2 := e2
  have up2 : ∀ c o, c ≠ z → c ≠ i1 → s.heap.get? c = some o → g2.get? c = some o := fun c o n1 n2 q => e2.extBut c o n2 (e1.extBut c o n1 q)
  have a2 : It g2 i2 l2 k2 := N.itAt h2 fun o q => up2 _ o D.i2z D.i12.symm q
  have b2 : Sq g2 l2 ys := N.sqAt q2 fun o q => up2 _ o D.l2z D.l2i1 q
  refine wpAny_bind (wpAny_bind (wpAny_holding ?_))
  show wpAny _ _ (Builtin.SmallTypes.nextOf (.ref i2) >>= _) _ _ _
  refine wpAny_bind (N.item (s := { s with heap := g2 }) a2 b2 hy fun g3 c2 e3 => wpAny_pure (wpAny_pure (wpAny_pure ?_)))
  have e3 : Heap.SameBut i2 g2 g3 := e3
  have up3 : ∀ c o, c ≠ z → c ≠ i1 → c ≠ i2 → s.heap.get? c = some o → g3.get? c = some o := fun c o n1 n2 n3 q => e3.extBut c o n3 (up2 c o n1 n2 q)
  show wpAny _ _ (newTuple [x, y] >>= _) _ _ _
  refine wpAny_bind (wpAny_newTuple ?_)
  have sz : g3.objs.size = s.heap.objs.size := by rw [e3.1, e2.1, e1.1]
  have z3 : IsZipHeld g3 z TI TO T true := e3.extBut _ _ D.i2z.symm (e2.extBut _ _ D.i1z.symm z1)
  have c1' : It g3 i1 l1 (k1 + 1) := N.itAt c1 fun o q => e3.extBut _ o D.i12 q
  refine wpAny_pure ⟨_, rfl, ?_⟩
  show wpAny _ _ _ _ _ _
  have hp : IsPair (g3.push { cls := .type "tuple", data := .seq #[x, y] }) g3.objs.size x y := Heap.get?_push_size _ rfl
  refine wpAny_pure ?_
  show Q (some (.ref g3.objs.size)) _
  rw [sz] at hp ⊢
  exact hQ _ (Heap.get?_push_of_some _ z3) (N.itAt c1' fun o q => Heap.get?_push_of_some _ q) (N.itAt c2 fun o q => Heap.get?_push_of_some _ q) hp fun c o n1 n2 n3 q => Heap.get?_push_of_some _ (up3 c o n1 n2 n3 q)
theorem heldDone (N : NextK It Sq) {Q : Option Value → Shared → Prop} (hh : A.handled = none) (D : ZipApart z TI TO i1 i2 l1 l2) (hz : IsZipHeld s.heap z TI TO T f) (hT : s.heap.get? T = some oT) (hTI : IsPair s.heap TI (.ref i1) (.ref i2))
    (h1 : It s.heap i1 l1 k1) (h2 : It s.heap i2 l2 k2) (q1 : Sq s.heap l1 xs) (q2 : Sq s.heap l2 ys) (he : xs[k1]? = none ∨ ys[k2]? = none)
    (hQ : ∀ h', (∀ c o, c ≠ z → c ≠ i1 → c ≠ i2 → s.heap.get? c = some o → h'.get? c = some o) → Q none { s with heap := h' }) :
    wpAny (model prog w) A (pyNext (.ref z)) Q E s := by
  have ty : s.TypeIs (.ref z) "zip" := ⟨_, hz, rfl⟩
  unfold pyNext
  refine wpAny_bind (wpAny_attempt (wpAny_callSpecial?_slot (name := Str.ofString "__next__") ty F.slot_zip_next (wpAny_call_entry F.slot_zip_next ty F.entry_zip_next ?_ (F.args_zip_next_1 _))))
  show wpAny _ _ (field (.ref z) 2 >>= _) _ _ _
  refine wpAny_bind (wpAny_field hz rfl (x := .bool false) rfl ?_)
  show wpAny _ _ (field (.ref z) 3 >>= _) _ _ _
  refine wpAny_bind (wpAny_field hz rfl (x := .ref TI) rfl ?_)
  refine wpAny_bind (wpAny_seqItems hTI rfl ?_)
  show wpAny _ _ (Builtin.SmallTypes.ownedTupleIsFree (.ref z) >>= _) _ _ _
  refine wpAny_bind (wpAny_tupleHeld_zip hz hT fun g1 z1 e1 => ?_)
  simp only [Bool.false_eq_true, if_false]
  refine wpAny_bind ?_
  rw [← Array.forIn_toList]
  simp only [List.forIn_cons, List.forIn_nil]
  have a1 : It g1 i1 l1 k1 := N.itAt h1 fun o q => e1.extBut _ o D.i1z q
  have b1 : Sq g1 l1 xs := N.sqAt q1 fun o q => e1.extBut _ o D.l1z q
  have stop : ∀ (g : Heap) (e : Addr), (∀ c o, c ≠ z → c ≠ i1 → c ≠ i2 → s.heap.get? c = some o → g.get? c = some o) → (∃ o, g.get? e = some o ∧ o.cls = .type "StopIteration") →
      wpAny (model prog w) A (isInstance (.ref e) (.type "StopIteration") >>= fun b => if b = true then pure none else throw (.ref e)) Q E { s with heap := g } := fun g e keep ⟨o, ho, hc⟩ => by
    refine wpAny_bind (wpAny_isInstance (T := "StopIteration") (b := true) ⟨o, ho, hc⟩ isSubtype_stop ?_)
    exact wpAny_pure (hQ _ keep)
  refine wpAny_bind (wpAny_bind (wpAny_holding ?_))
  show wpAny _ _ (Builtin.SmallTypes.nextOf (.ref i1) >>= _) _ _ _
  cases hx : xs[k1]? with
  | none =>
    refine wpAny_bind (N.done (s := { s with heap := g1 }) hh a1 b1 hx fun g2 e e2 he => ?_)
    exact stop g2 e (fun c o n1 n2 _ q => e2 c o n2 (e1.extBut c o n1 q)) he
  | some x =>
    have hy : ys[k2]? = none := by
      rcases he with q | q
      · rw [hx] at q; cases q
      · exact q
    refine wpAny_bind (N.item (s := { s with heap := g1 }) a1 b1 hx fun g2 c1 e2 => wpAny_pure (wpAny_pure ?_))
    have e2 : Heap.SameBut i1 g1 g2 := e2
    have up2 : ∀ c o, c ≠ z → c ≠ i1 → s.heap.get? c = some o → g2.get? c = some o := fun c o n1 n2 q => e2.extBut c o n2 (e1.extBut c o n1 q)
    refine wpAny_bind (wpAny_bind (wpAny_holding ?_))
    show wpAny _ _ (Builtin.SmallTypes.nextOf (.ref i2) >>= _) _ _ _
    refine wpAny_bind (N.done (s := { s with heap := g2 }) hh (N.itAt h2 fun o q => up2 _ o D.i2z D.i12.symm q) (N.sqAt q2 fun o q => up2 _ o D.l2z D.l2i1 q) hy fun g3 e e3 he => ?_)
    exact stop g3 e (fun c o n1 n2 n3 q => e3 c o n3 (up2 c o n1 n2 q)) he
/-- a zip of two rows -/
def ZSt (It : Heap → Addr → Addr → Nat → Prop) (Sq : Heap → Addr → Array Value → Prop) (z TI TO i1 i2 l1 l2 S : Addr) (xs ys : Array Value) (i : Nat) (h : Heap) : Prop :=
  IsPair h TI (.ref i1) (.ref i2) ∧ It h i1 l1 i ∧ It h i2 l2 i ∧ Sq h l1 xs ∧ Sq h l2 ys ∧
    ((IsZip h z TI TO .none ∧ ∃ a b, IsPair h TO a b) ∨ ∃ T f oT, IsZipHeld h z TI TO T f ∧ h.get? T = some oT ∧ T ≠ z ∧ T ≠ i1 ∧ T ≠ i2 ∧ T ≠ S)
theorem zsrc (N : NextK It Sq) (D : ZipApart z TI TO i1 i2 l1 l2) {S : Addr} (hS : S ∉ [z, TI, TO, i1, i2, l1, l2]) (xs ys : Array Value) :
    ZSrc prog w z S [z, TO, i1, i2] (min xs.size ys.size) (fun i k v => xs[i]? = some k ∧ ys[i]? = some v) (ZSt It Sq z TI TO i1 i2 l1 l2 S xs ys) := by
  simp only [List.mem_cons, List.not_mem_nil, or_false, not_or] at hS
  obtain ⟨dz, dTI, dTO, d1, d2, dl1, dl2⟩ := hS
  have own : ∀ {h h' : Heap}, (∀ c o, c ≠ z → c ≠ i1 → c ≠ i2 → h.get? c = some o → h'.get? c = some o) → ∀ c o, c ∉ [z, TO, i1, i2] → h.get? c = some o → h'.get? c = some o := fun k c o n e =>
    k c o (fun q => n (by simp [q])) (fun q => n (by simp [q])) (fun q => n (by simp [q])) e
  have own4 : ∀ {h h' : Heap}, (∀ c o, c ≠ z → c ≠ TO → c ≠ i1 → c ≠ i2 → h.get? c = some o → h'.get? c = some o) → ∀ c o, c ∉ [z, TO, i1, i2] → h.get? c = some o → h'.get? c = some o := fun k c o n e =>
    k c o (fun q => n (by simp [q])) (fun q => n (by simp [q])) (fun q => n (by simp [q])) (fun q => n (by simp [q])) e
  refine ⟨?_, ?_, ?_, ?_, ?_⟩
  · simp [dz, dTO, d1, d2]
  · rintro i h ⟨_, _, _, _, _, ⟨hz, _⟩ | ⟨T, f, oT, hz, _⟩⟩
    · exact ⟨_, hz, rfl⟩
    · exact ⟨_, hz, rfl⟩
  · rintro i h h' ⟨p, a1, a2, b1, b2, q⟩ k
    refine ⟨k _ _ (Ne.symm dTI) p, N.itAt a1 fun o e => k _ o (Ne.symm d1) e, N.itAt a2 fun o e => k _ o (Ne.symm d2) e, N.sqAt b1 fun o e => k _ o (Ne.symm dl1) e, N.sqAt b2 fun o e => k _ o (Ne.symm dl2) e, ?_⟩
    rcases q with ⟨hz, a, b, hTO⟩ | ⟨T, f, oT, hz, hT, n1, n2, n3, n4⟩
    · exact .inl ⟨k _ _ (Ne.symm dz) hz, a, b, k _ _ (Ne.symm dTO) hTO⟩
    · exact .inr ⟨T, f, oT, k _ _ (Ne.symm dz) hz, k _ _ n4 hT, n1, n2, n3, n4⟩
  · intro A s E Q i hi st hSl hQ
    obtain ⟨p, a1, a2, b1, b2, q⟩ := st
    have hx : i < xs.size := Nat.lt_of_lt_of_le hi (Nat.min_le_left ..)
    have hy : i < ys.size := Nat.lt_of_lt_of_le hi (Nat.min_le_right ..)
    have ex := Array.getElem?_eq_getElem hx
    have ey := Array.getElem?_eq_getElem hy
    have n1 := Nat.ne_of_gt (N.itIn a1)
    have n2 := Nat.ne_of_gt (N.itIn a2)
    rcases q with ⟨hz, a, b, hTO⟩ | ⟨T, f, oT, hz, hT, m1, m2, m3, m4⟩
    · refine N.newItem D hz p hTO a1 a2 b1 b2 ex ey fun h' c1 c2 c3 c4 c5 c6 k => hQ _ _ h' ⟨ex, ey⟩ ⟨k _ _ D.TIz D.TITO D.TIi1 D.TIi2 p, c3, c4, N.sqAt b1 fun o e => k _ o D.l1z D.l1TO D.l1i1 D.l1i2 e, N.sqAt b2 fun o e => k _ o D.l2z D.l2TO D.l2i1 D.l2i2 e, .inr ⟨s.heap.objs.size, false, _, c1, c5, Nat.ne_of_gt (Heap.lt_size hz), n1, n2, Nat.ne_of_gt hSl⟩⟩ c5 (own4 k)
    · refine heldItem N D hz hT p a1 a2 b1 b2 ex ey fun h' c1 c3 c4 c5 k => hQ _ _ h' ⟨ex, ey⟩ ⟨k _ _ D.TIz D.TIi1 D.TIi2 p, c3, c4, N.sqAt b1 fun o e => k _ o D.l1z D.l1i1 D.l1i2 e, N.sqAt b2 fun o e => k _ o D.l2z D.l2i1 D.l2i2 e, .inr ⟨T, true, oT, c1, k _ _ m1 m2 m3 hT, m1, m2, m3, m4⟩⟩ c5 (own k)
  · intro A s E Q hh st hQ
    obtain ⟨p, a1, a2, b1, b2, q⟩ := st
    have he : xs[min xs.size ys.size]? = none ∨ ys[min xs.size ys.size]? = none := by
      rcases Nat.le_total xs.size ys.size with h | h
      · exact .inl (Array.getElem?_eq_none (by omega))
      · exact .inr (Array.getElem?_eq_none (by omega))
    rcases q with ⟨hz, a, b, hTO⟩ | ⟨T, f, oT, hz, hT, m1, m2, m3, m4⟩
    · exact N.newDone hh D hz p hTO a1 a2 b1 b2 he fun h' k => hQ h' (own4 k)
    · exact heldDone N hh D hz hT p a1 a2 b1 b2 he fun h' k => hQ h' (own k)
end
section
variable {prog : Program} {w : World} {A : Around} {E : Value → Shared → Prop} {s : Shared} {z : Addr} {own : List Addr} {n : Nat} {P : Nat → Value → Value → Prop} {St : Nat → Heap → Prop}
theorem zs_call {Q : Value → Shared → Prop} (Z : ZSrc prog w z s.heap.objs.size own n P St) (hh : A.handled = none) {TI TO : Addr} (hz : IsZip s.heap z TI TO .none) (st : St 0 s.heap) (hown : ∀ c ∈ own, c < s.heap.objs.size) (hn : n ≤ sizeLine)
    (hQ : ∀ h' tk acc c as, (∀ b o, b ∉ own → s.heap.get? b = some o → h'.get? b = some o) → h'.get? s.heap.objs.size = some { cls := .type "list", dict := none, data := .seq acc c, slots := #[] } → as.length = n → ZGot P s.heap.objs.size h' as →
      acc.toList = as.map Value.ref → Q (.ref s.heap.objs.size) { s with heap := h', toks := tk }) :
    wpAny (model prog w) A (call (.type "list") [.ref z]) Q E s := by
  refine callType_codes (Q₁ := fun obj s₁ => obj = .ref s.heap.objs.size ∧ s₁ = { s with heap := s.heap.push { cls := .type "list", data := .seq #[] } }) PySem.F.called_list (PySem.F.typeCall_list_1 _) PySem.F.entry_list_init (code_list_new _ ⟨rfl, rfl⟩) ?_
  rintro _ _ ⟨rfl, rfl⟩
  have hS : (s.heap.push { cls := .type "list", data := .seq #[] }).get? s.heap.objs.size = some { cls := .type "list", data := .seq #[] } := Heap.get?_push_size _ rfl
  have hzl : z < s.heap.objs.size := Heap.lt_size hz
  refine ⟨⟨_, hS, rfl⟩, PySem.F.args_list_init_2 _ _, ?_⟩
  show wpAny _ A.in1.in1 (Builtin.List.listItems (.ref s.heap.objs.size) >>= fun old => Builtin.List.listUpdate (.ref s.heap.objs.size) (fun _ => #[]) >>= fun _ => letGo old.toList.reverse >>= fun _ => Builtin.List.listExtendWith (.ref s.heap.objs.size) (.ref z) .none) _ _ _
  refine wpAny_bind ?_
  unfold Builtin.List.listItems
  refine wpAny_bind (wpAny_seqItems hS rfl (wpAny_pure ?_))
  show wpAny _ A.in1.in1 (updateSeq s.heap.objs.size (fun _ => #[]) >>= fun _ => letGo (#[] : Array Value).toList.reverse >>= fun _ => Builtin.List.listExtendWith (.ref s.heap.objs.size) (.ref z) .none) _ _ _
  refine wpAny_bind (wpAny_updateSeq hS rfl (wpAny_bind (wpAny_letGo ?_)))
  have up : ∀ b o, b ≠ s.heap.objs.size → s.heap.get? b = some o → ((s.heap.push { cls := .type "list", data := .seq #[] }).update s.heap.objs.size (Obj.mapSeq (fun _ => (#[] : Array Value)))).get? b = some o := fun b o hb e => (Heap.get?_update_other _ _ (Ne.symm hb)).trans (Heap.get?_push_of_some _ e)
  have sz : ((s.heap.push { cls := .type "list", data := .seq #[] }).update s.heap.objs.size (Obj.mapSeq (fun _ => (#[] : Array Value)))).objs.size = s.heap.objs.size + 1 := by rw [Heap.size_update, Heap.size_push]
  refine zs_extend (A := A.in1) Z hh (up z _ (Nat.ne_of_lt hzl) hz) (Z.keep st up) (fun c hc => by rw [sz]; exact Nat.lt_succ_of_lt (hown c hc)) hn .none _ (Nat.ne_of_gt hzl) (Heap.get?_update_self (Obj.mapSeq (fun _ => (#[] : Array Value))) hS rfl) s.heap.objs.size (by rw [sz]; exact Nat.lt_succ_self _) (Nat.le_refl _) (fun c hc => Nat.le_of_lt (hown c hc)) fun h' tk acc c as k hL hl g ha => ?_
  exact ⟨rfl, hQ h' tk acc c as (fun b o hb e => k b o (Nat.ne_of_lt (Heap.lt_size e)) hb (up b o (Nat.ne_of_lt (Heap.lt_size e)) e)) hL hl g ha⟩
end
def putZ : Hp → List Addr → List (V × V) → Hp
  | H, a :: as, q :: qs => putZ (upd H a (.tup [q.1, q.2])) as qs
  | H, _, _ => H
theorem putZ_off {b : Addr} : ∀ (as : List Addr) (qs : List (V × V)) (H : Hp), b ∉ as → putZ H as qs b = H b
  | [], _, _, _ => rfl
  | _ :: _, [], _, _ => rfl
  | a :: as, q :: qs, H, h => by
    have h1 : b ∉ as := fun z => h (List.mem_cons_of_mem _ z)
    have h2 : b ≠ a := fun z => h (by rw [z]; exact List.mem_cons_self ..)
    show putZ (upd H a (.tup [q.1, q.2])) as qs b = H b
    rw [putZ_off as qs _ h1, upd_ne h2]
theorem putZ_at : ∀ (as : List Addr) (qs : List (V × V)) (H : Hp), as.Nodup → ∀ (j : Nat) (a : Addr) (q : V × V), as[j]? = some a → qs[j]? = some q → putZ H as qs a = some (.tup [q.1, q.2])
  | [], _, _, _, j, a, q, h, _ => by simp at h
  | _ :: _, [], _, _, j, a, q, _, h => by simp at h
  | b :: as, r :: qs, H, nd, 0, a, q, h1, h2 => by
    cases h1
    cases h2
    show putZ (upd H b (.tup [r.1, r.2])) as qs b = _
    rw [putZ_off as qs _ (List.nodup_cons.mp nd).1, upd_same]
  | b :: as, r :: qs, H, nd, j + 1, a, q, h1, h2 => putZ_at as qs _ (List.nodup_cons.mp nd).2 j a q h1 h2
def rListZ (K : PySem.W.Frag) : List V → Hp → VK → Prop := fun vs H Q => ∃ (a b : Addr) (xs ys : List V), vs = [.ref a, .ref b] ∧ ((SqL K H a xs ∧ SqL K H b ys) ∨ (SqT K H a xs ∧ SqT K H b ys)) ∧ (xs.zip ys).length ≤ sizeLine ∧
  ∀ (p : Addr) (ts : List Addr), ts.length = (xs.zip ys).length → ts.Nodup → (∀ t ∈ ts, H t = none) → H p = none → p ∉ ts → Q (.ref p) (upd (putZ H ts (xs.zip ys)) p (.lst (ts.map V.ref)))
def tListZ (K : PySem.W.Frag) (ta : TA) : TE := fun σ H Q => ta σ H fun vs H1 => rListZ K vs H1 Q
section
variable {X : Cx} {e e2 : Expr} {ta : TA} {p p2 q pos : Pos}
theorem zip_laid {pins : List (Addr × Obj)} {σ : L2.St} {H : Hp} {s : Shared} {h' : Heap} {tk : Nat} {xs ys : List V} {us vs : List Value} {acc : Array Value} {c : Nat} {as : List Addr} {S : Addr} (I : Inv X pins σ H s) (rx : Vals xs us) (ry : Vals ys vs) (hz : (xs.zip ys).length ≤ sizeLine)
    (hk : ∀ b o, s.heap.get? b = some o → h'.get? b = some o) (hSl : s.heap.objs.size ≤ S) (hS : h'.get? S = some { cls := .type "list", dict := none, data := .seq acc c, slots := #[] }) (hl : as.length = (xs.zip ys).length)
    (hG : ZGot (fun i k v => us.toArray[i]? = some k ∧ vs.toArray[i]? = some v) S h' as) (hacc : acc.toList = as.map Value.ref) :
    as.Nodup ∧ (∀ t ∈ as, H t = none) ∧ H S = none ∧ S ∉ as ∧ Inv X pins σ (upd (putZ H as (xs.zip ys)) S (.lst (as.map V.ref))) { s with heap := h', toks := tk } := by
  have nd : as.Nodup := List.Pairwise.imp (fun {a b} (h : a < b) => Nat.ne_of_lt h) hG.rise
  have big : ∀ t ∈ as, s.heap.objs.size ≤ t := fun t ht => Nat.le_trans hSl (Nat.le_of_lt (hG.above t ht))
  have new : ∀ t ∈ as, H t = none := fun t ht => I.hok.fresh (big t ht)
  have newS : H S = none := I.hok.fresh hSl
  have hSn : S ∉ as := fun z => Nat.lt_irrefl _ (hG.above _ z)
  have off : ∀ b, b ∉ as → b ≠ S → upd (putZ H as (xs.zip ys)) S (.lst (as.map V.ref)) b = H b := fun b h1 h2 => by rw [upd_ne h2, putZ_off as _ _ h1]
  have kp : ∀ b u, H b = some u → upd (putZ H as (xs.zip ys)) S (.lst (as.map V.ref)) b = some u := fun b u e => by
    rw [off b (fun z => by rw [new b z] at e; cases e) (fun z => by rw [z, newS] at e; cases e)]
    exact e
  have low : ∀ b o, s.heap.get? b = some o → b ∉ as ∧ b ≠ S := fun b o e => ⟨fun z => absurd (Heap.lt_size e) (Nat.not_lt.mpr (big b z)), fun z => absurd (Heap.lt_size e) (Nat.not_lt.mpr (by rw [z]; exact hSl))⟩
  refine ⟨nd, new, newS, hSn, ?_⟩
  refine I.call' (ch := []) rfl ⟨fun b o q _ _ _ => hk b o q, fun b o q _ _ _ => ⟨o.slots, hk b o q⟩, fun b o q n _ => ?_, fun b o q _ => ⟨o, hk b o q⟩, fun b xs q => kp b _ q, fun b o u q => kp b _ q, fun b ps q => ⟨#[], by rw [kp b _ q]; simp⟩⟩ (fun b u q => ?_) I.bare fun b z => by simp at z
  · obtain ⟨z1, z2⟩ := low b o q
    rw [off b z1 z2]
    exact n
  · by_cases hb2 : b = S
    · rw [hb2] at q ⊢
      rw [upd_same] at q
      cases q
      refine ⟨by rw [List.length_map, hl]; exact hz, acc.toList, c, by rw [hacc]; exact LiI.vals_refs as, ?_⟩
      rw [Array.toArray_toList]
      exact hS
    · by_cases hb : b ∈ as
      · obtain ⟨j, hj⟩ := List.mem_iff_getElem?.mp hb
        have hjl : j < (xs.zip ys).length := by rw [← hl]; exact (List.getElem?_eq_some_iff.mp hj).1
        have hq := List.getElem?_eq_getElem hjl
        have e3 := putZ_at as (xs.zip ys) H nd j b _ hj hq
        rw [upd_ne hb2, e3] at q
        cases q
        obtain ⟨x', y', ⟨g1, g2⟩, g3⟩ := hG.pairs j b hj
        have hjx : j < xs.length := by rw [List.length_zip] at hjl; omega
        have hjy : j < ys.length := by rw [List.length_zip] at hjl; omega
        obtain ⟨u1, f1, r1⟩ := LiI.paired_get rx (List.getElem?_eq_getElem hjx)
        obtain ⟨u2, f2, r2⟩ := LiI.paired_get ry (List.getElem?_eq_getElem hjy)
        have k1 : u1 = x' := by
          have : us[j]? = some x' := by simpa using g1
          rw [f1] at this
          cases this
          rfl
        have k2 : u2 = y' := by
          have : vs[j]? = some y' := by simpa using g2
          rw [f2] at this
          cases this
          rfl
        subst k1 k2
        rw [List.getElem_zip]
        exact ⟨by show 2 ≤ sizeLine; decide, [u1, u2], .cons r1 (.cons r2 .nil), ⟨_, g3, rfl, _, rfl⟩⟩
      · rw [off b hb hb2] at q
        exact (I.hok b u q).stay (fun d v _ y => hk d v y) (fun d y => kp d _ y) fun d xs y => kp d _ y
theorem min_zip (xs ys : List V) (us vs : List Value) (rx : Vals xs us) (ry : Vals ys vs) : min us.toArray.size vs.toArray.size = (xs.zip ys).length := by
  have h1 := rx.length
  have h2 := ry.length
  rw [List.size_toArray, List.size_toArray, List.length_zip]
  omega
/-- list(zip(e, e2)) -/
theorem pe_listZip (hc : X.calm = true) (hg : Gl X "list") (hm : X.mg "list" = none) (hg2 : Gl X "zip") (hm2 : X.mg "zip" = none) (ha : PA X [e, e2] ta) (hv : bootBuiltins "list" = some (.type "list"))
    (hs2 : starEach [e, e2] X.env = (false, eval e X.env) :: starEach [e2] X.env := by rfl) (hpl : (backTo q (starEach [e2] X.env)).any (·.1) = false := by rfl)
    (hs : starEach [.Call (.Name "zip" p2) [e, e2] [] q] X.env = (false, eval (.Call (.Name "zip" p2) [e, e2] [] q) X.env) :: starEach [] X.env := by rfl) :
    PE X (.Call (.Name "list" p) [.Call (.Name "zip" p2) [e, e2] [] q] [] pos) (tListZ X.K ta) := by
  refine ⟨fun pins s σ H Q I h => ?_⟩
  refine wpAny_Call_Name_kw (ld_blt I hg hm hv ?_)
  refine PyProof.Rows.callWith_type1 ?_ hs rfl
  rw [hs]
  show wpAny _ _ (spliced ((false, eval (.Call (.Name "zip" p2) [e, e2] [] q) X.env) :: backTo pos (starEach [] X.env))) _ _ s
  refine Calls.spliced_cons ?_
  refine Call_ (ld_blt I hg2 hm2 PyProof.Rows.boot_zip (PyProof.Rows.callWith_type1 (thn (ha.run q pins s σ H _ I h) fun us s1 ⟨vs, H1, I1, r1, q1⟩ => ?_) hs2 hpl))
  obtain ⟨a, b, xs, ys, ex, hsq, hz, q1⟩ := q1
  subst ex
  cases r1 with
  | cons r rr =>
    cases rr with
    | cons r' rr =>
      cases rr
      cases r
      cases r'
      have finish : ∀ {It : Heap → Addr → Addr → Nat → Prop} {Sq : Heap → Addr → Array Value → Prop} (N : NextK It Sq) (us vs : List Value) (h1 : Heap), Vals xs us → Vals ys vs → a < s1.heap.objs.size → b < s1.heap.objs.size → Sq h1 a us.toArray → Sq h1 b vs.toArray →
          IsZip h1 (s1.heap.objs.size + 4) (s1.heap.objs.size + 2) (s1.heap.objs.size + 3) .none → IsPair h1 (s1.heap.objs.size + 2) (.ref s1.heap.objs.size) (.ref (s1.heap.objs.size + 1)) → IsPair h1 (s1.heap.objs.size + 3) .none .none →
          It h1 s1.heap.objs.size a 0 → It h1 (s1.heap.objs.size + 1) b 0 → h1.objs.size = s1.heap.objs.size + 5 → (∀ c o, s1.heap.get? c = some o → h1.get? c = some o) →
          wpAny (model X.prog X.w) X.A (call (.type "list") [.ref (s1.heap.objs.size + 4)]) (fun v s' => ∃ x H', Inv X pins σ H' s' ∧ RelV x v ∧ Q x H') X.xe { s1 with heap := h1 } := by
        intro It Sq N us vs h1 rx ry la lb sa sb hz1 hTI hTO i1 i2 hsz keep
        have la' : (a : Nat) < s1.heap.objs.size := la
        have lb' : (b : Nat) < s1.heap.objs.size := lb
        have five : ∀ c : Nat, c ∈ [s1.heap.objs.size + 4, s1.heap.objs.size + 3, s1.heap.objs.size, s1.heap.objs.size + 1] → s1.heap.objs.size ≤ c ∧ c < s1.heap.objs.size + 5 := fun c hc => by
          simp only [List.mem_cons, List.not_mem_nil, or_false] at hc
          omega
        have Z := zsrc (prog := X.prog) (w := X.w) N (PySem.W.ktu_apart s1.heap.objs.size a b la lb) (S := h1.objs.size) (by
          rw [hsz]
          simp only [List.mem_cons, List.not_mem_nil, or_false, not_or]
          refine ⟨?_, ?_, ?_, ?_, ?_, ?_, ?_⟩ <;> (refine Nat.ne_of_gt ?_; first | omega | exact Nat.lt_of_lt_of_le la (Nat.le_add_right _ _) | exact Nat.lt_of_lt_of_le lb (Nat.le_add_right _ _))) us.toArray vs.toArray
        refine zs_call (s := { s1 with heap := h1 }) Z (I1.ok.hd hc) hz1 ⟨hTI, i1, i2, sa, sb, .inl ⟨hz1, _, _, hTO⟩⟩ (fun c hc' => ?_) (by rw [min_zip xs ys us vs rx ry]; exact hz) fun h' tk acc c as k hS hl g hacc => ?_
        · show c < h1.objs.size
          rw [hsz]
          exact (five c hc').2
        · have hl' : as.length = (xs.zip ys).length := by rw [hl, min_zip xs ys us vs rx ry]
          obtain ⟨nd, n1, n2, n3, J⟩ := zip_laid (S := h1.objs.size) (tk := tk) I1 rx ry hz (fun b o e => k b o (fun hb => by
            exact absurd (Heap.lt_size e) (Nat.not_lt.mpr (five b hb).1)) (keep b o e)) (by rw [hsz]; omega) hS hl' g hacc
          exact ⟨.ref _, _, J, rfl, q1 h1.objs.size as hl' nd n1 n2 n3⟩
      rcases hsq with ⟨hqx, hqy⟩ | ⟨hqx, hqy⟩
      · obtain ⟨its, rv, w1, _⟩ := I1.list hqx
        obtain ⟨its2, rv2, w2, _⟩ := I1.list hqy
        refine call_zip_2 w1.isList w2.isList fun h' hz' hTI hTO h1 h2 hsz hk => ?_
        refine Calls.spliced_nil ?_
        exact finish nextK_list its its2 h' rv rv2 w1.lt w2.lt (w1.isList.at fun o e => hk _ o e) (w2.isList.at fun o e => hk _ o e) hz' hTI hTO h1 h2 hsz hk
      · obtain ⟨its, rv, w1, _⟩ := I1.tuple hqx
        obtain ⟨its2, rv2, w2, _⟩ := I1.tuple hqy
        obtain ⟨o1, ho1, _⟩ := id w1
        obtain ⟨o2, ho2, _⟩ := id w2
        refine RZ.call_zipT (show s1.heap.IsTuple a its.toArray from w1) (show s1.heap.IsTuple b its2.toArray from w2) fun h' hz' hTI hTO h1 h2 hsz hk => ?_
        refine Calls.spliced_nil ?_
        exact finish nextK_tup its its2 h' rv rv2 (Heap.lt_size ho1) (Heap.lt_size ho2) (Heap.IsTuple.at w1 fun o e => hk _ o e) (Heap.IsTuple.at w2 fun o e => hk _ o e) hz' hTI hTO h1 h2 hsz hk
end
end DL
end

section
namespace DL
open PySem L2 PySem.Spec PyProof.Rows

section
variable {X : Cx} {G : Gm} (hG : G.K = X.K)
def rCatL (K : PySem.W.Frag) : R2 := fun x y H Q => ∃ l b xs zs, x = .ref l ∧ y = .ref b ∧ SqL K H l xs ∧ SqL K H b zs ∧ xs.length + zs.length ≤ sizeLine ∧ ∀ p, H p = none → Q (.ref p) (upd H p (.lst (xs ++ zs)))
theorem op_catL : OpR X (binaryOp .Add) (rCatL X.K) := by
  intro pins s σ H x y v u Q I rx ry h
  obtain ⟨l, b, xs, zs, rfl, rfl, hl, hb, hz, q⟩ := h
  cases rx
  cases ry
  obtain ⟨its, r, p, _⟩ := I.list hl
  obtain ⟨its2, r2, p2, _⟩ := I.list hb
  obtain ⟨⟨c1, d1, a1, s1⟩, n1, e1, k1, _, w1⟩ := p
  obtain ⟨⟨c2, d2, a2, s2⟩, n2, e2, k2, _, w2⟩ := p2
  simp only at k1 w1 k2 w2
  subst k1 w1 k2 w2
  have g1 := r.length
  have g2 := r2.length
  refine concat_meets ⟨_, e1, rfl⟩ ⟨_, e2, rfl⟩ noFill_list_add seq_list_add PySem.F.slot_list_add PySem.F.entry_list_add (PySem.F.args_list_add_2 _ _) (list_addW l b its.toArray its2.toArray n1 n2 d1 d2 s1 s2 (by simp only [List.size_toArray]; omega)) ⟨e1, e2, ?_⟩
  have ea : its.toArray ++ its2.toArray = (its ++ its2).toArray := by simp
  rw [ea]
  exact ⟨.ref _, _, I.lnew (t' := s.toks) (r.append r2) (by rw [List.length_append]; omega), rfl, q _ I.fresh⟩

def rBin (G : Gm) (m : D → D → M D) : R2 := fun vx vy H Q => ∃ ρ S x y, Rel G ρ H S ∧ Rep G ρ H x vx ∧ Rep G ρ H y vy ∧ RunV G (Rep G) (m x y) ρ H S Q
theorem run_ite {G : Gm} {α β : Type} {rel : List Addr → Hp → α → β → Prop} {c : Prop} [Decidable c] {m : M α} {ρ : List Addr} {H : Hp} {S : Store} {Q : β → Hp → Prop} (h : RunV G rel (if c then m else M.fail) ρ H S Q) : c ∧ RunV G rel m ρ H S Q := by
  by_cases hc : c
  · rw [if_pos hc] at h; exact ⟨hc, h⟩
  · rw [if_neg hc] at h; exact run_fail h
include hG in
theorem add_sound (st : Bool) : OpR X (binaryOp .Add) (rBin G (dAdd st)) := by
  intro pins s σ H vx vy v u Q I rx ry h
  obtain ⟨ρ, S, x, y, R, r1, r2, h⟩ := h
  have general : ∀ (h : RunV G (Rep G) (M.bind (lstOf x) fun xs => M.bind (lstOf y) fun ys => mkL st (xs ++ ys)) ρ H S Q), wpAny (model X.prog X.w) X.A (binaryOp .Add v u) (EP X pins σ Q) X.xe s := by
    intro k0
    obtain ⟨xs, S1, h1, k1⟩ := run_bind k0
    obtain ⟨e1, a, vs, rfl, q1, l1⟩ := lstOf_sq R r1 h1
    subst e1
    obtain ⟨ys, S2, h2, k2⟩ := run_bind k1
    obtain ⟨e2, b, ws, rfl, q2, l2⟩ := lstOf_sq R r2 h2
    subst e2
    obtain ⟨hz, q⟩ := mkL_new R (l1.append l2) k2
    exact op_catL pins s σ H _ _ v u Q I rx ry ⟨a, b, vs, ws, rfl, rfl, hG ▸ q1, hG ▸ q2, by rw [← List.length_append]; exact hz, q⟩
  cases x with
  | int i =>
    cases y with
    | int j =>
      have q := h.fin R rfl rep_of_int
      rw [rep_int r1] at rx
      rw [rep_int r2] at ry
      exact op_add pins s σ H _ _ v u Q I rx ry ⟨i, j, rfl, rfl, q⟩
    | _ => exact general h
  | str i =>
    cases y with
    | str j =>
      obtain ⟨hz, q⟩ := mkS_str R h
      rw [rep_str r1] at rx
      rw [rep_str r2] at ry
      refine op_add_str pins s σ H _ _ v u Q I rx ry ⟨i, j, rfl, rfl, ?_, q⟩
      have e : (i ++ j).length = i.length + j.length := by show (i.cps ++ j.cps).size = _; rw [Array.size_append]; rfl
      omega
    | _ => exact general h
  | tup xs =>
    cases y with
    | tup ys =>
      unfold Rep at r1 r2
      obtain ⟨a, vs, rfl, q1, l1⟩ := r1
      obtain ⟨b, ws, rfl, q2, l2⟩ := r2
      obtain ⟨hz, q⟩ := mkT_new R (l1.append l2) h
      have hz' : (xs ++ ys).length ≤ sizeLine := by rw [← (l1.append l2).length]; exact hz
      have done : ∀ {w : V}, Rep G ρ H (.tup (xs ++ ys)) w → Q w H := fun {w} rw' => h.fin R (by show mkT (xs ++ ys) S = _; unfold mkT; rw [if_pos hz']; rfl) rw'
      refine op_catA pins s σ H _ _ v u Q I rx ry ⟨a, b, vs, ws, rfl, rfl, hG ▸ q1.sq, hG ▸ q2.sq, by rw [← List.length_append]; exact hz, fun e => ?_, fun _ e => ?_, fun _ _ => q⟩
      · subst e
        have : xs = [] := by have := l1.length; simpa using this.symm
        subst this
        exact done (by unfold Rep; exact ⟨b, ws, rfl, q2, l2⟩)
      · subst e
        have : ys = [] := by have := l2.length; simpa using this.symm
        subst this
        exact done (by unfold Rep; exact ⟨a, vs, rfl, q1, by simpa using l1⟩)
    | _ => exact general h
  | _ => exact general h

include hG in
theorem mul_sound (st : Bool) : OpR X (binaryOp .Mult) (rBin G (dMul st)) := by
  intro pins s σ H vx vy v u Q I rx ry h
  obtain ⟨ρ, S, x, y, R, r1, r2, h⟩ := h
  cases x with
  | int i =>
    cases y with
    | int j =>
      obtain ⟨hc, h⟩ := run_ite h
      have q := h.fin R rfl rep_of_int
      rw [rep_int r1] at rx
      rw [rep_int r2] at ry
      unfold mulOk at hc
      simp only [Bool.or_eq_true, decide_eq_true_eq] at hc
      rcases hc with (hc | hc) | hc
      · exact op_mul pins s σ H _ _ v u Q I rx ry ⟨i, j, rfl, rfl, .inl (by omega), q⟩
      · exact op_mul pins s σ H _ _ v u Q I rx ry ⟨i, j, rfl, rfl, .inr (by omega), q⟩
      · exact op_mulW pins s σ H _ _ v u Q I rx ry ⟨i, j, rfl, rfl, hc, q⟩
    | _ => exact run_fail h
  | tup xs =>
    cases y with
    | int k =>
      obtain ⟨hc, h⟩ := run_ite h
      simp only [Bool.and_eq_true, decide_eq_true_eq] at hc
      have r0 := r1
      unfold Rep at r1
      obtain ⟨a, vs, rfl, q1, l1⟩ := r1
      rw [rep_int r2] at ry
      obtain ⟨hz, q⟩ := mkT_new R (l1.repl k.toNat) h
      refine op_repW pins s σ H _ _ v u Q I rx ry ⟨a, k, vs, rfl, rfl, hG ▸ q1.sq, by omega, by omega, by rw [l1.length]; omega, fun same => ?_, fun _ => q⟩
      have e : repeatL xs k = xs := by
        rcases same with e | e
        · subst e
          have : xs = [] := by
            have := l1.length
            cases xs with
            | nil => rfl
            | cons a b => cases this
          subst this
          show (List.replicate k.toNat ([] : List D)).flatten = []
          simp
        · subst e
          show (List.replicate 1 xs).flatten = xs
          simp
      unfold mkT at h
      obtain ⟨_, h⟩ := run_ite h
      rw [e] at h
      exact RunV.fin (a := D.tup xs) h R rfl r0
    | _ => exact run_fail h
  | lst xs =>
    cases y with
    | int k =>
      obtain ⟨hc, h⟩ := run_ite h
      simp only [Bool.and_eq_true, decide_eq_true_eq] at hc
      unfold Rep at r1
      obtain ⟨a, vs, rfl, q1, l1⟩ := r1
      rw [rep_int r2] at ry
      obtain ⟨hz, q⟩ := mkL_new R (l1.repl k.toNat) h
      exact op_rep pins s σ H _ _ v u Q I rx ry ⟨a, k, vs, rfl, rfl, q1.1, by omega, by omega, by rw [l1.length]; exact hc.2, q⟩
    | _ => exact run_fail h
  | _ => exact run_fail h
include hG in
theorem bin_sound (st : Bool) (op : Operator) : OpR X (binaryOp op) (rBin G (dBin st op)) := by
  cases op with
  | Add => exact add_sound hG st
  | Mult => exact mul_sound hG st
  | Sub =>
    intro pins s σ H vx vy v u Q I rx ry h
    obtain ⟨ρ, S, x, y, R, r1, r2, h⟩ := h
    cases x with
    | int i =>
      cases y with
      | int j =>
        have q := h.fin R rfl rep_of_int
        rw [rep_int r1] at rx
        rw [rep_int r2] at ry
        exact op_sub pins s σ H _ _ v u Q I rx ry ⟨i, j, rfl, rfl, q⟩
      | _ => exact run_fail h
    | _ => exact run_fail h
  | FloorDiv =>
    intro pins s σ H vx vy v u Q I rx ry h
    obtain ⟨ρ, S, x, y, R, r1, r2, h⟩ := h
    cases x with
    | int i =>
      cases y with
      | int j =>
        obtain ⟨hc, h⟩ := run_ite h
        have q := h.fin R rfl rep_of_int
        rw [rep_int r1] at rx
        rw [rep_int r2] at ry
        unfold divOk at hc
        simp only [Bool.and_eq_true, decide_eq_true_eq] at hc
        obtain ⟨t, rfl⟩ := rx
        obtain ⟨t', rfl⟩ := ry
        exact floordiv_int hc.1 ⟨.int _, H, I.tok _, ⟨_, rfl⟩, q⟩ (.inl (PyProof.noPylong_of_log2 hc.2))
      | _ => exact run_fail h
    | _ => exact run_fail h
  | Mod =>
    intro pins s σ H vx vy v u Q I rx ry h
    obtain ⟨ρ, S, x, y, R, r1, r2, h⟩ := h
    cases x with
    | int i =>
      cases y with
      | int j =>
        obtain ⟨hc, h⟩ := run_ite h
        have q := h.fin R rfl rep_of_int
        rw [rep_int r1] at rx
        rw [rep_int r2] at ry
        exact op_modN pins s σ H _ _ v u Q I rx ry ⟨i, j, rfl, rfl, of_decide_eq_true hc, q⟩
      | _ => exact run_fail h
    | _ => exact run_fail h
  | Pow =>
    intro pins s σ H vx vy v u Q I rx ry h
    obtain ⟨ρ, S, x, y, R, r1, r2, h⟩ := h
    cases x with
    | int i =>
      cases y with
      | int j =>
        obtain ⟨hc, h⟩ := run_ite h
        have q := h.fin R rfl rep_of_int
        rw [rep_int r1] at rx
        rw [rep_int r2] at ry
        unfold powOk at hc
        simp only [Bool.and_eq_true, decide_eq_true_eq] at hc
        exact op_pow pins s σ H _ _ v u Q I rx ry ⟨i, j, rfl, rfl, ⟨hc.1.1, hc.1.2, by have := hc.2; omega⟩, q⟩
      | _ => exact run_fail h
    | _ => exact run_fail h
  | _ =>
    intro pins s σ H vx vy v u Q I rx ry h
    obtain ⟨ρ, S, x, y, R, r1, r2, h⟩ := h
    cases x <;> cases y <;> exact run_fail h
theorem neg_sound : UnR X (unaryOp .USub) (fun vx H Q => ∃ ρ S x, Rel G ρ H S ∧ Rep G ρ H x vx ∧ RunV G (Rep G) (dNeg x) ρ H S Q) := by
  intro pins s σ H vx v Q I rx h
  obtain ⟨ρ, S, x, R, r1, h⟩ := h
  cases x with
  | int i =>
    have q := h.fin R rfl rep_of_int
    rw [rep_int r1] at rx
    exact un_neg pins s σ H _ v Q I rx ⟨i, rfl, q⟩
  | _ => exact run_fail h

def RB (G : Gm) (m : M Bool) (ρ : List Addr) (H : Hp) (S : Store) (Q : VK) : Prop := RunV G (fun _ _ (b : Bool) (v : V) => v = .bl b) m ρ H S Q
def rCmp (G : Gm) (m : D → D → M Bool) : R2 := fun vx vy H Q => ∃ ρ S x y, Rel G ρ H S ∧ Rep G ρ H x vx ∧ Rep G ρ H y vy ∧ RB G (m x y) ρ H S Q
theorem RunV.finB {G : Gm} {m : M Bool} {ρ : List Addr} {H : Hp} {S : Store} {Q : VK} {b : Bool} (h : RB G m ρ H S Q) (R : Rel G ρ H S) (e : m S = some (.v b, S)) : Q (.bl b) H := RunV.fin (b := V.bl b) h R e rfl
include hG in
theorem eqD_sound (hu : X.A.units + 64 < cLine) (neg : Bool) : OpR X (compareOp (if neg = true then .NotEq else .Eq)) (rCmp G fun x y => M.bind (dEq x y) fun b => M.pure (if neg = true then !b else b)) := by
  intro pins s σ H vx vy v u Q I rx ry h
  obtain ⟨ρ, S, x, y, R, r1, r2, h⟩ := h
  obtain ⟨b, S1, h1, h⟩ := run_bind h
  have data : ∀ {p q : PyData}, Dp X.K H vx p → Dp X.K H vy q → SeqAt.shaped p = true → SeqAt.shaped q = true → Q (.bl (if neg = true then !PyData.eqv p q else PyData.eqv p q)) H →
      wpAny (model X.prog X.w) X.A (compareOp (if neg = true then .NotEq else .Eq) v u) (EP X pins σ Q) X.xe s := fun {p q} dp dq sp sq qq => by
    cases neg with
    | true => exact op_neD hu pins s σ H vx vy v u Q I rx ry ⟨p, q, dp, dq, sp, sq, qq⟩
    | false => exact op_eqD hu pins s σ H vx vy v u Q I rx ry ⟨p, q, dp, dq, sp, sq, qq⟩
  have general : (M.bind (pyOf x) fun p => M.bind (pyOf y) fun q => if (SeqAt.shaped p && SeqAt.shaped q) = true then M.pure (PyData.eqv p q) else M.fail) S = some (.v b, S1) →
      wpAny (model X.prog X.w) X.A (compareOp (if neg = true then .NotEq else .Eq) v u) (EP X pins σ Q) X.xe s := fun e => by
    obtain ⟨p, S2, e1, e2⟩ := bind_v e
    obtain ⟨p1, rfl⟩ := pyOf_v e1
    obtain ⟨q, S3, e3, e4⟩ := bind_v e2
    obtain ⟨p2, rfl⟩ := pyOf_v e3
    split at e4
    · rename_i hs
      obtain ⟨rfl, rfl⟩ := pure_v e4
      rw [Bool.and_eq_true] at hs
      exact data (hG ▸ toPy_dp R _ _ _ _ r1 p1) (hG ▸ toPy_dp R _ _ _ _ r2 p2) hs.1 hs.2 (RunV.finB h R rfl)
    · exact absurd e4 fail_no
  have lay : ∀ {p : PyData}, p.canLay0 = true → p.depth ≤ 64 → SeqAt.shaped p = true := fun {p} a b => by unfold SeqAt.shaped; rw [a, decide_eq_true b] <;> rfl
  cases x with
  | int i =>
    cases y with
    | int j =>
      obtain ⟨rfl, rfl⟩ := pure_v (show M.pure (decide (i = j)) S = _ from h1)
      rw [rep_int r1] at rx data
      rw [rep_int r2] at ry data
      refine data (.int i) (.int j) (lay rfl (by simp [PyData.depth])) (lay rfl (by simp [PyData.depth])) ?_
      have e : PyData.eqv (.int i) (.int j) = decide (i = j) := by unfold PyData.eqv; exact Bool.beq_eq_decide_eq i j
      rw [e]
      exact RunV.finB h R rfl
    | _ => exact general h1
  | str i =>
    cases y with
    | str j =>
      obtain ⟨rfl, rfl⟩ := pure_v (show M.pure (decide (i = j)) S = _ from h1)
      rw [rep_str r1] at rx data
      rw [rep_str r2] at ry data
      cases neg with
      | true =>
        refine op_ne pins s σ H _ _ v u Q I rx ry ⟨rfl, ?_⟩
        have := RunV.finB h R rfl
        have e : decide (V.str i = V.str j) = decide (i = j) := by simp
        rw [e]; exact this
      | false =>
        refine op_eq pins s σ H _ _ v u Q I rx ry ⟨rfl, ?_⟩
        have := RunV.finB h R rfl
        have e : decide (V.str i = V.str j) = decide (i = j) := by simp
        rw [e]; exact this
    | _ => exact general h1
  | bl i =>
    cases y with
    | bl j =>
      obtain ⟨rfl, rfl⟩ := pure_v (show M.pure (decide (i = j)) S = _ from h1)
      rw [rep_bl r1] at rx data
      rw [rep_bl r2] at ry data
      refine data (.bl i) (.bl j) (lay rfl (by simp [PyData.depth])) (lay rfl (by simp [PyData.depth])) ?_
      have e : PyData.eqv (.bool i) (.bool j) = decide (i = j) := by unfold PyData.eqv; exact Bool.beq_eq_decide_eq i j
      rw [e]
      exact RunV.finB h R rfl
    | _ => exact general h1
  | non =>
    cases y with
    | non =>
      obtain ⟨rfl, rfl⟩ := pure_v (show M.pure true S = _ from h1)
      rw [rep_non r1] at rx data
      rw [rep_non r2] at ry data
      refine data .non .non (lay rfl (by simp [PyData.depth])) (lay rfl (by simp [PyData.depth])) ?_
      have e : PyData.eqv .none .none = true := by unfold PyData.eqv; rfl
      rw [e]
      exact RunV.finB h R rfl
    | _ => exact general h1
  | _ => exact general h1
end
end DL
end

section
namespace DL
open PySem L2 PySem.Spec PyProof.Rows
section
variable {X : Cx} {G : Gm} (hG : G.K = X.K) {ρ : List Addr} {H : Hp} {S S' : Store}
theorem mapM_key1 {G : Gm} : ∀ {xs : List D} {vs : List V} {ks : List Key}, RepL G ρ H xs vs → xs.mapM keyOf1 = some ks → vs = ks.map kV
  | [], vs, ks, r, h => by
    unfold RepL at r
    subst r
    simp at h
    subst h
    rfl
  | d :: ds, vs, ks, r, h => by
    unfold RepL at r
    obtain ⟨v, w, rfl, r1, r2⟩ := r
    rw [List.mapM_cons] at h
    cases e1 : keyOf1 d with
    | none => rw [e1] at h; cases h
    | some k =>
      cases e2 : ds.mapM keyOf1 with
      | none => rw [e1, e2] at h; cases h
      | some ks' =>
        rw [e1, e2] at h
        cases h
        rw [mapM_key1 r2 e2]
        cases d <;> try (cases e1; done)
        case int i => cases e1; rw [rep_int r1]; rfl
        case str x => cases e1; rw [rep_str r1]; rfl
/-- how a key stands -/
def KeyV (K : PySem.W.Frag) (ρ : List Addr) (H : Hp) : DK → V → Prop
  | .inl k, v => v = kV k
  | .inr ks, v => ∃ b, v = .ref b ∧ ValT K ρ H b (ks.map kV)
theorem keyOf_v {G : Gm} {d : D} {v : V} {k : DK} (r : Rep G ρ H d v) (h : keyOf d = some k) : KeyV G.K ρ H k v := by
  cases d <;> try (unfold keyOf at h; cases h; done)
  case int i => cases h; exact rep_int r
  case str x => cases h; exact rep_str r
  case tup xs =>
    simp only [keyOf] at h
    cases e : xs.mapM keyOf1 with
    | none => rw [e] at h; cases h
    | some ks =>
      rw [e] at h
      cases h
      unfold Rep at r
      obtain ⟨a, vs, rfl, q, l⟩ := r
      rw [mapM_key1 l e] at q
      exact ⟨a, rfl, q⟩
theorem lt_sound (op : CmpOp) (hop : op = .Lt ∨ op = .LtE ∨ op = .Gt ∨ op = .GtE) : OpR X (compareOp op) (rCmp G (dCmp op)) := by
  intro pins s σ H vx vy v u Q I rx ry h
  obtain ⟨ρ, S, x, y, R, r1, r2, h⟩ := h
  rcases hop with rfl | rfl | rfl | rfl
  all_goals
    cases x with
    | int i =>
      cases y with
      | int j =>
        have q := RunV.finB h R rfl
        rw [rep_int r1] at rx
        rw [rep_int r2] at ry
        first
          | exact op_lt pins s σ H _ _ v u Q I rx ry ⟨i, j, rfl, rfl, q⟩
          | exact op_le pins s σ H _ _ v u Q I rx ry ⟨i, j, rfl, rfl, q⟩
          | exact op_gt pins s σ H _ _ v u Q I rx ry ⟨i, j, rfl, rfl, q⟩
          | exact op_ge pins s σ H _ _ v u Q I rx ry ⟨i, j, rfl, rfl, q⟩
      | _ => exact run_fail h
    | _ => exact run_fail h
theorem rep_isNone {G : Gm} {d : D} {v : V} (r : Rep G ρ H d v) : decide (v = .non) = dIsNone d := by
  cases d with
  | non => rw [rep_non r]; rfl
  | bl b => rw [rep_bl r]; exact decide_eq_false (fun q => by cases q)
  | int b => rw [rep_int r]; exact decide_eq_false (fun q => by cases q)
  | str b => rw [rep_str r]; exact decide_eq_false (fun q => by cases q)
  | tup xs => unfold Rep at r; obtain ⟨a, _, rfl, _⟩ := r; exact decide_eq_false (fun q => by cases q)
  | lst xs => unfold Rep at r; obtain ⟨a, _, rfl, _⟩ := r; exact decide_eq_false (fun q => by cases q)
  | dct xs => unfold Rep at r; obtain ⟨a, ks, rfl, _⟩ := r; exact decide_eq_false (fun q => by cases q)
  | frz xs => unfold Rep at r; obtain ⟨a, _, rfl, _⟩ := r; exact decide_eq_false (fun q => by cases q)
  | obj n => unfold Rep at r; obtain ⟨a, _, rfl⟩ := r; exact decide_eq_false (fun q => by cases q)
  | fn x => unfold Rep at r; obtain ⟨a, _, rfl⟩ := r; exact decide_eq_false (fun q => by cases q)
theorem is_sound (neg : Bool) : OpR X (compareOp (if neg = true then .IsNot else .Is)) (rCmp G fun x y => M.bind (dIs x y) fun b => M.pure (if neg = true then !b else b)) := by
  intro pins s σ H vx vy v u Q I rx ry h
  obtain ⟨ρ, S, x, y, R, r1, r2, h⟩ := h
  cases y with
  | non =>
    have e : dIs x .non S = some (.v (dIsNone x), S) := by unfold dIs; cases x <;> rfl
    rw [rep_non r2] at ry
    have q := RunV.finB h R (bind_eq e)
    rw [← rep_isNone r1] at q
    cases neg with
    | true => exact op_notN pins s σ H _ _ v u Q I rx ry ⟨rfl, q⟩
    | false => exact op_isN pins s σ H _ _ v u Q I rx ry ⟨rfl, q⟩
  | bl b =>
    cases x with
    | bl a =>
      rw [rep_bl r1] at rx
      rw [rep_bl r2] at ry
      have q := RunV.finB h R (bind_eq (S := S) (f := fun b => M.pure (if neg = true then !b else b)) (show dIs (.bl a) (.bl b) S = some (.v (decide (a = b)), S) from rfl))
      cases neg with
      | true => exact op_notBl pins s σ H _ _ v u Q I rx ry ⟨a, b, rfl, rfl, q⟩
      | false => exact op_isBl pins s σ H _ _ v u Q I rx ry ⟨a, b, rfl, rfl, q⟩
    | _ => obtain ⟨_, _, e, _⟩ := run_bind h; cases e
  | _ => obtain ⟨_, _, e, _⟩ := run_bind h; cases x <;> cases e

theorem key_sum {k : Key} {q : Key} : ((Sum.inl k : DK) = Sum.inl q) ↔ k = q := ⟨fun h => Sum.inl.inj h, fun h => by rw [h]⟩
theorem RepK.look {G : Gm} : ∀ {kvs : List (DK × D)} {ks : List (Key × V)} (k : Key), RepK G ρ H kvs ks →
    (dGet kvs (.inl k) = none ∧ valV ks k = none) ∨ ∃ d v, dGet kvs (.inl k) = some d ∧ valV ks k = some v ∧ Rep G ρ H d v
  | [], ks, k, r => by unfold RepK at r; subst r; exact .inl ⟨rfl, rfl⟩
  | (k0, d) :: kvs, ks, k, r => by
    unfold RepK at r
    obtain ⟨q, v, r', rfl, rfl, r1, r2⟩ := r
    by_cases e : q = k
    · subst e
      exact .inr ⟨d, v, by simp [dGet], by simp [valV], r1⟩
    · have h1 : dGet ((Sum.inl q, d) :: kvs) (.inl k) = dGet kvs (.inl k) := by simp [dGet, List.find?_cons, e]
      have h2 : valV ((q, v) :: r') k = valV r' k := valV_neg e
      rw [h1, h2]
      exact RepK.look k r2
theorem RepT.look {G : Gm} : ∀ {kvs : List (DK × D)} {ks : List (List Key × V)} (k : List Key), RepT G ρ H kvs ks →
    (dGet kvs (.inr k) = none ∧ valV ks k = none) ∨ ∃ d v, dGet kvs (.inr k) = some d ∧ valV ks k = some v ∧ Rep G ρ H d v
  | [], ks, k, r => by unfold RepT at r; subst r; exact .inl ⟨rfl, rfl⟩
  | (k0, d) :: kvs, ks, k, r => by
    unfold RepT at r
    obtain ⟨q, v, r', rfl, rfl, r1, r2⟩ := r
    by_cases e : q = k
    · subst e
      exact .inr ⟨d, v, by simp [dGet], by simp [valV], r1⟩
    · have h1 : dGet ((Sum.inr q, d) :: kvs) (.inr k) = dGet kvs (.inr k) := by simp [dGet, List.find?_cons, e]
      have h2 : valV ((q, v) :: r') k = valV r' k := valV_neg e
      rw [h1, h2]
      exact RepT.look k r2
theorem RepK.fit {G : Gm} {kvs : List (DK × D)} {ks : List (Key × V)} {q : List Key} (r : RepK G ρ H kvs ks) (h : dFit kvs (.inr q) = true) : kvs = [] ∧ ks = [] := by
  cases kvs with
  | nil => unfold RepK at r; exact ⟨rfl, r⟩
  | cons p t =>
    obtain ⟨k, d⟩ := p
    unfold RepK at r
    obtain ⟨k', v, r', rfl, _⟩ := r
    simp [dFit, sameK] at h
theorem RepT.fit {G : Gm} {kvs : List (DK × D)} {ks : List (List Key × V)} {q : Key} (r : RepT G ρ H kvs ks) (h : dFit kvs (.inl q) = true) : kvs = [] ∧ ks = [] := by
  cases kvs with
  | nil => unfold RepT at r; exact ⟨rfl, r⟩
  | cons p t =>
    obtain ⟨k, d⟩ := p
    unfold RepT at r
    obtain ⟨k', v, r', rfl, _⟩ := r
    simp [dFit, sameK] at h
/-- an empty dict is of both kinds -/
theorem inv_dkt {pins : List (Addr × Obj)} {σ : L2.St} {s : Shared} {a : Addr} (I : L2.Inv X pins σ H s) (e : H a = some (.dK [])) : L2.Inv X pins σ (upd H a (.dT [])) s := by
  obtain ⟨z, hd, vs, rel, o, es, ep, h1, h2, h3, h4, h5, h6⟩ := dk_of I.hok e
  cases rel
  have he : es.toList = [] := by
    generalize es.toList = l at h5
    cases h5
    rfl
  exact I.write (x := a) (e := a) (h' := s.heap) (t' := s.toks) (by rw [e]; exact True.intro) (.inl rfl) (fun b u _ q => q) ⟨o, h1⟩ ⟨Nat.zero_le _, hd, [], .nil, o, es, ep, h1, h2, h3, he, List.nodup_nil⟩
theorem keysOf_nil {P : Program} {w : World} : PySem.KeysOf (mixKind P w) #[] := by
  obtain ⟨o, es, ep, h1, h2, h3, h4, h5, h6⟩ := Heap.DictOf.new (knd := mixKind P w) { objs := #[] }
  have he : es.toList = [] := by
    generalize es.toList = l at h5
    cases h5
    rfl
  have : es = #[] := by cases es; simp at he; rw [he]
  rw [this] at h4
  exact h4
theorem inv_dtk {pins : List (Addr × Obj)} {σ : L2.St} {s : Shared} {a : Addr} (I : L2.Inv X pins σ H s) (e : H a = some (.dT [])) : L2.Inv X pins σ (upd H a (.dK [])) s := by
  obtain ⟨z, hd, xs, rel, o, es, ep, h1, h2, h3, h4, h5⟩ := (show ObjOk X.prog X.w H s.heap a (.dT []) from I.hok a _ e)
  cases rel
  have he : es = #[] := by cases es; simp at h4; rw [h4]
  subst he
  exact I.write (x := a) (e := a) (h' := s.heap) (t' := s.toks) (by rw [e]; exact True.intro) (.inl rfl) (fun b u _ q => q) ⟨o, h1⟩ ⟨Nat.zero_le _, hd, [], .nil, o, #[], ep, h1, h2, h3, keysOf_nil, .nil, List.nodup_nil⟩
theorem set_same {α : Type} : ∀ {l : List α} {n : Nat} {x : α}, l[n]? = some x → l.set n x = l
  | [], _, _, h => by simp at h
  | y :: r, 0, x, h => by simp at h; subst h; rfl
  | y :: r, n + 1, x, h => by rw [List.set_cons_succ, set_same (by simpa using h)]
/-- a look into a dict of the store -/
theorem dict_at {pins : List (Addr × Obj)} {σ : L2.St} {s : Shared} {n : Nat} {kvs : List (DK × D)} {k : DK} {vy : V} (I : L2.Inv X pins σ H s) (R : Rel G ρ H S) (e : S[n]? = some (.dct kvs)) (hk : KeyV G.K ρ H k vy) (hf : dFit kvs k = true) :
    ∃ H1 a o, L2.Inv X pins σ H1 s ∧ Le ρ H ρ H1 ∧ Rel G ρ H1 S ∧ ρ[n]? = some a ∧ KeyV G.K ρ H1 k vy ∧ DGet H1 a vy o ∧ ((o = none ∧ dGet kvs k = none) ∨ ∃ d v, o = some v ∧ dGet kvs k = some d ∧ Rep G ρ H1 d v) ∧
      ((∃ ks q, H1 a = some (.dK ks) ∧ RepK G ρ H1 kvs ks ∧ k = .inl q) ∨ ∃ ks q, H1 a = some (.dT ks) ∧ RepT G ρ H1 kvs ks ∧ k = .inr q) := by
  obtain ⟨a, ea, r⟩ := R.get e
  have keyT : ∀ {H1 : Hp}, Le ρ H ρ H1 → KeyV G.K ρ H1 k vy := fun {H1} L => by
    cases k with
    | inl q => exact hk
    | inr q =>
      obtain ⟨b, e1, e2⟩ := hk
      exact ⟨b, e1, L.fr b _ e2.2 e2.1, e2.2⟩
  rcases r with ⟨ks, eo, r⟩ | ⟨ks, eo, r⟩
  · cases k with
    | inl q =>
      refine ⟨H, a, valV ks q, I, Le.refl, R, ea, hk, ?_, ?_, .inl ⟨ks, q, eo, r, rfl⟩⟩
      · rw [show vy = kV q from hk]; exact .k eo
      · rcases r.look q with ⟨h1, h2⟩ | ⟨d, v, h1, h2, h3⟩
        · exact .inl ⟨h2, h1⟩
        · exact .inr ⟨d, v, h2, h1, h3⟩
    | inr q =>
      obtain ⟨rfl, rfl⟩ := r.fit hf
      obtain ⟨R1, L1⟩ := R.write (o := .dT []) (ob' := .dct []) e ea fun H' _ e' => .inr ⟨[], e', by unfold RepT; rfl⟩
      rw [show S.set n (.dct []) = S from set_same e] at R1
      obtain ⟨b, e1, e2⟩ := keyT L1
      subst e1
      refine ⟨_, a, none, inv_dkt I eo, L1, R1, ea, ⟨b, rfl, e2⟩, DGet.t upd_same e2.1, .inl ⟨rfl, rfl⟩, .inr ⟨[], q, upd_same, by unfold RepT; rfl, rfl⟩⟩
  · cases k with
    | inr q =>
      obtain ⟨b, e1, e2⟩ := hk
      subst e1
      refine ⟨H, a, valV ks q, I, Le.refl, R, ea, ⟨b, rfl, e2⟩, DGet.t eo e2.1, ?_, .inr ⟨ks, q, eo, r, rfl⟩⟩
      rcases r.look q with ⟨h1, h2⟩ | ⟨d, v, h1, h2, h3⟩
      · exact .inl ⟨h2, h1⟩
      · exact .inr ⟨d, v, h2, h1, h3⟩
    | inl q =>
      obtain ⟨rfl, rfl⟩ := r.fit hf
      obtain ⟨R1, L1⟩ := R.write (o := .dK []) (ob' := .dct []) e ea fun H' _ e' => .inl ⟨[], e', by unfold RepK; rfl⟩
      rw [show S.set n (.dct []) = S from set_same e] at R1
      refine ⟨_, a, none, inv_dtk I eo, L1, R1, ea, hk, ?_, .inl ⟨rfl, rfl⟩, .inl ⟨[], q, upd_same, by unfold RepK; rfl, rfl⟩⟩
      rw [show vy = kV q from hk]
      exact DGet.k (kvs := []) upd_same
end
end DL
end

section
namespace DL
open PySem L2 PySem.Spec PyProof.Rows
section
variable {X : Cx} {G : Gm} (hG : G.K = X.K) {ρ : List Addr} {H : Hp} {S S' : Store}
theorem dLookV_v {kvs : List (DK × D)} {x : D} {o : Option D} (h : dLookV kvs x S = some (.v o, S')) : ∃ k, keyOf x = some (.inl k) ∧ o = dGet kvs (.inl k) ∧ S' = S := by
  cases e : keyOf x with
  | none => simp only [dLookV, e] at h; exact absurd h fail_no
  | some k =>
    cases k with
    | inl k =>
      simp only [dLookV, e] at h
      obtain ⟨rfl, rfl⟩ := pure_v h
      exact ⟨k, rfl, rfl, rfl⟩
    | inr k => simp only [dLookV, e] at h; exact absurd h fail_no
theorem dLook_v {kvs : List (DK × D)} {x : D} {o : Option D} (h : dLook kvs x S = some (.v o, S')) : ∃ k, keyOf x = some k ∧ dFit kvs k = true ∧ o = dGet kvs k ∧ S' = S := by
  cases e : keyOf x with
  | none => simp only [dLook, e] at h; exact absurd h fail_no
  | some k =>
    simp only [dLook, e] at h
    by_cases hf : dFit kvs k = true
    · rw [if_pos hf] at h
      obtain ⟨rfl, rfl⟩ := pure_v h
      exact ⟨k, rfl, hf, rfl, rfl⟩
    · rw [if_neg hf] at h
      exact absurd h fail_no
/-- a look into a dict by value -/
theorem dctV_at {kvs : List (DK × D)} {v : V} {k : Key} (r : Rep G ρ H (.dct kvs) v) : ∃ a o, v = .ref a ∧ DGet H a (kV k) o ∧ IsD H a ∧ ((o = none ∧ dGet kvs (.inl k) = none) ∨ ∃ d w, o = some w ∧ dGet kvs (.inl k) = some d ∧ Rep G ρ H d w) := by
  unfold Rep at r
  obtain ⟨a, ks, rfl, ⟨q1, q2⟩, l⟩ := r
  refine ⟨a, valV ks k, rfl, .inl ⟨ks, k, q1, rfl, rfl⟩, .inl ⟨ks, q1⟩, ?_⟩
  rcases l.look k with ⟨h1, h2⟩ | ⟨d, v, h1, h2, h3⟩
  · exact .inl ⟨h2, h1⟩
  · exact .inr ⟨d, v, h2, h1, h3⟩
include hG in
theorem in_sound (hu : X.A.units + 65 < cLine) (neg : Bool) : OpR X (compareOp (if neg = true then .NotIn else .In)) (rCmp G fun x y => M.bind (dIn x y) fun b => M.pure (if neg = true then !b else b)) := by
  intro pins s σ H vx vy v u Q I rx ry h
  obtain ⟨ρ, S, x, y, R, r1, r2, h⟩ := h
  obtain ⟨b, S1, h1, h⟩ := run_bind h
  -- a dict
  have dict : ∀ {H1 : Hp} {a : Addr} {o : Option V}, L2.Inv X pins σ H1 s → vy = .ref a → DGet H1 a vx o → Q (.bl (if neg = true then !o.isSome else o.isSome)) H1 →
      wpAny (model X.prog X.w) X.A (compareOp (if neg = true then .NotIn else .In) v u) (EP X pins σ Q) X.xe s := fun {H1 a o} I1 e g q => by
    subst e
    cases ry
    cases neg with
    | true => exact d_notIn (by omega) I1 g rx fun s' I' => ⟨.bl _, H1, I', rfl, q⟩
    | false => exact d_in (by omega) I1 g rx fun s' I' => ⟨.bl _, H1, I', rfl, q⟩
  have tupl : ∀ {p : PyData} {ds : List PyData}, Dp X.K H vx p → Dp X.K H vy (.tuple ds) → SeqAt.shaped p = true → SeqAt.shaped (.tuple ds) = true → Q (.bl (if neg = true then !(ds.any fun z => PyData.eqv z p) else ds.any fun z => PyData.eqv z p)) H →
      wpAny (model X.prog X.w) X.A (compareOp (if neg = true then .NotIn else .In) v u) (EP X pins σ Q) X.xe s := fun {p ds} d1 d2 s1 s2 q => by
    obtain ⟨as, r1⟩ := Dp.reads I p vx v d1 rx
    obtain ⟨bs, r2⟩ := Dp.reads I (.tuple ds) vy u d2 ry
    cases neg with
    | true => exact SeqAt.notIn_tuple_reads r2 r1 (SeqAt.canLay_of_shaped s2) (SeqAt.canLay_of_shaped s1) (room_in_shaped s1 hu) ⟨.bl _, H, I, rfl, q⟩
    | false => exact SeqAt.in_tuple_reads r2 r1 (SeqAt.canLay_of_shaped s2) (SeqAt.canLay_of_shaped s1) (room_in_shaped s1 hu) ⟨.bl _, H, I, rfl, q⟩
  have list : ∀ {p : PyData} {ds : List PyData}, Dp X.K H vx p → Dp X.K H vy (.list ds) → SeqAt.shaped p = true → SeqAt.shaped (.list ds) = true → Q (.bl (if neg = true then !(ds.any fun z => PyData.eqv z p) else ds.any fun z => PyData.eqv z p)) H →
      wpAny (model X.prog X.w) X.A (compareOp (if neg = true then .NotIn else .In) v u) (EP X pins σ Q) X.xe s := fun {p ds} d1 d2 s1 s2 q => by
    obtain ⟨as, r1⟩ := Dp.reads I p vx v d1 rx
    obtain ⟨bs, r2⟩ := Dp.reads I (.list ds) vy u d2 ry
    cases neg with
    | true => exact SeqAt.notIn_list_reads r2 r1 (SeqAt.canLay_of_shaped s2) (SeqAt.canLay_of_shaped s1) (room_in_shaped s1 hu) ⟨.bl _, H, I, rfl, q⟩
    | false => exact SeqAt.in_list_reads r2 r1 (SeqAt.canLay_of_shaped s2) (SeqAt.canLay_of_shaped s1) (room_in_shaped s1 hu) ⟨.bl _, H, I, rfl, q⟩
  have lists : (M.bind (pyOf x) fun p => M.bind (pyOf y) fun q => match q with
      | .list ds => if (SeqAt.shaped p && SeqAt.shaped q) = true then M.pure (ds.any fun z => PyData.eqv z p) else M.fail
      | _ => M.fail) S = some (.v b, S1) → wpAny (model X.prog X.w) X.A (compareOp (if neg = true then .NotIn else .In) v u) (EP X pins σ Q) X.xe s := fun e => by
    obtain ⟨p, S2, e1, e2⟩ := bind_v e
    obtain ⟨p1, rfl⟩ := pyOf_v e1
    obtain ⟨q, S3, e3, e4⟩ := bind_v e2
    obtain ⟨p2, rfl⟩ := pyOf_v e3
    cases q with
    | list ds =>
      simp only at e4
      split at e4
      · rename_i hs
        obtain ⟨rfl, rfl⟩ := pure_v e4
        rw [Bool.and_eq_true] at hs
        exact list (hG ▸ toPy_dp R _ _ _ _ r1 p1) (hG ▸ toPy_dp R _ _ _ _ r2 p2) hs.1 hs.2 (RunV.finB h R rfl)
      · exact absurd e4 fail_no
    | _ => exact absurd e4 fail_no
  cases y with
  | str yb =>
    cases x with
    | str xa =>
      obtain ⟨rfl, rfl⟩ := pure_v (show M.pure (!(Builtin.Str.occurrences yb xa 0 yb.length 1).isEmpty) S = _ from h1)
      rw [rep_str r1] at rx
      rw [rep_str r2] at ry
      have q := RunV.finB h R rfl
      cases neg with
      | true => exact op_notin_str pins s σ H _ _ v u Q I rx ry ⟨xa, yb, rfl, rfl, q⟩
      | false => exact op_in_str pins s σ H _ _ v u Q I rx ry ⟨xa, yb, rfl, rfl, q⟩
    | _ => cases h1
  | dct kvs =>
    obtain ⟨o, S2, e1, e2⟩ := bind_v (show (M.bind (dLookV kvs x) fun r => M.pure r.isSome) S = _ from h1)
    obtain ⟨k, ek, rfl, rfl⟩ := dLookV_v e1
    obtain ⟨rfl, rfl⟩ := pure_v e2
    have hk := keyOf_v r1 ek
    obtain ⟨a, o, ea, g, _, hO⟩ := dctV_at (k := k) r2
    have q := RunV.finB h R rfl
    refine dict I ea (by rw [show vx = kV k from hk]; exact g) ?_
    have e : o.isSome = (dGet kvs (.inl k)).isSome := by
      rcases hO with ⟨e1, e2⟩ | ⟨d, w, e1, e2, _⟩ <;> rw [e1, e2] <;> rfl
    rw [e]; exact q
  | tup ys =>
    obtain ⟨p, S2, e1, e2⟩ := bind_v h1
    obtain ⟨p1, rfl⟩ := pyOf_v e1
    obtain ⟨q, S3, e3, e4⟩ := bind_v e2
    obtain ⟨p2, rfl⟩ := pyOf_v e3
    cases q with
    | tuple ds =>
      simp only at e4
      split at e4
      · rename_i hs
        obtain ⟨rfl, rfl⟩ := pure_v e4
        rw [Bool.and_eq_true] at hs
        exact tupl (hG ▸ toPy_dp R _ _ _ _ r1 p1) (hG ▸ toPy_dp R _ _ _ _ r2 p2) hs.1 hs.2 (RunV.finB h R rfl)
      · exact absurd e4 fail_no
    | _ => exact absurd e4 fail_no
  | lst ys => exact lists h1
  | obj n =>
    obtain ⟨ob, S2, e1, e2⟩ := bind_v (show (M.bind (getO n) _) S = _ from h1)
    obtain ⟨eo, rfl⟩ := getO_v e1
    cases ob with
    | dct kvs =>
      obtain ⟨o, S3, e3, e4⟩ := bind_v e2
      obtain ⟨k, ek, hf, rfl, rfl⟩ := dLook_v e3
      obtain ⟨rfl, rfl⟩ := pure_v e4
      obtain ⟨H1, a, o, I1, L1, R1, ea, _, g, hO, _⟩ := dict_at I R eo (keyOf_v r1 ek) hf
      have r2' := r2
      unfold Rep at r2'
      obtain ⟨a', ea', rfl⟩ := r2'
      rw [ea] at ea'
      cases ea'
      refine dict I1 rfl g ?_
      have e : o.isSome = (dGet kvs k).isSome := by
        rcases hO with ⟨e1, e2⟩ | ⟨d, w, e1, e2, _⟩ <;> rw [e1, e2] <;> rfl
      rw [e]
      obtain ⟨b', S', eb, q⟩ := h
      obtain ⟨rfl, rfl⟩ := pure_v eb
      exact q _ _ _ L1 R1 rfl
    | lst ds => exact lists e2
    | ins c fs => cases e2
  | _ => cases h1
theorem cmp_sound0 (op : CmpOp) (hu : X.A.units + 65 < cLine) (hG : G.K = X.K) : OpR X (compareOp op) (rCmp G (dCmp op)) := by
  have via : ∀ {f : D → D → M Bool} {op : CmpOp}, OpR X (compareOp op) (rCmp G f) → (∀ x y, f x y = dCmp op x y) → OpR X (compareOp op) (rCmp G (dCmp op)) := fun {f op} h e => by
    have : f = dCmp op := by funext x y; exact e x y
    rw [← this]; exact h
  have pp : ∀ m : M Bool, (M.bind m fun b => M.pure b) = m := fun m => by
    funext S
    unfold M.bind M.pure
    cases m S with
    | none => rfl
    | some p =>
      obtain ⟨r, S1⟩ := p
      cases r <;> rfl
  cases op with
  | Eq => exact via (eqD_sound hG (by omega) false) fun x y => by show M.bind (dEq x y) (fun b => M.pure b) = dEq x y; exact pp _
  | NotEq => exact via (eqD_sound hG (by omega) true) fun x y => rfl
  | Lt => exact lt_sound _ (.inl rfl)
  | LtE => exact lt_sound _ (.inr (.inl rfl))
  | Gt => exact lt_sound _ (.inr (.inr (.inl rfl)))
  | GtE => exact lt_sound _ (.inr (.inr (.inr rfl)))
  | Is => exact via (is_sound false) fun x y => by show M.bind (dIs x y) (fun b => M.pure b) = dIs x y; exact pp _
  | IsNot => exact via (is_sound true) fun x y => rfl
  | In => exact via (in_sound hG hu false) fun x y => by show M.bind (dIn x y) (fun b => M.pure b) = dIn x y; exact pp _
  | NotIn => exact via (in_sound hG hu true) fun x y => rfl

include hG in
theorem ix_sound (hu : X.A.units + 65 < cLine) : IxR X (rBin G dIx) := by
  intro value slice pins s σ H vx vy v u Q I rx ry h hs
  obtain ⟨ρ, S, x, y, R, r1, r2, h⟩ := h
  have dict : ∀ {H1 : Hp} {a : Addr} {w : V}, L2.Inv X pins σ H1 s → vx = .ref a → DGet H1 a vy (some w) → Q w H1 →
      wpAny (model X.prog X.w) X.A (subscriptTail value slice v u) (EP X pins σ Q) X.xe s := fun {H1 a w} I1 e g q => by
    subst e
    cases rx
    exact tail_any (dict_typeIs I1 g) PySem.F.slot_dict_getitem.lookup (d_getItem (by omega) I1 g ry fun w' s' I' rw' => ⟨w, H1, I', rw', q⟩) hs
  have listy : ∀ {a : Addr} {xs : List D} {ys : List V} {i : Int}, vx = .ref a → vy = .int i → SqL G.K H a ys → RepL G ρ H xs ys → RunV G (Rep G) (M.of (atI xs i)) ρ H S Q →
      wpAny (model X.prog X.w) X.A (subscriptTail value slice v u) (EP X pins σ Q) X.xe s := fun {a xs ys i} e1 e2 q l hh => by
    subst e1 e2
    obtain ⟨d, S', e, qq⟩ := hh
    obtain ⟨ea, rfl⟩ := of_v e
    obtain ⟨w, ew, rw'⟩ := l.at_ ea
    exact ix_list value slice pins s σ H _ _ v u Q I rx ry ⟨a, ys, i, w, rfl, rfl, hG ▸ q, ew, qq _ _ _ Le.refl R rw'⟩ hs
  cases x with
  | str z =>
    cases y with
    | int i =>
      obtain ⟨hz, h⟩ := run_ite h
      rw [rep_str r1] at rx
      rw [rep_int r2] at ry
      obtain ⟨d, S', e, qq⟩ := h
      obtain ⟨ea, rfl⟩ := of_v e
      obtain ⟨c, ec, rfl⟩ := Option.map_eq_some_iff.mp ea
      exact ix_str value slice pins s σ H _ _ v u Q I rx ry ⟨z, i, c, rfl, rfl, hz, ec, qq _ _ _ Le.refl R rep_of_str⟩ hs
    | _ => exact run_fail h
  | tup xs =>
    cases y with
    | int i =>
      unfold Rep at r1
      obtain ⟨a, ys, rfl, q, l⟩ := r1
      rw [rep_int r2] at ry
      obtain ⟨d, S', e, qq⟩ := h
      obtain ⟨ea, rfl⟩ := of_v (show M.of (atI xs i) S = _ from e)
      obtain ⟨w, ew, rw'⟩ := l.at_ ea
      exact ix_tup value slice pins s σ H _ _ v u Q I rx ry ⟨a, ys, i, w, rfl, rfl, hG ▸ q.sq, ew, qq _ _ _ Le.refl R rw'⟩ hs
    | _ => exact run_fail h
  | lst xs =>
    cases y with
    | int i =>
      unfold Rep at r1
      obtain ⟨a, ys, rfl, q, l⟩ := r1
      exact listy rfl (rep_int r2) q.sq l h
    | _ => exact run_fail h
  | dct kvs =>
    obtain ⟨o, S1, e1, hh⟩ := run_bind (show RunV G (Rep G) (M.bind (dLookV kvs y) M.of) ρ H S Q from h)
    obtain ⟨k, ek, rfl, rfl⟩ := dLookV_v e1
    have hk := keyOf_v r2 ek
    obtain ⟨a, o, ea, g, _, hO⟩ := dctV_at (k := k) r1
    obtain ⟨d, S', e, qq⟩ := hh
    obtain ⟨ed, rfl⟩ := of_v e
    rcases hO with ⟨e1, e2⟩ | ⟨d', w, e1, e2, rw'⟩
    · rw [ed] at e2; cases e2
    · rw [ed] at e2
      cases e2
      subst e1
      exact dict I ea (by rw [show vy = kV k from hk]; exact g) (qq _ _ _ Le.refl R rw')
  | obj n =>
    obtain ⟨ob, S2, e1, hh⟩ := run_bind (show RunV G (Rep G) (M.bind (getO n) _) ρ H S Q from h)
    obtain ⟨eo, rfl⟩ := getO_v e1
    cases ob with
    | lst xs =>
      cases y with
      | int i =>
        obtain ⟨a, ea, ys, eys, l⟩ := R.get eo
        unfold Rep at r1
        obtain ⟨a', ea', rfl⟩ := r1
        rw [ea] at ea'
        cases ea'
        exact listy rfl (rep_int r2) (SqL.of eys) l hh
      | _ => exact run_fail hh
    | dct kvs =>
      obtain ⟨o, S3, e3, h4⟩ := run_bind hh
      obtain ⟨k, ek, hf, rfl, rfl⟩ := dLook_v e3
      obtain ⟨H1, a, o, I1, L1, R1, ea, _, g, hO, _⟩ := dict_at I R eo (keyOf_v r2 ek) hf
      have r1' := r1
      unfold Rep at r1'
      obtain ⟨a', ea', rfl⟩ := r1'
      rw [ea] at ea'
      cases ea'
      obtain ⟨d, S', e, qq⟩ := h4
      obtain ⟨ed, rfl⟩ := of_v e
      rcases hO with ⟨e1, e2⟩ | ⟨d', w, e1, e2, rw'⟩
      · rw [ed] at e2; cases e2
      · rw [ed] at e2
        cases e2
        subst e1
        exact dict I1 rfl g (qq _ _ _ L1 R1 rw')
    | ins c fs => exact run_fail hh
  | _ => exact run_fail h
end
end DL
end

section
namespace DL
open PySem L2 PySem.Spec PyProof.Rows
section
variable {X : Cx} {G : Gm} (hG : G.K = X.K) {ρ : List Addr} {H : Hp} {S S' : Store}
def rSlc (G : Gm) (m : D → Option Int → Option Int → M D) : V → Option Int → Option Int → Hp → VK → Prop := fun vx lo hi H Q => ∃ ρ S x, Rel G ρ H S ∧ Rep G ρ H x vx ∧ RunV G (Rep G) (m x lo hi) ρ H S Q
include hG in
theorem sl_sound (st : Bool) : SlR X (rSlc G (dCut st)) := by
  intro pins s σ H vx v vl vu lo hi sl Q I rx hs pl pu h
  obtain ⟨ρ, S, x, R, r1, h⟩ := h
  have lists : RunV G (Rep G) (M.bind (lstOf x) fun xs => mkL st (cutD xs lo hi)) ρ H S Q →
      ∃ T id, typeLookup (.type T) "__getitem__" = pure (some (.builtin id)) ∧ s.TypeIs v T ∧ wpAny (model X.prog X.w) X.A (getItem v (.ref sl)) (EP X pins σ Q) X.xe s := fun hh => by
    obtain ⟨xs, S1, h1, k1⟩ := run_bind hh
    obtain ⟨e1, a, vs, rfl, q1, l1⟩ := lstOf_sq R r1 h1
    subst e1
    obtain ⟨hz, q⟩ := mkL_new R (l1.cut lo hi) k1
    exact sl_list pins s σ H _ v vl vu lo hi sl Q I rx hs pl pu ⟨a, vs, rfl, hG ▸ q1, q⟩
  cases x with
  | str z =>
    obtain ⟨hz, h⟩ := run_ite h
    rw [rep_str r1] at rx
    exact C8.sl_txt pins s σ H _ v vl vu lo hi sl Q I rx hs pl pu ⟨z, rfl, hz, h.fin R rfl rep_of_str⟩
  | tup xs =>
    have r1' := r1
    unfold Rep at r1'
    obtain ⟨a, vs, rfl, q, l⟩ := r1'
    refine sl_tupA pins s σ H _ v vl vu lo hi sl Q I rx hs pl pu ⟨a, vs, rfl, hG ▸ q.sq, fun hw => ?_, fun _ p np => ?_⟩
    · refine h.fin R rfl (b := V.ref a) ?_
      have : cutD xs lo hi = xs := by
        unfold cutD
        rw [l.length] at hw
        rw [hw.1, hw.2]
        simp
      show Rep G ρ H (.tup (cutD xs lo hi)) _
      rw [this]
      exact r1
    · obtain ⟨d, S', e, qq⟩ := h
      obtain ⟨rfl, rfl⟩ := pure_v (show M.pure (D.tup (cutD xs lo hi)) S = _ from e)
      obtain ⟨R', L⟩ := R.out (o := .tup (cutV vs lo hi)) np
      exact qq _ _ _ L R' (by unfold Rep; exact ⟨p, _, rfl, ⟨upd_same, R.fresh np⟩, RepL.le L _ (l.cut lo hi)⟩)
  | _ => exact lists h
/-- truth -/
def rTru (G : Gm) : V → Hp → (Bool → Hp → Prop) → Prop := fun vx H Q => ∃ ρ S x, Rel G ρ H S ∧ Rep G ρ H x vx ∧ RunV G (fun _ _ (b : Bool) c => c = b) (tru x) ρ H S Q
include hG in
theorem tru_sound : TruR X (rTru G) := by
  intro pins s σ H vx v Q I rx h
  obtain ⟨ρ, S, x, R, r1, h⟩ := h
  have fin : ∀ {b : Bool}, tru x S = some (.v b, S) → TruV X.K vx H b → wpAny (model X.prog X.w) X.A (truthy v) (TP X pins σ Q) X.xe s := fun {b} e t =>
    tru_ok pins s σ H vx v Q I rx ⟨b, t, h.fin R e rfl⟩
  cases x with
  | non => exact fin rfl (by rw [rep_non r1]; exact rfl)
  | bl b => exact fin rfl (by rw [rep_bl r1]; exact rfl)
  | int i => exact fin rfl (by rw [rep_int r1]; show decide (i ≠ 0) = (i != 0); by_cases h : i = 0 <;> simp [h])
  | str z =>
    obtain ⟨hz, h'⟩ := run_ite (show RunV G _ (if z.length ≤ sizeLine then M.pure (decide (z.length ≠ 0)) else M.fail) ρ H S Q from h)
    refine fin (by show (if z.length ≤ sizeLine then M.pure (decide (z.length ≠ 0)) else M.fail) S = _; rw [if_pos hz]; rfl) ?_
    rw [rep_str r1]
    refine ⟨hz, ?_⟩
    by_cases h0 : z.length = 0 <;> simp [h0]
  | tup xs =>
    have r1' := r1
    unfold Rep at r1'
    obtain ⟨a, vs, e, q, l⟩ := r1'
    refine fin rfl ?_
    rw [e]
    refine .inr (.inl ⟨vs, hG ▸ q.sq, ?_⟩)
    have := l.length
    cases xs <;> cases vs <;> simp_all
  | lst xs =>
    have r1' := r1
    unfold Rep at r1'
    obtain ⟨a, vs, e, q, l⟩ := r1'
    refine fin rfl ?_
    rw [e]
    refine .inl ⟨vs, hG ▸ q.sq, ?_⟩
    have := l.length
    cases xs <;> cases vs <;> simp_all
  | obj n =>
    obtain ⟨ob, S2, e1, hh⟩ := run_bind (show RunV G _ (M.bind (getO n) _) ρ H S Q from h)
    obtain ⟨eo, rfl⟩ := getO_v e1
    cases ob with
    | lst xs =>
      obtain ⟨a, ea, ys, eys, l⟩ := R.get eo
      have r1' := r1
      unfold Rep at r1'
      obtain ⟨a', ea', e⟩ := r1'
      rw [ea] at ea'
      cases ea'
      refine fin (b := !xs.isEmpty) (by show M.bind (getO n) _ _ = _; rw [bind_eq e1]; rfl) ?_
      rw [e]
      refine .inl ⟨ys, SqL.of eys, ?_⟩
      have := l.length
      cases xs <;> cases ys <;> simp_all
    | _ => exact run_fail hh
  | _ => exact run_fail h
/-- o[i] = v -/
theorem RepK.put : ∀ {kvs : List (DK × D)} {ks : List (Key × V)} {k : Key} {d : D} {v : V}, RepK G ρ H kvs ks → Rep G ρ H d v → RepK G ρ H (dPut kvs (.inl k) d) (putK ks k v) := by
  have mp : ∀ {kvs : List (DK × D)} {ks : List (Key × V)} {k : Key} {d : D} {v : V}, RepK G ρ H kvs ks → Rep G ρ H d v →
      RepK G ρ H (kvs.map fun kv => if kv.1 = .inl k then (kv.1, d) else kv) (ks.map fun kv => if kv.1 = k then (kv.1, v) else kv) := by
    intro kvs
    induction kvs with
    | nil => intro ks k d v r q; unfold RepK at r; subst r; simp; unfold RepK; rfl
    | cons p t ih =>
      intro ks k d v r q
      obtain ⟨k0, d0⟩ := p
      unfold RepK at r
      obtain ⟨q0, v0, r', rfl, rfl, r1, r2⟩ := r
      simp only [List.map_cons]
      by_cases e : q0 = k
      · subst e
        simp only [if_true]
        unfold RepK
        exact ⟨q0, v, _, rfl, rfl, q, ih r2 q⟩
      · have h1 : ¬ (Sum.inl q0 : DK) = .inl k := fun h => e (Sum.inl.inj h)
        simp only [if_neg e, if_neg h1]
        unfold RepK
        exact ⟨q0, v0, _, rfl, rfl, r1, ih r2 q⟩
  have sn : ∀ {kvs : List (DK × D)} {ks : List (Key × V)} {k : Key} {d : D} {v : V}, RepK G ρ H kvs ks → Rep G ρ H d v → RepK G ρ H (kvs ++ [(.inl k, d)]) (ks ++ [(k, v)]) := by
    intro kvs
    induction kvs with
    | nil => intro ks k d v r q; unfold RepK at r; subst r; simp; unfold RepK; exact ⟨k, v, [], rfl, rfl, q, by unfold RepK; rfl⟩
    | cons p t ih =>
      intro ks k d v r q
      obtain ⟨k0, d0⟩ := p
      unfold RepK at r
      obtain ⟨q0, v0, r', rfl, rfl, r1, r2⟩ := r
      simp only [List.cons_append]
      unfold RepK
      exact ⟨q0, v0, _, rfl, rfl, r1, ih r2 q⟩
  have an : ∀ {kvs : List (DK × D)} {ks : List (Key × V)} {k : Key}, RepK G ρ H kvs ks → (kvs.any fun kv => decide (kv.1 = .inl k)) = (ks.any fun kv => decide (kv.1 = k)) := by
    intro kvs
    induction kvs with
    | nil => intro ks k r; unfold RepK at r; subst r; rfl
    | cons p t ih =>
      intro ks k r
      obtain ⟨k0, d0⟩ := p
      unfold RepK at r
      obtain ⟨q0, v0, r', rfl, rfl, r1, r2⟩ := r
      simp only [List.any_cons, ih r2]
      congr 1
      by_cases e : q0 = k <;> simp [e]
  intro kvs ks k d v r q
  unfold dPut putK
  rw [an r]
  split
  · exact mp r q
  · exact sn r q
theorem RepT.put : ∀ {kvs : List (DK × D)} {ks : List (List Key × V)} {k : List Key} {d : D} {v : V}, RepT G ρ H kvs ks → Rep G ρ H d v → RepT G ρ H (dPut kvs (.inr k) d) (putK ks k v) := by
  have mp : ∀ {kvs : List (DK × D)} {ks : List (List Key × V)} {k : List Key} {d : D} {v : V}, RepT G ρ H kvs ks → Rep G ρ H d v →
      RepT G ρ H (kvs.map fun kv => if kv.1 = .inr k then (kv.1, d) else kv) (ks.map fun kv => if kv.1 = k then (kv.1, v) else kv) := by
    intro kvs
    induction kvs with
    | nil => intro ks k d v r q; unfold RepT at r; subst r; simp; unfold RepT; rfl
    | cons p t ih =>
      intro ks k d v r q
      obtain ⟨k0, d0⟩ := p
      unfold RepT at r
      obtain ⟨q0, v0, r', rfl, rfl, r1, r2⟩ := r
      simp only [List.map_cons]
      by_cases e : q0 = k
      · subst e
        simp only [if_true]
        unfold RepT
        exact ⟨q0, v, _, rfl, rfl, q, ih r2 q⟩
      · have h1 : ¬ (Sum.inr q0 : DK) = .inr k := fun h => e (Sum.inr.inj h)
        simp only [if_neg e, if_neg h1]
        unfold RepT
        exact ⟨q0, v0, _, rfl, rfl, r1, ih r2 q⟩
  have sn : ∀ {kvs : List (DK × D)} {ks : List (List Key × V)} {k : List Key} {d : D} {v : V}, RepT G ρ H kvs ks → Rep G ρ H d v → RepT G ρ H (kvs ++ [(.inr k, d)]) (ks ++ [(k, v)]) := by
    intro kvs
    induction kvs with
    | nil => intro ks k d v r q; unfold RepT at r; subst r; simp; unfold RepT; exact ⟨k, v, [], rfl, rfl, q, by unfold RepT; rfl⟩
    | cons p t ih =>
      intro ks k d v r q
      obtain ⟨k0, d0⟩ := p
      unfold RepT at r
      obtain ⟨q0, v0, r', rfl, rfl, r1, r2⟩ := r
      simp only [List.cons_append]
      unfold RepT
      exact ⟨q0, v0, _, rfl, rfl, r1, ih r2 q⟩
  have an : ∀ {kvs : List (DK × D)} {ks : List (List Key × V)} {k : List Key}, RepT G ρ H kvs ks → (kvs.any fun kv => decide (kv.1 = .inr k)) = (ks.any fun kv => decide (kv.1 = k)) := by
    intro kvs
    induction kvs with
    | nil => intro ks k r; unfold RepT at r; subst r; rfl
    | cons p t ih =>
      intro ks k r
      obtain ⟨k0, d0⟩ := p
      unfold RepT at r
      obtain ⟨q0, v0, r', rfl, rfl, r1, r2⟩ := r
      simp only [List.any_cons, ih r2]
      congr 1
      by_cases e : q0 = k <;> simp [e]
  intro kvs ks k d v r q
  unfold dPut putK
  rw [an r]
  split
  · exact mp r q
  · exact sn r q
theorem RepK.len : ∀ {kvs : List (DK × D)} {ks : List (Key × V)}, RepK G ρ H kvs ks → ks.length = kvs.length
  | [], ks, r => by unfold RepK at r; subst r; rfl
  | (k, d) :: t, ks, r => by unfold RepK at r; obtain ⟨q0, v0, r', rfl, rfl, r1, r2⟩ := r; simp [RepK.len r2]
theorem RepT.len : ∀ {kvs : List (DK × D)} {ks : List (List Key × V)}, RepT G ρ H kvs ks → ks.length = kvs.length
  | [], ks, r => by unfold RepT at r; subst r; rfl
  | (k, d) :: t, ks, r => by unfold RepT at r; obtain ⟨q0, v0, r', rfl, rfl, r1, r2⟩ := r; simp [RepT.len r2]
def rSet (G : Gm) : TSet := fun vo vi v H Q => ∃ ρ S o i d, Rel G ρ H S ∧ Rep G ρ H o vo ∧ Rep G ρ H i vi ∧ Rep G ρ H d v ∧ ∃ S', dSet o i d S = some (.v (), S') ∧ ∀ ρ' H', Le ρ H ρ' H' → Rel G ρ' H' S' → Q H'
theorem set_sound (hu : X.A.units + 1 < cLine) : PSet X (rSet G) := by
  intro pins s σ H vo vi v ov iv u Q I ro ri rv h
  obtain ⟨ρ, S, o, i, d, R, r1, r2, r3, S', e, q⟩ := h
  cases o with
  | obj n =>
    obtain ⟨ob, S2, e1, e2⟩ := bind_v (show (M.bind (getO n) _) S = _ from e)
    obtain ⟨eo, rfl⟩ := getO_v e1
    unfold Rep at r1
    obtain ⟨a, ea, rfl⟩ := r1
    cases ob with
    | lst xs =>
      cases i with
      | int k =>
        obtain ⟨a', ea', ys, eys, l⟩ := R.get eo
        rw [ea] at ea'
        cases ea'
        cases ej : ixN xs.length k with
        | none => simp only [ej] at e2; exact absurd e2 fail_no
        | some j =>
          simp only [ej] at e2
          obtain ⟨hn, rfl⟩ := setO_v e2
          rw [rep_int r2] at ri
          refine set_list pins s σ H _ _ v ov iv u Q I ro ri rv ⟨a, ys, k, j, rfl, rfl, eys, by rw [l.length]; exact ej, ?_⟩
          obtain ⟨R1, L1⟩ := R.write (o := .lst (ys.set j v)) (ob' := .lst (xs.set j d)) eo ea fun H' L e' => ⟨_, e', RepL.le L _ (l.set j r3)⟩
          exact q _ _ L1 R1
      | _ => exact absurd e2 fail_no
    | dct kvs =>
      cases ek : keyOf i with
      | none => simp only [ek] at e2; exact absurd e2 fail_no
      | some k =>
        simp only [ek] at e2
        by_cases hc : (decide (kvs.length < sizeLine) && dFit kvs k) = true
        · rw [if_pos hc] at e2
          obtain ⟨hn, rfl⟩ := setO_v e2
          rw [Bool.and_eq_true, decide_eq_true_eq] at hc
          obtain ⟨H1, a', o, I1, L1, R1, ea', hk, g, hO, hD⟩ := dict_at I R eo (keyOf_v r2 ek) hc.2
          rw [ea] at ea'
          cases ea'
          have r3' := Rep.le L1 _ r3
          have fin : ∀ {H2 : Hp}, DPut H1 a vi v H2 → Le ρ H1 ρ H2 → Rel G ρ H2 (S2.set n (.dct (dPut kvs k d))) → wpAny (model X.prog X.w) X.A (setItem ov iv u) (fun _ s' => ∃ H', L2.Inv X pins σ H' s' ∧ Q H') X.xe s := fun {H2} gp L2' R2 => by
            cases ro
            exact d_setItem hu I1 gp ri rv fun s' I' => ⟨H2, I', q _ _ (L1.trans L2') R2⟩
          rcases hD with ⟨ks, kk, eh, rk, rfl⟩ | ⟨ks, kk, eh, rt, rfl⟩
          · obtain ⟨R2, L2'⟩ := R1.write (o := .dK (putK ks kk v)) (ob' := .dct (dPut kvs (.inl kk) d)) eo ea fun H' L e' => .inl ⟨_, e', RepK.le L _ (rk.put r3')⟩
            exact fin (by rw [show vi = kV kk from hk]; exact DPut.k eh (by rw [rk.len]; exact hc.1)) L2' R2
          · obtain ⟨b, eb, hb⟩ := hk
            subst eb
            obtain ⟨R2, L2'⟩ := R1.write (o := .dT (putK ks kk v)) (ob' := .dct (dPut kvs (.inr kk) d)) eo ea fun H' L e' => .inr ⟨_, e', RepT.le L _ (rt.put r3')⟩
            exact fin (DPut.t eh hb.1 (by rw [rt.len]; exact hc.1)) L2' R2
        · rw [if_neg hc] at e2; exact absurd e2 fail_no
    | ins c fs => exact absurd e2 fail_no
  | _ => cases e
end
end DL
end

section
namespace DL
open PySem L2 PySem.Spec PyProof.Rows

def NoEx {α : Type} (m : M α) : Prop := ∀ S x S', m S ≠ some (.ex x, S')
section
variable {α β : Type}
theorem noex_pure (a : α) : NoEx (M.pure a) := fun S x S' h => by cases h
theorem noex_fail : NoEx (M.fail (α := α)) := fun S x S' h => by cases h
theorem noex_of (o : Option α) : NoEx (M.of o) := fun S x S' h => by unfold M.of at h; cases o <;> cases h
theorem noex_bind {m : M α} {f : α → M β} (h1 : NoEx m) (h2 : ∀ a, NoEx (f a)) : NoEx (M.bind m f) := fun S x S' h => by
  unfold M.bind at h
  split at h
  · exact h2 _ _ _ _ h
  · rename_i e
    exact h1 _ _ _ e
  · cases h
theorem noex_ite {c : Prop} [Decidable c] {m m' : M α} (h1 : NoEx m) (h2 : NoEx m') : NoEx (if c then m else m') := by
  split
  · exact h1
  · exact h2
theorem noex_getO (n : Nat) : NoEx (getO n) := fun S x S' h => by unfold getO at h; split at h <;> cases h
theorem noex_setO (n : Nat) (o : Ob) : NoEx (setO n o) := fun S x S' h => by unfold setO at h; split at h <;> cases h
theorem noex_alloc (o : Ob) : NoEx (alloc o) := fun S x S' h => by cases h
theorem noex_pyOf (d : D) : NoEx (pyOf d) := fun S x S' h => by unfold pyOf at h; split at h <;> cases h
theorem noex_mkL (st : Bool) (xs : List D) : NoEx (mkL st xs) := noex_ite (noex_ite (noex_alloc _) (noex_pure _)) noex_fail
theorem noex_mkT (xs : List D) : NoEx (mkT xs) := noex_ite (noex_pure _) noex_fail
theorem noex_mkS (x : Str) : NoEx (mkS x) := noex_ite (noex_pure _) noex_fail
theorem noex_lstOf (d : D) : NoEx (lstOf d) := by
  cases d <;> first
    | exact noex_fail
    | exact noex_pure _
    | (refine noex_bind (noex_getO _) fun o => ?_; cases o <;> first | exact noex_pure _ | exact noex_fail)
theorem noex_seqOf (d : D) : NoEx (seqOf d) := by
  cases d <;> first
    | exact noex_pure _
    | exact noex_lstOf .non
    | exact noex_lstOf (.bl _)
    | exact noex_lstOf (.int _)
    | exact noex_lstOf (.str _)
    | exact noex_lstOf (.lst _)
    | exact noex_lstOf (.dct _)
    | exact noex_lstOf (.obj _)
    | exact noex_lstOf (.fn _)
    | exact noex_lstOf (.frz _)
theorem noex_dLook (kvs : List (DK × D)) (x : D) : NoEx (dLook kvs x) := by
  unfold dLook
  split
  · exact noex_ite (noex_pure _) noex_fail
  · exact noex_fail
theorem noex_dLookV (kvs : List (DK × D)) (x : D) : NoEx (dLookV kvs x) := by
  unfold dLookV
  split
  · exact noex_pure _
  · exact noex_fail
theorem noex_tru (d : D) : NoEx (tru d) := by
  cases d <;> first
    | exact noex_pure _
    | exact noex_fail
    | exact noex_ite (noex_pure _) noex_fail
    | (refine noex_bind (noex_getO _) fun o => ?_; cases o <;> first | exact noex_pure _ | exact noex_fail)
theorem noex_neg (d : D) : NoEx (dNeg d) := by
  cases d <;> first
    | exact noex_pure _
    | exact noex_fail
theorem noex_add (st : Bool) (x y : D) : NoEx (dAdd st x y) := by
  unfold dAdd
  split
  · exact noex_pure _
  · exact noex_mkS _
  · exact noex_mkT _
  · exact noex_bind (noex_lstOf _) fun _ => noex_bind (noex_lstOf _) fun _ => noex_mkL _ _
theorem noex_mul (st : Bool) (x y : D) : NoEx (dMul st x y) := by
  unfold dMul
  split
  · exact noex_ite (noex_pure _) noex_fail
  · exact noex_ite (noex_mkT _) noex_fail
  · exact noex_ite (noex_mkL _ _) noex_fail
  · exact noex_fail
theorem noex_bin (st : Bool) (op : Operator) (x y : D) : NoEx (dBin st op x y) := by
  unfold dBin
  split
  · exact noex_add _ _ _
  · exact noex_pure _
  · exact noex_mul _ _ _
  · exact noex_ite (noex_pure _) noex_fail
  · exact noex_ite (noex_pure _) noex_fail
  · exact noex_ite (noex_pure _) noex_fail
  · exact noex_fail
theorem noex_eq (x y : D) : NoEx (dEq x y) := by
  unfold dEq
  split <;> first
    | exact noex_pure _
    | exact noex_bind (noex_pyOf _) fun _ => noex_bind (noex_pyOf _) fun _ => noex_ite (noex_pure _) noex_fail
theorem noex_is (x y : D) : NoEx (dIs x y) := by
  unfold dIs
  split <;> first
    | exact noex_pure _
    | exact noex_fail
theorem noex_inL (x y : D) : NoEx (M.bind (pyOf x) fun p => M.bind (pyOf y) fun q => match q with
      | .list ds => if (SeqAt.shaped p && SeqAt.shaped q) = true then M.pure (ds.any fun z => PyData.eqv z p) else M.fail
      | _ => M.fail) := noex_bind (noex_pyOf _) fun _ => noex_bind (noex_pyOf _) fun q => by
  cases q <;> first
    | exact noex_fail
    | exact noex_ite (noex_pure _) noex_fail
theorem noex_inT (x y : D) : NoEx (M.bind (pyOf x) fun p => M.bind (pyOf y) fun q => match q with
      | .tuple ds => if (SeqAt.shaped p && SeqAt.shaped q) = true then M.pure (ds.any fun z => PyData.eqv z p) else M.fail
      | _ => M.fail) := noex_bind (noex_pyOf _) fun _ => noex_bind (noex_pyOf _) fun q => by
  cases q <;> first
    | exact noex_fail
    | exact noex_ite (noex_pure _) noex_fail
theorem noex_in (x y : D) : NoEx (dIn x y) := by
  unfold dIn
  split
  · cases x <;> first | exact noex_pure _ | exact noex_fail
  · exact noex_bind (noex_dLookV _ _) fun _ => noex_pure _
  · exact noex_inT _ _
  · exact noex_inL _ _
  · refine noex_bind (noex_getO _) fun o => ?_
    cases o <;> first
      | exact noex_bind (noex_dLook _ _) fun _ => noex_pure _
      | exact noex_inL _ _
      | exact noex_fail
  · exact noex_fail
theorem noex_cmp (op : CmpOp) (x y : D) : NoEx (dCmp op x y) := by
  unfold dCmp
  split <;> first
    | exact noex_eq _ _
    | exact noex_is _ _
    | exact noex_in _ _
    | exact noex_pure _
    | exact noex_fail
    | exact noex_bind (noex_eq _ _) fun _ => noex_pure _
    | exact noex_bind (noex_is _ _) fun _ => noex_pure _
    | exact noex_bind (noex_in _ _) fun _ => noex_pure _
theorem noex_ix (x y : D) : NoEx (dIx x y) := by
  unfold dIx
  split
  · split
    · exact noex_ite (noex_of _) noex_fail
    · exact noex_fail
  · split <;> first | exact noex_of _ | exact noex_fail
  · split <;> first | exact noex_of _ | exact noex_fail
  · exact noex_bind (noex_dLookV _ _) fun _ => noex_of _
  · refine noex_bind (noex_getO _) fun o => ?_
    split
    · split <;> first | exact noex_of _ | exact noex_fail
    · exact noex_bind (noex_dLook _ _) fun _ => noex_of _
    · exact noex_fail
  · exact noex_fail
theorem noex_cut (st : Bool) (x : D) (lo hi : Option Int) : NoEx (dCut st x lo hi) := by
  unfold dCut
  split
  · exact noex_ite (noex_pure _) noex_fail
  · exact noex_pure _
  · exact noex_bind (noex_lstOf _) fun _ => noex_mkL _ _
theorem noex_set (o i v : D) : NoEx (dSet o i v) := by
  unfold dSet
  split
  · refine noex_bind (noex_getO _) fun ob => ?_
    split
    · split
      · split <;> first | exact noex_setO _ _ | exact noex_fail
      · exact noex_fail
    · split
      · exact noex_ite (noex_setO _ _) noex_fail
      · exact noex_fail
    · exact noex_fail
  · exact noex_fail
end

structure RepX (G : Gm) (ρ : List Addr) (H : Hp) (x : Exc) (cls : Value) (dx : Option Addr) : Prop where
  cl : ∃ C, G.mg x.cls = some (.ref C) ∧ cls = .ref C
  fs : (x.fs = [] ∧ dx = none) ∨ ∃ d ys, dx = some d ∧ H d = some (.xd ys) ∧ RepF G ρ H x.fs ys ∧ d ∉ ρ
abbrev WX := Value → Option Addr → L2.St → Hp → Prop
def RunM (G : Gm) (W : WX) {α β : Type} (rel : List Addr → Hp → α → β → Prop) (m : M α) (ρ : List Addr) (H : Hp) (S : Store) (σ : L2.St) (Q : β → Hp → Prop) : Prop :=
  ∃ r S', m S = some (r, S') ∧ match r with
    | .v a => ∀ ρ' H' b, Le ρ H ρ' H' → Rel G ρ' H' S' → rel ρ' H' a b → Q b H'
    | .ex x => ∀ ρ' H' cls dx, Le ρ H ρ' H' → Rel G ρ' H' S' → RepX G ρ' H' x cls dx → W cls dx σ H'
section
variable {G : Gm} {W : WX} {α β γ δ : Type} {rel : List Addr → Hp → α → β → Prop} {relB : List Addr → Hp → γ → δ → Prop} {m : M α} {f : α → M γ} {ρ : List Addr} {H : Hp} {S : Store} {σ : L2.St} {Q : β → Hp → Prop} {Q' : δ → Hp → Prop}
theorem RunM.bind (h : RunM G W relB (M.bind m f) ρ H S σ Q') :
    RunM G W rel m ρ H S σ (fun b H1 => ∃ ρ1 S1 a, Le ρ H ρ1 H1 ∧ Rel G ρ1 H1 S1 ∧ rel ρ1 H1 a b ∧ RunM G W relB (f a) ρ1 H1 S1 σ Q') := by
  obtain ⟨r, S', e, q⟩ := h
  unfold M.bind at e
  split at e
  · rename_i a S1 e1
    refine ⟨.v a, S1, e1, fun ρ1 H1 b L1 R1 r1 => ⟨ρ1, S1, a, L1, R1, r1, r, S', e, ?_⟩⟩
    cases r with
    | v c => exact fun ρ2 H2 d L2' R2 r2 => q ρ2 H2 d (L1.trans L2') R2 r2
    | ex x => exact fun ρ2 H2 cls dx L2' R2 r2 => q ρ2 H2 cls dx (L1.trans L2') R2 r2
  · rename_i x S1 e1
    cases e
    exact ⟨.ex x, S', e1, q⟩
  · cases e
theorem RunM.v (h : RunM G W rel m ρ H S σ Q) (n : NoEx m) : RunV G rel m ρ H S Q := by
  obtain ⟨r, S', e, q⟩ := h
  cases r with
  | v a => exact ⟨a, S', e, q⟩
  | ex x => exact absurd e (n _ _ _)
theorem RunM.mono {Q2 : β → Hp → Prop} (h : RunM G W rel m ρ H S σ Q) (k : ∀ b H', Q b H' → Q2 b H') : RunM G W rel m ρ H S σ Q2 := by
  obtain ⟨r, S', e, q⟩ := h
  refine ⟨r, S', e, ?_⟩
  cases r with
  | v a => exact fun ρ' H' b L R r => k _ _ (q ρ' H' b L R r)
  | ex x => exact q
theorem RunM.fail {p : Prop} (h : RunM G W rel M.fail ρ H S σ Q) : p := by
  obtain ⟨r, S', e, q⟩ := h
  cases e
theorem RunM.ite {c : Prop} [Decidable c] (h : RunM G W rel (if c then m else M.fail) ρ H S σ Q) : c ∧ RunM G W rel m ρ H S σ Q := by
  by_cases hc : c
  · rw [if_pos hc] at h; exact ⟨hc, h⟩
  · rw [if_neg hc] at h; exact h.fail
theorem RunM.now {a : α} {b : β} (h : RunM G W rel (M.pure a) ρ H S σ Q) (R : Rel G ρ H S) (r : rel ρ H a b) : Q b H := by
  obtain ⟨r', S', e, q⟩ := h
  cases e
  exact q ρ H b Le.refl R r
theorem RunM.nowOf {o : Option α} {b : β} (h : RunM G W rel (M.of o) ρ H S σ Q) (R : Rel G ρ H S) (r : ∀ a, o = some a → ∃ b, rel ρ H a b ∧ True) : ∃ a b, o = some a ∧ rel ρ H a b ∧ Q b H := by
  obtain ⟨r', S', e, q⟩ := h
  cases o with
  | none => cases e
  | some a =>
    cases e
    obtain ⟨b, rb, _⟩ := r a rfl
    exact ⟨a, b, rfl, rb, q ρ H b Le.refl R rb⟩
end

def DE (G : Gm) (W : WX) (m : EM) : TE := fun σ H Q => ∃ ρ η S, RepE G ρ H η σ ∧ Rel G ρ H S ∧ RunM G W (Rep G) (m η) ρ H S σ Q
def DT (G : Gm) (W : WX) (m : En → M Bool) : TT := fun σ H Q => ∃ ρ η S, RepE G ρ H η σ ∧ Rel G ρ H S ∧ RunM G W (fun _ _ (b : Bool) c => c = b) (m η) ρ H S σ Q
def DA (G : Gm) (W : WX) (m : En → M (List D)) : TA := fun σ H Q => ∃ ρ η S, RepE G ρ H η σ ∧ Rel G ρ H S ∧ RunM G W (RepL G) (m η) ρ H S σ Q
def DG (G : Gm) (W : WX) (g : D → En → M En) : TG := fun v σ H Q => ∃ ρ η S d, RepE G ρ H η σ ∧ Rel G ρ H S ∧ Rep G ρ H d v ∧ RunM G W (RepE G) (g d η) ρ H S σ Q
def DGs (G : Gm) (W : WX) (g : List D → En → M En) : TGs := fun vs σ H Q => ∃ ρ η S ds, RepE G ρ H η σ ∧ Rel G ρ H S ∧ RepL G ρ H ds vs ∧ RunM G W (RepE G) (g ds η) ρ H S σ Q
def okOut (G : Gm) (W : WX) (ρ : List Addr) (H : Hp) (S' : Store) (D : Ends) : Out → Prop
  | .nx η' => ∀ ρ' H' σ', Le ρ H ρ' H' → Rel G ρ' H' S' → RepE G ρ' H' η' σ' → D.nx σ' H'
  | .bk η' => ∀ ρ' H' σ', Le ρ H ρ' H' → Rel G ρ' H' S' → RepE G ρ' H' η' σ' → D.bk σ' H'
  | .ct η' => ∀ ρ' H' σ', Le ρ H ρ' H' → Rel G ρ' H' S' → RepE G ρ' H' η' σ' → D.ct σ' H'
  | .rt d => ∀ ρ' H' v, Le ρ H ρ' H' → Rel G ρ' H' S' → Rep G ρ' H' d v → D.rt v H'
  | .ex x η' => ∀ ρ' H' σ' cls dx, Le ρ H ρ' H' → Rel G ρ' H' S' → RepE G ρ' H' η' σ' → RepX G ρ' H' x cls dx → W cls dx σ' H'
def RunS (G : Gm) (W : WX) (m : Store → Option (Out × Store)) (ρ : List Addr) (H : Hp) (S : Store) (D : Ends) : Prop := ∃ o S', m S = some (o, S') ∧ okOut G W ρ H S' D o
def DS (G : Gm) (W : WX) (m : SM) : TS := fun D σ H => ∃ ρ η S, RepE G ρ H η σ ∧ Rel G ρ H S ∧ RunS G W (m η) ρ H S D
theorem _root_.L2.PE.imp {X : Cx} {e : Expr} {t t' : TE} (h : PE X e t) (k : ∀ σ H Q, t' σ H Q → t σ H Q) : PE X e t' := ⟨fun pins s σ H Q I q => h.run pins s σ H Q I (k σ H Q q)⟩
theorem _root_.L2.PT.imp {X : Cx} {e : Expr} {t t' : TT} (h : PT X e t) (k : ∀ σ H Q, t' σ H Q → t σ H Q) : PT X e t' := ⟨fun pins s σ H Q I q => h.run pins s σ H Q I (k σ H Q q)⟩
theorem _root_.L2.PA.imp {X : Cx} {e : List Expr} {t t' : TA} (h : PA X e t) (k : ∀ σ H Q, t' σ H Q → t σ H Q) : PA X e t' := ⟨fun pos pins s σ H Q I q => h.run pos pins s σ H Q I (k σ H Q q)⟩
theorem _root_.L2.PS.imp {X : Cx} {e : Stmt} {t t' : TS} (h : PS X e t) (k : ∀ D σ H, t' D σ H → t D σ H) : PS X e t' := ⟨fun pins s σ H D I q => h.run pins s σ H D I (k D σ H q)⟩
theorem _root_.L2.PSs.imp {X : Cx} {e : List Stmt} {t t' : TS} (h : PSs X e t) (k : ∀ D σ H, t' D σ H → t D σ H) : PSs X e t' := ⟨fun pins s σ H D I q => h.run pins s σ H D I (k D σ H q)⟩
theorem _root_.L2.PG.imp {X : Cx} {e : Expr} {t t' : TG} (h : PG X e t) (k : ∀ v σ H Q, t' v σ H Q → t v σ H Q) : PG X e t' := ⟨fun pins s σ H v u Q I r q => h.run pins s σ H v u Q I r (k v σ H Q q)⟩
/-- one after another -/
theorem DE.bind {G : Gm} {W : WX} {ma : EM} {γ δ : Type} {relB : List Addr → Hp → γ → δ → Prop} {f : En → D → M γ} {Q' : δ → Hp → Prop} {σ : L2.St} {H : Hp} {ρ : List Addr} {η : En} {S : Store}
    (E : RepE G ρ H η σ) (R : Rel G ρ H S) (h : RunM G W relB (M.bind (ma η) (f η)) ρ H S σ Q') :
    DE G W ma σ H fun v H1 => ∃ ρ1 S1 d, RepE G ρ1 H1 η σ ∧ Le ρ H ρ1 H1 ∧ Rel G ρ1 H1 S1 ∧ Rep G ρ1 H1 d v ∧ RunM G W relB (f η d) ρ1 H1 S1 σ Q' :=
  ⟨ρ, η, S, E, R, (RunM.bind h).mono fun v H1 ⟨ρ1, S1, d, L1, R1, r1, q⟩ => ⟨ρ1, S1, d, E.le L1, L1, R1, r1, q⟩⟩
theorem DT.bind {G : Gm} {W : WX} {ma : En → M Bool} {γ δ : Type} {relB : List Addr → Hp → γ → δ → Prop} {f : En → Bool → M γ} {Q' : δ → Hp → Prop} {σ : L2.St} {H : Hp} {ρ : List Addr} {η : En} {S : Store}
    (E : RepE G ρ H η σ) (R : Rel G ρ H S) (h : RunM G W relB (M.bind (ma η) (f η)) ρ H S σ Q') :
    DT G W ma σ H fun b H1 => ∃ ρ1 S1, RepE G ρ1 H1 η σ ∧ Le ρ H ρ1 H1 ∧ Rel G ρ1 H1 S1 ∧ RunM G W relB (f η b) ρ1 H1 S1 σ Q' :=
  ⟨ρ, η, S, E, R, (RunM.bind h).mono fun v H1 ⟨ρ1, S1, d, L1, R1, r1, q⟩ => ⟨ρ1, S1, E.le L1, L1, R1, by have : v = d := r1; rw [this]; exact q⟩⟩
end DL
end

section
namespace DL
open PySem L2 PySem.Spec PyProof.Rows
section
variable {G : Gm}
theorem mkD_new {st : Bool} {kvs : List (DK × D)} {ks : List (Key × V)} {ρ : List Addr} {H : Hp} {S : Store} {Q : VK} (R : Rel G ρ H S) (l : RepK G ρ H kvs ks) (h : ∃ d S', mkD st kvs S = some (.v d, S') ∧ ∀ ρ' H' b, Le ρ H ρ' H' → Rel G ρ' H' S' → Rep G ρ' H' d b → Q b H') : ∀ p, H p = none → Q (.ref p) (upd H p (.dK ks)) := fun p np => by
  obtain ⟨d, S', e, q⟩ := h
  cases st with
  | true =>
    obtain ⟨R', L, ep⟩ := R.alloc (ob := .dct kvs) (o := .dK ks) np fun ρ' H' L e => .inl ⟨ks, e, RepK.le L _ l⟩
    cases e
    exact q _ _ _ L R' (by unfold Rep; exact ⟨p, ep, rfl⟩)
  | false =>
    obtain ⟨R', L⟩ := R.out (o := .dK ks) np
    cases e
    exact q _ _ _ L R' (by unfold Rep; exact ⟨p, ks, rfl, ⟨.inl upd_same, R.fresh np⟩, RepK.le L _ l⟩)
def RepP (G : Gm) (ρ : List Addr) (H : Hp) : List (D × D) → List (V × V) → Prop
  | [], vs => vs = []
  | p :: ps, vs => ∃ v w r, vs = (v, w) :: r ∧ Rep G ρ H p.1 v ∧ Rep G ρ H p.2 w ∧ RepP G ρ H ps r
theorem pairK_v {ρ : List Addr} {H : Hp} {p : D × D} {kv : DK × D} {v w : V} (h : pairK p = some kv) (r1 : Rep G ρ H p.1 v) (r2 : Rep G ρ H p.2 w) : ∃ q : Key, kv = (.inl q, p.2) ∧ v = kV q := by
  unfold pairK at h
  split at h
  · rename_i q e
    cases h
    exact ⟨q, rfl, keyOf_v r1 e⟩
  · cases h
theorem pairs_keys {ρ : List Addr} {H : Hp} : ∀ {ps : List (D × D)} {kvs : List (DK × D)} {vps : List (V × V)}, ps.mapM pairK = some kvs → RepP G ρ H ps vps → ∃ ks : List (Key × V), vps = ks.map (fun kv => (kV kv.1, kv.2)) ∧ RepK G ρ H kvs ks
  | [], kvs, vps, h, r => by
    cases h
    unfold RepP at r
    subst r
    exact ⟨[], rfl, by unfold RepK; rfl⟩
  | p :: ps, kvs, vps, h, r => by
    unfold RepP at r
    obtain ⟨v, w, t, rfl, r1, r2, r3⟩ := r
    rw [List.mapM_cons] at h
    cases h1 : pairK p with
    | none => simp [h1] at h
    | some kv =>
      cases h2 : ps.mapM pairK with
      | none => simp [h1, h2] at h
      | some rest =>
        simp [h1, h2] at h
        subst h
        obtain ⟨q, rfl, rfl⟩ := pairK_v h1 r1 r2
        obtain ⟨ks, rfl, rk⟩ := pairs_keys h2 r3
        exact ⟨(q, w) :: ks, rfl, by unfold RepK; exact ⟨q, w, ks, rfl, rfl, r2, rk⟩⟩
theorem RepK.fold {ρ : List Addr} {H : Hp} : ∀ {more : List (DK × D)} {ms : List (Key × V)} {kvs : List (DK × D)} {ks : List (Key × V)}, RepK G ρ H more ms → RepK G ρ H kvs ks → RepK G ρ H (more.foldl (fun acc kv => dPut acc kv.1 kv.2) kvs) (mergeK ks ms)
  | [], ms, kvs, ks, r, l => by unfold RepK at r; subst r; exact l
  | (a, d) :: more, ms, kvs, ks, r, l => by
    unfold RepK at r
    obtain ⟨q, v, t, rfl, rfl, r1, r2⟩ := r
    have := RepK.fold (more := more) (ms := t) r2 (l.put (k := q) r1)
    exact this
theorem noex_newDisp (st : Bool) (ps : List (D × D)) : NoEx (newDisp st ps) := by
  unfold newDisp
  split
  · exact noex_ite (noex_alloc _) (noex_pure _)
  · exact noex_fail
/-- a list of pairs -/
theorem pairsT_rep {ρ : List Addr} {H : Hp} : ∀ {xs : List D} {ps : List (D × D)} {ys : List V}, xs.mapM pairT = some ps → RepL G ρ H xs ys → ∃ (as : List Addr) (vps : List (V × V)), ys = as.map V.ref ∧ Paired (fun (a : Addr) (q : V × V) => SqT G.K H a [q.1, q.2]) as vps ∧ RepP G ρ H ps vps
  | [], ps, ys, h, r => by
    cases h
    unfold RepL at r
    subst r
    exact ⟨[], [], rfl, .nil, by unfold RepP; rfl⟩
  | x :: xs, ps, ys, h, r => by
    unfold RepL at r
    obtain ⟨v, w, rfl, r1, r2⟩ := r
    rw [List.mapM_cons] at h
    cases h1 : pairT x with
    | none => simp [h1] at h
    | some p =>
      cases h2 : xs.mapM pairT with
      | none => simp [h1, h2] at h
      | some rest =>
        simp [h1, h2] at h
        subst h
        obtain ⟨as, vps, rfl, pr, rp⟩ := pairsT_rep h2 r2
        obtain ⟨c, d, rfl, rfl⟩ : ∃ c d, x = .tup [c, d] ∧ p = (c, d) := by
          unfold pairT at h1
          split at h1
          · cases h1
            exact ⟨_, _, rfl, rfl⟩
          · cases h1
        unfold Rep at r1
        obtain ⟨a, zs, rfl, q, l⟩ := r1
        unfold RepL at l
        obtain ⟨v1, z1, rfl, l1, l⟩ := l
        unfold RepL at l
        obtain ⟨v2, z2, rfl, l2, l⟩ := l
        unfold RepL at l
        subst l
        exact ⟨a :: as, (v1, v2) :: vps, rfl, .cons q.sq pr, by unfold RepP; exact ⟨v1, v2, vps, rfl, l1, l2, rp⟩⟩
theorem paired_map {α β γ : Type} {F : α → γ → Prop} (g : β → γ) : ∀ {as : List α} {bs : List β}, Paired F as (bs.map g) → Paired (fun a b => F a (g b)) as bs
  | [], [], _ => .nil
  | [], _ :: _, h => by cases h
  | _ :: _, [], h => by cases h
  | _ :: _, _ :: _, h => by
    cases h with
    | cons h t => exact .cons h (paired_map g t)
end
end DL
end

section
namespace DL
open PySem L2 PySem.Spec PyProof.Rows

structure FnG (P : Program) (w : World) (K : PySem.W.Frag) (mg : Str → Option Value) (base : Heap) (k : Nat) (f : Addr) (fd : FuncData) (ps : List Str) (sp : Sp) : Prop where
  len : ∀ vs H Q E, sp vs H Q E → vs.length = ps.length
  run : ∀ (A : Around) (outer : List Env) (s : Shared) (H : Hp) (args : Args) (us : List Value) (vs : List V) (Q : VK) (E : XK), A.guards = some [] → Room k A → Env0 P w K mg base A outer s H → BindsTo s fd args (ps.zip us) → Vals vs us → sp vs H Q E →
    codeAny (model P w) A (.call (.ref f) args) (CR (L2.CX P w) outer P w H s Q E) s
section
variable {P : Program} {w : World} {K : PySem.W.Frag} {mg : Str → Option Value} {base : Heap}
theorem FnG.mono {j k : Nat} {f : Addr} {fd : FuncData} {ps : List Str} {sp : Sp} (F : FnG P w K mg base j f fd ps sp) (h : j ≤ k) : FnG P w K mg base k f fd ps sp :=
  ⟨F.len, fun A outer s H args us vs Q E hg hr => F.run A outer s H args us vs Q E hg (hr.mono h)⟩
theorem fn_ofG {x qual : Str} {st : Stmt} {f : Addr} {fd : FuncData} {N ps : List Str} {k : Nat} {sp : Sp} (F : Fun K x qual st f fd) (S : FnScope N ps (defScope st)) (len : ∀ vs H Q E, sp vs H Q E → vs.length = ps.length)
    (hbody : ∀ (cdv : Value) (A : Around) (outer : List Env) (s : Shared) (H : Hp) (vs : List V) (Q : VK) (E : XK), A.guards = some [] → Room k (A.deeper (envOfC qual (defScope st) s.heap.objs.size f cdv)) → sp vs H Q E →
      ∃ t, PSs (cxOf (L2.CX P w) P w K mg base N qual (defScope st) f cdv A outer s H E) (defBody st) t ∧ t { nx := fun _ H' => Q .non H', rt := Q } (L2.start N vs) H) : FnG P w K mg base (k + 1) f fd ps sp := by
  obtain ⟨oc, od, kV, doc, pm, an, cdv, ct, osl, rfl, lk, hcd⟩ := F.ex
  refine ⟨len, fun A outer s H args us vs Q E hg hr e0 hb r hsp => ?_⟩
  have hl := len _ _ _ _ hsp
  have KX : K.In s.heap := e0.mod.kin.keeps fun b o e => (e0.bs b o e).1
  have lim : s.heap.NoLimit := e0.mod.nolimit.keeps fun b o e => (e0.bs b o e).1
  refine codeAny_call_function hr.depth (KX _ _ lk) rfl S.co S.gen rfl (PySem.W.codeRec_of KX hcd) (hb _ _ _ _ ?_)
  refine wpAny_newFunctionEnv_cells S.kind (fun y hy => ?_) fun env he s1 x => ?_
  · obtain ⟨n, v⟩ := y
    rcases S.par n (List.of_mem_zip hy).1 with q | q
    · exact .inl q
    · exact .inr ⟨q, PySem.W.cellsFrom_some _ _ _ (.inl q)⟩
  · subst he
    refine ⟨lim.keeps x.toInCall.keep, codeAny_func ?_⟩
    obtain ⟨t, ht, hq⟩ := hbody cdv A outer s H vs Q E hg (hr.deeper _) hsp
    have I := inv_start (CX := L2.CX P w) (E := E) (f := f) (cd := cdv) (qual := qual) (outer := outer) S hr.hd e0 hl r x
    refine wpAny_mono (ht.run [] s1 (L2.start N vs) H _ I hq) (fun fl s' hs => ?_) fun e s' hs => hs
    cases fl with
    | ret u =>
      obtain ⟨v, σ', H', J, rv, q⟩ := hs
      exact ⟨v, H', J.os, J.bare, J.base, J.hok, rv, q⟩
    | next =>
      obtain ⟨σ', H', J, q⟩ := hs
      exact ⟨V.non, H', J.os, J.bare, J.base, J.hok, rfl, q⟩
    | brk =>
      obtain ⟨_, _, _, q⟩ := hs
      exact False.elim q
    | cont =>
      obtain ⟨_, _, _, q⟩ := hs
      exact False.elim q
end
section
variable {X : Cx} {k : Nat} {f C : Addr} {fd : FuncData} {ps : List Str} {sp : Sp} {W : WX}
theorem run_fnG {pins : List (Addr × Obj)} {σ : L2.St} {H : Hp} {s : Shared} {Q : VK} {us : List Value} {vs : List V} (F : FnG X.prog X.w X.K X.mg X.base k f fd ps sp) (hg : X.A.guards = some []) (hr : Room k X.A) (hb : Binds X.K fd ps []) (tk : Takes X W)
    (I : L2.Inv X pins σ H s) (r : Vals vs us) (h : sp vs H Q (WE W σ)) : wpAny (model X.prog X.w) X.A (call (.ref f) us) (EP X pins σ Q) X.xe s := by
  have hl : us.length = ps.length := by rw [← r.length]; exact F.len _ _ _ _ h
  have b := hb s us I.kIn (by rw [List.append_nil]; exact hl)
  rw [List.append_nil] at b
  refine wpAny_call (codeAny_mono (F.run X.A X.stack s H ⟨us, []⟩ us vs Q (WE W σ) hg hr I.env0 b r h) fun r s' hq => ?_)
  cases r with
  | error e => exact passAt tk σ pins H s e s' I hq
  | ok fl =>
    cases fl with
    | ret u => exact I.after hq
    | next => exact False.elim hq
    | brk => exact False.elim hq
    | cont => exact False.elim hq
/-- arguments without a star -/
theorem starEach_plain : ∀ {es : List Expr} {env : Env}, es.all notStar = true → (starEach es env).any (·.1) = false
  | [], env, _ => rfl
  | e :: es, env, h => by
    rw [List.all_cons, Bool.and_eq_true] at h
    have ih := starEach_plain (env := env) h.2
    cases e <;> first
      | exact absurd h.1 Bool.false_ne_true
      | (show ((false, _) :: starEach es env).any (·.1) = false; rw [List.any_cons, ih]; rfl)
theorem backTo_plain {pos : Pos} : ∀ l : List (Bool × Sem Value), l.any (·.1) = false → (backTo pos l).any (·.1) = false
  | [], _ => rfl
  | p :: l, h => by
    rw [List.any_cons, Bool.or_eq_false_iff] at h
    show ((p.1, _) :: backTo pos l).any (·.1) = false
    rw [List.any_cons, backTo_plain l h.2, h.1]; rfl
theorem starEach_cons {e : Expr} {es : List Expr} {env : Env} (h : notStar e = true) : starEach (e :: es) env = (false, eval e env) :: starEach es env := by
  cases e <;> first
    | exact absurd h Bool.false_ne_true
    | rfl
/-- f(..), f a def of the text -/
theorem pe_callG {x : Str} {e : Expr} {es : List Expr} {p pos : Pos} {t : TA} (F : FnG X.prog X.w X.K X.mg X.base k f fd ps sp) (hg' : X.A.guards = some []) (hr : Room k X.A) (hg : Gl X x) (hm : X.mg x = some (.ref f)) (hk : PySem.W.keepIn X.K (.ref f) = true) (hb : Binds X.K fd ps []) (tk : Takes X W)
    (ha : PA X (e :: es) t) (hst : (e :: es).all notStar = true) (hdb : (x == ("__debug__" : Str)) = false) :
    PE X (.Call (.Name x p) (e :: es) [] pos) (fun σ H Q => t σ H fun vs H1 => sp vs H1 Q (WE W σ)) := by
  refine ⟨fun pins s σ H Q I h => ?_⟩
  refine wpAny_Call_Name_kw (ld_glob I hg hm ?_ hdb)
  rw [List.all_cons, Bool.and_eq_true] at hst
  refine PySem.W.callWith_K (h₀ := X.base) I.ok.mod.kin hk (thn (ha.run pos pins s σ H _ I h) fun us s1 ⟨vs, H1, I1, r, q⟩ => ⟨I1.kIn, ?_⟩) (starEach_cons hst.1) (backTo_plain _ (starEach_plain hst.2))
  exact run_fnG F hg' hr hb tk I1 r q
theorem pe_callG0 {x : Str} {p pos : Pos} (F : FnG X.prog X.w X.K X.mg X.base k f fd ps sp) (hg' : X.A.guards = some []) (hr : Room k X.A) (hg : Gl X x) (hm : X.mg x = some (.ref f)) (hk : PySem.W.keepIn X.K (.ref f) = true) (hb : Binds X.K fd ps []) (tk : Takes X W) (hdb : (x == ("__debug__" : Str)) = false) :
    PE X (.Call (.Name x p) [] [] pos) (fun σ H Q => sp [] H Q (WE W σ)) := by
  refine ⟨fun pins s σ H Q I h => ?_⟩
  refine wpAny_Call_Name_kw (ld_glob I hg hm ?_ hdb)
  exact PySem.W.callWith_K0 I.kIn hk (run_fnG (us := []) F hg' hr hb tk I .nil h)
/-- what is before a dot is no super() -/
theorem base_plain {o : Expr} {m : Str} {env : Env} {w : Sem Value} (h : notSup o = true) : attributeBase o m env w = w := by
  unfold attributeBase
  split
  · exact absurd h Bool.false_ne_true
  · rfl
/-- o.m(..): the receiver, its method, the arguments -/
theorem call_attr {o : Expr} {m : Str} {args : List Expr} {apos pos : Pos} {Q E : Value → Shared → Prop} {s : Shared} (hb : notSup o = true) (hl : (apos.endLine == pos.line) = true) (hn : args.length < 30) (hst : args.all notStar = true)
    (h : wpAny (model X.prog X.w) X.A (eval o X.env) (fun ov s1 => wpAny (model X.prog X.w) X.A (getMethod ov m (do return (← importBound o X.env).getD true)) (fun fx s2 => wpAny (model X.prog X.w) X.A (callWith pos fx.1 fx.2 (backTo pos (starEach args X.env)) []) Q E s2) E s1) E s) :
    wpAny (model X.prog X.w) X.A (eval (.Call (.Attribute o m apos) args [] pos) X.env) Q E s := by
  rw [arm_eval_Call, base_plain hb]
  refine wpAny_bind (wpAny_mono h (fun ov s1 h1 => ?_) fun _ _ e => e)
  refine wpAny_bind (wpAny_standAt ?_)
  have hall : (backTo pos (starEach args X.env)).all (fun x => !x.1) = true := by
    have := backTo_plain (pos := pos) _ (starEach_plain (env := X.env) hst)
    rw [List.all_eq_true]
    rw [List.any_eq_false] at this
    intro x hx
    simpa using this x hx
  have hform : methodCallForm (args.length + ([] : List Keyword).length) (backTo pos (starEach args X.env)) (backToKw pos (keywordEach [] X.env)) = true := by
    unfold methodCallForm
    rw [hall]
    simp [keywordEach, backToKw, hn]
  have hpos : methodCallPos true o X.env apos pos = pure pos := by unfold methodCallPos; simp [hl]
  unfold methodCall
  rw [hform]
  refine wpAny_bind (wpAny_holding (wpAny_mono h1 (fun fx s2 h2 => ?_) fun _ _ e => e))
  exact wpAny_bind (wpAny_of_eq hpos h2)
end
end DL
end

section
namespace DL
open PySem L2 PySem.Spec PyProof.Rows

/-- what a callee promises: it runs as m -/
def spD (G : Gm) (m : List D → M D) : Sp := fun vs H Q E => ∃ ρ ds S, RepL G ρ H ds vs ∧ Rel G ρ H S ∧ RunM G (fun c d _ H => E c d H) (Rep G) (m ds) ρ H S [] Q
structure Text (T : Tab) (G : Gm) : Prop where
  glob : ∀ x d, T.glob.lookup x = some d → ∃ v u, G.mg x = some u ∧ RelV v u ∧ (v, d) ∈ G.gl
  free : ∀ x, T.free.contains x = true → G.mg x = none
  attr : ∀ C f, T.attr C f = true → ∃ ca, G.mg C = some (.ref ca) ∧ Cls G.K ca ∧ NoAttr G.K ca f
structure Fn1 (P : Program) (w : World) (base : Heap) (G : Gm) (k : Nat) (a : Addr) (m : List D → M D) : Prop where
  ok : ∃ fd ps, Binds G.K fd ps [] ∧ FnG P w G.K G.mg base (2 * k) a fd ps (spD G m)
structure Calls (P : Program) (w : World) (base : Heap) (T : Tab) (G : Gm) (k : Nat) (c : Str → List D → M D) : Prop where
  top : ∀ f, T.top.contains f = true → ∃ a, G.mg f = some (.ref a) ∧ PySem.W.keepIn G.K (.ref a) = true ∧ Fn1 P w base G k a (c f)
  meth : ∀ C m key, T.meth C m = some key → ∃ ca g, G.mg C = some (.ref ca) ∧ Cls G.K ca ∧ Meth G.K ca m g ∧ Fn1 P w base G k g (c key)
  make : ∀ C key, T.meth C "__init__" = some key → ∃ ca g, G.mg C = some (.ref ca) ∧ Mk G.K ca g ∧ Fn1 P w base G k g (c key)
structure Good (T : Tab) (G : Gm) (k : Nat) (c : Str → List D → M D) (X : Cx) (Γ : Sc) (W : WX) : Prop where
  K : G.K = X.K
  mg : G.mg = X.mg
  N : X.N = Γ.N
  nd : X.N.Nodup
  sc : X.env.scope = Γ.sc
  kd : X.env.scope.kind = .function
  own : ∀ x, isLoc (Γ.own.lookup x) = true → X.fn x = true ∨ X.env.scope.names.lookup x = some .local
  calm : X.calm = true
  grd : X.A.guards = some []
  room : Room (2 * k + 1) X.A
  tk : Takes X W
  text : Text T G
  calls : Calls X.prog X.w X.base T G k c
structure Snd (T : Tab) (G : Gm) (k : Nat) (c : Str → List D → M D) (E : Evs) : Prop where
  e : ∀ X Γ W x, Good T G k c X Γ W → PE X x (DE G W (E.e Γ x))
  t : ∀ X Γ W x, Good T G k c X Γ W → PT X x (DT G W (E.t Γ x))
  g : ∀ X Γ W x, Good T G k c X Γ W → PG X x (DG G W (E.g Γ x))
  gn : ∀ Γ x d η, NoEx (E.g Γ x d η)
  s : ∀ X Γ W x, Good T G k c X Γ W → PassesOwn (model X.prog X.w) X.A X.env X.xe → PS X x (DS G W (E.s Γ x))

theorem pe_never {X : Cx} {G : Gm} {W : WX} {e : Expr} : PE X e (DE G W fun _ => M.fail) := ⟨fun pins s σ H Q I h => by
  obtain ⟨ρ, η, S, _, _, h⟩ := h
  exact h.fail⟩
theorem pt_never {X : Cx} {G : Gm} {W : WX} {e : Expr} : PT X e (DT G W fun _ => M.fail) := ⟨fun pins s σ H Q I h => by
  obtain ⟨ρ, η, S, _, _, h⟩ := h
  exact h.fail⟩
theorem pg_never {X : Cx} {G : Gm} {W : WX} {e : Expr} : PG X e (DG G W fun _ _ => M.fail) := ⟨fun pins s σ H v u Q I r h => by
  obtain ⟨ρ, η, S, d, _, _, _, h⟩ := h
  exact h.fail⟩
theorem ps_never {X : Cx} {G : Gm} {W : WX} {e : Stmt} : PS X e (DS G W fun _ _ => none) := ⟨fun pins s σ H D I h => by
  obtain ⟨ρ, η, S, _, _, o, S', h, _⟩ := h
  cases h⟩
/-- of a condition that is checked -/
theorem pe_if_ {X : Cx} {G : Gm} {W : WX} {e : Expr} {c : Prop} [Decidable c] {m : EM} (h : c → PE X e (DE G W m)) : PE X e (DE G W (if c then m else fun _ => M.fail)) := by
  by_cases hc : c
  · rw [if_pos hc]; exact h hc
  · rw [if_neg hc]; exact pe_never
theorem pt_if_ {X : Cx} {G : Gm} {W : WX} {e : Expr} {c : Prop} [Decidable c] {m : En → M Bool} (h : c → PT X e (DT G W m)) : PT X e (DT G W (if c then m else fun _ => M.fail)) := by
  by_cases hc : c
  · rw [if_pos hc]; exact h hc
  · rw [if_neg hc]; exact pt_never
theorem pg_if_ {X : Cx} {G : Gm} {W : WX} {e : Expr} {c : Prop} [Decidable c] {m : D → En → M En} (h : c → PG X e (DG G W m)) : PG X e (DG G W (if c then m else fun _ _ => M.fail)) := by
  by_cases hc : c
  · rw [if_pos hc]; exact h hc
  · rw [if_neg hc]; exact pg_never

section
variable {T : Tab} {G : Gm} {k : Nat} {c : Str → List D → M D} {X : Cx} {Γ : Sc} {W : WX} {E : Evs}
theorem idxOf_some : ∀ {N : List Str} {x : Str} {i : Nat}, idxOf N x = some i → N[i]? = some x
  | [], _, _, h => by simp [idxOf] at h
  | y :: r, x, i, h => by
    unfold idxOf at h
    by_cases e : (y == x) = true
    · rw [if_pos e] at h
      cases h
      simp [LawfulBEq.eq_of_beq e]
    · rw [if_neg e] at h
      cases q : idxOf r x with
      | none => rw [q] at h; cases h
      | some j =>
        rw [q] at h
        cases h
        simpa using idxOf_some q
theorem vis_of {o : Option NameKind} (h : isVis o = true) : o = some .local ∨ o = some .cell ∨ o = some .free := by
  unfold isVis at h
  split at h <;> simp_all
theorem loc_of {o : Option NameKind} (h : isLoc o = true) : o = some .local ∨ o = some .cell := by
  unfold isLoc at h
  split at h <;> simp_all
theorem glb_of {o : Option NameKind} (h : isGlb o = true) : o = some .globalImplicit := by
  unfold isGlb at h
  split at h <;> simp_all
theorem Good.gl_ (g : Good T G k c X Γ W) {x : Str} (h : Γ.glb x = true) : Gl X x := by
  show X.env.scope.names.lookup x = _
  rw [g.sc]
  exact glb_of h
theorem pe_constD {cn : Const} {j : _} {pos : Pos} : PE X (.Constant cn j pos) (DE G W fun _ => M.of (constD cn)) := by
  cases cn
  case none => exact pe_non.imp fun σ H Q ⟨ρ, η, S, E, R, h⟩ => RunM.now (a := D.non) h R (by unfold Rep; rfl)
  case bool => exact pe_bl.imp fun σ H Q ⟨ρ, η, S, E, R, h⟩ => RunM.now (a := D.bl _) h R (by unfold Rep; rfl)
  case int => exact pe_int.imp fun σ H Q ⟨ρ, η, S, E, R, h⟩ => RunM.now (a := D.int _) h R (by unfold Rep; rfl)
  case str => exact pe_str.imp fun σ H Q ⟨ρ, η, S, E, R, h⟩ => RunM.now (a := D.str _) h R (by unfold Rep; rfl)
  all_goals exact pe_never
theorem pe_nameD (g : Good T G k c X Γ W) {x : Str} {pos : Pos} (hd : (x == ("__debug__" : Str) || x == ("__classdict__" : Str)) = false) : PE X (.Name x pos) (DE G W (evName T Γ x)) := by
  rw [Bool.or_eq_false_iff] at hd
  unfold evName
  split
  · rename_i i hi
    unfold Sc.slot at hi
    split at hi
    · rename_i hv
      have hN : X.N[i]? = some x := by rw [g.N]; exact idxOf_some hi
      refine (pe_var hN (by show X.env.scope.names.lookup x = _ ∨ _; rw [g.sc]; exact vis_of hv) hd.1 hd.2).imp fun σ H Q ⟨ρ, η, S, E, R, h⟩ => ?_
      cases q : η[i]? with
      | none => simp only [q] at h; obtain ⟨_, _, h, _⟩ := h; cases h
      | some o =>
        cases o with
        | none => simp only [q] at h; obtain ⟨_, _, h, _⟩ := h; cases h
        | some d =>
          simp only [q] at h
          obtain ⟨v, e1, e2⟩ := E.at_ i d q
          exact ⟨v, e1, RunM.now (a := d) h R e2⟩
    · cases hi
  · split
    · rename_i hg
      split
      · rename_i d hd'
        obtain ⟨v, u, hm, r, mem⟩ := g.text.glob x d hd'
        exact (pe_glob (g.gl_ hg) (by rw [← g.mg]; exact hm) r hd.1).imp fun σ H Q ⟨ρ, η, S, E, R, h⟩ => RunM.now (a := d) h R (R.gl _ mem)
      · split
        · rename_i ht
          obtain ⟨a, hm, _⟩ := g.calls.top x ht
          exact (pe_glob (v := .ref a) (g.gl_ hg) (by rw [← g.mg]; exact hm) rfl hd.1).imp fun σ H Q ⟨ρ, η, S, E, R, h⟩ => RunM.now (a := D.fn x) h R (by unfold Rep; exact ⟨a, hm, rfl⟩)
        · exact pe_never
    · exact pe_never
theorem DE_mono {G : Gm} {W : WX} {m : EM} {σ : L2.St} {H : Hp} {Q Q' : VK} (h : DE G W m σ H Q) (k : ∀ v H', Q v H' → Q' v H') : DE G W m σ H Q' := by
  obtain ⟨ρ, η, S, E, R, h⟩ := h
  exact ⟨ρ, η, S, E, R, h.mono k⟩
theorem DT_mono {G : Gm} {W : WX} {m : En → M Bool} {σ : L2.St} {H : Hp} {Q Q' : Bool → Hp → Prop} (h : DT G W m σ H Q) (k : ∀ v H', Q v H' → Q' v H') : DT G W m σ H Q' := by
  obtain ⟨ρ, η, S, E, R, h⟩ := h
  exact ⟨ρ, η, S, E, R, h.mono k⟩
theorem DA_mono {G : Gm} {W : WX} {m : En → M (List D)} {σ : L2.St} {H : Hp} {Q Q' : List V → Hp → Prop} (h : DA G W m σ H Q) (k : ∀ v H', Q v H' → Q' v H') : DA G W m σ H Q' := by
  obtain ⟨ρ, η, S, E, R, h⟩ := h
  exact ⟨ρ, η, S, E, R, h.mono k⟩
/-- one value, then -/
theorem de1 {ma : EM} {γ δ : Type} {relB : List Addr → Hp → γ → δ → Prop} {f : D → M γ} {Q' : δ → Hp → Prop} {σ : L2.St} {H : Hp} {ρ : List Addr} {η : En} {S : Store} {Q : VK}
    (E : RepE G ρ H η σ) (R : Rel G ρ H S) (h : RunM G W relB (M.bind (ma η) f) ρ H S σ Q')
    (k : ∀ vx H2 ρ2 S2 x, RepE G ρ2 H2 η σ → Le ρ H ρ2 H2 → Rel G ρ2 H2 S2 → Rep G ρ2 H2 x vx → RunM G W relB (f x) ρ2 H2 S2 σ Q' → Q vx H2) : DE G W ma σ H Q :=
  DE_mono (DE.bind (f := fun _ => f) E R h) fun v H1 ⟨ρ1, S1, d, E1, L1, R1, r1, h1⟩ => k v H1 ρ1 S1 d E1 L1 R1 r1 h1
/-- two values, then -/
theorem de2 {ma mb : EM} {γ δ : Type} {relB : List Addr → Hp → γ → δ → Prop} {f : D → D → M γ} {Q' : δ → Hp → Prop} {σ : L2.St} {H : Hp} {ρ : List Addr} {η : En} {S : Store} {Q : V → V → Hp → Prop}
    (E : RepE G ρ H η σ) (R : Rel G ρ H S) (h : RunM G W relB (M.bind (ma η) fun x => M.bind (mb η) fun y => f x y) ρ H S σ Q')
    (k : ∀ vx vy H2 ρ2 S2 x y, RepE G ρ2 H2 η σ → Le ρ H ρ2 H2 → Rel G ρ2 H2 S2 → Rep G ρ2 H2 x vx → Rep G ρ2 H2 y vy → RunM G W relB (f x y) ρ2 H2 S2 σ Q' → Q vx vy H2) : DE G W ma σ H fun vx H1 => DE G W mb σ H1 fun vy H2 => Q vx vy H2 :=
  de1 E R h fun vx H1 ρ1 S1 x E1 L1 R1 r1 h1 => de1 E1 R1 h1 fun vy H2 ρ2 S2 y E2 L2' R2 r2 h2 => k vx vy H2 ρ2 S2 x y E2 (L1.trans L2') R2 (Rep.le L2' x r1) r2 h2
theorem dt1 {ma : En → M Bool} {γ δ : Type} {relB : List Addr → Hp → γ → δ → Prop} {f : Bool → M γ} {Q' : δ → Hp → Prop} {σ : L2.St} {H : Hp} {ρ : List Addr} {η : En} {S : Store} {Q : Bool → Hp → Prop}
    (E : RepE G ρ H η σ) (R : Rel G ρ H S) (h : RunM G W relB (M.bind (ma η) f) ρ H S σ Q')
    (k : ∀ b H2 ρ2 S2, RepE G ρ2 H2 η σ → Le ρ H ρ2 H2 → Rel G ρ2 H2 S2 → RunM G W relB (f b) ρ2 H2 S2 σ Q' → Q b H2) : DT G W ma σ H Q :=
  DT_mono (DT.bind (f := fun _ => f) E R h) fun v H1 ⟨ρ1, S1, E1, L1, R1, h1⟩ => k v H1 ρ1 S1 E1 L1 R1 h1
theorem Good.un (g : Good T G k c X Γ W) : X.A.units + 65 < cLine := by have := g.room.un; omega
theorem Good.un1 (g : Good T G k c X Γ W) : X.A.units + 1 < cLine := by have := g.room.un; omega
theorem pe_binD (g : Good T G k c X Γ W) (sn : Snd T G k c E) {a b : Expr} {op : Operator} {st : Bool} {pos : Pos} : PE X (.BinOp a op b pos) (DE G W fun η => M.bind (E.e Γ a η) fun x => M.bind (E.e Γ b η) fun y => dBin st op x y) :=
  (pe_op (bin_sound g.K st op) (sn.e X Γ W a g) (sn.e X Γ W b g)).imp fun σ H Q ⟨ρ, η, S, E, R, h⟩ =>
    de2 E R h fun vx vy H2 ρ2 S2 x y E2 L R2 r1 r2 h2 => ⟨ρ2, S2, x, y, R2, r1, r2, h2.v (noex_bin _ _ _ _)⟩
theorem pe_negD (g : Good T G k c X Γ W) (sn : Snd T G k c E) {a : Expr} {pos : Pos} : PE X (.UnaryOp .USub a pos) (DE G W fun η => M.bind (E.e Γ a η) dNeg) :=
  (pe_un neg_sound (sn.e X Γ W a g)).imp fun σ H Q ⟨ρ, η, S, E, R, h⟩ => de1 E R h fun vx H2 ρ2 S2 x E2 L R2 r1 h2 => ⟨ρ2, S2, x, R2, r1, h2.v (noex_neg _)⟩
theorem pe_notD (g : Good T G k c X Γ W) (sn : Snd T G k c E) {a : Expr} {pos : Pos} : PE X (.UnaryOp .Not a pos) (DE G W fun η => M.bind (E.e Γ a η) fun x => (match x with | .bl b => M.pure (.bl (!b)) | _ => M.fail)) :=
  (pe_not (sn.e X Γ W a g)).imp fun σ H Q ⟨ρ, η, S, E, R, h⟩ => de1 E R h fun vx H2 ρ2 S2 x E2 L R2 r1 h2 => by
    cases x <;> first
      | exact h2.fail
      | (unfold Rep at r1; exact ⟨_, r1, h2.now R2 (by unfold Rep; rfl)⟩)
theorem pe_ifD (g : Good T G k c X Γ W) (sn : Snd T G k c E) {t a b : Expr} {pos : Pos} : PE X (.IfExp t a b pos) (DE G W fun η => M.bind (E.t Γ t η) fun k => if k = true then E.e Γ a η else E.e Γ b η) :=
  (pe_ifExp (sn.t X Γ W t g) (sn.e X Γ W a g) (sn.e X Γ W b g)).imp fun σ H Q ⟨ρ, η, S, E, R, h⟩ => dt1 E R h fun k H2 ρ2 S2 E2 L R2 h2 => by
    cases k with
    | true => rw [if_pos rfl] at h2 ⊢; exact ⟨ρ2, η, S2, E2, R2, h2⟩
    | false => rw [if_neg Bool.false_ne_true] at h2 ⊢; exact ⟨ρ2, η, S2, E2, R2, h2⟩
theorem pe_cmpD (g : Good T G k c X Γ W) (sn : Snd T G k c E) {a b : Expr} {op : CmpOp} {pos : Pos} (hm : behindInMarks op b = false) :
    PE X (.Compare a [op] [b] pos) (DE G W fun η => M.bind (E.e Γ a η) fun x => M.bind (E.e Γ b η) fun y => M.bind (dCmp op x y) fun k => M.pure (.bl k)) :=
  (pe_cmpR (cmp_sound0 (G := G) op g.un g.K) (sn.e X Γ W a g) (sn.e X Γ W b g) hm).imp fun σ H Q ⟨ρ, η, S, E, R, h⟩ =>
    de2 E R h fun vx vy H2 ρ2 S2 x y E2 L R2 r1 r2 h2 => ⟨ρ2, S2, x, y, R2, r1, r2, by
      obtain ⟨b, S3, e, h3⟩ := (RunM.bind (rel := fun _ _ (b : Bool) (v : V) => v = .bl b) h2).v (noex_cmp _ _ _)
      exact ⟨b, S3, e, fun ρ' H' v L R r => by
        obtain ⟨ρ4, S4, a, L4, R4, r4, h4⟩ := h3 ρ' H' v L R r
        subst r4
        exact h4.now R4 (by unfold Rep; rfl)⟩⟩
theorem pt_cmpD (g : Good T G k c X Γ W) (sn : Snd T G k c E) {a b : Expr} {op : CmpOp} {pos : Pos} (hm : behindInMarks op b = false) :
    PT X (.Compare a [op] [b] pos) (DT G W fun η => M.bind (E.e Γ a η) fun x => M.bind (E.e Γ b η) fun y => dCmp op x y) :=
  (pt_cmpR (cmp_sound0 (G := G) op g.un g.K) (sn.e X Γ W a g) (sn.e X Γ W b g) hm).imp fun σ H Q ⟨ρ, η, S, E, R, h⟩ =>
    de2 E R h fun vx vy H2 ρ2 S2 x y E2 L R2 r1 r2 h2 => ⟨ρ2, S2, x, y, R2, r1, r2, by
      obtain ⟨b, S3, e, h3⟩ := h2.v (noex_cmp _ _ _)
      exact ⟨b, S3, e, fun ρ' H' v L R r => ⟨b, r, h3 ρ' H' b L R rfl⟩⟩⟩
theorem pe_chainD (g : Good T G k c X Γ W) (sn : Snd T G k c E) {a b b' : Expr} {op op' : CmpOp} {pos : Pos} (hm : lastMarks [op, op'] [b, b'] = false) :
    PE X (.Compare a [op, op'] [b, b'] pos) (DE G W fun η => M.bind (E.e Γ a η) fun x => M.bind (E.e Γ b η) fun y => M.bind (dCmp op x y) fun k =>
      if k = true then M.bind (E.e Γ b' η) fun z => M.bind (dCmp op' y z) fun k' => M.pure (.bl k') else M.pure (.bl false)) :=
  (pe_chain (cmp_sound0 (G := G) op g.un g.K) (cmp_sound0 (G := G) op' g.un g.K) (sn.e X Γ W a g) (sn.e X Γ W b g) (sn.e X Γ W b' g) hm).imp fun σ H Q ⟨ρ, η, S, E, R, h⟩ =>
    de2 E R h fun vx vy H2 ρ2 S2 x y E2 L R2 r1 r2 h2 => ⟨ρ2, S2, x, y, R2, r1, r2, by
      obtain ⟨b, S3, e, h3⟩ := (RunM.bind (rel := fun _ _ (b : Bool) (v : V) => v = .bl b) h2).v (noex_cmp _ _ _)
      refine ⟨b, S3, e, fun ρ' H' v L R r => ⟨b, r, ?_⟩⟩
      obtain ⟨ρ4, S4, b4, L4, R4, r4, h4⟩ := h3 ρ' H' v L R r
      have : b4 = b := by rw [r] at r4; cases r4; rfl
      subst this
      cases b4 with
      | true =>
        rw [if_pos rfl] at h4 ⊢
        refine de1 (E2.le L4) R4 h4 fun vz H5 ρ5 S5 z E5 L5 R5 r5 h5 => ⟨ρ5, S5, y, z, R5, Rep.le (L4.trans L5) y r2, r5, ?_⟩
        obtain ⟨b, S3, e, h3⟩ := (RunM.bind (rel := fun _ _ (b : Bool) (v : V) => v = .bl b) h5).v (noex_cmp _ _ _)
        exact ⟨b, S3, e, fun ρ' H' v L R r => by
          obtain ⟨ρ4, S4, a, L4, R4, r4, h4⟩ := h3 ρ' H' v L R r
          subst r4
          exact h4.now R4 (by unfold Rep; rfl)⟩
      | false => rw [if_neg Bool.false_ne_true] at h4 ⊢; exact h4.now R4 (by unfold Rep; rfl)⟩
theorem pt_chainD (g : Good T G k c X Γ W) (sn : Snd T G k c E) {a b b' : Expr} {op op' : CmpOp} {pos : Pos} (hm : lastMarks [op, op'] [b, b'] = false) :
    PT X (.Compare a [op, op'] [b, b'] pos) (DT G W fun η => M.bind (E.e Γ a η) fun x => M.bind (E.e Γ b η) fun y => M.bind (dCmp op x y) fun k =>
      if k = true then M.bind (E.e Γ b' η) fun z => dCmp op' y z else M.pure false) :=
  (pt_chain (cmp_sound0 (G := G) op g.un g.K) (cmp_sound0 (G := G) op' g.un g.K) (sn.e X Γ W a g) (sn.e X Γ W b g) (sn.e X Γ W b' g) hm).imp fun σ H Q ⟨ρ, η, S, E, R, h⟩ =>
    de2 E R h fun vx vy H2 ρ2 S2 x y E2 L R2 r1 r2 h2 => ⟨ρ2, S2, x, y, R2, r1, r2, by
      obtain ⟨b, S3, e, h3⟩ := (RunM.bind (rel := fun _ _ (b : Bool) (v : V) => v = .bl b) h2).v (noex_cmp _ _ _)
      refine ⟨b, S3, e, fun ρ' H' v L R r => ⟨b, r, ?_⟩⟩
      obtain ⟨ρ4, S4, b4, L4, R4, r4, h4⟩ := h3 ρ' H' v L R r
      have : b4 = b := by rw [r] at r4; cases r4; rfl
      subst this
      cases b4 with
      | true =>
        rw [if_pos rfl] at h4 ⊢
        refine de1 (E2.le L4) R4 h4 fun vz H5 ρ5 S5 z E5 L5 R5 r5 h5 => ⟨ρ5, S5, y, z, R5, Rep.le (L4.trans L5) y r2, r5, ?_⟩
        obtain ⟨b, S3, e, h3⟩ := h5.v (noex_cmp _ _ _)
        exact ⟨b, S3, e, fun ρ' H' v L R r => ⟨b, r, h3 ρ' H' b L R rfl⟩⟩
      | false => rw [if_neg Bool.false_ne_true] at h4 ⊢; exact ⟨false, rfl, h4.now R4 rfl⟩⟩
theorem plain_ix {b : Expr} (h : ∀ lo hi p, b ≠ .Slice lo hi none p) : PlainIx b := fun o i => by
  unfold subscripted
  split
  · rename_i lo hi p
    exact absurd rfl (h lo hi p)
  · rename_i hf; exact absurd hf Bool.false_ne_true
  · rfl
theorem pe_ixD (g : Good T G k c X Γ W) (sn : Snd T G k c E) {a b : Expr} {pos : Pos} (hb : ∀ lo hi st p, b ≠ .Slice lo hi st p) : PE X (.Subscript a b pos) (DE G W fun η => M.bind (E.e Γ a η) fun x => M.bind (E.e Γ b η) fun y => dIx x y) :=
  (pe_ix (ix_sound g.K g.un) (sn.e X Γ W a g) (sn.e X Γ W b g) (plain_ix fun lo hi p => hb lo hi none p)).imp fun σ H Q ⟨ρ, η, S, E, R, h⟩ =>
    de2 E R h fun vx vy H2 ρ2 S2 x y E2 L R2 r1 r2 h2 => ⟨ρ2, S2, x, y, R2, r1, r2, h2.v (noex_ix _ _)⟩
def DO (G : Gm) (W : WX) (m : En → M (Option Int)) : TO := fun σ H Q => ∃ ρ η S, RepE G ρ H η σ ∧ Rel G ρ H S ∧ RunM G W (fun _ _ (b : Option Int) c => c = b) (m η) ρ H S σ Q
theorem po_D (g : Good T G k c X Γ W) (sn : Snd T G k c E) (o : Option Expr) : PO X o (DO G W (optI E Γ o)) := by
  cases o with
  | none =>
    refine ⟨fun pins s σ H Q I ⟨ρ, η, S, E, R, h⟩ => po_none.run pins s σ H Q I ?_⟩
    exact h.now R rfl
  | some e =>
    refine ⟨fun pins s σ H Q I ⟨ρ, η, S, E, R, h⟩ => (po_some (sn.e X Γ W e g)).run pins s σ H Q I ?_⟩
    refine de1 E R h fun vx H2 ρ2 S2 x E2 L R2 r1 h2 => ?_
    cases x <;> first
      | exact h2.fail
      | (unfold Rep at r1; exact ⟨_, r1, h2.now R2 rfl⟩)
theorem pe_sliceD (g : Good T G k c X Γ W) (sn : Snd T G k c E) {a : Expr} {lo hi : Option Expr} {st : Bool} {p pos : Pos} :
    PE X (.Subscript a (.Slice lo hi none p) pos) (DE G W fun η => M.bind (E.e Γ a η) fun x => M.bind (optI E Γ lo η) fun l => M.bind (optI E Γ hi η) fun h => dCut st x l h) :=
  (pe_slice (sl_sound g.K st) (sn.e X Γ W a g) (po_D g sn lo) (po_D g sn hi)).imp fun σ H Q ⟨ρ, η, S, E, R, h⟩ =>
    de1 E R h fun vx H2 ρ2 S2 x E2 L R2 r1 h2 => ⟨ρ2, η, S2, E2, R2, (RunM.bind (rel := fun _ _ (b : Option Int) c => c = b) h2).mono fun l H3 ⟨ρ3, S3, l', L3, R3, e3, h3⟩ =>
      ⟨ρ3, η, S3, E2.le L3, R3, (RunM.bind (rel := fun _ _ (b : Option Int) c => c = b) h3).mono fun u H4 ⟨ρ4, S4, u', L4, R4, e4, h4⟩ => by
        subst e3 e4
        exact ⟨ρ4, S4, x, R4, Rep.le (L3.trans L4) x r1, h4.v (noex_cut _ _ _ _)⟩⟩⟩
end
end DL
end

section
namespace DL
open PySem L2 PySem.Spec PyProof.Rows
section
variable {T : Tab} {G : Gm} {k : Nat} {c : Str → List D → M D} {X : Cx} {Γ : Sc} {W : WX} {E : Evs}
theorem pe_andD (g : Good T G k c X Γ W) (sn : Snd T G k c E) {pos : Pos} : ∀ vs : List Expr, PE X (.BoolOp .And vs pos) (DE G W (eAll (vs.map (E.e Γ))))
  | [] => pe_never
  | [a] => pe_one (sn.e X Γ W a g)
  | a :: b :: r => (pe_and (sn.e X Γ W a g) (pe_andD g sn (b :: r))).imp fun σ H Q ⟨ρ, η, S, E0, R, h⟩ => by
    refine de1 (f := fun d => match d with | .bl true => eAll ((b :: r).map (E.e Γ)) η | .bl false => M.pure (.bl false) | _ => M.fail) E0 R h fun vx H2 ρ2 S2 x E2 L R2 r1 h2 => ?_
    cases x <;> first
      | exact h2.fail
      | (rename_i d
         unfold Rep at r1
         refine ⟨d, r1, ?_⟩
         cases d with
         | true => rw [if_pos rfl]; exact ⟨ρ2, η, S2, E2, R2, h2⟩
         | false => rw [if_neg Bool.false_ne_true]; exact h2.now R2 (by unfold Rep; rfl))
theorem pe_orD (g : Good T G k c X Γ W) (sn : Snd T G k c E) {pos : Pos} : ∀ vs : List Expr, PE X (.BoolOp .Or vs pos) (DE G W (eAny (vs.map (E.e Γ))))
  | [] => pe_never
  | [a] => pe_one (sn.e X Γ W a g)
  | a :: b :: r => (pe_or (sn.e X Γ W a g) (pe_orD g sn (b :: r))).imp fun σ H Q ⟨ρ, η, S, E0, R, h⟩ => by
    refine de1 (f := fun d => match d with | .bl false => eAny ((b :: r).map (E.e Γ)) η | .bl true => M.pure (.bl true) | _ => M.fail) E0 R h fun vx H2 ρ2 S2 x E2 L R2 r1 h2 => ?_
    cases x <;> first
      | exact h2.fail
      | (rename_i d
         unfold Rep at r1
         refine ⟨d, r1, ?_⟩
         cases d with
         | true => rw [if_pos rfl]; exact h2.now R2 (by unfold Rep; rfl)
         | false => rw [if_neg Bool.false_ne_true]; exact ⟨ρ2, η, S2, E2, R2, h2⟩)
theorem pw_nil_and {pos : Pos} : PW X (.BoolOp .And [] pos) (DT G W (tAll [])) := ⟨fun wh pins s σ H Q I ⟨ρ, η, S, E, R, h⟩ => isTrue_and_nil ⟨H, I, h.now R rfl⟩⟩
theorem pw_nil_or {pos : Pos} : PW X (.BoolOp .Or [] pos) (DT G W (tAny [])) := ⟨fun wh pins s σ H Q I ⟨ρ, η, S, E, R, h⟩ => isTrue_or_nil ⟨H, I, h.now R rfl⟩⟩
theorem pw_andD (g : Good T G k c X Γ W) (sn : Snd T G k c E) {pos : Pos} : ∀ vs : List Expr, PW X (.BoolOp .And vs pos) (DT G W (tAll (vs.map (E.t Γ))))
  | [] => pw_nil_and
  | a :: r => ⟨fun wh pins s σ H Q I ⟨ρ, η, S, E0, R, h⟩ => by
    refine isTrue_and (thn ((sn.t X Γ W a g).run pins s σ H _ I (dt1 E0 R h fun d H2 ρ2 S2 E2 L R2 h2 => (⟨ρ2, S2, E2, R2, h2⟩ : ∃ ρ2 S2, RepE G ρ2 H2 η σ ∧ Rel G ρ2 H2 S2 ∧ RunM G W (fun _ _ (b : Bool) c => c = b) (if d = true then tAll (r.map (E.t Γ)) η else M.pure false) ρ2 H2 S2 σ Q))) fun d s1 ⟨H1, I1, ρ2, S2, E2, R2, h2⟩ => ?_)
    cases d with
    | true => exact (pw_andD g sn r).run wh pins s1 σ H1 Q I1 ⟨ρ2, η, S2, E2, R2, h2⟩
    | false => exact ⟨H1, I1, h2.now R2 rfl⟩⟩
theorem pw_orD (g : Good T G k c X Γ W) (sn : Snd T G k c E) {pos : Pos} : ∀ vs : List Expr, PW X (.BoolOp .Or vs pos) (DT G W (tAny (vs.map (E.t Γ))))
  | [] => pw_nil_or
  | a :: r => ⟨fun wh pins s σ H Q I ⟨ρ, η, S, E0, R, h⟩ => by
    refine isTrue_or (thn ((sn.t X Γ W a g).run pins s σ H _ I (dt1 E0 R h fun d H2 ρ2 S2 E2 L R2 h2 => (⟨ρ2, S2, E2, R2, h2⟩ : ∃ ρ2 S2, RepE G ρ2 H2 η σ ∧ Rel G ρ2 H2 S2 ∧ RunM G W (fun _ _ (b : Bool) c => c = b) (if d = true then M.pure true else tAny (r.map (E.t Γ)) η) ρ2 H2 S2 σ Q))) fun d s1 ⟨H1, I1, ρ2, S2, E2, R2, h2⟩ => ?_)
    cases d with
    | false => exact (pw_orD g sn r).run wh pins s1 σ H1 Q I1 ⟨ρ2, η, S2, E2, R2, h2⟩
    | true => exact ⟨H1, I1, h2.now R2 rfl⟩⟩
theorem pt_notD (g : Good T G k c X Γ W) (sn : Snd T G k c E) {a : Expr} {pos : Pos} : PT X (.UnaryOp .Not a pos) (DT G W fun η => M.bind (E.t Γ a η) fun b => M.pure (!b)) :=
  (pt_not (sn.t X Γ W a g)).imp fun σ H Q ⟨ρ, η, S, E0, R, h⟩ => dt1 E0 R h fun d H2 ρ2 S2 E2 L R2 h2 => h2.now R2 rfl
theorem pt_ifD (g : Good T G k c X Γ W) (sn : Snd T G k c E) {t a b : Expr} {pos : Pos} : PT X (.IfExp t a b pos) (DT G W fun η => M.bind (E.t Γ t η) fun k => if k = true then E.t Γ a η else E.t Γ b η) :=
  ⟨fun pins s σ H Q I ⟨ρ, η, S, E0, R, h⟩ => by
    refine isTrue_IfExp (thn ((sn.t X Γ W t g).run pins s σ H _ I (dt1 E0 R h fun d H2 ρ2 S2 E2 L R2 h2 => (⟨ρ2, S2, E2, R2, h2⟩ : ∃ ρ2 S2, RepE G ρ2 H2 η σ ∧ Rel G ρ2 H2 S2 ∧ RunM G W (fun _ _ (b : Bool) c => c = b) (if d = true then E.t Γ a η else E.t Γ b η) ρ2 H2 S2 σ Q))) fun d s1 ⟨H1, I1, ρ2, S2, E2, R2, h2⟩ => ?_)
    cases d with
    | true => rw [if_pos rfl]; exact (sn.t X Γ W a g).run pins s1 σ H1 Q I1 ⟨ρ2, η, S2, E2, R2, h2⟩
    | false => rw [if_neg Bool.false_ne_true]; exact (sn.t X Γ W b g).run pins s1 σ H1 Q I1 ⟨ρ2, η, S2, E2, R2, h2⟩⟩
theorem pt_plain {m : EM} (g : Good T G k c X Γ W) {a : Expr} (ha : PE X a (DE G W m)) (he : ∀ whole, isTrue a X.env whole = (do let v ← whole; standAt a.pos; holding [v] (truthy v))) :
    PT X a (DT G W fun η => M.bind (m η) tru) :=
  ⟨fun pins s σ H Q I ⟨ρ, η, S, E0, R, h⟩ => isTrue_plain (thn (ha.run pins s σ H _ I (de1 E0 R h fun vx H2 ρ2 S2 x E2 L R2 r1 h2 => (⟨ρ2, S2, x, R2, r1, h2.v (noex_tru _)⟩ : rTru G vx H2 Q))) fun v s1 ⟨x, H1, I1, r1, q1⟩ => tru_sound g.K pins s1 σ H1 x v Q I1 r1 q1) (he _)⟩
theorem pa_D (g : Good T G k c X Γ W) (sn : Snd T G k c E) : ∀ es : List Expr, es.all notStar = true → PA X es (DA G W (eList (es.map (E.e Γ))))
  | [], _ => pa_nil.imp fun σ H Q ⟨ρ, η, S, E0, R, h⟩ => h.now R .nil
  | e :: es, hs => by
    rw [List.all_cons, Bool.and_eq_true] at hs
    refine (pa_cons (sn.e X Γ W e g) (pa_D g sn es hs.2) (starEach_cons hs.1)).imp fun σ H Q ⟨ρ, η, S, E0, R, h⟩ => ?_
    refine de1 E0 R h fun vx H2 ρ2 S2 x E2 L R2 r1 h2 => ⟨ρ2, η, S2, E2, R2, (RunM.bind h2).mono fun vs H3 ⟨ρ3, S3, ds, L3, R3, r3, h3⟩ => h3.now R3 (.cons (Rep.le L3 x r1) r3)⟩
theorem pa_never {es : List Expr} : PA X es (DA G W fun _ => M.fail) := ⟨fun pos pins s σ H Q I h => by
  obtain ⟨ρ, η, S, _, _, h⟩ := h
  exact h.fail⟩
theorem pa_args (g : Good T G k c X Γ W) (sn : Snd T G k c E) (es : List Expr) (hs : es.all notStar = true) : PA X es (DA G W (evArgs E Γ es)) := by
  unfold evArgs
  rw [if_pos hs]
  exact pa_D g sn es hs
/-- the arguments, then -/
theorem da1 {ma : En → M (List D)} {γ δ : Type} {relB : List Addr → Hp → γ → δ → Prop} {f : List D → M γ} {Q' : δ → Hp → Prop} {σ : L2.St} {H : Hp} {ρ : List Addr} {η : En} {S : Store} {Q : List V → Hp → Prop}
    (E : RepE G ρ H η σ) (R : Rel G ρ H S) (h : RunM G W relB (M.bind (ma η) f) ρ H S σ Q')
    (k : ∀ vx H2 ρ2 S2 x, RepE G ρ2 H2 η σ → Le ρ H ρ2 H2 → Rel G ρ2 H2 S2 → RepL G ρ2 H2 x vx → RunM G W relB (f x) ρ2 H2 S2 σ Q' → Q vx H2) : DA G W ma σ H Q :=
  ⟨ρ, η, S, E, R, (RunM.bind h).mono fun v H1 ⟨ρ1, S1, d, L1, R1, r1, h1⟩ => k v H1 ρ1 S1 d (E.le L1) L1 R1 r1 h1⟩
theorem evArgs_star {es : List Expr} {η : En} {S : Store} {r : _} (h : evArgs E Γ es η S = some r) : es.all notStar = true := by
  unfold evArgs at h
  split at h
  · assumption
  · cases h
/-- an argument list that is run has no star -/
theorem run_star {es : List Expr} {γ δ : Type} {relB : List Addr → Hp → γ → δ → Prop} {f : List D → M γ} {Q' : δ → Hp → Prop} {σ : L2.St} {H : Hp} {ρ : List Addr} {η : En} {S : Store} (h : RunM G W relB (M.bind (evArgs E Γ es η) f) ρ H S σ Q') : es.all notStar = true := by
  obtain ⟨r, S', e, _⟩ := h
  unfold M.bind at e
  split at e
  · rename_i q; exact evArgs_star q
  · rename_i q; exact evArgs_star q
  · cases e
theorem pe_tupD (g : Good T G k c X Γ W) (sn : Snd T G k c E) {es : List Expr} {x1} {pos : Pos} : PE X (.Tuple es x1 pos) (DE G W fun η => M.bind (evArgs E Γ es η) mkT) := by
  by_cases hs : es.all notStar = true
  · refine (pe_tup (pa_args g sn es hs)).imp fun σ H Q ⟨ρ, η, S, E0, R, h⟩ => da1 E0 R h fun vs H2 ρ2 S2 ds E2 L R2 r1 h2 => ?_
    obtain ⟨hl, h2⟩ := RunM.ite h2
    exact ⟨by rw [r1.length]; exact hl, fun p np => by
      obtain ⟨R3, L3⟩ := R2.out (o := .tup vs) np
      obtain ⟨_, _, e, q⟩ := h2
      cases e
      exact q _ _ _ L3 R3 (by unfold Rep; exact ⟨p, vs, rfl, ⟨upd_same, R2.fresh np⟩, RepL.le L3 ds r1⟩)⟩
  · refine ⟨fun pins s σ H Q I ⟨ρ, η, S, E0, R, h⟩ => absurd (run_star h) hs⟩
theorem pe_lstD (g : Good T G k c X Γ W) (sn : Snd T G k c E) {es : List Expr} {st : Bool} {pos : Pos} : PE X (.List es pos) (DE G W fun η => M.bind (evArgs E Γ es η) (mkL st)) := by
  by_cases hs : es.all notStar = true
  · refine (pe_lst (pa_args g sn es hs)).imp fun σ H Q ⟨ρ, η, S, E0, R, h⟩ => da1 E0 R h fun vs H2 ρ2 S2 ds E2 L R2 r1 h2 => ?_
    obtain ⟨hl, h2⟩ := RunM.ite h2
    refine ⟨by rw [r1.length]; exact hl, fun p np => ?_⟩
    cases st with
    | true =>
      rw [if_pos rfl] at h2
      obtain ⟨R3, L3, e3⟩ := R2.alloc (o := .lst vs) (ob := .lst ds) np fun ρ' H' L' e => ⟨vs, e, RepL.le L' ds r1⟩
      obtain ⟨_, _, e, q⟩ := h2
      cases e
      exact q _ _ _ L3 R3 (by unfold Rep; exact ⟨p, e3, rfl⟩)
    | false =>
      rw [if_neg Bool.false_ne_true] at h2
      obtain ⟨R3, L3⟩ := R2.out (o := .lst vs) np
      obtain ⟨_, _, e, q⟩ := h2
      cases e
      exact q _ _ _ L3 R3 (by unfold Rep; exact ⟨p, vs, rfl, ⟨upd_same, R2.fresh np⟩, RepL.le L3 ds r1⟩)
  · refine ⟨fun pins s σ H Q I ⟨ρ, η, S, E0, R, h⟩ => absurd (run_star h) hs⟩
theorem RepF.look : ∀ {fs : List (Str × D)} {ys : List (Str × V)} {ρ : List Addr} {H : Hp} (f : Str), RepF G ρ H fs ys → (fs.lookup f = none ∧ ys.lookup f = none) ∨ ∃ d v, fs.lookup f = some d ∧ ys.lookup f = some v ∧ Rep G ρ H d v
  | [], ys, ρ, H, f, r => by unfold RepF at r; subst r; exact .inl ⟨rfl, rfl⟩
  | (k0, d) :: fs, ys, ρ, H, f, r => by
    unfold RepF at r
    obtain ⟨v, r', rfl, r1, r2⟩ := r
    simp only [List.lookup_cons]
    by_cases e : (f == k0) = true
    · simp only [e]; exact .inr ⟨d, v, rfl, rfl, r1⟩
    · rw [Bool.not_eq_true] at e
      simp only [e]
      exact RepF.look f r2
theorem pe_attrD (g : Good T G k c X Γ W) (sn : Snd T G k c E) {a : Expr} {f : Str} {pos : Pos} (hb : notSup a = true) :
    PE X (.Attribute a f pos) (DE G W fun η => M.bind (E.e Γ a η) fun x => (match x with
      | .obj n => M.bind (getO n) fun o => (match o with | .ins C fs => (if T.attr C f = true then M.of (fs.lookup f) else M.fail) | _ => M.fail)
      | _ => M.fail)) := by
  refine (pe_fld (sn.e X Γ W a g) (base_plain hb)).imp fun σ H Q ⟨ρ, η, S, E0, R, h⟩ => de1 E0 R h fun vx H2 ρ2 S2 x E2 L R2 r1 h2 => ?_
  cases x <;> try exact h2.fail
  rename_i n
  obtain ⟨r, S', e, q⟩ := h2
  unfold M.bind getO at e
  cases hS : S2[n]? with
  | none => simp only [hS] at e; cases e
  | some o =>
    simp only [hS] at e
    cases o with
    | ins C fs =>
      unfold Rep at r1
      obtain ⟨b, e1, e2⟩ := r1
      obtain ⟨C', dx, xs, e3, e4, e5⟩ := R2.ob n _ b hS e1
      by_cases ha : T.attr C f = true
      · simp only [ha, if_true] at e
        obtain ⟨ca, k1, k2, k3⟩ := g.text.attr C f ha
        rw [k1] at e4
        cases e4
        rcases RepF.look f e5 with ⟨z1, z2⟩ | ⟨d, v, z1, z2, z3⟩
        · rw [z1] at e; cases e
        · rw [z1] at e
          cases e
          exact ⟨b, _, dx, xs, v, e2, e3, by rw [← g.K]; exact k2, by rw [← g.K]; exact k3, z2, q _ _ _ Le.refl R2 z3⟩
      · simp only [ha, if_false] at e; cases e
    | _ => cases e
/-- a callee runs on values -/
theorem run_D (g : Good T G k c X Γ W) {a : Addr} {m : List D → M D} {pins : List (Addr × Obj)} {σ : L2.St} {H : Hp} {s : Shared} {Q : VK} {us : List Value} {vs : List V} {ρ : List Addr} {S : Store} {ds : List D} (F : Fn1 X.prog X.w X.base G k a m)
    (I : L2.Inv X pins σ H s) (r : Vals vs us) (rl : RepL G ρ H ds vs) (R : Rel G ρ H S) (h : RunM G W (Rep G) (m ds) ρ H S σ Q) : wpAny (model X.prog X.w) X.A (call (.ref a) us) (EP X pins σ Q) X.xe s := by
  obtain ⟨fd, ps, hb, hf⟩ := F.ok
  rw [g.K] at hb hf
  rw [g.mg] at hf
  refine run_fnG hf g.grd (g.room.mono (Nat.le_succ _)) hb g.tk I r ⟨ρ, ds, S, rl, R, ?_⟩
  obtain ⟨r', S', e, q⟩ := h
  refine ⟨r', S', e, ?_⟩
  cases r' with
  | v d => exact q
  | ex x => exact q
/-- f(..) by value: f kept -/
theorem callee_D (g : Good T G k c X Γ W) (sn : Snd T G k c E) {f : Value} {first : List Value} {es : List Expr} {pos : Pos} {pins : List (Addr × Obj)} {s : Shared} {σ : L2.St} {H : Hp} {Q : Value → Shared → Prop} {γ δ : Type} {relB : List Addr → Hp → γ → δ → Prop} {fm : List D → M γ} {Q' : δ → Hp → Prop} {ρ : List Addr} {η : En} {S : Store}
    (hk : PySem.W.keepIn X.K f = true) (I : L2.Inv X pins σ H s) (E0 : RepE G ρ H η σ) (R : Rel G ρ H S) (h : RunM G W relB (M.bind (evArgs E Γ es η) fm) ρ H S σ Q')
    (go : ∀ us vs ds s1 H1 ρ1 S1, L2.Inv X pins σ H1 s1 → Vals vs us → RepE G ρ1 H1 η σ → Le ρ H ρ1 H1 → Rel G ρ1 H1 S1 → RepL G ρ1 H1 ds vs → RunM G W relB (fm ds) ρ1 H1 S1 σ Q' → wpAny (model X.prog X.w) X.A (call f (first ++ us)) Q X.xe s1) :
    wpAny (model X.prog X.w) X.A (callWith pos f first (backTo pos (starEach es X.env)) []) Q X.xe s := by
  have hs := run_star h
  cases es with
  | nil =>
    refine PySem.W.callWith_K0 I.kIn hk ?_
    have h2 : RunM G W relB (fm []) ρ H S σ Q' := by
      obtain ⟨r, S', e, q⟩ := h
      exact ⟨r, S', e, q⟩
    exact go [] [] [] s H ρ S I .nil E0 Le.refl R .nil h2
  | cons e es =>
    have hst := hs
    rw [List.all_cons, Bool.and_eq_true] at hst
    refine PySem.W.callWith_K (h₀ := X.base) I.ok.mod.kin hk (thn ((pa_args g sn (e :: es) hs).run pos pins s σ H _ I (da1 E0 R h (Q := fun vs H1 => ∃ ρ1 S1 ds, RepE G ρ1 H1 η σ ∧ Le ρ H ρ1 H1 ∧ Rel G ρ1 H1 S1 ∧ RepL G ρ1 H1 ds vs ∧ RunM G W relB (fm ds) ρ1 H1 S1 σ Q') fun vs H1 ρ1 S1 ds E1 L R1 r1 h1 => ⟨ρ1, S1, ds, E1, L, R1, r1, h1⟩))
      fun us s1 ⟨vs, H1, I1, r, ρ1, S1, ds, E1, L, R1, r1, h1⟩ => ⟨I1.kIn, go us vs ds s1 H1 ρ1 S1 I1 r E1 L R1 r1 h1⟩) (starEach_cons hst.1) (backTo_plain _ (starEach_plain hst.2))
theorem pe_callD (g : Good T G k c X Γ W) (sn : Snd T G k c E) {f : Str} {es : List Expr} {p pos : Pos} (ht : T.top.contains f = true) (hg : Γ.glb f = true) (hd : (f == ("__debug__" : Str)) = false) :
    PE X (.Call (.Name f p) es [] pos) (DE G W fun η => M.bind (evArgs E Γ es η) fun ds => c f ds) := by
  refine ⟨fun pins s σ H Q I ⟨ρ, η, S, E0, R, h⟩ => ?_⟩
  obtain ⟨a, hm, hk, F⟩ := g.calls.top f ht
  refine wpAny_Call_Name_kw (ld_glob I (g.gl_ hg) (by rw [← g.mg]; exact hm) ?_ hd)
  exact callee_D g sn (by rw [← g.K]; exact hk) I E0 R h fun us vs ds s1 H1 ρ1 S1 I1 r E1 L R1 r1 h1 => run_D g F I1 r r1 R1 h1
/-- C(..): made by a callee that is known -/
theorem make_D (g : Good T G k c X Γ W) {ca a : Addr} {C : Str} {m : List D → M D} {pins : List (Addr × Obj)} {σ : L2.St} {H : Hp} {s : Shared} {Q : VK} {us : List Value} {vs : List V} {ρ : List Addr} {S : Store} {ds : List D} (hC : G.mg C = some (.ref ca)) (M0 : Mk X.K ca a) (F : Fn1 X.prog X.w X.base G k a m)
    (I : L2.Inv X pins σ H s) (r : Vals vs us) (rl : RepL G ρ H ds vs) (R : Rel G ρ H S)
    (h : RunM G W (Rep G) (M.bind (alloc (.ins C [])) fun o => M.bind (m (o :: ds)) fun r => match r with | .non => M.pure o | _ => M.fail) ρ H S σ Q) : wpAny (model X.prog X.w) X.A (call (.ref ca) us) (EP X pins σ Q) X.xe s := by
  obtain ⟨fd, ps, hb, F⟩ := F.ok
  rw [g.K] at hb F
  rw [g.mg] at F
  have n1 : H (s.heap.objs.size + 1) = none := I.hok.fresh (Nat.le_succ _)
  have n2 : H s.heap.objs.size = none := I.hok.fresh (Nat.le_refl _)
  have ne : s.heap.objs.size ≠ s.heap.objs.size + 1 := Nat.ne_of_lt (Nat.lt_succ_self _)
  have I2 := Inv.made (C := ca) I
  let x := s.heap.objs.size + 1
  let dx := s.heap.objs.size
  obtain ⟨R1, L1⟩ := R.out (o := .own x) n2
  have n1' : (upd H dx (.own x)) x = none := by rw [upd_ne (Ne.symm ne)]; exact n1
  obtain ⟨R2, L2', e2⟩ := R1.alloc (o := .ins ca dx []) (ob := .ins C []) n1' fun ρ' H' L' e => ⟨ca, dx, [], e, hC, by unfold RepF; rfl⟩
  have h2 : RunM G W (Rep G) (M.bind (m (.obj S.length :: ds)) fun r => match r with | .non => M.pure (.obj S.length) | _ => M.fail) (ρ ++ [x]) (upd (upd H dx (.own x)) x (.ins ca dx [])) (S ++ [.ins C []]) σ Q := by
    obtain ⟨r', S', e, q⟩ := h
    refine ⟨r', S', e, ?_⟩
    cases r' with
    | v d => exact fun ρ' H' b L0 R0 r0 => q ρ' H' b ((L1.trans L2').trans L0) R0 r0
    | ex y => exact fun ρ' H' cls d L0 R0 r0 => q ρ' H' cls d ((L1.trans L2').trans L0) R0 r0
  have hq : spD G m (.ref x :: vs) (upd (upd H dx (.own x)) x (.ins ca dx [])) (fun v H2 => v = .non ∧ Q (.ref x) H2) (WE W σ) := by
    refine ⟨ρ ++ [x], .obj S.length :: ds, S ++ [.ins C []], .cons (by unfold Rep; exact ⟨x, e2, rfl⟩) (RepL.le (L1.trans L2') ds rl), R2, ?_⟩
    obtain ⟨r', S', e, q⟩ := RunM.bind h2
    refine ⟨r', S', e, ?_⟩
    cases r' with
    | v d =>
      intro ρ' H' v L0 R0 r0
      obtain ⟨ρ4, S4, a4, L4, R4, r4, h4⟩ := q ρ' H' v L0 R0 r0
      cases a4 <;> first
        | exact h4.fail
        | (unfold Rep at r4
           exact ⟨r4, h4.now R4 (by unfold Rep; exact ⟨x, L4.at_ e2, rfl⟩)⟩)
    | ex y => exact q
  have r2 : Vals (V.ref x :: vs) (Value.ref x :: us) := .cons rfl r
  have hl : (Value.ref x :: us ++ []).length = ps.length := by
    have e := r2.length
    rw [F.len _ _ _ _ hq] at e
    rw [List.append_nil]
    exact e.symm
  have bb := hb _ (Value.ref x :: us) I2.kIn hl
  rw [List.append_nil] at bb
  have hgd : (X.A.under (.builtin "type.__call__" ⟨.ref ca :: us, []⟩)).guards = some [] := by
    have hn : ("type.__call__" : String) ∉ guardIds := by decide
    simp [Around.under, g.grd, pushGuards, Code.guards, Code.isGuard, hn]
  refine wpAny_call (make_map (f := a) I.kIn M0.makes M0.init (beq_iff_eq.mp M0.fn) (codeAny_mono (F.run _ X.stack _ _ ⟨Value.ref x :: us, []⟩ (Value.ref x :: us) _ _ (WE W σ) hgd (g.room.make ca us []) (I2.env0.make ca us []) bb r2 hq) fun r s' hq' => ?_))
  cases r with
  | error e => exact passAt g.tk σ pins _ _ e s' I2 hq'
  | ok fl =>
    cases fl with
    | ret u =>
      obtain ⟨v, H', I3, rv, ev, q3⟩ := I2.after hq'
      subst ev
      exact ⟨rv, ⟨V.ref x, H', I3, rfl, q3⟩⟩
    | next => exact False.elim hq'
    | brk => exact False.elim hq'
    | cont => exact False.elim hq'
theorem pe_makeD (g : Good T G k c X Γ W) (sn : Snd T G k c E) {f : Str} {es : List Expr} {p pos : Pos} (hg : Γ.glb f = true) (hd : (f == ("__debug__" : Str)) = false) (hi : (T.meth f "__init__").isSome = true) :
    PE X (.Call (.Name f p) es [] pos) (DE G W fun η => M.bind (evArgs E Γ es η) fun ds => make T c f ds) := by
  refine ⟨fun pins s σ H Q I ⟨ρ, η, S, E0, R, h⟩ => ?_⟩
  unfold make at h
  cases hm : T.meth f "__init__" with
  | none => rw [hm] at hi; cases hi
  | some key =>
    simp only [hm] at h
    obtain ⟨ca, a, hC, M0, F⟩ := g.calls.make f key hm
    refine wpAny_Call_Name_kw (ld_glob I (g.gl_ hg) (by rw [← g.mg]; exact hC) ?_ hd)
    exact callee_D g sn (by rw [← g.K]; exact M0.kp) I E0 R h fun us vs ds s1 H1 ρ1 S1 I1 r E1 L R1 r1 h1 => make_D g hC (by rw [← g.K]; exact M0) F I1 r r1 R1 h1
end
end DL
end

section
namespace DL
open PySem L2 PySem.Spec PyProof.Rows
open SkE (call_str_str)

def rCallB (G : Gm) (m : List D → M D) : List V → Hp → VK → Prop := fun xs H Q => ∃ ρ S ds, RepL G ρ H ds xs ∧ Rel G ρ H S ∧ RunV G (Rep G) (m ds) ρ H S Q
section
variable {X : Cx} {G : Gm} (hG : G.K = X.K)
theorem repL1 {ρ : List Addr} {H : Hp} {d : D} {xs : List V} (r : RepL G ρ H [d] xs) : ∃ x, xs = [x] ∧ Rep G ρ H d x := by
  unfold RepL at r
  obtain ⟨v, w, rfl, r1, r2⟩ := r
  unfold RepL at r2
  subst r2
  exact ⟨v, rfl, r1⟩
theorem repL2 {ρ : List Addr} {H : Hp} {d e : D} {xs : List V} (r : RepL G ρ H [d, e] xs) : ∃ x y, xs = [x, y] ∧ Rep G ρ H d x ∧ Rep G ρ H e y := by
  unfold RepL at r
  obtain ⟨v, w, rfl, r1, r2⟩ := r
  obtain ⟨y, rfl, r3⟩ := repL1 r2
  exact ⟨v, y, rfl, r1, r3⟩
/-- one argument -/
theorem call_one {f : Value} {m1 : D → M D}
    (h : ∀ (pins : List (Addr × Obj)) (s : Shared) (σ : L2.St) (H : Hp) (x : V) (u : Value) (Q : VK) (ρ : List Addr) (S : Store) (d : D), L2.Inv X pins σ H s → RelV x u → Rep G ρ H d x → Rel G ρ H S → RunV G (Rep G) (m1 d) ρ H S Q →
      ∃ r : List V → Hp → VK → Prop, CallR X f r ∧ r [x] H Q) : CallR X f (rCallB G (on1 m1)) := by
  intro pins s σ H xs us Q I r ⟨ρ, S, ds, rl, R, hr⟩
  unfold on1 at hr
  split at hr
  · rename_i d
    obtain ⟨x, rfl, rx⟩ := repL1 rl
    obtain ⟨u, rfl, ru⟩ := vals1 r
    obtain ⟨r0, hc, hq⟩ := h pins s σ H x u Q ρ S d I ru rx R hr
    exact hc pins s σ H [x] [u] Q I (.cons ru .nil) hq
  · exact run_fail hr
theorem call_two {f : Value} {m1 : D → D → M D}
    (h : ∀ (H : Hp) (x y : V) (Q : VK) (ρ : List Addr) (S : Store) (d e : D), Rep G ρ H d x → Rep G ρ H e y → Rel G ρ H S → RunV G (Rep G) (m1 d e) ρ H S Q →
      ∃ r : List V → Hp → VK → Prop, CallR X f r ∧ r [x, y] H Q) : CallR X f (rCallB G (on2 m1)) := by
  intro pins s σ H xs us Q I r ⟨ρ, S, ds, rl, R, hr⟩
  unfold on2 at hr
  split at hr
  · rename_i d e
    obtain ⟨x, y, rfl, rx, ry⟩ := repL2 rl
    obtain ⟨r0, hc, hq⟩ := h H x y Q ρ S d e rx ry R hr
    exact hc pins s σ H [x, y] us Q I r hq
  · exact run_fail hr
include hG in
theorem blen : CallR X (.builtin "len") (rCallB G (on1 bLen)) := by
  refine call_one fun pins s σ H x u Q ρ S d I ru rx R hr => ?_
  · have sq : RunV G (Rep G) (M.bind (seqOf d) fun xs => M.pure (.int (xs.length : Nat))) ρ H S Q → ∃ r : List V → Hp → VK → Prop, CallR X (.builtin "len") r ∧ r [x] H Q := fun hr => by
      obtain ⟨xs, S1, e1, h2⟩ := run_bind hr
      obtain ⟨rfl, a, ys, rfl, q, l⟩ := seqOf_sq R rx e1
      rw [hG] at q
      refine ⟨_, call_len_seq, a, ys, rfl, q, ?_⟩
      rw [l.length]
      exact h2.fin R rfl rep_of_int
    cases d with
    | str z =>
      by_cases hz : z.length ≤ sizeLine
      · have hr : RunV G (Rep G) (M.pure (.int (z.length : Nat))) ρ H S Q := by
          have e : bLen (.str z) = M.pure (.int (z.length : Nat)) := if_pos hz
          rw [e] at hr
          exact hr
        exact ⟨_, call_len_str, z, by rw [rep_str rx], hz, hr.fin R rfl rep_of_int⟩
      · have e : bLen (.str z) = M.fail := if_neg hz
        rw [e] at hr
        exact run_fail hr
    | dct kvs =>
      unfold Rep at rx
      obtain ⟨a, ks, rfl, q, l⟩ := rx
      have hl : ∀ {kvs : List (DK × D)} {ks : List (Key × V)}, RepK G ρ H kvs ks → ks.length = kvs.length := by
        intro kvs
        induction kvs with
        | nil => intro ks r; unfold RepK at r; subst r; rfl
        | cons p t ih =>
          intro ks r
          obtain ⟨k, d⟩ := p
          unfold RepK at r
          obtain ⟨q, v, r', _, rfl, _, r2⟩ := r
          simp [ih r2]
      refine ⟨fun xs H Q => xs = [.ref a] ∧ Rd H a (.dK ks) ∧ Q (.int ks.length) H, ?_, rfl, q.1, ?_⟩
      · intro pins s σ H xs us Q I r ⟨e, hd, q⟩
        subst e
        obtain ⟨u, rfl, ru⟩ := vals1 r
        cases ru
        exact d_len I hd fun t s' I' => ⟨.int ks.length, H, I', ⟨t, rfl⟩, q⟩
      · rw [hl l]
        exact hr.fin R rfl rep_of_int
    | obj n =>
      obtain ⟨o, S1, e1, h2⟩ := run_bind (show RunV G (Rep G) (M.bind (getO n) fun o => match o with
        | .lst xs => M.pure (.int (xs.length : Nat))
        | .dct kvs => M.pure (.int (kvs.length : Nat))
        | _ => M.fail) ρ H S Q from hr)
      obtain ⟨e1, rfl⟩ := getO_v e1
      obtain ⟨a, ea, ro⟩ := R.get e1
      unfold Rep at rx
      obtain ⟨a', e', rfl⟩ := rx
      rw [ea] at e'
      cases e'
      cases o with
      | lst xs =>
        obtain ⟨ys, eo, l⟩ := ro
        refine ⟨_, call_len_seq, a, ys, rfl, .inl (SqL.of eo), ?_⟩
        rw [l.length]
        exact h2.fin R rfl rep_of_int
      | dct kvs =>
        rcases ro with ⟨ks, eo, l⟩ | ⟨ks, eo, l⟩
        · have hl : ∀ {kvs : List (DK × D)} {ks : List (Key × V)}, RepK G ρ H kvs ks → ks.length = kvs.length := by
            intro kvs
            induction kvs with
            | nil => intro ks r; unfold RepK at r; subst r; rfl
            | cons p t ih =>
              intro ks r
              obtain ⟨k, d⟩ := p
              unfold RepK at r
              obtain ⟨q, v, r', _, rfl, _, r2⟩ := r
              simp [ih r2]
          refine ⟨_, call_lenD, a, ks, rfl, eo, ?_⟩
          rw [hl l]
          exact h2.fin R rfl rep_of_int
        · have hl : ∀ {kvs : List (DK × D)} {ks : List (List Key × V)}, RepT G ρ H kvs ks → ks.length = kvs.length := by
            intro kvs
            induction kvs with
            | nil => intro ks r; unfold RepT at r; subst r; rfl
            | cons p t ih =>
              intro ks r
              obtain ⟨k, d⟩ := p
              unfold RepT at r
              obtain ⟨q, v, r', _, rfl, _, r2⟩ := r
              simp [ih r2]
          refine ⟨_, call_len_dT, a, ks, rfl, eo, ?_⟩
          rw [hl l]
          exact h2.fin R rfl rep_of_int
      | ins c fs => exact run_fail h2
    | tup xs => exact sq hr
    | lst xs => exact sq hr
    | frz xs => exact sq hr
    | non => exact sq hr
    | bl b => exact sq hr
    | int i => exact sq hr
    | fn f => exact sq hr
theorem babs : CallR X (.builtin "abs") (rCallB G (on1 bAbs)) := by
  refine call_one fun pins s σ H x u Q ρ S d I ru rx R hr => ?_
  cases d with
  | int i =>
    refine ⟨_, call_abs, i, by rw [rep_int rx], ?_⟩
    have e : (if i < 0 then -i else i) = ((i.natAbs : Nat) : Int) := by split <;> omega
    rw [e]
    exact hr.fin R rfl rep_of_int
  | _ => exact run_fail hr
theorem bint : CallR X (.type "int") (rCallB G (on1 bInt)) := by
  refine call_one fun pins s σ H x u Q ρ S d I ru rx R hr => ?_
  cases d with
  | int i => exact ⟨_, call_int1, .inl ⟨i, by rw [rep_int rx], hr.fin R rfl rep_of_int⟩⟩
  | bl b => exact ⟨_, call_int1, .inr ⟨b, by rw [rep_bl rx], hr.fin R rfl rep_of_int⟩⟩
  | _ => exact run_fail hr
theorem bstr : CallR X (.type "str") (rCallB G (on1 bStr)) := by
  refine call_one fun pins s σ H x u Q ρ S d I ru rx R hr => ?_
  cases d with
  | int i =>
    by_cases hz : i.natAbs.log2 < 1920
    · have e : bStr (.int i) = M.pure (.str (Str.ofString (toString i))) := if_pos hz
      rw [e] at hr
      exact ⟨_, call_str_int, i, by rw [rep_int rx], hz, hr.fin R rfl rep_of_str⟩
    · have e : bStr (.int i) = M.fail := if_neg hz
      rw [e] at hr
      exact run_fail hr
  | str z => exact ⟨_, call_str_str, z, by rw [rep_str rx], hr.fin R rfl rep_of_str⟩
  | _ => exact run_fail hr
include hG in
theorem brepr (hg : X.A.guards = some []) (hu : X.A.units + 66 < cLine) : CallR X (.builtin "repr") (rCallB G (on1 bRepr)) := by
  refine call_one fun pins s σ H x u Q ρ S d I ru rx R hr => ?_
  unfold bRepr at hr
  split at hr
  · rename_i hb
    obtain ⟨p, S1, e1, h2⟩ := run_bind hr
    obtain ⟨p1, rfl⟩ := pyOf_v e1
    split at h2
    · rename_i hs
      simp only [Bool.and_eq_true, decide_eq_true_eq, Bool.not_eq_true'] at hs
      obtain ⟨⟨⟨s1, s2⟩, s3⟩, s4⟩ := hs
      have dp : Dp X.K H x p := hG ▸ toPy_dp R _ _ _ _ rx p1
      have q := RunV.fin h2 R rfl (rep_of_str (G := G) (ρ := ρ) (H := H))
      have isr : ∃ a, x = .ref a := by
        cases d <;> first
          | exact absurd hb Bool.false_ne_true
          | (unfold Rep at rx
             obtain ⟨a, ys, e, _⟩ := rx
             exact ⟨a, e⟩)
          | (unfold Rep at rx
             obtain ⟨a, _, e⟩ := rx
             exact ⟨a, e⟩)
      obtain ⟨a, rfl⟩ := isr
      refine ⟨fun xs H Q => ∃ a p, xs = [.ref a] ∧ Dp X.K H (.ref a) p ∧ p.showable = true ∧ p.hasDict = false ∧ p.depth ≤ 64 ∧ p.shown.length ≤ sizeLine ∧ Q (.str p.shown) H, ?_, a, p, rfl, dp, s1, s2, s3, s4, q⟩
      rintro pins s σ H xs us Q I r ⟨a, p, rfl, dp, s1, s2, s3, s4, q⟩
      obtain ⟨u, rfl, ru⟩ := vals1 r
      obtain rfl : u = Value.ref a := ru
      obtain ⟨as, rd⟩ := dp.reads I _ _ _ rfl
      exact repr_of_reads' rd s1 (fun z => by rw [s2] at z; cases z) hg (by omega) (fun _ _ e => e) (fun h' u tk hk => ⟨.str p.shown, H, I.kept hk, ⟨_, rfl⟩, q⟩) s4
    · exact run_fail h2
  · exact run_fail hr
include hG in
theorem blist (hc : X.calm = true) (st : Bool) : CallR X (.type "list") (rCallB G (on1 (bListA st))) := by
  refine call_one fun pins s σ H x u Q ρ S d I ru rx R hr => ?_
  have sq : RunV G (Rep G) (M.bind (seqOf d) fun xs => mkL st xs) ρ H S Q → ∃ r, CallR X (.type "list") r ∧ r [x] H Q := fun h => by
    obtain ⟨xs, S1, e1, h2⟩ := run_bind h
    obtain ⟨rfl, a, ys, rfl, q, l⟩ := seqOf_sq R rx e1
    rw [hG] at q
    exact ⟨_, call_list_of, a, ys, rfl, q, (mkL_new R l h2).2⟩
  cases d with
  | str z =>
    by_cases hz : z.length ≤ sizeLine
    · have e : bListA st (.str z) = mkL st (charsOf z) := if_pos hz
      rw [e] at hr
      exact ⟨_, call_list_signs hc, z, by rw [rep_str rx], hz, (mkL_new R (charsV_rep z) hr).2⟩
    · have e : bListA st (.str z) = M.fail := if_neg hz
      rw [e] at hr
      exact run_fail hr
  | _ => exact sq hr
include hG in
theorem btuple : CallR X (.type "tuple") (rCallB G (on1 bTuple)) := by
  refine call_one fun pins s σ H x u Q ρ S d I ru rx R hr => ?_
  have sq : RunV G (Rep G) (M.bind (lstOf d) fun xs => M.pure (.tup xs)) ρ H S Q → ∃ r : List V → Hp → VK → Prop, CallR X (.type "tuple") r ∧ r [x] H Q := fun hr => by
    obtain ⟨xs, S1, e1, h2⟩ := run_bind hr
    obtain ⟨rfl, a, ys, rfl, q, l⟩ := lstOf_sq R rx e1
    rw [hG] at q
    refine ⟨_, call_tuple_of, a, ys, rfl, .inl ⟨q, fun p np => ?_⟩⟩
    obtain ⟨R', L⟩ := R.out (o := .tup ys) np
    obtain ⟨_, _, e, k⟩ := h2
    cases e
    exact k _ _ _ L R' (by unfold Rep; exact ⟨p, ys, rfl, ⟨upd_same, R.fresh np⟩, RepL.le L xs l⟩)
  cases d with
  | tup xs =>
    have rx' := rx
    unfold Rep at rx'
    obtain ⟨a, ys, rfl, q, l⟩ := rx'
    exact ⟨_, call_tuple_of, a, ys, rfl, .inr ⟨hG ▸ q.sq, hr.fin R rfl rx⟩⟩
  | _ => exact sq hr
theorem repL_ints {ρ : List Addr} {H : Hp} : ∀ {xs : List D} {is : List Int} {ys : List V}, intsOf xs = some is → RepL G ρ H xs ys → ys = is.map V.int
  | [], is, ys, h, r => by
    unfold RepL at r
    unfold intsOf at h
    simp at h
    subst h r
    rfl
  | d :: xs, is, ys, h, r => by
    unfold RepL at r
    obtain ⟨v, w, rfl, r1, r2⟩ := r
    unfold intsOf at h
    rw [List.mapM_cons] at h
    cases d with
    | int i =>
      cases e : xs.mapM asInt with
      | none => simp [e, asInt, asBool, asStr] at h
      | some js =>
        simp [e, asInt, asBool, asStr] at h
        subst h
        rw [rep_int r1, repL_ints (is := js) e r2]
        rfl
    | _ => cases h
theorem repL_of_ints {ρ : List Addr} {H : Hp} : ∀ is : List Int, RepL G ρ H (is.map D.int) (is.map V.int)
  | [] => .nil
  | i :: r => .cons rep_of_int (repL_of_ints r)
theorem repL_bools {ρ : List Addr} {H : Hp} : ∀ {xs : List D} {is : List Bool} {ys : List V}, boolsOf xs = some is → RepL G ρ H xs ys → ys = is.map V.bl
  | [], is, ys, h, r => by
    unfold RepL at r
    unfold boolsOf at h
    simp at h
    subst h r
    rfl
  | d :: xs, is, ys, h, r => by
    unfold RepL at r
    obtain ⟨v, w, rfl, r1, r2⟩ := r
    unfold boolsOf at h
    rw [List.mapM_cons] at h
    cases d with
    | bl i =>
      cases e : xs.mapM asBool with
      | none => simp [e, asInt, asBool, asStr] at h
      | some js =>
        simp [e, asInt, asBool, asStr] at h
        subst h
        rw [rep_bl r1, repL_bools (is := js) e r2]
        rfl
    | _ => cases h
theorem repL_strs {ρ : List Addr} {H : Hp} : ∀ {xs : List D} {is : List Str} {ys : List V}, strsOf xs = some is → RepL G ρ H xs ys → ys = is.map V.str
  | [], is, ys, h, r => by
    unfold RepL at r
    unfold strsOf at h
    simp at h
    subst h r
    rfl
  | d :: xs, is, ys, h, r => by
    unfold RepL at r
    obtain ⟨v, w, rfl, r1, r2⟩ := r
    unfold strsOf at h
    rw [List.mapM_cons] at h
    cases d with
    | str i =>
      cases e : xs.mapM asStr with
      | none => simp [e, asInt, asBool, asStr] at h
      | some js =>
        simp [e, asInt, asBool, asStr] at h
        subst h
        rw [rep_str r1, repL_strs (is := js) e r2]
        rfl
    | _ => cases h
include hG in
theorem bsum (hc : X.calm = true) : CallR X (.builtin "sum") (rCallB G (on1 bSum)) := by
  refine call_one fun pins s σ H x u Q ρ S d I ru rx R hr => ?_
  obtain ⟨xs, S1, e1, h2⟩ := run_bind (show RunV G (Rep G) (M.bind (seqOf d) fun xs => match intsOf xs with | some is => M.pure (.int is.sum) | none => M.fail) ρ H S Q from hr)
  obtain ⟨rfl, a, ys, rfl, q, l⟩ := seqOf_sq R rx e1
  cases hi : intsOf xs with
  | none => rw [hi] at h2; exact run_fail h2
  | some is =>
    rw [hi] at h2
    rw [hG, repL_ints hi l] at q
    rcases q with q | q
    · exact ⟨_, cr_sum hc, a, is, rfl, q, h2.fin R rfl rep_of_int⟩
    · exact ⟨_, cr_sumT hc, a, is, rfl, q, h2.fin R rfl rep_of_int⟩
include hG in
theorem ball (hc : X.calm = true) : CallR X (.builtin "all") (rCallB G (on1 bAllOf)) := by
  refine call_one fun pins s σ H x u Q ρ S d I ru rx R hr => ?_
  obtain ⟨xs, S1, e1, h2⟩ := run_bind (show RunV G (Rep G) (M.bind (lstOf d) fun xs => match boolsOf xs with | some bs => M.pure (.bl (bs.all id)) | none => M.fail) ρ H S Q from hr)
  obtain ⟨rfl, a, ys, rfl, q, l⟩ := lstOf_sq R rx e1
  cases hi : boolsOf xs with
  | none => rw [hi] at h2; exact run_fail h2
  | some is =>
    rw [hi] at h2
    rw [hG, repL_bools hi l] at q
    exact ⟨_, cr_all hc, a, is, rfl, q, h2.fin R rfl rep_of_bl⟩
theorem insI_perm (a : Int) : ∀ l, (insI a l).Perm (a :: l)
  | [] => .refl _
  | b :: r => by
    unfold insI
    split
    · exact .refl _
    · exact ((insI_perm a r).cons b).trans (.swap a b r)
theorem sortI_perm : ∀ l, (sortI l).Perm l
  | [] => .refl _
  | a :: r => (insI_perm a (sortI r)).trans ((sortI_perm r).cons a)
theorem insI_sorted (a : Int) : ∀ l, l.Pairwise (· ≤ ·) → (insI a l).Pairwise (· ≤ ·)
  | [], _ => by simp [insI]
  | b :: r, h => by
    unfold insI
    rw [List.pairwise_cons] at h
    split
    · rename_i hab
      exact List.pairwise_cons.mpr ⟨fun y hy => by
        rcases List.mem_cons.mp hy with rfl | hy
        · exact hab
        · exact Int.le_trans hab (h.1 y hy), List.pairwise_cons.mpr h⟩
    · rename_i hab
      refine List.pairwise_cons.mpr ⟨fun y hy => ?_, insI_sorted a r h.2⟩
      rcases List.mem_cons.mp ((insI_perm a r).mem_iff.mp hy) with rfl | hy
      · omega
      · exact h.1 y hy
theorem sortI_sorted : ∀ l, (sortI l).Pairwise (· ≤ ·)
  | [] => .nil
  | a :: r => insI_sorted a _ (sortI_sorted r)
include hG in
theorem bsorted (st : Bool) : CallR X (.builtin "sorted") (rCallB G (on1 (bSorted st))) := by
  refine call_one fun pins s σ H x u Q ρ S d I ru rx R hr => ?_
  obtain ⟨xs, S1, e1, h2⟩ := run_bind hr
  obtain ⟨rfl, a, ys, rfl, q, l⟩ := lstOf_sq R rx e1
  cases hi : intsOf xs with
  | none => rw [hi] at h2; exact run_fail h2
  | some is =>
    rw [hi] at h2
    rw [hG, repL_ints hi l] at q
    refine ⟨_, cr_sortedI, a, is, rfl, q, fun ns p hp hs np => ?_⟩
    have e : ns = sortI is := List.Perm.eq_of_pairwise (le := (· ≤ ·)) (fun a b _ _ h1 h2 => Int.le_antisymm h1 h2) hs (sortI_sorted is) (hp.trans (sortI_perm is).symm)
    rw [e]
    exact (mkL_new R (repL_of_ints (sortI is)) h2).2 p np
omit hG in
theorem call_12 {f : Value} {m1 : D → M D} {m2 : D → D → M D} (h1 : CallR X f (rCallB G (on1 m1))) (h2 : CallR X f (rCallB G (on2 m2))) : CallR X f (rCallB G (on12 m1 m2)) := by
  intro pins s σ H xs us Q I r ⟨ρ, S, ds, rl, R, hr⟩
  match ds, rl, hr with
  | [d], rl, hr => exact h1 pins s σ H xs us Q I r ⟨ρ, S, [d], rl, R, hr⟩
  | [d, e], rl, hr => exact h2 pins s σ H xs us Q I r ⟨ρ, S, [d, e], rl, R, hr⟩
  | [], rl, hr => exact run_fail hr
  | _ :: _ :: _ :: _, rl, hr => exact run_fail hr
omit hG in
theorem maxI_of : ∀ (is : List Int) (i m : Int), m ∈ i :: is → (∀ y ∈ i :: is, y ≤ m) → m = maxI i is
  | [], i, m, h, _ => List.mem_singleton.mp h
  | j :: is, i, m, h, hm => by
    have := maxI_of is (max i j) m (by
      rcases List.mem_cons.mp h with e | e
      · have := hm j (by simp)
        exact List.mem_cons.mpr (.inl (by omega))
      · rcases List.mem_cons.mp e with e | e
        · have := hm i (by simp)
          exact List.mem_cons.mpr (.inl (by omega))
        · exact List.mem_cons_of_mem _ e) (fun y hy => by
      rcases List.mem_cons.mp hy with e | e
      · have h1 := hm i (by simp)
        have h2 := hm j (by simp)
        omega
      · exact hm y (by simp [e]))
    exact this
omit hG in
theorem minI_of : ∀ (is : List Int) (i m : Int), m ∈ i :: is → (∀ y ∈ i :: is, m ≤ y) → m = minI i is
  | [], i, m, h, _ => List.mem_singleton.mp h
  | j :: is, i, m, h, hm => by
    have := minI_of is (min i j) m (by
      rcases List.mem_cons.mp h with e | e
      · have := hm j (by simp)
        exact List.mem_cons.mpr (.inl (by omega))
      · rcases List.mem_cons.mp e with e | e
        · have := hm i (by simp)
          exact List.mem_cons.mpr (.inl (by omega))
        · exact List.mem_cons_of_mem _ e) (fun y hy => by
      rcases List.mem_cons.mp hy with e | e
      · have h1 := hm i (by simp)
        have h2 := hm j (by simp)
        omega
      · exact hm y (by simp [e]))
    exact this
include hG in
theorem bmax (hc : X.calm = true) : CallR X (.builtin "max") (rCallB G (on12 bMaxL bMax)) := by
  refine call_12 ?_ ?_
  · refine call_one fun pins s σ H x u Q ρ S d I ru rx R hr => ?_
    obtain ⟨xs, S1, e1, h2⟩ := run_bind (show RunV G (Rep G) (M.bind (lstOf d) fun xs => (match intsOf xs with | some (i :: is) => M.pure (.int (maxI i is)) | _ => M.fail)) ρ H S Q from hr)
    obtain ⟨rfl, a, ys, rfl, q, l⟩ := lstOf_sq R rx e1
    cases hi : intsOf xs with
    | none => rw [hi] at h2; exact run_fail h2
    | some is =>
      rw [hi] at h2
      rw [hG, repL_ints hi l] at q
      cases is with
      | nil => exact run_fail h2
      | cons i is =>
        refine ⟨_, cr_max hc, a, i :: is, rfl, q, by simp, fun m hm hle => ?_⟩
        rw [maxI_of is i m hm hle]
        exact h2.fin R rfl rep_of_int
  · refine call_two fun H x y Q ρ S d e rx ry R hr => ?_
    cases d with
    | int i =>
      cases e with
      | int j =>
        refine ⟨_, call_max2 hc, i, j, by rw [rep_int rx, rep_int ry], ?_⟩
        have e : (if j > i then j else i) = max i j := by split <;> omega
        rw [e]
        exact RunV.fin (a := D.int (max i j)) hr R rfl rep_of_int
      | _ => exact run_fail hr
    | _ => exact run_fail hr
include hG in
theorem bmin (hc : X.calm = true) : CallR X (.builtin "min") (rCallB G (on12 bMinL bMin)) := by
  refine call_12 ?_ ?_
  · refine call_one fun pins s σ H x u Q ρ S d I ru rx R hr => ?_
    obtain ⟨xs, S1, e1, h2⟩ := run_bind (show RunV G (Rep G) (M.bind (lstOf d) fun xs => (match intsOf xs with | some (i :: is) => M.pure (.int (minI i is)) | _ => M.fail)) ρ H S Q from hr)
    obtain ⟨rfl, a, ys, rfl, q, l⟩ := lstOf_sq R rx e1
    cases hi : intsOf xs with
    | none => rw [hi] at h2; exact run_fail h2
    | some is =>
      rw [hi] at h2
      rw [hG, repL_ints hi l] at q
      cases is with
      | nil => exact run_fail h2
      | cons i is =>
        refine ⟨_, cr_min hc, a, i :: is, rfl, q, by simp, fun m hm hle => ?_⟩
        rw [minI_of is i m hm hle]
        exact h2.fin R rfl rep_of_int
  · refine call_two fun H x y Q ρ S d e rx ry R hr => ?_
    cases d with
    | int i =>
      cases e with
      | int j =>
        refine ⟨_, call_min2 hc, i, j, by rw [rep_int rx, rep_int ry], ?_⟩
        have e : (if j < i then j else i) = min i j := by split <;> omega
        rw [e]
        exact RunV.fin (a := D.int (min i j)) hr R rfl rep_of_int
      | _ => exact run_fail hr
    | _ => exact run_fail hr
include hG in
theorem bdict (hc : X.calm = true) (st : Bool) : CallR X (.type "dict") (rCallB G (on1 (bDict st))) := by
  refine call_one fun pins s σ H x u Q ρ S d I ru rx R hr => ?_
  obtain ⟨xs, S1, e1, h2⟩ := run_bind (show RunV G (Rep G) (M.bind (lstOf d) fun xs => match xs.mapM pairT with | some ps => newDisp st ps | none => M.fail) ρ H S Q from hr)
  obtain ⟨rfl, a, ys, rfl, q, l⟩ := lstOf_sq R rx e1
  cases hp : xs.mapM pairT with
  | none => rw [hp] at h2; exact run_fail h2
  | some ps =>
    rw [hp] at h2
    have h2 : RunV G (Rep G) (newDisp st ps) ρ H S1 Q := h2
    unfold newDisp at h2
    cases hk : ps.mapM pairK with
    | none => rw [hk] at h2; exact run_fail h2
    | some kvs =>
      rw [hk] at h2
      have h2 : RunV G (Rep G) (mkD st (mergeD kvs)) ρ H S1 Q := h2
      obtain ⟨as, vps, rfl, pr, rp⟩ := pairsT_rep hp l
      obtain ⟨ks, rfl, rk⟩ := pairs_keys hk rp
      rw [hG] at q pr
      exact ⟨_, call_dictP hc, a, as, ks, rfl, q, paired_map (F := fun a (q : V × V) => SqT X.K H a [q.1, q.2]) (fun kv : Key × V => (kV kv.1, kv.2)) pr, mkD_new R (RepK.fold rk (show RepK G ρ H [] [] by unfold RepK; rfl)) h2⟩
end
end DL
end

section
namespace DL
open PySem L2 PySem.Spec PyProof.Rows
theorem noex_on1 {g : D → M D} (h : ∀ d, NoEx (g d)) (ds : List D) : NoEx (on1 g ds) := by unfold on1; split <;> first | exact h _ | exact noex_fail
theorem noex_on2 {g : D → D → M D} (h : ∀ d e, NoEx (g d e)) (ds : List D) : NoEx (on2 g ds) := by unfold on2; split <;> first | exact h _ _ | exact noex_fail
theorem noex_on12 {g1 : D → M D} {g : D → D → M D} (h1 : ∀ d, NoEx (g1 d)) (h : ∀ d e, NoEx (g d e)) (ds : List D) : NoEx (on12 g1 g ds) := by unfold on12; split <;> first | exact h1 _ | exact h _ _ | exact noex_fail
theorem noex_len (d : D) : NoEx (bLen d) := by
  unfold bLen
  split
  · exact noex_ite (noex_pure _) noex_fail
  · exact noex_pure _
  · exact noex_bind (noex_getO _) fun o => by cases o <;> first | exact noex_pure _ | exact noex_fail
  · exact noex_bind (noex_seqOf _) fun _ => noex_pure _
theorem pick {α : Type} {c : Bool} {a b : α} (P : α → Prop) (h1 : c = true → P a) (h2 : P b) : P (if c = true then a else b) := by
  split
  · exact h1 (by assumption)
  · exact h2
theorem noex_tuple (d : D) : NoEx (bTuple d) := by
  unfold bTuple
  split
  · exact noex_pure _
  · exact noex_bind (noex_lstOf _) fun _ => noex_pure _
theorem pickN {α : Type} {c : Bool} {a b : α} (P : α → Prop) (h1 : c = true → P a) (h2 : c = false → P b) : P (if c = true then a else b) := by
  cases c with
  | true => exact h1 rfl
  | false => exact h2 rfl
theorem noex_listA (st : Bool) (d : D) : NoEx (bListA st d) := by
  have sq : ∀ d : D, NoEx (M.bind (seqOf d) fun xs => mkL st xs) := fun d => noex_bind (noex_seqOf d) fun _ => noex_mkL _ _
  cases d with
  | str z => exact (show NoEx (if z.length ≤ sizeLine then mkL st (charsOf z) else M.fail) from noex_ite (noex_mkL _ _) noex_fail)
  | non => exact sq .non
  | bl b => exact sq (.bl b)
  | int i => exact sq (.int i)
  | tup xs => exact sq (.tup xs)
  | lst xs => exact sq (.lst xs)
  | dct xs => exact sq (.dct xs)
  | obj n => exact sq (.obj n)
  | fn x => exact sq (.fn x)
  | frz xs => exact sq (.frz xs)
theorem noex_callB (st : Bool) (f : Str) (ds : List D) : NoEx (callB st f ds) := by
  unfold callB
  refine pick (fun z : List D → M D => NoEx (z ds)) (fun _ => noex_on1 noex_len _) ?_
  refine pick (fun z : List D → M D => NoEx (z ds)) (fun _ => noex_on1 (fun d => by cases d <;> first | exact noex_pure _ | exact noex_fail) _) ?_
  refine pick (fun z : List D → M D => NoEx (z ds)) (fun _ => noex_on1 (fun d => by cases d <;> first | exact noex_pure _ | exact noex_fail) _) ?_
  refine pick (fun z : List D → M D => NoEx (z ds)) (fun _ => noex_on1 (fun d => by cases d <;> first | exact noex_pure _ | exact noex_fail | exact noex_ite (noex_pure _) noex_fail) _) ?_
  refine pick (fun z : List D → M D => NoEx (z ds)) (fun _ => noex_on1 (fun d => noex_ite (noex_bind (noex_pyOf _) fun _ => noex_ite (noex_pure _) noex_fail) noex_fail) _) ?_
  refine pick (fun z : List D → M D => NoEx (z ds)) (fun _ => noex_on1 (noex_listA st) _) ?_
  refine pick (fun z : List D → M D => NoEx (z ds)) (fun _ => noex_on1 noex_tuple _) ?_
  refine pick (fun z : List D → M D => NoEx (z ds)) (fun _ => noex_on1 (fun d => noex_bind (noex_seqOf _) fun xs => by split <;> first | exact noex_pure _ | exact noex_fail) _) ?_
  refine pick (fun z : List D → M D => NoEx (z ds)) (fun _ => noex_on1 (fun d => noex_bind (noex_lstOf _) fun xs => by split <;> first | exact noex_pure _ | exact noex_fail) _) ?_
  refine pick (fun z : List D → M D => NoEx (z ds)) (fun _ => noex_on1 (fun d => noex_bind (noex_lstOf _) fun xs => by split <;> first | exact noex_mkL _ _ | exact noex_fail) _) ?_
  refine pick (fun z : List D → M D => NoEx (z ds)) (fun _ => noex_on12 (fun d => noex_bind (noex_lstOf _) fun xs => by split <;> first | exact noex_pure _ | exact noex_fail) (fun d e => by unfold bMax; split <;> first | exact noex_pure _ | exact noex_fail) _) ?_
  refine pick (fun z : List D → M D => NoEx (z ds)) (fun _ => noex_on12 (fun d => noex_bind (noex_lstOf _) fun xs => by split <;> first | exact noex_pure _ | exact noex_fail) (fun d e => by unfold bMin; split <;> first | exact noex_pure _ | exact noex_fail) _) ?_
  refine pick (fun z : List D → M D => NoEx (z ds)) (fun _ => noex_on1 (fun d => noex_bind (noex_lstOf _) fun xs => by split <;> first | exact noex_newDisp _ _ | exact noex_fail) _) ?_
  exact noex_fail
theorem noex_append (o : D) (ds : List D) : NoEx (mAppend o ds) := by
  unfold mAppend
  split
  · split
    · refine noex_bind (noex_getO _) fun ob => ?_
      split
      · exact noex_ite (noex_bind (noex_setO _ _) fun _ => noex_pure _) noex_fail
      · exact noex_fail
    · exact noex_fail
  · exact noex_fail
theorem noex_join (o : D) (ds : List D) : NoEx (mJoin o ds) := by
  unfold mJoin
  split
  · split
    · refine noex_bind (noex_lstOf _) fun ob => ?_
      split
      · exact noex_ite (noex_pure _) noex_fail
      · exact noex_fail
    · exact noex_fail
  · exact noex_fail
theorem noex_get (o : D) (ds : List D) : NoEx (mGet o ds) := by
  unfold mGet
  split
  · split
    · exact noex_bind (noex_dLookV _ _) fun _ => noex_pure _
    · refine noex_bind (noex_getO _) fun ob => ?_
      split
      · exact noex_bind (noex_dLook _ _) fun _ => noex_pure _
      · exact noex_fail
    · exact noex_fail
  · exact noex_fail
theorem noex_popD (o : D) (ds : List D) : NoEx (mPopD o ds) := by
  unfold mPopD
  split
  · split
    · refine noex_bind (noex_getO _) fun ob => ?_
      split
      · split
        · refine noex_ite ?_ noex_fail
          split
          · exact noex_bind (noex_setO _ _) fun _ => noex_pure _
          · exact noex_fail
        · exact noex_fail
      · exact noex_fail
    · exact noex_fail
  · exact noex_fail
section
variable {T : Tab} {G : Gm} {k : Nat} {c : Str → List D → M D} {X : Cx} {Γ : Sc} {W : WX} {E : Evs}
def BltP (X : Cx) (G : Gm) (f : Str) (z : List D → M D) : Prop := (∃ v, bootBuiltins f = some v ∧ f ≠ "__name__" ∧ (f == ("__debug__" : Str)) = false ∧ ((∃ id, v = .builtin id) ∨ ∃ n, v = .type n) ∧ CallR X v (rCallB G z)) ∨ bltNames.contains f = false
theorem blt_of (g : Good T G k c X Γ W) (st : Bool) (f : Str) : BltP X G f (callB st f) := by
  have hu : X.A.units + 66 < cLine := by have := g.room.un; omega
  unfold callB
  refine pickN (fun z : List D → M D => BltP X G f z) (fun h => .inl ?_) (fun n0 => ?_)
  · cases LawfulBEq.eq_of_beq h
    exact ⟨_, rfl, by decide, by decide, .inl ⟨_, rfl⟩, blen g.K⟩
  refine pickN (fun z : List D → M D => BltP X G f z) (fun h => .inl ?_) (fun n1 => ?_)
  · cases LawfulBEq.eq_of_beq h
    exact ⟨_, rfl, by decide, by decide, .inl ⟨_, rfl⟩, babs⟩
  refine pickN (fun z : List D → M D => BltP X G f z) (fun h => .inl ?_) (fun n2 => ?_)
  · cases LawfulBEq.eq_of_beq h
    exact ⟨_, rfl, by decide, by decide, .inr ⟨_, rfl⟩, bint⟩
  refine pickN (fun z : List D → M D => BltP X G f z) (fun h => .inl ?_) (fun n3 => ?_)
  · cases LawfulBEq.eq_of_beq h
    exact ⟨_, rfl, by decide, by decide, .inr ⟨_, rfl⟩, bstr⟩
  refine pickN (fun z : List D → M D => BltP X G f z) (fun h => .inl ?_) (fun n4 => ?_)
  · cases LawfulBEq.eq_of_beq h
    exact ⟨_, rfl, by decide, by decide, .inl ⟨_, rfl⟩, brepr g.K g.grd hu⟩
  refine pickN (fun z : List D → M D => BltP X G f z) (fun h => .inl ?_) (fun n5 => ?_)
  · cases LawfulBEq.eq_of_beq h
    exact ⟨_, rfl, by decide, by decide, .inr ⟨_, rfl⟩, blist g.K g.calm st⟩
  refine pickN (fun z : List D → M D => BltP X G f z) (fun h => .inl ?_) (fun n6 => ?_)
  · cases LawfulBEq.eq_of_beq h
    exact ⟨_, rfl, by decide, by decide, .inr ⟨_, rfl⟩, btuple g.K⟩
  refine pickN (fun z : List D → M D => BltP X G f z) (fun h => .inl ?_) (fun n7 => ?_)
  · cases LawfulBEq.eq_of_beq h
    exact ⟨_, rfl, by decide, by decide, .inl ⟨_, rfl⟩, bsum g.K g.calm⟩
  refine pickN (fun z : List D → M D => BltP X G f z) (fun h => .inl ?_) (fun n8 => ?_)
  · cases LawfulBEq.eq_of_beq h
    exact ⟨_, rfl, by decide, by decide, .inl ⟨_, rfl⟩, ball g.K g.calm⟩
  refine pickN (fun z : List D → M D => BltP X G f z) (fun h => .inl ?_) (fun n9 => ?_)
  · cases LawfulBEq.eq_of_beq h
    exact ⟨_, rfl, by decide, by decide, .inl ⟨_, rfl⟩, bsorted g.K st⟩
  refine pickN (fun z : List D → M D => BltP X G f z) (fun h => .inl ?_) (fun n10 => ?_)
  · cases LawfulBEq.eq_of_beq h
    exact ⟨_, rfl, by decide, by decide, .inl ⟨_, rfl⟩, bmax g.K g.calm⟩
  refine pickN (fun z : List D → M D => BltP X G f z) (fun h => .inl ?_) (fun n11 => ?_)
  · cases LawfulBEq.eq_of_beq h
    exact ⟨_, rfl, by decide, by decide, .inl ⟨_, rfl⟩, bmin g.K g.calm⟩
  refine pickN (fun z : List D → M D => BltP X G f z) (fun h => .inl ?_) (fun n12 => ?_)
  · cases LawfulBEq.eq_of_beq h
    exact ⟨_, rfl, by decide, by decide, .inr ⟨_, rfl⟩, bdict g.K g.calm st⟩
  refine .inr ?_
  unfold bltNames
  simp only [List.contains_cons, List.contains_nil, n0, n1, n2, n3, n4, n5, n6, n7, n8, n9, n10, n11, n12, Bool.or_false, Bool.or_self]
theorem callB_nil (st : Bool) (f : Str) : callB st f [] = M.fail := by
  unfold callB
  refine pick (fun z : List D → M D => z [] = M.fail) (fun _ => rfl) ?_
  refine pick (fun z : List D → M D => z [] = M.fail) (fun _ => rfl) ?_
  refine pick (fun z : List D → M D => z [] = M.fail) (fun _ => rfl) ?_
  refine pick (fun z : List D → M D => z [] = M.fail) (fun _ => rfl) ?_
  refine pick (fun z : List D → M D => z [] = M.fail) (fun _ => rfl) ?_
  refine pick (fun z : List D → M D => z [] = M.fail) (fun _ => rfl) ?_
  refine pick (fun z : List D → M D => z [] = M.fail) (fun _ => rfl) ?_
  refine pick (fun z : List D → M D => z [] = M.fail) (fun _ => rfl) ?_
  refine pick (fun z : List D → M D => z [] = M.fail) (fun _ => rfl) ?_
  refine pick (fun z : List D → M D => z [] = M.fail) (fun _ => rfl) ?_
  refine pick (fun z : List D → M D => z [] = M.fail) (fun _ => rfl) ?_
  refine pick (fun z : List D → M D => z [] = M.fail) (fun _ => rfl) ?_
  refine pick (fun z : List D → M D => z [] = M.fail) (fun _ => rfl) ?_
  rfl
theorem pe_bltD (g : Good T G k c X Γ W) (sn : Snd T G k c E) {f : Str} {es : List Expr} {st : Bool} {p pos : Pos} (hf : T.free.contains f = true) (hg : Γ.glb f = true) (hk : bltNames.contains f = true) :
    PE X (.Call (.Name f p) es [] pos) (DE G W fun η => M.bind (evArgs E Γ es η) fun ds => callB st f ds) := by
  have hm : X.mg f = none := by rw [← g.mg]; exact g.text.free f hf
  rcases blt_of g st f with ⟨v, hv, hn, hd, hk, hc⟩ | e
  · by_cases hs : es.all notStar = true
    · cases es with
      | nil =>
        refine ⟨fun pins s σ H Q I ⟨ρ, η, S, E0, R, h⟩ => ?_⟩
        obtain ⟨r, S', e, q⟩ := h
        have : callB st f [] S = some (r, S') := e
        rw [callB_nil] at this
        cases this
      | cons e es =>
        have hs' := hs
        rw [List.all_cons, Bool.and_eq_true] at hs'
        rcases hk with ⟨id, rfl⟩ | ⟨n, rfl⟩
        · exact (pe_callB hc (g.gl_ hg) hm hv (pa_args g sn (e :: es) hs) hn hd (starEach_cons hs'.1) (backTo_plain _ (starEach_plain hs'.2))).imp fun σ H Q ⟨ρ, η, S, E0, R, h⟩ =>
            da1 E0 R h fun vs H2 ρ2 S2 ds E2 L R2 r1 h2 => ⟨ρ2, S2, ds, r1, R2, h2.v (noex_callB _ _ _)⟩
        · exact (pe_callTy hc (g.gl_ hg) hm hv (pa_args g sn (e :: es) hs) hn hd (starEach_cons hs'.1) (backTo_plain _ (starEach_plain hs'.2))).imp fun σ H Q ⟨ρ, η, S, E0, R, h⟩ =>
            da1 E0 R h fun vs H2 ρ2 S2 ds E2 L R2 r1 h2 => ⟨ρ2, S2, ds, r1, R2, h2.v (noex_callB _ _ _)⟩
    · exact ⟨fun pins s σ H Q I ⟨ρ, η, S, E0, R, h⟩ => absurd (run_star h) hs⟩
  · rw [hk] at e; cases e
theorem tups_new {ρ : List Addr} {S : Store} : ∀ (ts : List Addr) (xs ys : List D) (vs ws : List V) (H : Hp), Rel G ρ H S → RepL G ρ H xs vs → RepL G ρ H ys ws → ts.length = (vs.zip ws).length → ts.Nodup → (∀ t ∈ ts, H t = none) →
    Rel G ρ (putZ H ts (vs.zip ws)) S ∧ Le ρ H ρ (putZ H ts (vs.zip ws)) ∧ RepL G ρ (putZ H ts (vs.zip ws)) (pairsD xs ys) (ts.map V.ref)
  | [], xs, ys, vs, ws, H, R, l1, l2, hl, nd, hn => by
    have e1 := l1.length
    have e2 := l2.length
    have hz : (xs.zip ys).length = 0 := by rw [List.length_zip, ← e1, ← e2, ← List.length_zip, ← hl]; rfl
    refine ⟨R, Le.refl, ?_⟩
    unfold pairsD
    rw [List.eq_nil_of_length_eq_zero hz]
    exact RepL.nil
  | t :: ts, xs, ys, vs, ws, H, R, l1, l2, hl, nd, hn => by
    match xs, ys, vs, ws, l1, l2, hl with
    | [], ys, vs, ws, l1, l2, hl =>
      unfold RepL at l1
      subst l1
      cases hl
    | x :: xs, [], vs, ws, l1, l2, hl =>
      unfold RepL at l2
      subst l2
      rw [List.zip_nil_right] at hl
      cases hl
    | x :: xs, y :: ys, vs, ws, l1, l2, hl =>
      unfold RepL at l1 l2
      obtain ⟨v, vs, rfl, x1, l1⟩ := l1
      obtain ⟨w, ws, rfl, y1, l2⟩ := l2
      have nd' := List.nodup_cons.mp nd
      have np : H t = none := hn t (List.mem_cons_self ..)
      obtain ⟨R1, L1⟩ := R.out (o := .tup [v, w]) np
      obtain ⟨R2, L2, l3⟩ := tups_new ts xs ys vs ws _ R1 (RepL.le L1 _ l1) (RepL.le L1 _ l2) (by simpa using hl) nd'.2 fun u hu => by
        rw [upd_ne (fun e => nd'.1 (by rw [← e]; exact hu))]
        exact hn u (List.mem_cons_of_mem _ hu)
      refine ⟨R2, L1.trans L2, ?_⟩
      refine RepL.cons ?_ l3
      refine Rep.le L2 _ ?_
      unfold Rep
      exact ⟨t, [v, w], rfl, ⟨upd_same, R.fresh np⟩, RepL.cons (Rep.le L1 _ x1) (RepL.cons (Rep.le L1 _ y1) RepL.nil)⟩
theorem noex_listZ (st : Bool) (ds : List D) : NoEx (listZ st ds) := by
  unfold listZ
  split
  · exact noex_mkL _ _
  · exact noex_bind (noex_lstOf _) fun _ => noex_bind (noex_lstOf _) fun _ => noex_mkL _ _
  · exact noex_fail
theorem RunV.later {α β : Type} {rel : List Addr → Hp → α → β → Prop} {m : M α} {ρ : List Addr} {H H2 : Hp} {S : Store} {Q : β → Hp → Prop} (h : RunV G rel m ρ H S Q) (L : Le ρ H ρ H2) : RunV G rel m ρ H2 S Q := by
  obtain ⟨b, S', e, q⟩ := h
  exact ⟨b, S', e, fun ρ' H' v L' R r => q ρ' H' v (L.trans L') R r⟩
theorem listZ_run {st : Bool} {ds : List D} {vs : List V} {ρ : List Addr} {H : Hp} {S : Store} {Q : VK} (R : Rel G ρ H S) (l : RepL G ρ H ds vs) (h : RunV G (Rep G) (listZ st ds) ρ H S Q) : rListZ G.K vs H Q := by
  have go : ∀ (a b : Addr) (xs ys : List D) (zs ws : List V), ((SqL G.K H a zs ∧ SqL G.K H b ws) ∨ (SqT G.K H a zs ∧ SqT G.K H b ws)) → RepL G ρ H xs zs → RepL G ρ H ys ws → RunV G (Rep G) (mkL st (pairsD xs ys)) ρ H S Q → rListZ G.K [.ref a, .ref b] H Q := by
    intro a b xs ys zs ws sq l1 l2 h
    have e1 := l1.length
    have e2 := l2.length
    have hz : (zs.zip ws).length ≤ sizeLine := by
      unfold mkL at h
      by_cases hz : (pairsD xs ys).length ≤ sizeLine
      · unfold pairsD at hz
        rw [List.length_map, List.length_zip] at hz
        rw [List.length_zip, e1, e2]
        exact hz
      · rw [if_neg hz] at h
        exact run_fail h
    refine ⟨a, b, zs, ws, rfl, sq, hz, fun p ts hl nd hn np hp => ?_⟩
    obtain ⟨R2, L2, l3⟩ := tups_new ts xs ys zs ws H R l1 l2 hl nd hn
    exact (mkL_new R2 l3 (h.later L2)).2 p (by rw [putZ_off _ _ _ hp]; exact np)
  unfold listZ at h
  split at h
  · rename_i xs ys
    obtain ⟨x, y, rfl, rx, ry⟩ := repL2 l
    unfold Rep at rx ry
    obtain ⟨a, zs, rfl, q1, l1⟩ := rx
    obtain ⟨b, ws, rfl, q2, l2⟩ := ry
    exact go a b xs ys zs ws (.inr ⟨q1.sq, q2.sq⟩) l1 l2 h
  · rename_i d e _
    obtain ⟨x, y, rfl, rx, ry⟩ := repL2 l
    obtain ⟨xs, S1, e1, h1⟩ := run_bind h
    obtain ⟨eS, a, zs, rfl, q1, l1⟩ := lstOf_sq R rx e1
    rw [eS] at h1
    obtain ⟨ys, S2, e2, h2⟩ := run_bind h1
    obtain ⟨eS2, b, ws, rfl, q2, l2⟩ := lstOf_sq R ry e2
    rw [eS2] at h2
    exact go a b xs ys zs ws (.inl ⟨q1, q2⟩) l1 l2 h2
  · exact run_fail h
theorem pe_listZD (g : Good T G k c X Γ W) (sn : Snd T G k c E) {f : Str} {args : List Expr} {a b : Expr} {st : Bool} {p pos : Pos} (hf : T.free.contains f = true) (hg : Γ.glb f = true) (hz : zipIn T Γ f args = some (a, b)) :
    PE X (.Call (.Name f p) args [] pos) (DE G W fun η => M.bind (evArgs E Γ [a, b] η) (listZ st)) := by
  unfold zipIn at hz
  split at hz
  · rename_i g2 p2 a2 b2 q
    split at hz
    · rename_i hc
      cases hz
      simp only [Bool.and_eq_true] at hc
      obtain ⟨⟨⟨c1, c2⟩, c3⟩, c4⟩ := hc
      cases LawfulBEq.eq_of_beq c1
      cases LawfulBEq.eq_of_beq c2
      have hm : X.mg "list" = none := by rw [← g.mg]; exact g.text.free _ hf
      have hm2 : X.mg "zip" = none := by rw [← g.mg]; exact g.text.free _ c4
      by_cases hs : [a, b].all notStar = true
      · have hst := hs
        rw [List.all_cons, Bool.and_eq_true] at hst
        refine (pe_listZip g.calm (g.gl_ hg) hm (g.gl_ c3) hm2 (pa_args g sn [a, b] hs) rfl (starEach_cons hst.1) (backTo_plain _ (starEach_plain hst.2)) (starEach_cons rfl)).imp fun σ H Q ⟨ρ, η, S, E0, R, h⟩ =>
          da1 E0 R h fun vs H2 ρ2 S2 ds E2 L R2 r1 h2 => ?_
        rw [← g.K]
        exact listZ_run R2 r1 (h2.v (noex_listZ _ _))
      · exact ⟨fun pins s σ H Q I ⟨ρ, η, S, E0, R, h⟩ => absurd (run_star h) hs⟩
    · cases hz
  · cases hz
theorem tyNames_are {ty : Str} (h : tyNames.contains ty = true) : ∃ n : String, ty = Str.ofString n ∧ (n = "bool" ∨ n = "int" ∨ n = "str" ∨ n = "tuple" ∨ n = "list" ∨ n = "dict") := by
  unfold tyNames at h
  simp only [List.contains_cons, List.contains_nil, Bool.or_false, Bool.or_eq_true] at h
  rcases h with h | h | h | h | h | h
  all_goals exact ⟨_, LawfulBEq.eq_of_beq h, by simp⟩
theorem kit_at (K : PySem.W.Frag) (t : String) (ht : t = "NoneType" ∨ t = "bool" ∨ t = "int" ∨ t = "str" ∨ t = "tuple" ∨ t = "list" ∨ t = "dict") (n : String) (hn : n = "bool" ∨ n = "int" ∨ n = "str" ∨ n = "tuple" ∨ n = "list" ∨ n = "dict") :
    PySem.W.kitOne K (.type t) (.type n) = some (t == n || (t == "bool" && n == "int")) ∧ bootBuiltins (Str.ofString n) = some (.type n) := by
  rcases ht with rfl | rfl | rfl | rfl | rfl | rfl | rfl <;> rcases hn with rfl | rfl | rfl | rfl | rfl | rfl <;> exact ⟨rfl, rfl⟩
def tyOfD (S : Store) : D → Option String
  | .non => some "NoneType"
  | .bl _ => some "bool"
  | .int _ => some "int"
  | .str _ => some "str"
  | .tup _ => some "tuple"
  | .lst _ => some "list"
  | .frz _ => some "list"
  | .obj n => (match S[n]? with | some (.lst _) => some "list" | some (.dct _) => some "dict" | _ => none)
  | _ => none
theorem tyOfD_ok (hG : G.K = X.K) {d : D} {S : Store} {t : String} {ρ : List Addr} {H : Hp} {x : V} (h : tyOfD S d = some t) (r : Rep G ρ H d x) (R : Rel G ρ H S) :
    (t = "NoneType" ∨ t = "bool" ∨ t = "int" ∨ t = "str" ∨ t = "tuple" ∨ t = "list" ∨ t = "dict") ∧ TyX X.K H x (.type t) := by
  cases d with
  | non => cases h; rw [rep_non r]; exact ⟨by simp, .base .non⟩
  | bl b => cases h; rw [rep_bl r]; exact ⟨by simp, .base (.bl b)⟩
  | int b => cases h; rw [rep_int r]; exact ⟨by simp, .base (.int b)⟩
  | str b => cases h; rw [rep_str r]; exact ⟨by simp, .base (.str b)⟩
  | tup xs =>
    cases h
    unfold Rep at r
    obtain ⟨a, ys, rfl, q, _⟩ := r
    exact ⟨by simp, .base (.tup q.1)⟩
  | lst xs =>
    cases h
    unfold Rep at r
    obtain ⟨a, ys, rfl, q, _⟩ := r
    exact ⟨by simp, .base (.lst q.1)⟩
  | frz xs =>
    cases h
    unfold Rep at r
    obtain ⟨a, ys, rfl, q, _⟩ := r
    rcases q.1 with e | ⟨o, e⟩
    · exact ⟨by simp, .base (.lst e)⟩
    · exact ⟨by simp, .base (.frz e)⟩
  | obj n =>
    have h : (match S[n]? with | some (.lst _) => some "list" | some (.dct _) => some "dict" | _ => none) = some t := h
    cases hS : S[n]? with
    | none => rw [hS] at h; cases h
    | some o =>
      rw [hS] at h
      obtain ⟨a, ea, ro⟩ := R.get hS
      unfold Rep at r
      obtain ⟨a', e', rfl⟩ := r
      rw [ea] at e'
      cases e'
      cases o with
      | lst xs =>
        cases h
        obtain ⟨ys, eo, _⟩ := ro
        exact ⟨by simp, .base (.lst eo)⟩
      | dct kvs =>
        cases h
        rcases ro with ⟨ks, eo, _⟩ | ⟨ks, eo, _⟩
        · exact ⟨by simp, .base (.dK eo)⟩
        · exact ⟨by simp, .base (.dT eo)⟩
      | ins c fs => cases h
  | _ => cases h
theorem isTy_key {n : String} {d : D} {S : Store} {b : Bool} (hn : n = "bool" ∨ n = "int" ∨ n = "str" ∨ n = "tuple" ∨ n = "list" ∨ n = "dict") (h : isTy (Str.ofString n) d S = some b) : ∃ t, tyOfD S d = some t ∧ b = (t == n || (t == "bool" && n == "int")) := by
  cases d with
  | obj k =>
    have h : (match S[k]? with | some (.lst _) => some (Str.ofString n == "list") | some (.dct _) => some (Str.ofString n == "dict") | _ => none) = some b := h
    have e : tyOfD S (.obj k) = (match S[k]? with | some (.lst _) => some "list" | some (.dct _) => some "dict" | _ => none) := rfl
    rw [e]
    cases hS : S[k]? with
    | none => rw [hS] at h; cases h
    | some o =>
      rw [hS] at h
      cases o with
      | lst xs => cases h; rcases hn with rfl | rfl | rfl | rfl | rfl | rfl <;> exact ⟨_, rfl, by decide⟩
      | dct xs => cases h; rcases hn with rfl | rfl | rfl | rfl | rfl | rfl <;> exact ⟨_, rfl, by decide⟩
      | ins c fs => cases h
  | dct kvs => cases h
  | fn f => cases h
  | non => cases h; rcases hn with rfl | rfl | rfl | rfl | rfl | rfl <;> exact ⟨_, rfl, by decide⟩
  | bl x => cases h; rcases hn with rfl | rfl | rfl | rfl | rfl | rfl <;> exact ⟨_, rfl, by decide⟩
  | int x => cases h; rcases hn with rfl | rfl | rfl | rfl | rfl | rfl <;> exact ⟨_, rfl, by decide⟩
  | str x => cases h; rcases hn with rfl | rfl | rfl | rfl | rfl | rfl <;> exact ⟨_, rfl, by decide⟩
  | tup x => cases h; rcases hn with rfl | rfl | rfl | rfl | rfl | rfl <;> exact ⟨_, rfl, by decide⟩
  | lst x => cases h; rcases hn with rfl | rfl | rfl | rfl | rfl | rfl <;> exact ⟨_, rfl, by decide⟩
  | frz x => cases h; rcases hn with rfl | rfl | rfl | rfl | rfl | rfl <;> exact ⟨_, rfl, by decide⟩
theorem pe_isiD (g : Good T G k c X Γ W) (sn : Snd T G k c E) {a : Expr} {ty : Str} {p p2 pos : Pos} (hf : T.free.contains ("isinstance" : Str) = true) (hg : Γ.glb "isinstance" = true) (ht : (Γ.glb ty && T.free.contains ty && tyNames.contains ty) = true) (hs : notStar a = true) :
    PE X (.Call (.Name "isinstance" p) [a, .Name ty p2] [] pos) (DE G W fun η => M.bind (E.e Γ a η) fun d => fun S => (match isTy ty d S with | some r => some (.v (.bl r), S) | none => none)) := by
  simp only [Bool.and_eq_true] at ht
  obtain ⟨⟨h1, h2⟩, h3⟩ := ht
  obtain ⟨n, rfl, hn⟩ := tyNames_are h3
  have hm : X.mg "isinstance" = none := by rw [← g.mg]; exact g.text.free _ hf
  have hm2 : X.mg (Str.ofString n) = none := by rw [← g.mg]; exact g.text.free _ h2
  have hv := (kit_at X.K "bool" (by simp) n hn).2
  have pt : PE X (.Name (Str.ofString n) p2) (tC (.ty n)) := pe_bltn (g.gl_ h1) hm2 hv rfl (by rcases hn with rfl | rfl | rfl | rfl | rfl | rfl <;> decide) (by rcases hn with rfl | rfl | rfl | rfl | rfl | rfl <;> decide)
  refine (pe_callB call_isi (g.gl_ hg) hm rfl (pa_cons (sn.e X Γ W a g) (pa_cons pt pa_nil rfl) (starEach_cons hs)) (by decide) (by decide) (starEach_cons hs) (backTo_plain _ (starEach_plain rfl))).imp fun σ H Q ⟨ρ, η, S, E0, R, h⟩ => ?_
  refine de1 E0 R h fun vx H2 ρ2 S2 d E2 L R2 r1 hr => ?_
  obtain ⟨r, S', e, q⟩ := hr
  cases hty : isTy (Str.ofString n) d S2 with
  | none => simp only [hty] at e; cases e
  | some b =>
    simp only [hty] at e
    cases e
    have key : ∃ t, tyOfD S2 d = some t ∧ b = (t == n || (t == "bool" && n == "int")) := by
      exact isTy_key hn hty
    obtain ⟨t, k1, k2⟩ := key
    obtain ⟨k3, k4⟩ := tyOfD_ok g.K k1 r1 R2
    refine ⟨vx, .ty n, .type t, .type n, b, rfl, .ty n, k4, ?_, ?_⟩
    · rw [(kit_at X.K t k3 n hn).1, k2]
    · exact q _ _ _ Le.refl R2 rep_of_bl
theorem tag_is (hG : G.K = X.K) {pins : List (Addr × Obj)} {σ : L2.St} {H : Hp} {s : Shared} {ρ : List Addr} {S : Store} {d : D} {x : V} {u : Value} {t : String} (I : L2.Inv X pins σ H s) (ru : RelV x u) (r : Rep G ρ H d x) (R : Rel G ρ H S) (h : bTag S d = some t) :
    (t = "str" ∨ t = "list" ∨ t = "dict") ∧ s.TypeIs u t ∧ ∀ a, u = .ref a → ∃ ob, s.heap.get? a = some ob ∧ ob.dict = none := by
  have lst : ∀ {a : Addr} {ys : List V}, SqL X.K H a ys → x = .ref a → s.TypeIs u "list" ∧ ∀ a, u = .ref a → ∃ ob, s.heap.get? a = some ob ∧ ob.dict = none := fun {a ys} q e => by
    subst e
    cases ru
    obtain ⟨its, _, pl, _⟩ := I.list q
    refine ⟨pl.isList.typeIs, fun b e => ?_⟩
    cases e
    obtain ⟨o, n, e, c, hd, _⟩ := pl
    exact ⟨o, e, hd⟩
  have dct : ∀ {a : Addr}, IsD H a → x = .ref a → s.TypeIs u "dict" ∧ ∀ a, u = .ref a → ∃ ob, s.heap.get? a = some ob ∧ ob.dict = none := fun {a} q e => by
    subst e
    cases ru
    obtain ⟨t1, t2, _⟩ := isD_at I q
    exact ⟨t1, t2⟩
  cases d with
  | str z =>
    cases h
    rw [rep_str r] at ru
    obtain ⟨tk, rfl⟩ := ru
    exact ⟨.inl rfl, typeIs_str s z tk, fun _ e => nomatch e⟩
  | lst xs =>
    cases h
    unfold Rep at r
    obtain ⟨a, ys, e, q, _⟩ := r
    exact ⟨.inr (.inl rfl), lst (hG ▸ q.sq) e⟩
  | dct kvs =>
    cases h
    unfold Rep at r
    obtain ⟨a, ks, e, q, _⟩ := r
    exact ⟨.inr (.inr rfl), dct (.inl ⟨ks, q.1⟩) e⟩
  | obj n =>
    have h : (match S[n]? with | some (.lst _) => some "list" | some (.dct _) => some "dict" | _ => none) = some t := h
    cases hS : S[n]? with
    | none => rw [hS] at h; cases h
    | some o =>
      rw [hS] at h
      obtain ⟨a, ea, ro⟩ := R.get hS
      unfold Rep at r
      obtain ⟨a', e', e⟩ := r
      rw [ea] at e'
      cases e'
      cases o with
      | lst xs =>
        cases h
        obtain ⟨ys, eo, _⟩ := ro
        exact ⟨.inr (.inl rfl), lst (SqL.of eo) e⟩
      | dct kvs =>
        cases h
        rcases ro with ⟨ks, eo, _⟩ | ⟨ks, eo, _⟩
        · exact ⟨.inr (.inr rfl), dct (.inl ⟨ks, .inl eo⟩) e⟩
        · exact ⟨.inr (.inr rfl), dct (.inr ⟨ks, .inl eo⟩) e⟩
      | ins c fs => cases h
  | _ => cases h
/-- a method of a built-in kind, by values -/
structure MthP (X : Cx) (G : Gm) (t : String) (m : Str) (f : D → List D → M D) (id : String) : Prop where
  pa : PlainAttrs t
  slot : Slot t m id
  ty : typeOf (.builtin id) = pure (.type "method_descriptor")
  run : ∀ (pins : List (Addr × Obj)) (σ : L2.St) (H : Hp) (s : Shared) (ρ : List Addr) (S : Store) (d : D) (x : V) (u : Value) (ds : List D) (vs : List V) (us : List Value) (Q : VK), L2.Inv X pins σ H s → RelV x u → Rep G ρ H d x → Rel G ρ H S → Vals vs us → RepL G ρ H ds vs →
    RunV G (Rep G) (f d ds) ρ H S Q → wpAny (model X.prog X.w) X.A (call (.builtin id) (u :: us)) (EP X pins σ Q) X.xe s
  no : ∀ d ds, NoEx (f d ds)
theorem obj_at {ρ : List Addr} {H : Hp} {S : Store} {n : Nat} {x : V} {o : Ob} (R : Rel G ρ H S) (r : Rep G ρ H (.obj n) x) (e : S[n]? = some o) : ∃ a, x = .ref a ∧ ρ[n]? = some a ∧ RepO G ρ H a o := by
  obtain ⟨a, ea, ro⟩ := R.get e
  unfold Rep at r
  obtain ⟨a', e', rfl⟩ := r
  rw [ea] at e'
  cases e'
  exact ⟨a, rfl, ea, ro⟩
theorem mth_append : MthP X G "list" "append" mAppend "list.append" := by
  refine ⟨F.plainAttrs_list, F.slot_list_append, type_list_append, fun pins σ H s ρ S d x u ds vs us Q I ru r R rv rl h => ?_, noex_append⟩
  unfold mAppend at h
  split at h
  · rename_i a
    split at h
    · rename_i n
      obtain ⟨o, S1, e1, h⟩ := run_bind h
      obtain ⟨e1, rfl⟩ := getO_v e1
      cases o with
      | lst xs =>
        by_cases hz : xs.length < sizeLine
        · simp only [hz, if_true] at h
          obtain ⟨b, rfl, eb, ys, eo, l⟩ := obj_at R r e1
          obtain ⟨y, rfl, ry⟩ := repL1 rl
          obtain ⟨w, rfl, rw'⟩ := vals1 rv
          obtain rfl : u = Value.ref b := ru
          obtain ⟨_, S2, e2, h2⟩ := run_bind h
          obtain ⟨hlt, rfl⟩ := setO_v e2
          obtain ⟨R3, L3⟩ := R.write (o := .lst (ys ++ [y])) (ob' := .lst (xs ++ [a])) e1 eb fun H' L' e' => ⟨_, e', (RepL.le L' xs l).append (.cons (Rep.le L' a ry) .nil)⟩
          refine app_ok I eo (by rw [l.length]; exact hz) rw' fun s' I' => ⟨.non, _, I', rfl, ?_⟩
          obtain ⟨_, _, e, q⟩ := h2
          cases e
          exact q _ _ _ L3 R3 rep_of_non
        · simp only [hz, if_false] at h; exact run_fail h
      | dct _ => exact run_fail h
      | ins _ _ => exact run_fail h
    · exact run_fail h
  · exact run_fail h
theorem mth_join (hG : G.K = X.K) : MthP X G "str" "join" mJoin "str.join" := by
  refine ⟨F.plainAttrs_str, F.slot_str_join, F.type_str_join, fun pins σ H s ρ S d x u ds vs us Q I ru r R rv rl h => ?_, noex_join⟩
  unfold mJoin at h
  split at h
  · rename_i a
    split at h
    · rename_i z
      obtain ⟨xs, S1, e1, h5⟩ := run_bind h
      obtain ⟨y, rfl, ry⟩ := repL1 rl
      obtain ⟨rfl, b, ys, rfl, q, l⟩ := lstOf_sq R ry e1
      cases hi : strsOf xs with
      | none => rw [hi] at h5; exact run_fail h5
      | some zs =>
        rw [hi] at h5
        have e := repL_strs hi l
        subst e
        by_cases hz : (zs.map (·.length)).sum + zs.length * z.length ≤ 16777216
        · simp only [hz, if_true] at h5
          exact mt_join pins s σ H x _ u us Q I ru rv ⟨z, b, zs, rep_str r, rfl, .inl (hG ▸ q), hz, h5.fin R rfl rep_of_str⟩
        · simp only [hz, if_false] at h5; exact run_fail h5
    · exact run_fail h
  · exact run_fail h
theorem mth_get (hG : G.K = X.K) (hu : X.A.units + 1 < cLine) : MthP X G "dict" "get" mGet "dict.get" := by
  refine ⟨F.plainAttrs_dict, F.slot_dict_get, F.type_dict_get, fun pins σ H s ρ S d x u ds vs us Q I ru r R rv rl h => ?_, noex_get⟩
  unfold mGet at h
  split at h
  · rename_i a b
    obtain ⟨y, z, rfl, ry, rz⟩ := repL2 rl
    obtain ⟨u1, u2, rfl, ru1, ru2⟩ := vals2 rv
    split at h
    · rename_i kvs
      obtain ⟨o, S1, e1, hh⟩ := run_bind h
      obtain ⟨k, ek, rfl, rfl⟩ := dLookV_v e1
      have hk := keyOf_v ry ek
      obtain ⟨a, o, ea, gg, _, hO⟩ := dctV_at (k := k) r
      rw [ea] at ru
      obtain rfl : u = Value.ref a := ru
      refine d_get2 hu I (show DGet H a y o by rw [show y = kV k from hk]; exact gg) ru1 ru2 fun w' s' I' rw' => ⟨_, H, I', rw', ?_⟩
      rcases hO with ⟨e1, e2⟩ | ⟨d', w, e1, e2, rw2⟩
      · rw [e2] at hh; rw [e1]; exact hh.fin R rfl rz
      · rw [e2] at hh; rw [e1]; exact hh.fin R rfl rw2
    · rename_i n
      obtain ⟨o, S1, e1, h⟩ := run_bind h
      obtain ⟨e1, rfl⟩ := getO_v e1
      cases o with
      | dct kvs =>
        obtain ⟨o, S3, e3, h4⟩ := run_bind h
        obtain ⟨k, ek, hf, rfl, rfl⟩ := dLook_v e3
        obtain ⟨H1, a, o, I1, L1, R1, ea, _, gg, hO, _⟩ := dict_at I R e1 (keyOf_v ry ek) hf
        unfold Rep at r
        obtain ⟨a', ea', rfl⟩ := r
        rw [ea] at ea'
        cases ea'
        obtain rfl : u = Value.ref a := ru
        refine d_get2 hu I1 gg ru1 ru2 fun w' s' I' rw' => ⟨_, H1, I', rw', ?_⟩
        obtain ⟨_, _, e, q⟩ := h4
        cases e
        rcases hO with ⟨e1, e2⟩ | ⟨d', w, e1, e2, rw2⟩
        · rw [e1]; exact q _ _ _ L1 R1 (by rw [e2]; exact Rep.le L1 _ rz)
        · rw [e1]; exact q _ _ _ L1 R1 (by rw [e2]; exact rw2)
      | lst _ => exact run_fail h
      | ins _ _ => exact run_fail h
    · exact run_fail h
  · exact run_fail h
theorem RepK.drop {ρ : List Addr} {H : Hp} {k : Key} : ∀ {kvs : List (DK × D)} {ks : List (Key × V)}, RepK G ρ H kvs ks → RepK G ρ H (dDrop kvs (.inl k)) (dropK ks k)
  | [], ks, r => by unfold RepK at r; subst r; unfold dDrop dropK RepK; rfl
  | (k0, d) :: t, ks, r => by
    unfold RepK at r
    obtain ⟨q0, v0, r', rfl, rfl, r1, r2⟩ := r
    have ih := RepK.drop (k := k) r2
    unfold dDrop dropK at ih ⊢
    by_cases e : q0 = k
    · subst e
      simpa using ih
    · have e2 : (Sum.inl q0 : DK) ≠ .inl k := fun z => e (by cases z; rfl)
      simp only [List.filter_cons, e, e2, ne_eq, not_false_eq_true, decide_true, if_true]
      unfold RepK
      exact ⟨q0, v0, _, rfl, rfl, r1, ih⟩
theorem mth_pop (hG : G.K = X.K) : MthP X G "dict" "pop" mPopD "dict.pop" := by
  refine ⟨F.plainAttrs_dict, F.slot_dict_pop, F.type_dict_pop, fun pins σ H s ρ S d x u ds vs us Q I ru r R rv rl h => ?_, noex_popD⟩
  unfold mPopD at h
  split at h
  · rename_i a
    split at h
    · rename_i n
      obtain ⟨o, S1, e1, h5⟩ := run_bind h
      obtain ⟨e1, rfl⟩ := getO_v e1
      cases o with
      | lst _ => exact run_fail h5
      | ins _ _ => exact run_fail h5
      | dct kvs =>
        obtain ⟨y, rfl, ry⟩ := repL1 rl
        obtain ⟨w, rfl, rw'⟩ := vals1 rv
        cases hk : keyOf a with
        | none => simp only [hk] at h5; exact run_fail h5
        | some kx =>
         cases kx with
         | inr _ => simp only [hk] at h5; exact run_fail h5
         | inl kk =>
          simp only [hk] at h5
          by_cases hf : dFit kvs (.inl kk) = true
          · simp only [hf, if_true] at h5
            obtain ⟨b, rfl, eb, ro⟩ := obj_at R r e1
            obtain rfl : u = Value.ref b := ru
            have hy : y = kV kk := keyOf_v ry hk
            cases hg : dGet kvs (.inl kk) with
            | none => rw [hg] at h5; exact run_fail h5
            | some v0 =>
              rw [hg] at h5
              rcases ro with ⟨ks, eo, l⟩ | ⟨ks, eo, l⟩
              · rcases l.look kk with ⟨z1, z2⟩ | ⟨d1, v1, z1, z2, z3⟩
                · rw [hg] at z1; cases z1
                · rw [hg] at z1
                  cases z1
                  obtain ⟨_, S2, e2, h2⟩ := run_bind h5
                  obtain ⟨hlt, rfl⟩ := setO_v e2
                  obtain ⟨R3, L3⟩ := R.write (o := .dK (dropK ks kk)) (ob' := .dct (dDrop kvs (.inl kk))) e1 eb fun H' L' e' => .inl ⟨_, e', (RepK.le L' kvs l).drop⟩
                  rw [hy] at rw'
                  refine d_pop I eo rw' z2 (.inl rfl) fun w' s' I' rw2 => ⟨v1, _, I', rw2, ?_⟩
                  obtain ⟨_, _, e, q⟩ := h2
                  cases e
                  exact q _ _ _ L3 R3 (Rep.le L3 _ z3)
              · obtain ⟨e0, _⟩ := l.fit hf
                subst e0
                cases hg
          · simp only [hf, if_false] at h5; exact run_fail h5
    · exact run_fail h
  · exact run_fail h
theorem methF_ok (g : Good T G k c X Γ W) {t : String} {m : Str} {f : D → List D → M D} (h : methF t m = some f) : ∃ id, MthP X G t m f id := by
  unfold methF at h
  split at h
  · rename_i hh
    rw [Bool.and_eq_true] at hh
    cases h
    cases LawfulBEq.eq_of_beq hh.1
    cases LawfulBEq.eq_of_beq hh.2
    exact ⟨_, mth_append⟩
  split at h
  · rename_i hh
    rw [Bool.and_eq_true] at hh
    cases h
    cases LawfulBEq.eq_of_beq hh.1
    cases LawfulBEq.eq_of_beq hh.2
    exact ⟨_, mth_join g.K⟩
  split at h
  · rename_i hh
    rw [Bool.and_eq_true] at hh
    cases h
    cases LawfulBEq.eq_of_beq hh.1
    cases LawfulBEq.eq_of_beq hh.2
    exact ⟨_, mth_get g.K g.un1⟩
  split at h
  · rename_i hh
    rw [Bool.and_eq_true] at hh
    cases h
    cases LawfulBEq.eq_of_beq hh.1
    cases LawfulBEq.eq_of_beq hh.2
    exact ⟨_, mth_pop g.K⟩
  cases h
theorem pe_methD (g : Good T G k c X Γ W) (sn : Snd T G k c E) {o : Expr} {m : Str} {es : List Expr} {apos pos : Pos} : PE X (.Call (.Attribute o m apos) es [] pos) (DE G W (evMeth T c E Γ o m es apos pos)) := by
  unfold evMeth
  refine pe_if_ fun hc => ?_
  simp only [Bool.and_eq_true, decide_eq_true_eq] at hc
  obtain ⟨⟨⟨hb, hl⟩, hn⟩, hs⟩ := hc
  refine ⟨fun pins s σ H Q I ⟨ρ, η, S, E0, R, h⟩ => ?_⟩
  refine call_attr hb hl hn hs (thn ((sn.e X Γ W o g).run pins s σ H _ I (de1 E0 R h (Q := fun vx H2 => ∃ ρ2 S2 x, RepE G ρ2 H2 η σ ∧ Rel G ρ2 H2 S2 ∧ Rep G ρ2 H2 x vx ∧ RunM G W (Rep G) (evMeth1 T c E Γ m es η x) ρ2 H2 S2 σ Q)
    fun vx H2 ρ2 S2 x E2 L R2 r1 h2 => ⟨ρ2, S2, x, E2, R2, r1, h2⟩)) fun u s1 ⟨vx, H2, I2, ru, ρ2, S2, x, E2, R2, r2, h2⟩ => ?_)
  have blt : RunM G W (Rep G) (evMethB E Γ m es η x) ρ2 H2 S2 σ Q → wpAny (model X.prog X.w) X.A (getMethod u m (do return (← importBound o X.env).getD true)) (fun fx s2 => wpAny (model X.prog X.w) X.A (callWith pos fx.1 fx.2 (backTo pos (starEach es X.env)) []) (EP X pins σ Q) X.xe s2) X.xe s1 := fun h => by
    obtain ⟨r, S', e, q⟩ := h
    unfold evMethB at e
    cases ht : bTag S2 x with
    | none => simp only [ht] at e; cases e
    | some t =>
      cases hf : methF t m with
      | none => simp only [ht, hf] at e; cases e
      | some f =>
        simp only [ht, hf] at e
        obtain ⟨id, mp⟩ := methF_ok g hf
        obtain ⟨_, t1, t2⟩ := tag_is g.K I2 ru r2 R2 ht
        have h3 : RunM G W (Rep G) (M.bind (evArgs E Γ es η) (fun ds => f x ds)) ρ2 H2 S2 σ Q := ⟨r, S', e, q⟩
        refine getMethod_builtin t1 mp.pa mp.slot mp.ty t2 ?_
        cases es with
        | nil =>
          have h4 : RunM G W (Rep G) (f x []) ρ2 H2 S2 σ Q := ⟨r, S', e, q⟩
          exact Calls.callWith_builtin rfl (PySem.evalArgs_none (mp.run pins σ H2 s1 ρ2 S2 x vx u [] [] [] Q I2 ru r2 R2 .nil .nil (h4.v (mp.no _ _))))
        | cons e0 es =>
          have hst := hs
          rw [List.all_cons, Bool.and_eq_true] at hst
          have hA := (pa_args g sn (e0 :: es) hs).run pos pins s1 σ H2 _ I2 (da1 E2 R2 h3 (Q := fun vs H3 => ∃ ρ3 S3 ds, Le ρ2 H2 ρ3 H3 ∧ Rel G ρ3 H3 S3 ∧ RepL G ρ3 H3 ds vs ∧ RunM G W (Rep G) (f x ds) ρ3 H3 S3 σ Q) fun vs H3 ρ3 S3 ds E3 L3 R3 r3 h4 => ⟨ρ3, S3, ds, L3, R3, r3, h4⟩)
          rw [starEach_cons hst.1] at hA ⊢
          refine Calls.callWith_builtin (by show (false || (backTo pos (starEach es X.env)).any (·.1)) = false; rw [backTo_plain _ (starEach_plain hst.2)] <;> rfl) (Calls.evalArgs_plain ?_)
          refine thn hA fun us s3 ⟨vs, H3, I3, rv, ρ3, S3, ds, L3, R3, rl, h4⟩ => ?_
          exact mp.run pins σ H3 s3 ρ3 S3 x vx u ds vs us Q I3 ru (Rep.le L3 x r2) R3 rv rl (h4.v (mp.no _ _))
  cases x with
  | obj n =>
    cases hS : S2[n]? with
    | none => exact blt (by obtain ⟨r, S', e, q⟩ := h2; refine ⟨r, S', ?_, q⟩; unfold evMeth1 at e; simp only [hS] at e; exact e)
    | some ob =>
      cases ob with
      | lst _ => exact blt (by obtain ⟨r, S', e, q⟩ := h2; refine ⟨r, S', ?_, q⟩; unfold evMeth1 at e; simp only [hS] at e; exact e)
      | dct _ => exact blt (by obtain ⟨r, S', e, q⟩ := h2; refine ⟨r, S', ?_, q⟩; unfold evMeth1 at e; simp only [hS] at e; exact e)
      | ins C fs =>
        obtain ⟨r, S', e, q⟩ := h2
        unfold evMeth1 at e
        simp only [hS] at e
        cases hm : T.meth C m with
        | none => simp only [hm] at e; cases e
        | some key =>
          simp only [hm] at e
          by_cases hl : (fs.lookup m).isNone = true
          · simp only [hl, if_true] at e
            obtain ⟨ca, gg, hC, cl, hM, F⟩ := g.calls.meth C m key hm
            obtain ⟨a, rfl, ea, C', dx, xs, eo, eC, rf⟩ := obj_at R2 r2 hS
            rw [hC] at eC
            cases eC
            obtain rfl : u = Value.ref a := ru
            have hno : xs.lookup m = none := by
              rcases RepF.look m rf with ⟨_, z⟩ | ⟨d, v, z, _⟩
              · exact z
              · rw [z] at hl; cases hl
            refine getmeth_ok I2 eo (by rw [← g.K]; exact cl) (by rw [← g.K]; exact hM) hno ?_
            have h3 : RunM G W (Rep G) (M.bind (evArgs E Γ es η) (fun ds => c key (.obj n :: ds))) ρ2 H2 S2 σ Q := ⟨r, S', e, q⟩
            refine callee_D (first := [.ref a]) g sn (by rw [← g.K]; exact hM.kp) I2 E2 R2 h3 fun us vs ds s1 H1 ρ1 S1 I1 r E1 L R1 r1 h1 => ?_
            exact run_D (m := c key) g F I1 (us := .ref a :: us) (vs := .ref a :: vs) (.cons rfl r) (.cons (Rep.le L _ r2) r1) R1 h1
          · simp only [hl, if_false] at e; cases e
  | _ => exact blt h2
end
end DL
end

section
namespace DL
open PySem L2 PySem.Spec PyProof.Rows
open RZ (ItzT iZipA pi_zipA)

/-- an iterator of the model walks as the source does; Ĥ: the heap with what the turns do not see -/
def srcOk (G : Gm) (ρ : List Addr) (H : Hp) (src : Src) (J : It) : Prop :=
  ∀ ρ1 H1 S1 Hx, Le ρ H ρ1 H1 → Rel G ρ1 H1 S1 → (∀ b o, H1 b = some o → Hx b = some o) → ∀ i, (src.nx S1 i = some none → J.stop i Hx) ∧
    ∀ d, src.nx S1 i = some (some d) → J.go i Hx ∧ ∀ x Hy, J.yld i Hx x Hy → (Hy = Hx ∧ Rep G ρ1 H1 d x) ∨ ∃ p t, Hx p = none ∧ Hy = upd Hx p (.tup t) ∧ Rep G ρ1 (upd H1 p (.tup t)) d x
def DI (G : Gm) (W : WX) (m : En → M Src) : TI := fun σ H R => ∃ ρ η S, RepE G ρ H η σ ∧ Rel G ρ H S ∧ RunM G W (srcOk G) (m η) ρ H S σ R
section
variable {G : Gm} {X : Cx} {ρ : List Addr} {H Hx : Hp} {S : Store} {d : D} {x : V} {i : Nat} {o : Option D}
theorem Rd.up {a : Addr} {u : HO} (hs : ∀ b o, H b = some o → Hx b = some o) (r : Rd H a u) : Rd Hx a u := by
  rcases r with r | ⟨ob, r⟩
  · exact .inl (hs _ _ r)
  · exact .inr ⟨ob, hs _ _ r⟩
/-- a list's data -/
def isL : D → Bool
  | .lst _ => true
  | .frz _ => true
  | .obj _ => true
  | _ => false
theorem RepL.at {ds : List D} {ys : List V} (l : RepL G ρ H ds ys) (i : Nat) : (ds[i]? = none → ys.length ≤ i) ∧ ∀ e, ds[i]? = some e → ∃ y, ys[i]? = some y ∧ Rep G ρ H e y :=
  ⟨fun z => by rw [l.length]; exact List.getElem?_eq_none_iff.mp z, fun e z => l.get z⟩
theorem list_at (hs : ∀ b o, H b = some o → Hx b = some o) (hl : isL d = true) (r : Rep G ρ H d x) (R : Rel G ρ H S) (h : seqAt d S i = some o) :
    ∃ a ys, x = .ref a ∧ SqL X.K Hx a ys ∧ (o = none → ys.length ≤ i) ∧ ∀ e, o = some e → ∃ y, ys[i]? = some y ∧ Rep G ρ H e y := by
  cases d with
  | lst xs =>
    cases h
    unfold Rep at r
    obtain ⟨a, ys, rfl, q, l⟩ := r
    exact ⟨a, ys, rfl, .inl (.inl (hs _ _ q.1)), (l.at i).1, (l.at i).2⟩
  | frz xs =>
    cases h
    unfold Rep at r
    obtain ⟨a, ys, rfl, q, l⟩ := r
    exact ⟨a, ys, rfl, .inl (Rd.up hs q.1), (l.at i).1, (l.at i).2⟩
  | obj n =>
    have h : (match S[n]? with | some (.lst xs) => some xs[i]? | _ => none) = some o := h
    cases hS : S[n]? with
    | none => rw [hS] at h; cases h
    | some ob =>
      rw [hS] at h
      cases ob with
      | lst xs =>
        cases h
        obtain ⟨a, rfl, ea, ys, eo, l⟩ := obj_at R r hS
        exact ⟨a, ys, rfl, .inl (.inl (hs _ _ eo)), (l.at i).1, (l.at i).2⟩
      | dct _ => cases h
      | ins _ _ => cases h
  | _ => cases hl
theorem tup_at {xs : List D} (hs : ∀ b o, H b = some o → Hx b = some o) (r : Rep G ρ H (.tup xs) x) (h : xs[i]? = o) :
    ∃ a ys, x = .ref a ∧ SqT X.K Hx a ys ∧ (o = none → ys.length ≤ i) ∧ ∀ e, o = some e → ∃ y, ys[i]? = some y ∧ Rep G ρ H e y := by
  subst h
  unfold Rep at r
  obtain ⟨a, ys, rfl, q, l⟩ := r
  exact ⟨a, ys, rfl, .inl (.inl (hs _ _ q.1)), (l.at i).1, (l.at i).2⟩
theorem src_list {a : Addr} (hl : isL d = true) (r : Rep G ρ H d (.ref a)) : srcOk G ρ H (.seq d) (Itl X.K a) := fun ρ1 H1 S1 Hx L R hs i => by
  have r1 := Rep.le L d r
  refine ⟨fun e => ?_, fun d' e => ?_⟩
  · obtain ⟨b, ys, eb, q, h1, _⟩ := list_at (X := X) hs hl r1 R (show seqAt d S1 i = some none from e)
    cases eb
    exact ⟨ys, q, h1 rfl⟩
  · obtain ⟨b, ys, eb, q, _, h2⟩ := list_at (X := X) hs hl r1 R (show seqAt d S1 i = some (some d') from e)
    cases eb
    obtain ⟨y, ey, ry⟩ := h2 d' rfl
    refine ⟨⟨ys, y, q, ey⟩, fun z Hy hz => ?_⟩
    obtain ⟨rfl, hz⟩ := hz
    have := hz ys q
    rw [ey] at this
    cases this
    exact .inl ⟨rfl, ry⟩
theorem src_tup {a : Addr} {xs : List D} (r : Rep G ρ H (.tup xs) (.ref a)) : srcOk G ρ H (.seq (.tup xs)) (Itt X.K a) := fun ρ1 H1 S1 Hx L R hs i => by
  have r1 := Rep.le L _ r
  refine ⟨fun e => ?_, fun d' e => ?_⟩
  · have e : xs[i]? = none := by injection e
    obtain ⟨b, ys, eb, q, h1, _⟩ := tup_at (X := X) hs r1 e
    cases eb
    exact ⟨ys, q, h1 rfl⟩
  · have e : xs[i]? = some d' := by injection e
    obtain ⟨b, ys, eb, q, _, h2⟩ := tup_at (X := X) hs r1 e
    cases eb
    obtain ⟨y, ey, ry⟩ := h2 d' rfl
    refine ⟨⟨ys, y, q, ey⟩, fun z Hy hz => ?_⟩
    obtain ⟨rfl, hz⟩ := hz
    have := hz ys q
    rw [ey] at this
    cases this
    exact .inl ⟨rfl, ry⟩
theorem src_str (z : Str) : srcOk G ρ H (.items (charsOf z)) (Its z) := fun ρ1 H1 S1 Hx L R hs i => by
  refine ⟨fun e => ?_, fun d' e => ?_⟩
  · have e : (charsOf z)[i]? = none := by injection e
    have := List.getElem?_eq_none_iff.mp e
    simp [charsOf] at this
    exact this
  · have e : (charsOf z)[i]? = some d' := by injection e
    unfold charsOf at e
    rw [List.getElem?_map] at e
    obtain ⟨cc, hj, rfl⟩ := Option.map_eq_some_iff.mp e
    have hj' : z.cps[i]? = some cc := by simpa using hj
    refine ⟨(Array.getElem?_eq_some_iff.mp hj').1, fun v Hy hv => ?_⟩
    obtain ⟨rfl, c2, h2, rfl⟩ := hv
    rw [hj'] at h2
    cases h2
    exact .inl ⟨rfl, rep_of_str⟩
theorem src_range1 (lo : Int) (n : Nat) : srcOk G ρ H (rangeI lo 1 n) (Itr lo n) := fun ρ1 H1 S1 Hx L R hs i => by
  refine ⟨fun e => ?_, fun d' e => ?_⟩
  · have e : ((List.range n).map fun i => D.int (lo + (i : Nat) * 1))[i]? = none := by injection e
    have := List.getElem?_eq_none_iff.mp e
    simp at this
    exact this
  · have e : ((List.range n).map fun i => D.int (lo + (i : Nat) * 1))[i]? = some d' := by injection e
    rw [List.getElem?_map] at e
    obtain ⟨j, hj, rfl⟩ := Option.map_eq_some_iff.mp e
    obtain ⟨hlt, hj⟩ := List.getElem?_eq_some_iff.mp hj
    simp at hlt hj
    subst hj
    refine ⟨hlt, fun z Hy hz => ?_⟩
    obtain ⟨rfl, rfl⟩ := hz
    refine .inl ⟨rfl, ?_⟩
    rw [Int.mul_one]
    exact rep_of_int
theorem src_range (lo st : Int) (n : Nat) : srcOk G ρ H (rangeI lo st n) (Itc lo st n) := fun ρ1 H1 S1 Hx L R hs i => by
  refine ⟨fun e => ?_, fun d' e => ?_⟩
  · have e : ((List.range n).map fun i => D.int (lo + (i : Nat) * st))[i]? = none := by injection e
    have := List.getElem?_eq_none_iff.mp e
    simp at this
    exact this
  · have e : ((List.range n).map fun i => D.int (lo + (i : Nat) * st))[i]? = some d' := by injection e
    rw [List.getElem?_map] at e
    obtain ⟨j, hj, rfl⟩ := Option.map_eq_some_iff.mp e
    obtain ⟨hlt, hj⟩ := List.getElem?_eq_some_iff.mp hj
    simp at hlt hj
    subst hj
    refine ⟨hlt, fun z Hy hz => ?_⟩
    obtain ⟨rfl, rfl⟩ := hz
    exact .inl ⟨rfl, rep_of_int⟩
/-- a new pair -/
theorem pair_new {ρ : List Addr} {H : Hp} {S : Store} {p : Addr} {y z : V} {d e : D} (R : Rel G ρ H S) (np : H p = none) (r1 : Rep G ρ H d y) (r2 : Rep G ρ H e z) : Rep G ρ (upd H p (.tup [y, z])) (.tup [d, e]) (.ref p) := by
  obtain ⟨R', L⟩ := R.out (o := .tup [y, z]) np
  unfold Rep
  exact ⟨p, _, rfl, ⟨upd_same, R.fresh np⟩, .cons (Rep.le L _ r1) (.cons (Rep.le L _ r2) .nil)⟩
theorem sub_none (hs : ∀ b o, H b = some o → Hx b = some o) {p : Addr} (h : Hx p = none) : H p = none := by
  cases e : H p with
  | none => rfl
  | some o => rw [hs _ _ e] at h; cases h
theorem src_enum {a : Addr} (hl : isL d = true) (r : Rep G ρ H d (.ref a)) : srcOk G ρ H (.enum d) (Ite X.K a) := fun ρ1 H1 S1 Hx L R hs i => by
  have r1 := Rep.le L d r
  refine ⟨fun e => ?_, fun d' e => ?_⟩
  · have e : (match seqAt d S1 i with | some (some x) => some (some (D.tup [.int (i : Nat), x])) | some none => some none | none => none) = some none := e
    cases q : seqAt d S1 i with
    | none => rw [q] at e; cases e
    | some o =>
      rw [q] at e
      cases o with
      | some _ => cases e
      | none =>
        obtain ⟨b, ys, eb, q, h1, _⟩ := list_at (X := X) hs hl r1 R q
        cases eb
        exact ⟨ys, q, h1 rfl⟩
  · have e : (match seqAt d S1 i with | some (some x) => some (some (D.tup [.int (i : Nat), x])) | some none => some none | none => none) = some (some d') := e
    cases q : seqAt d S1 i with
    | none => rw [q] at e; cases e
    | some o =>
      rw [q] at e
      cases o with
      | none => cases e
      | some d0 =>
        cases e
        obtain ⟨b, ys, eb, q, _, h2⟩ := list_at (X := X) hs hl r1 R q
        cases eb
        obtain ⟨y, ey, ry⟩ := h2 d0 rfl
        refine ⟨⟨ys, y, q, ey⟩, fun z Hy hz => ?_⟩
        obtain ⟨p, y', rfl, np, rfl, hz⟩ := hz
        have := hz ys q
        rw [ey] at this
        cases this
        exact .inr ⟨p, _, np, rfl, pair_new R (sub_none hs np) rep_of_int ry⟩
theorem src_zip {a b : Addr} {e : D} (h1 : isL d = true) (h2 : isL e = true) (r : Rep G ρ H d (.ref a)) (r2 : Rep G ρ H e (.ref b)) : srcOk G ρ H (.zip d e) (Itz X.K a b) := fun ρ1 H1 S1 Hx L R hs i => by
  have ra := Rep.le L d r
  have rb := Rep.le L e r2
  have main : ∀ o, (match seqAt d S1 i, seqAt e S1 i with | some (some x), some (some y) => some (some (D.tup [x, y])) | some none, some _ => some none | some (some _), some none => some none | _, _ => none) = some o →
      ∃ o1 o2, seqAt d S1 i = some o1 ∧ seqAt e S1 i = some o2 ∧ ((o = none ∧ (o1 = none ∨ o2 = none)) ∨ ∃ x y, o1 = some x ∧ o2 = some y ∧ o = some (.tup [x, y])) := fun o h => by
    cases q1 : seqAt d S1 i with
    | none => rw [q1] at h; cases h
    | some o1 =>
      cases q2 : seqAt e S1 i with
      | none => rw [q1, q2] at h; cases o1 <;> cases h
      | some o2 =>
        rw [q1, q2] at h
        cases o1 with
        | none => cases h; exact ⟨_, _, rfl, rfl, .inl ⟨rfl, .inl rfl⟩⟩
        | some x =>
          cases o2 with
          | none => cases h; exact ⟨_, _, rfl, rfl, .inl ⟨rfl, .inr rfl⟩⟩
          | some y => cases h; exact ⟨_, _, rfl, rfl, .inr ⟨x, y, rfl, rfl, rfl⟩⟩
  refine ⟨fun q => ?_, fun d' q => ?_⟩
  · obtain ⟨o1, o2, q1, q2, hh⟩ := main _ q
    obtain ⟨a', ys, ea, qa, ha, _⟩ := list_at (X := X) hs h1 ra R q1
    obtain ⟨b', zs, eb, qb, hb, _⟩ := list_at (X := X) hs h2 rb R q2
    cases ea
    cases eb
    rcases hh with ⟨_, z | z⟩ | ⟨_, _, _, _, z⟩
    · exact ⟨ys, zs, qa, qb, .inl (ha z)⟩
    · exact ⟨ys, zs, qa, qb, .inr (hb z)⟩
    · cases z
  · obtain ⟨o1, o2, q1, q2, hh⟩ := main _ q
    obtain ⟨a', ys, ea, qa, _, ha⟩ := list_at (X := X) hs h1 ra R q1
    obtain ⟨b', zs, eb, qb, _, hb⟩ := list_at (X := X) hs h2 rb R q2
    cases ea
    cases eb
    rcases hh with ⟨z, _⟩ | ⟨x, y, z1, z2, z3⟩
    · cases z
    · cases z3
      obtain ⟨y1, e1, r1⟩ := ha x z1
      obtain ⟨y2, e2, r2⟩ := hb y z2
      refine ⟨⟨ys, zs, y1, y2, qa, qb, e1, e2⟩, fun v Hy hv => ?_⟩
      obtain ⟨p, w1, w2, rfl, np, rfl, f1, f2⟩ := hv
      have f1 := f1 ys qa
      have f2 := f2 zs qb
      rw [e1] at f1
      rw [e2] at f2
      cases f1
      cases f2
      exact .inr ⟨p, _, np, rfl, pair_new R (sub_none hs np) r1 r2⟩
theorem src_zipT {a b : Addr} {xs ys : List D} (r : Rep G ρ H (.tup xs) (.ref a)) (r2 : Rep G ρ H (.tup ys) (.ref b)) : srcOk G ρ H (.zip (.tup xs) (.tup ys)) (ItzT X.K a b) := fun ρ1 H1 S1 Hx L R hs i => by
  have ra := Rep.le L _ r
  have rb := Rep.le L _ r2
  obtain ⟨a', vs, ea, qa, ha1, ha⟩ := tup_at (X := X) (i := i) hs ra rfl
  obtain ⟨b', ws, eb, qb, hb1, hb⟩ := tup_at (X := X) (i := i) hs rb rfl
  cases ea
  cases eb
  refine ⟨fun q => ?_, fun d' q => ?_⟩
  · have q : (match some xs[i]?, some ys[i]? with | some (some x), some (some y) => some (some (D.tup [x, y])) | some none, some _ => some none | some (some _), some none => some none | _, _ => none) = some none := q
    cases q1 : xs[i]? with
    | none => exact ⟨vs, ws, qa, qb, .inl (ha1 q1)⟩
    | some x =>
      cases q2 : ys[i]? with
      | none => exact ⟨vs, ws, qa, qb, .inr (hb1 q2)⟩
      | some y => rw [q1, q2] at q; cases q
  · have q : (match some xs[i]?, some ys[i]? with | some (some x), some (some y) => some (some (D.tup [x, y])) | some none, some _ => some none | some (some _), some none => some none | _, _ => none) = some (some d') := q
    cases q1 : xs[i]? with
    | none => rw [q1] at q; cases q
    | some x =>
      cases q2 : ys[i]? with
      | none => rw [q1, q2] at q; cases q
      | some y =>
        rw [q1, q2] at q
        cases q
        obtain ⟨y1, e1, r1⟩ := ha x q1
        obtain ⟨y2, e2, r2⟩ := hb y q2
        refine ⟨⟨vs, ws, y1, y2, qa, qb, e1, e2⟩, fun v Hy hv => ?_⟩
        obtain ⟨p, w1, w2, rfl, np, rfl, f1, f2⟩ := hv
        have f1 := f1 vs qa
        have f2 := f2 ws qb
        rw [e1] at f1
        rw [e2] at f2
        cases f1
        cases f2
        exact .inr ⟨p, _, np, rfl, pair_new R (sub_none hs np) r1 r2⟩
end
section
variable {T : Tab} {G : Gm} {k : Nat} {c : Str → List D → M D} {X : Cx} {Γ : Sc} {W : WX} {E : Evs} {tg : Expr}
theorem pi_imp {tg it : Expr} {w1 w2 : TI} (h : PI X tg it w1) (k : ∀ σ H R, w2 σ H R → w1 σ H R) : PI X tg it w2 := ⟨fun pins s σ H R I q => h.run pins s σ H R I (k σ H R q)⟩
/-- a value, whatever it is -/
theorem pi_anyD (g : Good T G k c X Γ W) (sn : Snd T G k c E) (it : Expr) : PI X tg it (DI G W fun η => M.bind (E.e Γ it η) srcOf) := by
  refine ⟨fun pins s σ H R I ⟨ρ, η, S, E0, Rl, h⟩ => ?_⟩
  refine thn ((sn.e X Γ W it g).run pins s σ H _ I (de1 E0 Rl h (Q := fun vx H2 => ∃ ρ2 S2 x, Rel G ρ2 H2 S2 ∧ Rep G ρ2 H2 x vx ∧ RunM G W (srcOk G) (srcOf x) ρ2 H2 S2 σ R) fun vx H2 ρ2 S2 x E2 L R2 r1 h2 => ⟨ρ2, S2, x, R2, r1, h2⟩)) fun u s1 ⟨vx, H2, I2, ru, ρ2, S2, x, R2, r2, h2⟩ => ?_
  have newit : ∀ {o : Obj}, { s1 with heap := s1.heap.push o } = { s1 with heap := s1.heap.push o } := rfl
  have lst : ∀ {a : Addr}, vx = .ref a → (∃ xs, SqL X.K H2 a xs) → R (Itl X.K a) H2 → wpAny (model X.prog X.w) X.A (pyIter u) (PIE X pins σ tg R) X.xe s1 := fun {a} e ⟨xs, hq⟩ hR => by
    subst e
    obtain rfl : u = Value.ref a := ru
    obtain ⟨vs, rl, pl, _⟩ := I2.list hq
    refine wpAny_pyIter_list pl.isList (pi_one (tk := s1.toks) I2 _ (turn_list a _) ?_ hR)
    exact ⟨_, Heap.get?_push_size _ rfl, rfl, rfl⟩
  cases x with
  | str z =>
    rw [rep_str r2] at ru
    obtain ⟨t, rfl⟩ := ru
    have hR := h2.now R2 (src_str z)
    cases ha : z.cps.all (· < 128)
    · exact wpAny_pyIter_wide ha (pi_one (tk := s1.toks) I2 _ (turn_str _ z t "str_iterator" (.inr rfl)) ⟨_, Heap.get?_push_size _ rfl, rfl, rfl⟩ hR)
    · exact wpAny_pyIter_ascii ha (pi_one (tk := s1.toks) I2 _ (turn_str _ z t "str_ascii_iterator" (.inl rfl)) ⟨_, Heap.get?_push_size _ rfl, rfl, rfl⟩ hR)
  | tup xs =>
    have r3 := r2
    unfold Rep at r3
    obtain ⟨a, ys, rfl, q, _⟩ := r3
    have hR := h2.now R2 (src_tup (X := X) r2)
    obtain rfl : u = Value.ref a := ru
    obtain ⟨vs, rl, pl, _⟩ := I2.tuple (g.K ▸ q.sq)
    refine wpAny_pyIter_tuple (show s1.heap.IsTuple a vs.toArray from pl) (pi_one (tk := s1.toks) I2 _ (turn_tuple a _) ?_ hR)
    exact ⟨_, Heap.get?_push_size _ rfl, rfl, rfl⟩
  | lst xs =>
    have r3 := r2
    unfold Rep at r3
    obtain ⟨a, ys, rfl, q, _⟩ := r3
    exact lst rfl ⟨ys, g.K ▸ q.sq⟩ (h2.now R2 (src_list (X := X) rfl r2))
  | frz xs =>
    have r3 := r2
    unfold Rep at r3
    obtain ⟨a, ys, rfl, q, _⟩ := r3
    exact lst rfl ⟨ys, .inl q.1⟩ (h2.now R2 (src_list (X := X) rfl r2))
  | obj n =>
    obtain ⟨r, S', e, q⟩ := h2
    unfold srcOf M.bind getO at e
    cases hS : S2[n]? with
    | none => simp only [hS] at e; cases e
    | some o =>
      simp only [hS] at e
      cases o with
      | lst xs =>
        obtain ⟨a, rfl, ea, ys, eo, l⟩ := obj_at R2 r2 hS
        cases e
        exact lst rfl ⟨ys, SqL.of eo⟩ (q _ _ _ Le.refl R2 (src_list (X := X) rfl r2))
      | dct _ => cases e
      | ins _ _ => cases e
  | _ => exact h2.fail
def WalkP (T : Tab) (Γ : Sc) (tg it : Expr) : Walk → Prop
  | .range args => ∃ p pos, it = .Call (.Name "range" p) args [] pos ∧ Γ.glb "range" = true ∧ T.free.contains ("range" : Str) = true
  | .enum a => ∃ p pos, it = .Call (.Name "enumerate" p) [a] [] pos ∧ Γ.glb "enumerate" = true ∧ T.free.contains ("enumerate" : Str) = true ∧ isTup tg = true
  | .zip a b => ∃ p pos, it = .Call (.Name "zip" p) [a, b] [] pos ∧ Γ.glb "zip" = true ∧ T.free.contains ("zip" : Str) = true ∧ isTup tg = true
  | .plain => True
theorem walk_call {f : Str} {p pos : Pos} {args : List Expr} : walkOf T Γ tg (.Call (.Name f p) args [] pos) = if (Γ.glb f && T.free.contains f) = true then
      (if f == "range" then .range args
      else if (f == "enumerate" && isTup tg) = true then (match args with | [a] => .enum a | _ => .plain)
      else if (f == "zip" && isTup tg) = true then (match args with | [a, b] => .zip a b | _ => .plain)
      else .plain)
    else .plain := rfl
theorem walk_is {it : Expr} {w : Walk} (h : walkOf T Γ tg it = w) : WalkP T Γ tg it w := by
  by_cases hit : ∃ f p args pos, it = .Call (.Name f p) args [] pos
  · obtain ⟨f, p, args, pos, rfl⟩ := hit
    rw [walk_call] at h
    by_cases hc : (Γ.glb f && T.free.contains f) = true
    · rw [if_pos hc] at h
      rw [Bool.and_eq_true] at hc
      by_cases h1 : (f == "range") = true
      · rw [if_pos h1] at h
        cases LawfulBEq.eq_of_beq h1
        subst h
        exact ⟨p, pos, rfl, hc.1, hc.2⟩
      · rw [if_neg h1] at h
        by_cases h2 : (f == "enumerate" && isTup tg) = true
        · rw [if_pos h2] at h
          rw [Bool.and_eq_true] at h2
          cases LawfulBEq.eq_of_beq h2.1
          split at h
          · subst h
            exact ⟨p, pos, rfl, hc.1, hc.2, h2.2⟩
          · subst h; trivial
        · rw [if_neg h2] at h
          by_cases h3 : (f == "zip" && isTup tg) = true
          · rw [if_pos h3] at h
            rw [Bool.and_eq_true] at h3
            cases LawfulBEq.eq_of_beq h3.1
            split at h
            · subst h
              exact ⟨p, pos, rfl, hc.1, hc.2, h3.2⟩
            · subst h; trivial
          · rw [if_neg h3] at h
            subst h; trivial
    · rw [if_neg hc] at h
      subst h; trivial
  · have : walkOf T Γ tg it = .plain := by
      unfold walkOf
      split
      · exact absurd ⟨_, _, _, _, rfl⟩ hit
      · rfl
    rw [this] at h
    subst h; trivial
/-- .. with what they are -/
theorem da1e {ma : En → M (List D)} {γ δ : Type} {relB : List Addr → Hp → γ → δ → Prop} {f : List D → M γ} {Q' : δ → Hp → Prop} {σ : L2.St} {H : Hp} {ρ : List Addr} {η : En} {S : Store} {Q : List V → Hp → Prop}
    (E : RepE G ρ H η σ) (R : Rel G ρ H S) (h : RunM G W relB (M.bind (ma η) f) ρ H S σ Q')
    (k : ∀ vx H2 ρ2 S2 x, ma η S = some (.v x, S2) → RepE G ρ2 H2 η σ → Le ρ H ρ2 H2 → Rel G ρ2 H2 S2 → RepL G ρ2 H2 x vx → RunM G W relB (f x) ρ2 H2 S2 σ Q' → Q vx H2) : DA G W ma σ H Q := by
  refine ⟨ρ, η, S, E, R, ?_⟩
  obtain ⟨r, S', e, q⟩ := RunM.bind (rel := RepL G) h
  refine ⟨r, S', e, ?_⟩
  cases r with
  | v a =>
    intro ρ1 H1 b L1 R1 r1
    obtain ⟨r2, S2, e2, q2⟩ := h
    have e3 : f a S' = some (r2, S2) := by
      unfold M.bind at e2
      rw [e] at e2
      exact e2
    refine k b H1 ρ1 S' a e (E.le L1) L1 R1 r1 ⟨r2, S2, e3, ?_⟩
    cases r2 with
    | v c => exact fun ρ2 H2 d L2' R2 r2 => q2 ρ2 H2 d (L1.trans L2') R2 r2
    | ex x => exact fun ρ2 H2 cls dx L2' R2 r2 => q2 ρ2 H2 cls dx (L1.trans L2') R2 r2
  | ex x => exact q
theorem eList_len : ∀ {ms : List EM} {η : En} {S S' : Store} {ds : List D}, eList ms η S = some (.v ds, S') → ds.length = ms.length
  | [], η, S, S', ds, h => by cases h; rfl
  | m :: r, η, S, S', ds, h => by
    obtain ⟨d, S1, e1, e2⟩ := bind_v (show M.bind (m η) (fun d => M.bind (eList r η) fun ds => M.pure (d :: ds)) S = _ from h)
    obtain ⟨ds1, S2, e3, e4⟩ := bind_v e2
    obtain ⟨rfl, rfl⟩ := pure_v e4
    simp [eList_len e3]
theorem evArgs_len {es : List Expr} {η : En} {S S' : Store} {ds : List D} (h : evArgs E Γ es η S = some (.v ds, S')) : ds.length = es.length := by
  unfold evArgs at h
  split at h
  · rw [eList_len h, List.length_map]
  · cases h
theorem pi_never {it : Expr} : PI X tg it (DI G W fun _ => M.fail) := ⟨fun pins s σ H R I h => by
  obtain ⟨ρ, η, S, _, _, h⟩ := h
  exact h.fail⟩
theorem isTup_is {e : Expr} (h : isTup e = true) : ∃ es kk p, e = .Tuple es kk p := by
  cases e <;> first
    | exact absurd h Bool.false_ne_true
    | exact ⟨_, _, _, rfl⟩
theorem range_1 {hi : Int} {H : Hp} {ρ : List Addr} {S : Store} {σ : L2.St} {R : It → Hp → Prop} (Rl : Rel G ρ H S) (h : RunM G W (srcOk G) (rangeOf 0 hi) ρ H S σ R) : -(2 ^ 62) ≤ hi ∧ hi < 2 ^ 62 ∧ R (Itr 0 hi.toNat) H := by
  obtain ⟨hc, h⟩ := RunM.ite h
  simp only [Bool.and_eq_true, decide_eq_true_eq] at hc
  refine ⟨hc.1.2, hc.2, ?_⟩
  have := h.now Rl (src_range1 (G := G) (ρ := ρ) (H := H) 0 (hi - 0).toNat)
  rw [Int.sub_zero] at this
  exact this
theorem range_2 {lo hi : Int} {H : Hp} {ρ : List Addr} {S : Store} {σ : L2.St} {R : It → Hp → Prop} (Rl : Rel G ρ H S) (h : RunM G W (srcOk G) (rangeOf lo hi) ρ H S σ R) : (-(2 ^ 62) ≤ lo ∧ lo < 2 ^ 62 ∧ -(2 ^ 62) ≤ hi ∧ hi < 2 ^ 62) ∧ R (Itr lo (hi - lo).toNat) H := by
  obtain ⟨hc, h⟩ := RunM.ite h
  simp only [Bool.and_eq_true, decide_eq_true_eq] at hc
  exact ⟨⟨hc.1.1.1, hc.1.1.2, hc.1.2, hc.2⟩, h.now Rl (src_range1 (G := G) (ρ := ρ) (H := H) lo (hi - lo).toNat)⟩
theorem range_3 {lo hi st : Int} {H : Hp} {ρ : List Addr} {S : Store} {σ : L2.St} {R : It → Hp → Prop} (Rl : Rel G ρ H S) (h : RunM G W (srcOk G) (rangeBy lo hi st) ρ H S σ R) : RgC lo hi st (Builtin.Range.rangeSize lo hi st).toNat ∧ R (Itc lo st (Builtin.Range.rangeSize lo hi st).toNat) H := by
  obtain ⟨hc, h⟩ := RunM.ite h
  simp only [Bool.and_eq_true, decide_eq_true_eq] at hc
  exact ⟨⟨hc.1.1, hc.1.2, hc.2, PyProof.Rows.rangeSize_toNat lo hi st⟩, h.now Rl (src_range (G := G) (ρ := ρ) (H := H) lo st _)⟩
theorem repL_nil {ρ : List Addr} {H : Hp} {xs : List V} (r : RepL G ρ H [] xs) : xs = [] := by unfold RepL at r; exact r
theorem isLst_is {d : D} {S : Store} {r : _} (h : isLst d S = some r) : isL d = true := by
  cases d <;> first
    | rfl
    | cases h
/-- the source of a list that is checked -/
theorem chk_list {ρ : List Addr} {H : Hp} {S : Store} {d : D} {x : V} {γ δ : Type} {rel : List Addr → Hp → γ → δ → Prop} {f : Unit → M γ} {Q : δ → Hp → Prop} {σ : L2.St} (R : Rel G ρ H S) (r : Rep G ρ H d x) (h : RunM G W rel (M.bind (isLst d) f) ρ H S σ Q) :
    isL d = true ∧ (∃ a ys, x = .ref a ∧ SqL G.K H a ys) ∧ RunM G W rel (f ()) ρ H S σ Q := by
  cases d with
  | lst xs =>
    unfold Rep at r
    obtain ⟨a, ys, rfl, q, _⟩ := r
    exact ⟨rfl, ⟨a, ys, rfl, q.sq⟩, h⟩
  | frz xs =>
    unfold Rep at r
    obtain ⟨a, ys, rfl, q, _⟩ := r
    exact ⟨rfl, ⟨a, ys, rfl, .inl q.1⟩, h⟩
  | obj n =>
    obtain ⟨r', S', e, q⟩ := h
    unfold M.bind isLst M.bind getO at e
    cases hS : S[n]? with
    | none => simp only [hS] at e; cases e
    | some o =>
      simp only [hS] at e
      cases o with
      | lst xs =>
        obtain ⟨a, rfl, ea, ys, eo, l⟩ := obj_at R r hS
        exact ⟨rfl, ⟨a, ys, rfl, SqL.of eo⟩, ⟨r', S', e, q⟩⟩
      | dct _ => cases e
      | ins _ _ => cases e
  | _ => obtain ⟨r', S', e, q⟩ := h; cases e
theorem len1 {ds : List D} (h : ds.length = 1) : ∃ d, ds = [d] := by
  match ds, h with
  | [d], _ => exact ⟨d, rfl⟩
theorem len2 {ds : List D} (h : ds.length = 2) : ∃ d e, ds = [d, e] := by
  match ds, h with
  | [d, e], _ => exact ⟨d, e, rfl⟩
theorem len3 {ds : List D} (h : ds.length = 3) : ∃ d e f, ds = [d, e, f] := by
  match ds, h with
  | [d, e, f], _ => exact ⟨d, e, f, rfl⟩
theorem ints1 {m : Int → M Src} {d : D} (h : rangeArgs [d] ≠ M.fail) : ∃ i, d = .int i := by
  cases d <;> first
    | exact ⟨_, rfl⟩
    | exact absurd rfl h
theorem pi_srcD (g : Good T G k c X Γ W) (sn : Snd T G k c E) (it : Expr) : PI X tg it (DI G W (evSrc T E Γ tg it)) := by
  unfold evSrc
  cases hw : walkOf T Γ tg it with
  | plain => exact pi_anyD g sn it
  | range args =>
    obtain ⟨p, pos, rfl, h1, h2⟩ := walk_is hw
    have hm : X.mg "range" = none := by rw [← g.mg]; exact g.text.free _ h2
    have hg := g.gl_ h1
    dsimp only
    by_cases hn : ¬ decide (0 < args.length ∧ args.length ≤ 3) = true
    · rw [if_neg hn]; exact pi_never
    have hn := Decidable.not_not.mp hn
    rw [if_pos hn]
    by_cases hs : ¬ args.all notStar = true
    · exact ⟨fun pins s σ H R I ⟨ρ, η, S, E0, Rl, h⟩ => absurd (run_star h) hs⟩
    have hs := Decidable.not_not.mp hs
    have hpa := pa_args g sn args hs
    match args, hn, hs, hpa with
    | [a], _, hs, hpa =>
      refine pi_imp (pi_range1 hg hm hpa (starEach_cons (by simpa using hs))) fun σ H R ⟨ρ, η, S, E0, Rl, h⟩ => da1e E0 Rl h fun vs H2 ρ2 S2 ds en E2 L R2 r1 h2 => ?_
      obtain ⟨d, rfl⟩ := len1 (evArgs_len en)
      obtain ⟨x, rfl, rx⟩ := repL1 r1
      cases d with
      | int i =>
        rw [rep_int rx]
        obtain ⟨h3, h4, h5⟩ := range_1 R2 h2
        exact ⟨_, rfl, h3, h4, h5⟩
      | _ => exact h2.fail
    | [a, b], _, hs, hpa =>
      rw [List.all_cons, Bool.and_eq_true] at hs
      have hb : starEach [b] X.env = [(false, eval b X.env)] := starEach_cons (by simpa using hs.2)
      refine pi_imp (pi_range2 hg hm hpa (by rw [starEach_cons hs.1, hb]) hb) fun σ H R ⟨ρ, η, S, E0, Rl, h⟩ => da1e E0 Rl h fun vs H2 ρ2 S2 ds en E2 L R2 r1 h2 => ?_
      obtain ⟨d, e, rfl⟩ := len2 (evArgs_len en)
      obtain ⟨x, y, rfl, rx, ry⟩ := repL2 r1
      cases d with
      | int i =>
        cases e with
        | int j =>
          rw [rep_int rx, rep_int ry]
          obtain ⟨h3, h5⟩ := range_2 R2 h2
          exact ⟨_, _, rfl, h3, h5⟩
        | _ => exact h2.fail
      | _ => exact h2.fail
    | [a, b, d], _, hs, hpa =>
      rw [List.all_cons, Bool.and_eq_true] at hs
      refine pi_imp (pi_range3 hg hm hpa (starEach_cons hs.1) (backTo_plain _ (starEach_plain hs.2))) fun σ H R ⟨ρ, η, S, E0, Rl, h⟩ => da1e E0 Rl h fun vs H2 ρ2 S2 ds en E2 L R2 r1 h2 => ?_
      obtain ⟨d, e, f, rfl⟩ := len3 (evArgs_len en)
      unfold RepL at r1
      obtain ⟨x, w, rfl, rx, r1⟩ := r1
      obtain ⟨y, z, rfl, ry, rz⟩ := repL2 r1
      cases d with
      | int i =>
        cases e with
        | int j =>
          cases f with
          | int l =>
            rw [rep_int rx, rep_int ry, rep_int rz]
            obtain ⟨h3, h5⟩ := range_3 R2 h2
            exact ⟨_, _, _, _, rfl, h3, h5⟩
          | _ => exact h2.fail
        | _ => exact h2.fail
      | _ => exact h2.fail
  | enum a =>
    obtain ⟨p, pos, rfl, h1, h2, h3⟩ := walk_is hw
    obtain ⟨es, kk, tp, rfl⟩ := isTup_is h3
    have hm : X.mg "enumerate" = none := by rw [← g.mg]; exact g.text.free _ h2
    by_cases hs : ¬ [a].all notStar = true
    · exact ⟨fun pins s σ H R I ⟨ρ, η, S, E0, Rl, h⟩ => absurd (run_star h) hs⟩
    have hs := Decidable.not_not.mp hs
    refine pi_imp (pi_enum (g.gl_ h1) hm (pa_args g sn [a] hs) (starEach_cons (by simpa using hs))) fun σ H R ⟨ρ, η, S, E0, Rl, h⟩ => da1e E0 Rl h fun vs H2 ρ2 S2 ds en E2 L R2 r1 h2 => ?_
    obtain ⟨d, rfl⟩ := len1 (evArgs_len en)
    obtain ⟨x, rfl, rx⟩ := repL1 r1
    obtain ⟨k1, ⟨b, ys, rfl, q⟩, h3⟩ := chk_list R2 rx (show RunM G W (srcOk G) (M.bind (isLst d) fun _ => M.pure (.enum d)) ρ2 H2 S2 σ R from h2)
    exact ⟨b, ys, rfl, g.K ▸ q, h3.now R2 (src_enum (X := X) k1 rx)⟩
  | zip a b =>
    obtain ⟨p, pos, rfl, h1, h2, h3⟩ := walk_is hw
    obtain ⟨es, kk, tp, rfl⟩ := isTup_is h3
    have hm : X.mg "zip" = none := by rw [← g.mg]; exact g.text.free _ h2
    by_cases hs : ¬ [a, b].all notStar = true
    · exact ⟨fun pins s σ H R I ⟨ρ, η, S, E0, Rl, h⟩ => absurd (run_star h) hs⟩
    have hs := Decidable.not_not.mp hs
    have hst := hs
    rw [List.all_cons, Bool.and_eq_true] at hst
    refine pi_imp (pi_zipA (g.gl_ h1) hm (pa_args g sn [a, b] hs) (starEach_cons hst.1) (backTo_plain _ (starEach_plain hst.2))) fun σ H R ⟨ρ, η, S, E0, Rl, h⟩ => da1e E0 Rl h fun vs H2 ρ2 S2 ds en E2 L R2 r1 h2 => ?_
    obtain ⟨d, e, rfl⟩ := len2 (evArgs_len en)
    obtain ⟨x, y, rfl, rx, ry⟩ := repL2 r1
    have h2 : RunM G W (srcOk G) (M.bind (isZip d e) fun _ => M.pure (.zip d e)) ρ2 H2 S2 σ R := h2
    have lists : RunM G W (srcOk G) (M.bind (M.bind (isLst d) fun _ => isLst e) fun _ => M.pure (.zip d e)) ρ2 H2 S2 σ R →
        iZipA X.K (fun σ H Q => Q [x, y] H) σ H2 R := fun h => by
      have h : RunM G W (srcOk G) (M.bind (isLst d) fun _ => M.bind (isLst e) fun _ => M.pure (.zip d e)) ρ2 H2 S2 σ R := by
        obtain ⟨r', S', e', q⟩ := h
        refine ⟨r', S', ?_, q⟩
        rw [← e']
        unfold M.bind
        cases isLst d S2 with
        | none => rfl
        | some z => obtain ⟨r, S3⟩ := z; cases r <;> rfl
      obtain ⟨k1, ⟨a1, ys, rfl, q1⟩, h⟩ := chk_list R2 rx h
      obtain ⟨k2, ⟨a2, zs, rfl, q2⟩, h⟩ := chk_list R2 ry h
      exact ⟨a1, a2, ys, zs, rfl, .inl ⟨g.K ▸ q1, g.K ▸ q2, h.now R2 (src_zip (X := X) k1 k2 rx ry)⟩⟩
    cases d with
    | tup xs =>
      cases e with
      | tup ys =>
        have rx' := rx
        have ry' := ry
        unfold Rep at rx' ry'
        obtain ⟨a1, vs1, rfl, q1, _⟩ := rx'
        obtain ⟨a2, vs2, rfl, q2, _⟩ := ry'
        exact ⟨a1, a2, vs1, vs2, rfl, .inr ⟨g.K ▸ q1.sq, g.K ▸ q2.sq, RunM.now (a := Src.zip (.tup xs) (.tup ys)) h2 R2 (src_zipT (X := X) rx ry)⟩⟩
      | _ => exact lists h2
    | _ => exact lists h2
end
end DL
end

section
namespace DL
open PySem L2 PySem.Spec PyProof.Rows
section
variable {T : Tab} {G : Gm} {k : Nat} {c : Str → List D → M D} {X : Cx} {Γ : Sc} {W : WX} {E : Evs}
theorem okOut.le {ρ ρ1 : List Addr} {H H1 : Hp} {S : Store} {D : Ends} {o : Out} (h : okOut G W ρ H S D o) (L : Le ρ H ρ1 H1) : okOut G W ρ1 H1 S D o := by
  cases o with
  | nx η => exact fun ρ' H' σ' L' R e => h ρ' H' σ' (L.trans L') R e
  | bk η => exact fun ρ' H' σ' L' R e => h ρ' H' σ' (L.trans L') R e
  | ct η => exact fun ρ' H' σ' L' R e => h ρ' H' σ' (L.trans L') R e
  | rt d => exact fun ρ' H' v L' R e => h ρ' H' v (L.trans L') R e
  | ex x η => exact fun ρ' H' σ' cls dx L' R e r => h ρ' H' σ' cls dx (L.trans L') R e r
theorem RunS.le {m : Store → Option (Out × Store)} {ρ ρ1 : List Addr} {H H1 : Hp} {S : Store} {D : Ends} (h : RunS G W m ρ H S D) (L : Le ρ H ρ1 H1) : RunS G W m ρ1 H1 S D := by
  obtain ⟨o, S', e, q⟩ := h
  exact ⟨o, S', e, q.le L⟩
/-- a value, then a statement's rest -/
theorem RunS.lift {α β : Type} {rel : List Addr → Hp → α → β → Prop} {m : M α} {η : En} {f : α → Store → Option (Out × Store)} {ρ : List Addr} {H : Hp} {S : Store} {D : Ends} {σ : L2.St} (E0 : RepE G ρ H η σ) (h : RunS G W (liftS m η f) ρ H S D) :
    RunM G W rel m ρ H S σ fun b H1 => ∃ ρ1 S1 a, Le ρ H ρ1 H1 ∧ Rel G ρ1 H1 S1 ∧ rel ρ1 H1 a b ∧ RunS G W (f a) ρ1 H1 S1 D := by
  obtain ⟨o, S', e, q⟩ := h
  unfold liftS at e
  split at e
  · rename_i a S1 e1
    exact ⟨.v a, S1, e1, fun ρ1 H1 b L1 R1 r1 => ⟨ρ1, S1, a, L1, R1, r1, o, S', e, q.le L1⟩⟩
  · rename_i x S1 e1
    cases e
    exact ⟨.ex x, S', e1, fun ρ' H' cls dx L' R' r' => q ρ' H' σ cls dx L' R' (E0.le L') r'⟩
  · cases e
theorem pg_nameD (g : Good T G k c X Γ W) {x : Str} {pos : Pos} {i : Nat} (h : Γ.put x = some i) : PG X (.Name x pos) (DG G W fun d η => M.pure (η.set i (some d))) := by
  unfold Sc.put at h
  split at h
  · rename_i hc
    rw [Bool.and_eq_true] at hc
    have hN : X.N[i]? = some x := by rw [g.N]; exact idxOf_some h
    refine (pg_name (i := i) g.nd hN (by show X.env.scope.names.lookup x = _ ∨ _; rw [g.sc]; exact loc_of hc.1) (g.own x hc.2)).imp fun v σ H Q ⟨ρ, η, S, d, E0, R, r, h⟩ => ?_
    exact h.now R (E0.set i r)
  · cases h
theorem assignEach_plain : ∀ {es : List Expr} {env : Env}, es.all notStar = true → (assignEach es env).length = es.length ∧ (assignEach es env).findIdx? (·.1) = none
  | [], env, _ => ⟨rfl, rfl⟩
  | e :: es, env, h => by
    rw [List.all_cons, Bool.and_eq_true] at h
    obtain ⟨h1, h2⟩ := assignEach_plain (env := env) h.2
    cases e <;> first
      | exact absurd h.1 Bool.false_ne_true
      | exact ⟨congrArg Nat.succ h1, by
          show ((false, _) :: assignEach es env).findIdx? (·.1) = none
          rw [List.findIdx?_cons, h2]; rfl⟩
theorem assignEach_cons {e : Expr} {es : List Expr} {env : Env} (h : notStar e = true) : (assignEach (e :: es) env).map (·.2) = assign e env :: (assignEach es env).map (·.2) := by
  cases e <;> first
    | exact absurd h Bool.false_ne_true
    | rfl
theorem _root_.L2.PGs.imp {X : Cx} {e : List Expr} {t t' : TGs} (h : PGs X e t) (k : ∀ v σ H Q, t' v σ H Q → t v σ H Q) : PGs X e t' := ⟨fun pins s σ H v u Q I r q => h.run pins s σ H v u Q I r (k v σ H Q q)⟩
theorem noex_calm {α : Type} (m : M α) : NoEx (M.calm m) := fun S x S' h => by
  unfold M.calm at h
  split at h <;> cases h
theorem RunM.anyW {W1 W2 : WX} {α β : Type} {rel : List Addr → Hp → α → β → Prop} {m : M α} {ρ : List Addr} {H : Hp} {S : Store} {σ1 σ2 : L2.St} {Q : β → Hp → Prop} (h : RunM G W1 rel m ρ H S σ1 Q) (n : NoEx m) : RunM G W2 rel m ρ H S σ2 Q := by
  obtain ⟨r, S', e, q⟩ := h
  cases r with
  | v a => exact ⟨.v a, S', e, q⟩
  | ex x => exact absurd e (n _ _ _)
theorem RunM.uncalm {α β : Type} {rel : List Addr → Hp → α → β → Prop} {m : M α} {ρ : List Addr} {H : Hp} {S : Store} {σ : L2.St} {Q : β → Hp → Prop} (h : RunM G W rel (M.calm m) ρ H S σ Q) : RunM G W rel m ρ H S σ Q := by
  obtain ⟨r, S', e, q⟩ := h
  unfold M.calm at e
  split at e
  · rename_i a S1 e1
    cases e
    exact ⟨.v a, _, e1, q⟩
  · cases e
theorem noex_gList {gs : List (D → En → M En)} (h : ∀ g ∈ gs, ∀ d η, NoEx (g d η)) : ∀ (ds : List D) (η : En), NoEx (gList gs ds η) := by
  induction gs with
  | nil =>
    intro ds η
    cases ds with
    | nil => exact noex_pure _
    | cons => exact noex_fail
  | cons g gs ih =>
    intro ds η
    cases ds with
    | nil => exact noex_fail
    | cons d ds => exact noex_bind (h g (by simp) d η) fun η' => ih (fun g hg => h g (by simp [hg])) ds η'
theorem pgs_D (g : Good T G k c X Γ W) (sn : Snd T G k c E) : ∀ es : List Expr, es.all notStar = true → PGs X es (DGs G W (gList (es.map (E.g Γ))))
  | [], _ => pgs_nil.imp fun vs σ H Q ⟨ρ, η, S, ds, E0, R, r, h⟩ => by
    cases ds with
    | nil => exact ⟨by unfold RepL at r; exact r, h.now R E0⟩
    | cons d ds => exact h.fail
  | e :: es, hs => by
    rw [List.all_cons, Bool.and_eq_true] at hs
    refine (pgs_cons (sn.g X Γ W e g) (pgs_D g sn es hs.2) (assignEach_cons hs.1)).imp fun vs σ H Q ⟨ρ, η, S, ds, E0, R, r, h⟩ => ?_
    cases ds with
    | nil => exact h.fail
    | cons d ds =>
      unfold RepL at r
      obtain ⟨v, w, rfl, r1, r2⟩ := r
      refine ⟨v, w, rfl, ρ, η, S, d, E0, R, r1, (RunM.bind (rel := RepE G) h).mono fun σ' H1 ⟨ρ1, S1, η1, L1, R1, E1, h1⟩ => ?_⟩
      exact ⟨ρ1, η1, S1, ds, E1, R1, RepL.le L1 ds r2, h1.anyW (noex_gList (fun g hg d η => by
        obtain ⟨x, _, rfl⟩ := List.mem_map.mp hg
        exact sn.gn _ _ _ _) _ _)⟩
theorem gList_len : ∀ {gs : List (D → En → M En)} {ds : List D} {η η' : En} {S S' : Store}, gList gs ds η S = some (.v η', S') → ds.length = gs.length
  | [], [], _, _, _, _, _ => rfl
  | [], _ :: _, _, _, _, _, h => by cases h
  | _ :: _, [], _, _, _, _, h => by cases h
  | g :: gs, d :: ds, η, η', S, S', h => by
    obtain ⟨η1, S1, e1, e2⟩ := bind_v (show M.bind (g d η) (fun η' => gList gs ds η') S = _ from h)
    simp [gList_len e2]
theorem pg_tupD (g : Good T G k c X Γ W) (sn : Snd T G k c E) {es : List Expr} {kk : Nat} {pos : Pos} (hs : es.all notStar = true) : PG X (.Tuple es kk pos) (DG G W fun d η => M.bind (seqOf d) fun xs => gList (es.map (E.g Γ)) xs η) := by
  obtain ⟨hl, hf⟩ := assignEach_plain (env := X.env) hs
  refine ⟨fun pins s σ H v u Q I rv ⟨ρ, η, S, d, E0, R, r, h⟩ => ?_⟩
  have hno : NoEx (M.bind (seqOf d) fun xs => gList (es.map (E.g Γ)) xs η) := noex_bind (noex_seqOf _) fun xs => noex_gList (fun g hg d η => by
    obtain ⟨x, _, rfl⟩ := List.mem_map.mp hg
    exact sn.gn _ _ _ _) _ _
  obtain ⟨η', S', e, q⟩ := h.v hno
  obtain ⟨xs, S1, e1, e2⟩ := bind_v e
  obtain ⟨rfl, a, ys, rfl, hq, l⟩ := seqOf_sq R r e1
  have hlen : ys.length = es.length := by rw [l.length, gList_len e2, List.length_map]
  have go : DGs G W (gList (es.map (E.g Γ))) ys σ H Q := ⟨ρ, η, S1, xs, E0, R, l, .v η', S', e2, q⟩
  rcases hq with hq | hq
  · exact (pg_lst g.calm (pgs_D g sn es hs) (hl.trans rfl) hf).run pins s σ H _ u Q I rv ⟨a, ys, rfl, g.K ▸ hq, hlen, go⟩
  · exact (pg_tup g.calm (pgs_D g sn es hs) (hl.trans rfl) hf).run pins s σ H _ u Q I rv ⟨a, ys, rfl, g.K ▸ hq, hlen, go⟩
theorem pg_subD (g : Good T G k c X Γ W) (sn : Snd T G k c E) {o i : Expr} {pos : Pos} (hi : ∀ lo hi st p, i ≠ .Slice lo hi st p) :
    PG X (.Subscript o i pos) (DG G W fun d η => M.bind (M.calm (E.e Γ o η)) fun x => M.bind (M.calm (E.e Γ i η)) fun y => M.bind (dSet x y d) fun _ => M.pure η) := by
  refine (pg_sub (sn.e X Γ W o g) (sn.e X Γ W i g) (set_sound (G := G) g.un1) (fun v => ?_)).imp fun v σ H Q ⟨ρ, η, S, d, E0, R, r, h⟩ => ?_
  · unfold assign
    cases i <;> first
      | rfl
      | exact absurd rfl (hi _ _ _ _)
  · refine ⟨ρ, η, S, E0, R, (RunM.uncalm ((RunM.bind (rel := Rep G) h))).mono fun x H1 ⟨ρ1, S1, x', L1, R1, r1, h1⟩ => ?_⟩
    refine ⟨ρ1, η, S1, E0.le L1, R1, (RunM.uncalm ((RunM.bind (rel := Rep G) h1))).mono fun y H2 ⟨ρ2, S2, y', L2', R2, r2, h2⟩ => ?_⟩
    have hno : NoEx (M.bind (dSet x' y' d) fun _ => M.pure η) := noex_bind (noex_set _ _ _) fun _ => noex_pure _
    obtain ⟨η', S', e, q⟩ := h2.v hno
    obtain ⟨u, S3, e1, e2⟩ := bind_v e
    obtain ⟨rfl, rfl⟩ := pure_v e2
    exact ⟨ρ2, S2, x', y', d, R2, Rep.le L2' _ r1, r2, Rep.le (L1.trans L2') _ r, S3, e1, fun ρ' H' L3 R3 => q ρ' H' σ L3 R3 (E0.le ((L1.trans L2').trans L3))⟩
theorem RepF.put {ρ : List Addr} {H : Hp} {f : Str} {d : D} {v : V} (q : Rep G ρ H d v) : ∀ {fs : List (Str × D)} {ys : List (Str × V)}, RepF G ρ H fs ys → RepF G ρ H (fPut f d fs) (putF f v ys)
  | [], ys, r => by
    unfold RepF at r
    subst r
    unfold fPut putF RepF
    exact ⟨v, [], rfl, q, by unfold RepF; rfl⟩
  | (g0, w) :: fs, ys, r => by
    unfold RepF at r
    obtain ⟨w', r', rfl, r1, r2⟩ := r
    unfold fPut putF
    by_cases e : g0 = f
    · simp only [e, if_true]
      unfold RepF
      exact ⟨v, r', rfl, q, r2⟩
    · simp only [e, if_false]
      unfold RepF
      exact ⟨w', _, rfl, r1, RepF.put q r2⟩
theorem RepF.length {ρ : List Addr} {H : Hp} : ∀ {fs : List (Str × D)} {ys : List (Str × V)}, RepF G ρ H fs ys → ys.length = fs.length
  | [], ys, r => by unfold RepF at r; subst r; rfl
  | (g0, w) :: fs, ys, r => by
    unfold RepF at r
    obtain ⟨w', r', rfl, r1, r2⟩ := r
    simp [RepF.length r2]
theorem pg_attrD (g : Good T G k c X Γ W) (sn : Snd T G k c E) {o : Expr} {f : Str} {pos : Pos} :
    PG X (.Attribute o f pos) (DG G W fun d η => M.bind (M.calm (E.e Γ o η)) fun x => (match x with
      | .obj n => M.bind (getO n) fun ob => (match ob with
        | .ins C fs => if (decide (fs.length ≤ 200) && T.attr C f) = true then M.bind (setO n (.ins C (fPut f d fs))) fun _ => M.pure η else M.fail
        | _ => M.fail)
      | _ => M.fail)) := by
  refine ⟨fun pins s σ H v u Q I rv ⟨ρ, η, S, d, E0, R, r, h⟩ => ?_⟩
  have ha : assign (.Attribute o f pos) X.env u = (do
      let ov ← holding [u] (eval o X.env)
      standAt pos.atName
      holding [u, ov] (setAttr ov f u)
      release [u, ov] []) := rfl
  rw [ha]
  refine wpAny_bind (wpAny_holding (thn ((sn.e X Γ W o g).run pins s σ H _ I ⟨ρ, η, S, E0, R, (RunM.uncalm ((RunM.bind (rel := Rep G) h)))⟩) fun ov s1 ⟨x, H1, I1, rx, ρ1, S1, x', L1, R1, r1, h1⟩ => ?_))
  cases x' with
  | obj n =>
    obtain ⟨r', S', e, q⟩ := h1
    unfold M.bind getO at e
    cases hS : S1[n]? with
    | none => simp only [hS] at e; cases e
    | some ob =>
      simp only [hS] at e
      cases ob with
      | lst _ => cases e
      | dct _ => cases e
      | ins C fs =>
        by_cases hc : (decide (fs.length ≤ 200) && T.attr C f) = true
        · simp only [hc, if_true] at e
          rw [Bool.and_eq_true, decide_eq_true_eq] at hc
          obtain ⟨ca, k1, k2, k3⟩ := g.text.attr C f hc.2
          obtain ⟨a, rfl, ea, C', dx, xs, e3, e4, e5⟩ := obj_at R1 r1 hS
          rw [k1] at e4
          cases e4
          obtain rfl : ov = Value.ref a := rx
          have hn : n < S1.length := (List.getElem?_eq_some_iff.mp hS).1
          unfold setO at e
          simp only [hn, if_true] at e
          cases e
          obtain ⟨R3, L3⟩ := R1.write (o := .ins ca dx (putF f v xs)) (ob' := .ins C (fPut f d fs)) hS ea fun H' L' e' => ⟨ca, dx, _, e', k1, (RepF.le L' fs e5).put (Rep.le (L1.trans L') d r)⟩
          refine wpAny_bind (wpAny_standAt (wpAny_bind (wpAny_holding (setattr_ok I1 e3 (by rw [← g.K]; exact k2) (by rw [← g.K]; exact k3) (by rw [RepF.length e5]; omega) rv fun s' I' => wpAny_release ⟨σ, _, I', ?_⟩))))
          exact q _ _ _ L3 R3 (E0.le (L1.trans L3))
        · simp only [hc, if_false] at e; cases e
  | _ => exact h1.fail
theorem swapsWith_plain {e : Expr} {t : Option Expr} {l : Nat} {env : Env} (h : isComp e = false) : swapsWith e t l env = pure false := by
  cases e <;> first
    | rfl
    | cases h
theorem ps_exprD (g : Good T G k c X Γ W) (sn : Snd T G k c E) {e : Expr} {pos : Pos} (h : isComp e = false) : PS X (.Expr e pos) (DS G W fun η => liftS (E.e Γ e η) η fun _ S => some (.nx η, S)) :=
  (ps_expr (sn.e X Γ W e g) (swapsWith_plain h)).imp fun D σ H ⟨ρ, η, S, E0, R, hr⟩ => ⟨ρ, η, S, E0, R, (RunS.lift (rel := Rep G) E0 hr).mono fun v H1 ⟨ρ1, S1, a, L1, R1, r1, o, S', e, q⟩ => by
    cases e
    exact q ρ1 H1 σ Le.refl R1 (E0.le L1)⟩
theorem ps_retD (g : Good T G k c X Γ W) (sn : Snd T G k c E) {e : Expr} {pos : Pos} : PS X (.Return (some e) pos) (DS G W fun η => liftS (E.e Γ e η) η fun d S => some (.rt d, S)) :=
  (ps_ret (sn.e X Γ W e g)).imp fun D σ H ⟨ρ, η, S, E0, R, hr⟩ => ⟨ρ, η, S, E0, R, (RunS.lift (rel := Rep G) E0 hr).mono fun v H1 ⟨ρ1, S1, a, L1, R1, r1, o, S', e, q⟩ => by
    cases e
    exact q ρ1 H1 v Le.refl R1 r1⟩
theorem ps_ret0D {pos : Pos} : PS X (.Return none pos) (DS G W fun _ S => some (.rt .non, S)) := ps_retN.imp fun D σ H ⟨ρ, η, S, E0, R, o, S', e, q⟩ => by
  cases e
  exact q ρ H .non Le.refl R rep_of_non
theorem ps_passD {pos : Pos} : PS X (.Pass pos) (DS G W fun η S => some (.nx η, S)) := ps_pass.imp fun D σ H ⟨ρ, η, S, E0, R, o, S', e, q⟩ => by
  cases e
  exact q ρ H σ Le.refl R E0
theorem ps_brkD {pos : Pos} : PS X (.Break pos) (DS G W fun η S => some (.bk η, S)) := ps_break.imp fun D σ H ⟨ρ, η, S, E0, R, o, S', e, q⟩ => by
  cases e
  exact q ρ H σ Le.refl R E0
theorem ps_contD {pos : Pos} : PS X (.Continue pos) (DS G W fun η S => some (.ct η, S)) := ps_continue.imp fun D σ H ⟨ρ, η, S, E0, R, o, S', e, q⟩ => by
  cases e
  exact q ρ H σ Le.refl R E0
theorem pss_D (g : Good T G k c X Γ W) (sn : Snd T G k c E) (po : PassesOwn (model X.prog X.w) X.A X.env X.xe) : ∀ ss : List Stmt, PSs X ss (DS G W (sBlock (ss.map (E.s Γ))))
  | [] => pss_nil.imp fun D σ H ⟨ρ, η, S, E0, R, o, S', e, q⟩ => by
    cases e
    exact q ρ H σ Le.refl R E0
  | st :: ss => (pss_cons (sn.s X Γ W st g po) (pss_D g sn po ss)).imp fun D σ H ⟨ρ, η, S, E0, R, o, S', e, q⟩ => by
    have e : (match E.s Γ st η S with | some (.nx η', S') => sBlock (ss.map (E.s Γ)) η' S' | o => o) = some (o, S') := e
    cases h1 : E.s Γ st η S with
    | none => rw [h1] at e; cases e
    | some z =>
      obtain ⟨o1, S1⟩ := z
      rw [h1] at e
      refine ⟨ρ, η, S, E0, R, o1, S1, h1, ?_⟩
      cases o1 with
      | nx η1 => exact fun ρ' H' σ' L' R' E' => ⟨ρ', η1, S1, E', R', o, S', e, q.le L'⟩
      | bk η1 => cases e; exact q
      | ct η1 => cases e; exact q
      | rt d => cases e; exact q
      | ex x η1 => cases e; exact q
theorem ps_ifD (g : Good T G k c X Γ W) (sn : Snd T G k c E) (po : PassesOwn (model X.prog X.w) X.A X.env X.xe) {t : Expr} {a b : List Stmt} {pos : Pos} :
    PS X (.If t a b pos) (DS G W fun η => liftS (E.t Γ t η) η fun k S => if k = true then sBlock (a.map (E.s Γ)) η S else sBlock (b.map (E.s Γ)) η S) :=
  (ps_if (sn.t X Γ W t g) (pss_D g sn po a) (pss_D g sn po b)).imp fun D σ H ⟨ρ, η, S, E0, R, hr⟩ => ⟨ρ, η, S, E0, R, (RunS.lift (rel := fun _ _ (b : Bool) c => c = b) E0 hr).mono fun v H1 ⟨ρ1, S1, kb, L1, R1, r1, h1⟩ => by
    subst r1
    cases v with
    | true => rw [if_pos rfl]; exact ⟨ρ1, η, S1, E0.le L1, R1, h1⟩
    | false => rw [if_neg Bool.false_ne_true]; exact ⟨ρ1, η, S1, E0.le L1, R1, h1⟩⟩
/-- a value stored -/
theorem ps_asgD (g : Good T G k c X Γ W) (sn : Snd T G k c E) {tg e : Expr} {pos : Pos} (h1 : swapsWithSole [tg] e pos.line X.env = pure false) (h2 : swappedStores [tg] e X.env = pure none) (h3 : notStar tg = true) :
    PS X (.Assign [tg] e pos) (DS G W fun η => liftS (E.e Γ e η) η fun d => liftS (E.g Γ tg d η) η fun η' S => some (.nx η', S)) :=
  (ps_asg (sn.e X Γ W e g) (sn.g X Γ W tg g) h1 h2 (by rw [assignEach_cons h3]; rfl)).imp fun D σ H ⟨ρ, η, S, E0, R, hr⟩ => ⟨ρ, η, S, E0, R, (RunS.lift (rel := Rep G) E0 hr).mono fun v H1 ⟨ρ1, S1, a, L1, R1, r1, hr1⟩ =>
    ⟨ρ1, η, S1, a, E0.le L1, R1, r1, (RunS.lift (rel := RepE G) (E0.le L1) hr1).mono fun σ' H2 ⟨ρ2, S2, η', L2', R2, r2, o, S', e, q⟩ => by
      cases e
      exact q ρ2 H2 σ' Le.refl R2 r2⟩⟩
theorem folded_plain {it : Expr} {env : Env} (h : notSet it = true) : ∀ x, foldedSetIterable it env x = pure x := fun x => by
  unfold foldedSetIterable
  cases it <;> first
    | rfl
    | cases h
theorem for_turn {nx : Nx} {body : D → SM} {f i : Nat} {η : En} {S S' : Store} {o : Out} (h : forLoop nx body f i η S = some (o, S')) :
    ∃ f', f = f' + 1 ∧ ((nx S i = some none ∧ o = .nx η ∧ S' = S) ∨ ∃ d, nx S i = some (some d) ∧ ∃ o1 S1, body d η S = some (o1, S1) ∧
      ((∃ η', (o1 = .nx η' ∨ o1 = .ct η') ∧ forLoop nx body f' (i + 1) η' S1 = some (o, S')) ∨ (∃ η', o1 = .bk η' ∧ o = .nx η' ∧ S' = S1) ∨ ((∀ η', o1 ≠ .nx η' ∧ o1 ≠ .ct η' ∧ o1 ≠ .bk η') ∧ o = o1 ∧ S' = S1))) := by
  cases f with
  | zero => cases h
  | succ f =>
    refine ⟨f, rfl, ?_⟩
    unfold forLoop at h
    cases h1 : nx S i with
    | none => rw [h1] at h; cases h
    | some z =>
      rw [h1] at h
      cases z with
      | none => cases h; exact .inl ⟨rfl, rfl, rfl⟩
      | some d =>
        refine .inr ⟨d, rfl, ?_⟩
        simp only at h
        cases h2 : body d η S with
        | none => rw [h2] at h; cases h
        | some w =>
          obtain ⟨o1, S1⟩ := w
          rw [h2] at h
          refine ⟨o1, S1, rfl, ?_⟩
          cases o1 with
          | nx η' => exact .inl ⟨η', .inl rfl, h⟩
          | ct η' => exact .inl ⟨η', .inr rfl, h⟩
          | bk η' => cases h; exact .inr (.inl ⟨η', rfl, rfl, rfl⟩)
          | rt d' => cases h; exact .inr (.inr ⟨fun η' => ⟨nofun, nofun, nofun⟩, rfl, rfl⟩)
          | ex x η' => cases h; exact .inr (.inr ⟨fun η' => ⟨nofun, nofun, nofun⟩, rfl, rfl⟩)
theorem ps_forD (g : Good T G k c X Γ W) (sn : Snd T G k c E) (po : PassesOwn (model X.prog X.w) X.A X.env X.xe) {tg it : Expr} {body : List Stmt} {pos : Pos} (hn : notSet it = true) :
    PS X (.For tg it body [] pos) (DS G W fun η => liftS (evSrc T E Γ tg it η) η fun src S => forLoop src.nx (fun d η => liftS (E.g Γ tg d η) η fun η' => sBlock (body.map (E.s Γ)) η') (src.fuel S) 0 η S) := by
  refine (ps_for po g.calm (pi_srcD g sn it) (sn.g X Γ W tg g) (pss_D g sn po body) (folded_plain hn)).imp fun D σ H ⟨ρ, η, S, E0, R, hr⟩ => ?_
  refine ⟨ρ, η, S, E0, R, (RunS.lift (rel := srcOk G) E0 hr).mono fun J H1 ⟨ρ1, S1, src, L1, R1, sk, h1⟩ => ?_⟩
  refine ⟨fun i m σ H => ∃ ρ2 η2 S2, RepE G ρ2 H η2 σ ∧ Rel G ρ2 H S2 ∧ Le ρ1 H1 ρ2 H ∧ RunS G W (forLoop src.nx (fun d η => liftS (E.g Γ tg d η) η fun η' => sBlock (body.map (E.s Γ)) η') m i η2) ρ2 H S2 D,
    ⟨_, ρ1, η, S1, E0.le L1, R1, Le.refl, h1⟩, fun i m σ2 H2 ⟨ρ2, η2, S2, E2, R2, L2', o, S', e, q⟩ => ?_⟩
  obtain ⟨f, rfl, hh⟩ := for_turn e
  obtain ⟨s1, s2⟩ := sk ρ2 H2 S2 H2 L2' R2 (fun _ _ z => z) i
  rcases hh with ⟨hz, rfl, rfl⟩ | ⟨d, hd, o1, S3, hb, hh⟩
  · exact .inl ⟨s1 hz, q ρ2 H2 σ2 Le.refl R2 E2⟩
  · obtain ⟨go, y⟩ := s2 d hd
    refine .inr ⟨go, fun σ' H' => ∃ ρ2 η2 S2, RepE G ρ2 H' η2 σ' ∧ Rel G ρ2 H' S2 ∧ Le ρ1 H1 ρ2 H' ∧ RunS G W (forLoop src.nx (fun d η => liftS (E.g Γ tg d η) η fun η' => sBlock (body.map (E.s Γ)) η') f (i + 1) η2) ρ2 H' S2 D,
      fun σ' H' n => ⟨f, Nat.lt_succ_self f, n⟩, fun x H' hy => ?_⟩
    have key : ∃ R' : Rel G ρ2 H' S2, Le ρ2 H2 ρ2 H' ∧ Rep G ρ2 H' d x := by
      rcases y x H' hy with ⟨rfl, r⟩ | ⟨p, t, np, rfl, r⟩
      · exact ⟨R2, Le.refl, r⟩
      · obtain ⟨R', L'⟩ := R2.out (o := .tup t) np
        exact ⟨R', L', r⟩
    obtain ⟨R', L3, r⟩ := key
    have hb : RunS G W (liftS (E.g Γ tg d η2) η2 fun η' => sBlock (body.map (E.s Γ)) η') ρ2 H' S2 { D with nx := (fun σ' H' => ∃ ρ2 η2 S2, RepE G ρ2 H' η2 σ' ∧ Rel G ρ2 H' S2 ∧ Le ρ1 H1 ρ2 H' ∧ RunS G W (forLoop src.nx (fun d η => liftS (E.g Γ tg d η) η fun η' => sBlock (body.map (E.s Γ)) η') f (i + 1) η2) ρ2 H' S2 D), ct := (fun σ' H' => ∃ ρ2 η2 S2, RepE G ρ2 H' η2 σ' ∧ Rel G ρ2 H' S2 ∧ Le ρ1 H1 ρ2 H' ∧ RunS G W (forLoop src.nx (fun d η => liftS (E.g Γ tg d η) η fun η' => sBlock (body.map (E.s Γ)) η') f (i + 1) η2) ρ2 H' S2 D), bk := D.nx } := by
      refine ⟨o1, S3, hb, ?_⟩
      rcases hh with ⟨η', hk, hl⟩ | ⟨η', rfl, rfl, rfl⟩ | ⟨hno, rfl, rfl⟩
      · rcases hk with rfl | rfl
        · exact fun ρ4 H4 σ4 L4 R4 E4 => ⟨ρ4, η', S3, E4, R4, (L2'.trans L3).trans L4, o, S', hl, q.le (L3.trans L4)⟩
        · exact fun ρ4 H4 σ4 L4 R4 E4 => ⟨ρ4, η', S3, E4, R4, (L2'.trans L3).trans L4, o, S', hl, q.le (L3.trans L4)⟩
      · exact fun ρ4 H4 σ4 L4 R4 E4 => q ρ4 H4 σ4 (L3.trans L4) R4 E4
      · cases o with
        | nx η' => exact absurd rfl (hno η').1
        | ct η' => exact absurd rfl (hno η').2.1
        | bk η' => exact absurd rfl (hno η').2.2
        | rt d' => exact fun ρ4 H4 v L4 R4 r4 => q ρ4 H4 v (L3.trans L4) R4 r4
        | ex x' η' => exact fun ρ4 H4 σ4 cls dx L4 R4 E4 r4 => q ρ4 H4 σ4 cls dx (L3.trans L4) R4 E4 r4
    exact ⟨ρ2, η2, S2, d, E2.le L3, R', r, (RunS.lift (rel := RepE G) (E2.le L3) hb).mono fun σ4 H4 ⟨ρ4, S4, η4, L4, R4, r4, h4⟩ => ⟨ρ4, η4, S4, r4, R4, h4⟩⟩
theorem while_turn {cc : En → M Bool} {body : SM} {f : Nat} {η : En} {S S' : Store} {o : Out} (h : whileLoop cc body f η S = some (o, S')) :
    ∃ f', f = f' + 1 ∧ liftS (cc η) η (fun b S1 => if b = true then (match body η S1 with
      | some (.nx η', S') => whileLoop cc body f' η' S'
      | some (.ct η', S') => whileLoop cc body f' η' S'
      | some (.bk η', S') => some (.nx η', S')
      | o => o) else some (.nx η, S1)) S = some (o, S') := by
  cases f with
  | zero => cases h
  | succ f =>
    refine ⟨f, rfl, ?_⟩
    unfold whileLoop at h
    unfold liftS
    rw [← h]
    cases cc η S with
    | none => rfl
    | some z =>
      obtain ⟨r, S1⟩ := z
      cases r with
      | v b => cases b <;> rfl
      | ex x => rfl
theorem ps_whileD (g : Good T G k c X Γ W) (sn : Snd T G k c E) (po : PassesOwn (model X.prog X.w) X.A X.env X.xe) {t : Expr} {body : List Stmt} {pos : Pos} :
    PS X (.While t body [] pos) (DS G W (whileLoop (E.t Γ t) (sBlock (body.map (E.s Γ))) whileF)) := by
  refine (ps_while po (sn.t X Γ W t g) (pss_D g sn po body)).imp fun D σ H ⟨ρ, η, S, E0, R, hr⟩ => ?_
  refine ⟨fun m σ H => ∃ ρ2 η2 S2, RepE G ρ2 H η2 σ ∧ Rel G ρ2 H S2 ∧ RunS G W (whileLoop (E.t Γ t) (sBlock (body.map (E.s Γ))) m η2) ρ2 H S2 D, ⟨_, ρ, η, S, E0, R, hr⟩, fun m σ2 H2 ⟨ρ2, η2, S2, E2, R2, o, S', e, q⟩ => ?_⟩
  obtain ⟨f, rfl, ew⟩ := while_turn e
  refine ⟨ρ2, η2, S2, E2, R2, (RunS.lift (rel := fun _ _ (b : Bool) c => c = b) (D := D) E2 ⟨o, S', ew, q⟩).mono fun b H3 ⟨ρ3, S3, kb, L3, R3, r3, o3, S3', e3, q3⟩ => ?_⟩
  subst r3
  cases b with
  | false =>
    have e3 : some (Out.nx η2, S3) = some (o3, S3') := e3
    rw [if_neg Bool.false_ne_true]
    cases e3
    exact q3 ρ3 H3 σ2 Le.refl R3 (E2.le L3)
  | true =>
    have e3 : (match sBlock (body.map (E.s Γ)) η2 S3 with
      | some (.nx η', S') => whileLoop (E.t Γ t) (sBlock (body.map (E.s Γ))) f η' S'
      | some (.ct η', S') => whileLoop (E.t Γ t) (sBlock (body.map (E.s Γ))) f η' S'
      | some (.bk η', S') => some (.nx η', S')
      | o => o) = some (o3, S3') := e3
    rw [if_pos rfl]
    refine ⟨fun σ' H' => ∃ ρ2 η2 S2, RepE G ρ2 H' η2 σ' ∧ Rel G ρ2 H' S2 ∧ RunS G W (whileLoop (E.t Γ t) (sBlock (body.map (E.s Γ))) f η2) ρ2 H' S2 D, fun σ' H' n => ⟨f, Nat.lt_succ_self f, n⟩, ρ3, η2, S3, E2.le L3, R3, ?_⟩
    cases hb : sBlock (body.map (E.s Γ)) η2 S3 with
    | none => rw [hb] at e3; cases e3
    | some w =>
      obtain ⟨o1, S4⟩ := w
      rw [hb] at e3
      refine ⟨o1, S4, hb, ?_⟩
      cases o1 with
      | nx η' => exact fun ρ4 H4 σ4 L4 R4 E4 => ⟨ρ4, η', S4, E4, R4, o3, S3', e3, q3.le L4⟩
      | ct η' => exact fun ρ4 H4 σ4 L4 R4 E4 => ⟨ρ4, η', S4, E4, R4, o3, S3', e3, q3.le L4⟩
      | bk η' => cases e3; exact fun ρ4 H4 σ4 L4 R4 E4 => q3 ρ4 H4 σ4 L4 R4 E4
      | rt d' => cases e3; exact q3
      | ex x' η' => cases e3; exact q3
end
end DL
end

section
namespace DL
open PySem L2 PySem.Spec PyProof.Rows
def rmv (H : Hp) (D : Addr) : Hp := fun b => if b = D then none else H b
theorem rmv_same {H : Hp} {D : Addr} : rmv H D D = none := if_pos rfl
theorem rmv_ne {H : Hp} {D b : Addr} (h : b ≠ D) : rmv H D b = H b := if_neg h
theorem rmv_upd {H : Hp} {D : Addr} {o : HO} (h : H D = none) : rmv (upd H D o) D = H := funext fun b => by
  by_cases e : b = D
  · subst e; rw [rmv_same, h]
  · rw [rmv_ne e, upd_ne e]
theorem upd_rmv {H : Hp} {D : Addr} {o : HO} (h : H D = some o) : upd (rmv H D) D o = H := funext fun b => by
  by_cases e : b = D
  · subst e; rw [upd_same, h]
  · rw [upd_ne e, rmv_ne e]
theorem rmv_sub {H : Hp} {D : Addr} : ∀ b o, rmv H D b = some o → H b = some o := fun b o e => by
  by_cases h : b = D
  · subst h; rw [rmv_same] at e; cases e
  · rwa [rmv_ne h] at e
theorem rmv_push {H : Hp} {D p : Addr} {o : HO} (h : p ≠ D) : rmv (upd H p o) D = upd (rmv H D) p o := funext fun b => by
  by_cases e : b = D
  · subst e; rw [rmv_same, upd_ne (Ne.symm h), rmv_same]
  · rw [rmv_ne e]
    by_cases e2 : b = p
    · subst e2; rw [upd_same, upd_same]
    · rw [upd_ne e2, upd_ne e2, rmv_ne e]
section
variable {X : Cx} {pins : List (Addr × Obj)} {σ : L2.St} {H : Hp} {s : Shared} {D : Addr} {xs : List V}
/-- a list, a dict by its keys: what it says looks at nothing else -/
def Hid (u : HO) : Prop := (∃ xs, u = .lst xs) ∨ ∃ kvs, u = .dK kvs
def StaysO (X : Cx) (D : Addr) (u : HO) (o : Obj) : Prop := ∀ (H' : Hp) (h' : Heap), h'.get? D = some o → ObjOk X.prog X.w H' h' D u
theorem Hid.obj {u : HO} (hu : Hid u) {h : Heap} (ok : ObjOk X.prog X.w H h D u) : ∃ o, h.get? D = some o ∧ StaysO X D u o ∧ ∀ v, ¬ o.data = .cell v := by
  rcases hu with ⟨xs, rfl⟩ | ⟨kvs, rfl⟩
  · obtain ⟨hz, its, n, rv, e⟩ := ok
    exact ⟨_, e, fun H' h' e' => ⟨hz, its, n, rv, e'⟩, fun v => by simp⟩
  · obtain ⟨z, y, vs, r, ob, es, ep, e, q⟩ := ok
    exact ⟨ob, e, fun H' h' e' => ⟨z, y, vs, r, ob, es, ep, e', q⟩, fun v => by rw [q.2.1]; simp⟩
theorem Hid.not {u : HO} (hu : Hid u) {v : HO} (hD : H D = some u) (e : H D = some v) (n : ¬ Hid v) : False := by
  rw [hD] at e
  cases e
  exact n hu
theorem noHid_tup {xs : List V} : ¬ Hid (.tup xs) := fun h => by rcases h with ⟨_, e⟩ | ⟨_, e⟩ <;> cases e
theorem noHid_frz {o : Obj} {u : HO} : ¬ Hid (.frz o u) := fun h => by rcases h with ⟨_, e⟩ | ⟨_, e⟩ <;> cases e
theorem noHid_tbl {ps} : ¬ Hid (.tbl ps) := fun h => by rcases h with ⟨_, e⟩ | ⟨_, e⟩ <;> cases e
theorem noHid_own {b : Addr} : ¬ Hid (.own b) := fun h => by rcases h with ⟨_, e⟩ | ⟨_, e⟩ <;> cases e
variable {u : HO}
theorem Inv.hide (I : L2.Inv X pins σ H s) (hu : Hid u) (hD : H D = some u) : ∃ o, StaysO X D u o ∧ L2.Inv X (pins ++ [(D, o)]) σ (rmv H D) s := by
  obtain ⟨ob, e, stays, ncell⟩ := hu.obj (I.hok D _ hD)
  have nfs : D ∉ X.fs := fun hb => by
    have : H D = none := I.stkFree D (by
      rcases I.ok.stk with h | ⟨h, _⟩
      · rw [h]; exact hb
      · rw [h]
        unfold frs
        rw [List.filterMap_cons]
        split
        · exact hb
        · exact List.mem_cons_of_mem _ hb)
    rw [hD] at this; cases this
  refine ⟨_, stays, ⟨I.ok, I.os, I.bare, ?_, I.loc, I.cell, ?_, ?_, ?_, ?_, I.len⟩⟩
  · refine ⟨I.base.keep, I.base.slot, fun b o q n1 n2 => ?_, I.base.there, fun b ys q => ?_, fun b o u q => ?_, fun b ps q => ?_⟩
    · unfold rmv; split
      · rfl
      · exact I.base.free b o q n1 n2
    · have := I.base.tups b ys q
      rw [rmv_ne (fun z => by subst z; exact hu.not hD this noHid_tup)]; exact this
    · have := I.base.frzs b o u q
      rw [rmv_ne (fun z => by subst z; exact hu.not hD this noHid_frz)]; exact this
    · obtain ⟨more, this⟩ := I.base.tbls b ps q
      exact ⟨more, by rw [rmv_ne (fun z => by subst z; exact hu.not hD this noHid_tbl)]; exact this⟩
  · unfold rmv; split
    · rfl
    · exact I.free
  · intro x c q
    unfold rmv; split
    · rfl
    · exact I.freeC x c q
  · intro p hp
    rw [← List.append_assoc] at hp
    rcases List.mem_append.mp hp with hp | hp
    · obtain ⟨h1, h2, h3⟩ := I.pin p hp
      refine ⟨h1, ?_, h3⟩
      unfold rmv; split
      · rfl
      · exact h2
    · rw [List.mem_singleton.mp hp]
      have hlo : D ≠ X.env.locals := fun z => by
        have := I.free
        rw [← z, hD] at this; cases this
      exact ⟨e, rmv_same, hlo, nfs, ncell⟩
  · intro b u q
    have hb : b ≠ D := fun z => by subst z; rw [rmv_same] at q; cases q
    rw [rmv_ne hb] at q
    exact (I.hok b u q).stay (fun c v _ q => q) (fun c q => by rw [rmv_ne (fun z => by subst z; exact hu.not hD q noHid_own)]; exact q) fun c ys q => by rw [rmv_ne (fun z => by subst z; exact hu.not hD q noHid_tup)]; exact q
theorem Inv.show_ {s1 : Shared} {σ1 : L2.St} {H1 : Hp} {o : Obj} (I : L2.Inv X pins σ H s) (hu : Hid u) (hD : H D = some u) (ho : StaysO X D u o)
    (J : L2.Inv X (pins ++ [(D, o)]) σ1 H1 s1) : H1 D = none ∧ L2.Inv X pins σ1 (upd H1 D u) s1 := by
  obtain ⟨hg, hn, hl, hf, _⟩ := J.pin (D, _) (List.mem_append_right _ (List.mem_append_right _ (List.mem_singleton.mpr rfl)))
  have ndl : D ≠ X.env.locals := hl
  refine ⟨hn, ⟨J.ok, J.os, J.bare, ?_, J.loc, J.cell, ?_, ?_, ?_, ?_, J.len⟩⟩
  · refine ⟨J.base.keep, J.base.slot, fun b o q n1 n2 => ?_, J.base.there, fun b ys q => ?_, fun b o u q => ?_, fun b ps q => ?_⟩
    · have hb : b ≠ D := fun z => by
        subst z
        have := I.base.free b o q n1 n2
        rw [hD] at this; cases this
      rw [upd_ne hb]; exact J.base.free b o q n1 n2
    · have := J.base.tups b ys q
      rw [upd_ne (fun z => by subst z; rw [hn] at this; cases this)]; exact this
    · have := J.base.frzs b o u q
      rw [upd_ne (fun z => by subst z; rw [hn] at this; cases this)]; exact this
    · obtain ⟨more, this⟩ := J.base.tbls b ps q
      exact ⟨more, by rw [upd_ne (fun z => by subst z; rw [hn] at this; cases this)]; exact this⟩
  · rw [upd_ne (Ne.symm ndl)]; exact J.free
  · intro x c q
    have : c ≠ D := fun z => by
      subst z
      have := I.freeC x c q
      rw [hD] at this; cases this
    rw [upd_ne this]; exact J.freeC x c q
  · intro p hp
    obtain ⟨h1, h2, h3⟩ := J.pin p (by rw [← List.append_assoc]; exact List.mem_append_left _ hp)
    have : p.1 ≠ D := fun z => by
      have := (I.pin p hp).2.1
      rw [z, hD] at this; cases this
    exact ⟨h1, by rw [upd_ne this]; exact h2, h3⟩
  · intro b u q
    by_cases hb : b = D
    · subst hb
      rw [upd_same] at q
      cases q
      exact ho _ _ hg
    · rw [upd_ne hb] at q
      exact (J.hok b u q).stay (fun c v _ q => q) (fun c q => by rw [upd_ne (fun z => by subst z; rw [hn] at q; cases q)]; exact q) fun c ys q => by rw [upd_ne (fun z => by subst z; rw [hn] at q; cases q)]; exact q
def hidE (t : TE) : TE := fun σ H Q => ∃ D u, Hid u ∧ H D = some u ∧ t σ (rmv H D) fun v H1 => H1 D = none → Q v (upd H1 D u)
def hidT (t : TT) : TT := fun σ H Q => ∃ D u, Hid u ∧ H D = some u ∧ t σ (rmv H D) fun v H1 => H1 D = none → Q v (upd H1 D u)
theorem pe_hide {e : Expr} {t : TE} (h : PE X e t) : PE X e (hidE t) := ⟨fun pins s σ H Q I ⟨D, u, hu, hD, q⟩ => by
  obtain ⟨o, ho, J⟩ := Inv.hide I hu hD
  refine thn (h.run _ s σ _ _ J q) fun v s1 ⟨x, H1, J1, r1, q1⟩ => ?_
  obtain ⟨hn, I1⟩ := Inv.show_ I hu hD ho J1
  exact ⟨x, _, I1, r1, q1 hn⟩⟩
theorem pt_hide {e : Expr} {t : TT} (h : PT X e t) : PT X e (hidT t) := ⟨fun pins s σ H Q I ⟨D, u, hu, hD, q⟩ => by
  obtain ⟨o, ho, J⟩ := Inv.hide I hu hD
  refine thn (h.run _ s σ _ _ J q) fun v s1 ⟨H1, J1, q1⟩ => ?_
  obtain ⟨hn, I1⟩ := Inv.show_ I hu hD ho J1
  exact ⟨_, I1, q1 hn⟩⟩
end
theorem wipe_at : ∀ (vs : List Nat) (σ : L2.St) (j : Nat), (wipe σ vs)[j]? = if j ∈ vs ∧ j < σ.length then some none else σ[j]?
  | [], σ, j => by simp [wipe]
  | v :: vs, σ, j => by
    unfold L2.wipe
    rw [List.getElem?_set]
    have hl := wipe_length σ vs
    by_cases e : v = j
    · subst e
      by_cases h : v < σ.length
      · simp [hl, h]
      · have h2 : σ[v]? = none := List.getElem?_eq_none (by omega)
        simp [hl, h, h2]
    · rw [if_neg e, wipe_at vs σ j]
      have : (j ∈ v :: vs) ↔ j ∈ vs := by simp [Ne.symm e]
      simp only [this]
theorem wipe_set {vs : List Nat} {σ : L2.St} {i : Nat} {x : Option V} (h : i ∈ vs) : wipe (σ.set i x) vs = wipe σ vs := by
  apply List.ext_getElem?
  intro j
  rw [wipe_at, wipe_at, List.length_set, List.getElem?_set]
  by_cases e : i = j
  · subst e
    by_cases hl : i < σ.length
    · simp [h, hl]
    · have : σ[i]? = none := List.getElem?_eq_none (by omega)
      simp [h, hl]
  · simp [e]
theorem wipe_wipe {vs : List Nat} {σ : L2.St} : wipe (wipe σ vs) vs = wipe σ vs := by
  apply List.ext_getElem?
  intro j
  rw [wipe_at, wipe_at, wipe_length]
  by_cases h : j ∈ vs ∧ j < σ.length
  · simp [h]
  · simp [h]
def setAllV : List Nat → List V → L2.St → L2.St
  | i :: is, v :: vs, σ => setAllV is vs (σ.set i (some v))
  | _, _, σ => σ
theorem wipe_setAll {vs : List Nat} : ∀ {is : List Nat} {xs : List V} {σ : L2.St}, (∀ i ∈ is, i ∈ vs) → wipe (setAllV is xs σ) vs = wipe σ vs
  | [], _, _, _ => by simp [setAllV]
  | i :: is, [], _, _ => by simp [setAllV]
  | i :: is, x :: xs, σ, h => by
    unfold setAllV
    rw [wipe_setAll (fun j hj => h j (by simp [hj])), wipe_set (h i (by simp))]
theorem RepE.setAll {G : Gm} {ρ : List Addr} {H : Hp} : ∀ {is : List Nat} {ds : List D} {xs : List V} {η : En} {σ : L2.St}, RepE G ρ H η σ → RepL G ρ H ds xs → RepE G ρ H (setAll is ds η) (setAllV is xs σ)
  | [], ds, xs, η, σ, e, r => by unfold DL.setAll setAllV; exact e
  | i :: is, [], xs, η, σ, e, r => by
    unfold RepL at r
    subst r
    unfold DL.setAll setAllV; exact e
  | i :: is, d :: ds, xs, η, σ, e, r => by
    unfold RepL at r
    obtain ⟨v, w, rfl, r1, r2⟩ := r
    unfold DL.setAll setAllV
    exact RepE.setAll (e.set i r1) r2
section
variable {T : Tab} {G : Gm} {k : Nat} {c : Str → List D → M D} {X : Cx} {Γ : Sc} {W : WX} {E : Evs}
/-- a name's store -/
theorem pg_slot (g : Good T G k c X Γ W) {e : Expr} {i : Nat} (h : nameSlot Γ e = some i) : PG X e (gName i) ∧ notStar e = true := by
  cases e with
  | Name x pos =>
    have h : Γ.put x = some i := h
    unfold Sc.put at h
    split at h
    · rename_i hc
      rw [Bool.and_eq_true] at hc
      have hN : X.N[i]? = some x := by rw [g.N]; exact idxOf_some h
      exact ⟨pg_name (i := i) g.nd hN (by show X.env.scope.names.lookup x = _ ∨ _; rw [g.sc]; exact loc_of hc.1) (g.own x hc.2), rfl⟩
    · cases h
  | _ => cases h
def gSets (is : List Nat) : TGs := fun vs σ H Q => vs.length = is.length ∧ Q (setAllV is vs σ) H
theorem pgs_slots (g : Good T G k c X Γ W) : ∀ {es : List Expr} {is : List Nat}, es.mapM (nameSlot Γ) = some is → PGs X es (gSets is) ∧ es.all notStar = true ∧ es.length = is.length
  | [], is, h => by
    simp at h
    subst h
    refine ⟨pgs_nil.imp fun vs σ H Q ⟨hl, q⟩ => ?_, rfl, rfl⟩
    have : vs = [] := List.length_eq_zero_iff.mp hl
    subst this
    exact ⟨rfl, q⟩
  | e :: es, is, h => by
    rw [List.mapM_cons] at h
    cases h1 : nameSlot Γ e with
    | none => simp [h1] at h
    | some i =>
      cases h2 : es.mapM (nameSlot Γ) with
      | none => simp [h1, h2] at h
      | some js =>
        simp [h1, h2] at h
        subst h
        obtain ⟨p1, n1⟩ := pg_slot g h1
        obtain ⟨p2, n2, l2⟩ := pgs_slots g h2
        refine ⟨(pgs_cons p1 p2 (assignEach_cons n1)).imp fun vs σ H Q ⟨hl, q⟩ => ?_, by rw [List.all_cons, n1, n2] <;> rfl, by simp [l2]⟩
        cases vs with
        | nil => simp at hl
        | cons v vs => exact ⟨v, vs, rfl, by simpa using hl, q⟩
/-- a comprehension's target -/
def gTgt (K : PySem.W.Frag) : Tgt → TG
  | .nm i => gName i
  | .tp is => fun v σ H Q => (∃ a xs, v = .ref a ∧ (SqT K H a xs ∨ SqL K H a xs) ∧ xs.length = is.length ∧ Q (setAllV is xs σ) H)
theorem pg_tgt (g : Good T G k c X Γ W) {tg : Expr} {t : Tgt} (h : tgOf Γ tg = some t) : PG X tg (gTgt X.K t) := by
  cases tg with
  | Name x pos =>
    obtain ⟨i, hi, rfl⟩ := Option.map_eq_some_iff.mp h
    exact (pg_slot g (e := .Name x pos) hi).1
  | Tuple es kk pos =>
    obtain ⟨is, hi, rfl⟩ := Option.map_eq_some_iff.mp h
    obtain ⟨p, hs, hl⟩ := pgs_slots g hi
    obtain ⟨l1, f1⟩ := assignEach_plain (env := X.env) hs
    refine ⟨fun pins s σ H v u Q I r ⟨a, xs, e, hq, hlen, q⟩ => ?_⟩
    rcases hq with hq | hq
    · exact (pg_tup g.calm p (l1.trans hl) f1).run pins s σ H v u Q I r ⟨a, xs, e, hq, hlen, hlen, q⟩
    · exact (pg_lst g.calm p (l1.trans hl) f1).run pins s σ H v u Q I r ⟨a, xs, e, hq, hlen, hlen, q⟩
  | _ => cases h
/-- .. and what it does to the data -/
theorem tgt_run {t : Tgt} {d : D} {η η' : En} {S S' : Store} {ρ : List Addr} {H Hx : Hp} {σ : L2.St} {x : V} {own : List Nat} {Q : L2.St → Hp → Prop} (hG : G.K = X.K) (ho : t.all (fun i => own.contains i) = true) (h : t.set d η S = some (.v η', S')) (R : Rel G ρ H S) (E0 : RepE G ρ H η σ) (r : Rep G ρ H d x) (hs : ∀ b o, H b = some o → Hx b = some o)
    (q : ∀ σ', S' = S → RepE G ρ H η' σ' → wipe σ' own = wipe σ own → Q σ' Hx) : gTgt X.K t x σ Hx Q := by
  cases t with
  | nm i =>
    cases h
    exact q _ rfl (E0.set i r) (wipe_set (by simpa [Tgt.all] using ho))
  | tp is =>
    obtain ⟨xs, S1, e1, e2⟩ := bind_v (show M.bind (seqOf d) (fun xs => if xs.length = is.length then M.pure (setAll is xs η) else M.fail) S = _ from h)
    obtain ⟨rfl, a, ys, rfl, hq, l⟩ := seqOf_sq R r e1
    split at e2
    · rename_i hl
      obtain ⟨rfl, rfl⟩ := pure_v e2
      have up : SqT X.K Hx a ys ∨ SqL X.K Hx a ys := by
        rw [hG] at hq
        rcases hq with z | z
        · rcases z with z | z
          · exact .inr (.inl (Rd.up hs z))
          · exact .inr (.inr z)
        · rcases z with z | z
          · exact .inl (.inl (Rd.up hs z))
          · exact .inl (.inr z)
      exact ⟨a, ys, rfl, up, by rw [l.length]; exact hl, q _ rfl (E0.setAll l) (wipe_setAll fun i hi => by
        have := List.all_eq_true.mp (show is.all (fun i => own.contains i) = true from ho) i hi
        simpa using this)⟩
    · exact absurd e2 fail_no
/-- within a comprehension -/
theorem Good.blk (g : Good T G k c X Γ W) {scope : Scope} (hk : scope.kind = .function) (s : Shared) (H : Hp) (C : Addr) (cl : List (Str × Addr)) (fp : List Addr) : Good T G k c (X.blk s H scope (compEnvC scope cl C X.env) fp) (Γ.inner scope) (fun _ _ _ _ => False) := by
  refine ⟨g.K, g.mg, g.N, g.nd, ?_, hk, fun x hx => ?_, g.calm, g.grd, g.room, ?_, g.text, g.calls⟩
  · show relS scope X.env.scope = relS scope Γ.sc
    rw [g.sc]
  · rcases loc_of hx with h | h
    · exact .inr (lookup_relS_keep (sc := X.env.scope) (fun z => nomatch z) h)
    · refine .inl ?_
      show ((scope.names.lookup x) == some NameKind.cell) = true
      rw [show scope.names.lookup x = some NameKind.cell from h]
      rfl
  · rintro u s' ⟨a, B, sI, pins, σ, H, cls, d, e, I, nb, up, sky, na, os, ag, w⟩
    exact w
theorem comp_turn {nx : Nx} {turn : D → M (Option D)} {f i : Nat} {acc ys : List D} {S S' : Store} (h : compLoop nx turn f i acc S = some (.v ys, S')) :
    ∃ f', f = f' + 1 ∧ ((nx S i = some none ∧ ys = acc ∧ S' = S) ∨ ∃ d o S1, nx S i = some (some d) ∧ turn d S = some (.v o, S1) ∧
      ((∃ y, o = some y ∧ acc.length < sizeLine ∧ compLoop nx turn f' (i + 1) (acc ++ [y]) S1 = some (.v ys, S')) ∨ (o = none ∧ compLoop nx turn f' (i + 1) acc S1 = some (.v ys, S')))) := by
  cases f with
  | zero => cases h
  | succ f =>
    refine ⟨f, rfl, ?_⟩
    unfold compLoop at h
    cases h1 : nx S i with
    | none => rw [h1] at h; cases h
    | some z =>
      rw [h1] at h
      cases z with
      | none => cases h; exact .inl ⟨rfl, rfl, rfl⟩
      | some d =>
        simp only at h
        cases h2 : turn d S with
        | none => rw [h2] at h; cases h
        | some w =>
          obtain ⟨r, S1⟩ := w
          rw [h2] at h
          cases r with
          | ex x => cases h
          | v o =>
            refine .inr ⟨d, o, S1, rfl, h2, ?_⟩
            cases o with
            | none => exact .inr ⟨rfl, h⟩
            | some y =>
              simp only at h
              by_cases hz : acc.length < sizeLine
              · rw [if_pos hz] at h; exact .inl ⟨y, rfl, hz, h⟩
              · rw [if_neg hz] at h; cases h
theorem noex_comp {nx : Nx} {turn : D → M (Option D)} : ∀ (f i : Nat) (acc : List D), NoEx (fun S => compLoop nx turn f i acc S)
  | 0, i, acc => fun S x S' h => by cases h
  | f + 1, i, acc => fun S x S' h => by
    have h : compLoop nx turn (f + 1) i acc S = some (.ex x, S') := h
    unfold compLoop at h
    cases h1 : nx S i with
    | none => rw [h1] at h; cases h
    | some z =>
      rw [h1] at h
      cases z with
      | none => cases h
      | some d =>
        simp only at h
        cases h2 : turn d S with
        | none => rw [h2] at h; cases h
        | some w =>
          obtain ⟨r, S1⟩ := w
          rw [h2] at h
          cases r with
          | ex x => cases h
          | v o =>
            cases o with
            | none => exact noex_comp f (i + 1) acc S1 x S' h
            | some y =>
              simp only at h
              by_cases hz : acc.length < sizeLine
              · rw [if_pos hz] at h; exact noex_comp f (i + 1) (acc ++ [y]) S1 x S' h
              · rw [if_neg hz] at h; cases h
/-- the tests of a comprehension -/
theorem pts_D (g : Good T G k c X Γ W) (sn : Snd T G k c E) (ifs : List Expr) (hl : ifs.length ≤ 1) : PTs X ifs (hidT (DT G W (evIfs E Γ ifs))) := by
  match ifs, hl with
  | [], _ => exact ⟨fun pins s σ H Q I ⟨D, u, hu, hD, ρ, η, S, E0, R, h⟩ => pts_nil.run pins s σ H Q I (by
      have := h.now R rfl rmv_same
      rw [upd_rmv hD] at this
      exact this)⟩
  | [t], _ => exact pts_one (pt_hide (sn.t X Γ W t g))
theorem comp_core (g : Good T G k c X Γ W) (sn : Snd T G k c E) {st : Bool} {elt tg it : Expr} {ifs : List Expr} {scope : Scope} {t : Tgt} {σ : L2.St} {H : Hp} {Q : VK} (ho : t.all (fun i => ((ownSlots Γ.N scope).map (·.2)).contains i) = true)
    (h : DE G W (fun η => M.bind (evSrc T E Γ tg it η) fun src => M.bind (fun S => compLoop src.nx (compTurn E (Γ.inner scope) t ((ownSlots Γ.N scope).map (·.2)) elt ifs η) (src.fuel S) 0 [] S) (newLst st)) σ H Q) :
    tLc (DI G W (evSrc T E Γ tg it)) (gTgt X.K t) (hidT (DT G (fun _ _ _ _ => False) (evIfs E (Γ.inner scope) ifs))) (hidE (DE G (fun _ _ _ _ => False) (E.e (Γ.inner scope) elt))) ((ownSlots Γ.N scope).map (·.2)) σ H Q := by
  obtain ⟨ρ, η, S, E0, R, h⟩ := h
  generalize hown : (ownSlots Γ.N scope).map (·.2) = own at *
  refine ⟨ρ, η, S, E0, R, (RunM.bind (rel := srcOk G) h).mono fun J H1 ⟨ρ1, S1, src, L1, R1, sk, h1⟩ => ?_⟩
  intro D hD
  let turn := compTurn E (Γ.inner scope) t own elt ifs η
  have noexN : ∀ ys, NoEx (newLst st ys) := fun ys => noex_ite (noex_alloc _) (noex_pure _)
  have start : ∃ ys S', compLoop src.nx turn (src.fuel S1) 0 [] S1 = some (.v ys, S') ∧ RunV G (Rep G) (M.bind (fun S => compLoop src.nx turn (src.fuel S) 0 [] S) (newLst st)) ρ1 H1 S1 Q := by
    have hv : RunV G (Rep G) (M.bind (fun S => compLoop src.nx turn (src.fuel S) 0 [] S) (newLst st)) ρ1 H1 S1 Q := h1.v (noex_bind (fun S x S' => noex_comp _ _ _ S x S') fun ys => noexN ys)
    obtain ⟨ys, S', e, _⟩ := run_bind hv
    exact ⟨ys, S', e, hv⟩
  obtain ⟨ys0, S0, e0, hv⟩ := start
  have hfin : RunV G (Rep G) (newLst st ys0) ρ1 H1 S0 Q := by
    obtain ⟨b, S', e, q⟩ := hv
    obtain ⟨a, S2, e1, e2⟩ := bind_v e
    have : compLoop src.nx turn (src.fuel S1) 0 [] S1 = some (.v a, S2) := e1
    rw [e0] at this
    cases this
    exact ⟨b, S', e2, q⟩
  refine ⟨fun i m H => ∃ ρ2 S2 acc accV, H D = some (.lst accV) ∧ RepE G ρ2 (rmv H D) η σ ∧ Rel G ρ2 (rmv H D) S2 ∧ Le ρ1 H1 ρ2 (rmv H D) ∧ RepL G ρ2 (rmv H D) acc accV ∧ compLoop src.nx turn m i acc S2 = some (.v ys0, S0),
    ⟨src.fuel S1, ρ1, S1, [], [], upd_same, ?_, ?_, ?_, ?_, e0⟩, fun i m H2 ⟨ρ2, S2, acc, accV, hD2, E2, R2, L2', l2, e2⟩ => ?_⟩
  · rw [rmv_upd hD]; exact E0.le L1
  · rw [rmv_upd hD]; exact R1
  · rw [rmv_upd hD]; exact Le.refl
  · rw [rmv_upd hD]; exact .nil
  obtain ⟨f, rfl, hh⟩ := comp_turn e2
  obtain ⟨s1, s2⟩ := sk ρ2 (rmv H2 D) S2 H2 L2' R2 rmv_sub i
  rcases hh with ⟨hz, rfl, rfl⟩ | ⟨d, o, S3, hd, ht, hh⟩
  · refine .inl ⟨s1 hz, ?_⟩
    have hfin2 : RunV G (Rep G) (if st = true then alloc (.lst ys0) else M.pure (.lst ys0)) ρ2 (rmv H2 D) S0 Q := by
      obtain ⟨b, S', e, q⟩ := hfin
      exact ⟨b, S', e, fun ρ' H' b' L' R' r' => q ρ' H' b' (L2'.trans L') R' r'⟩
    have := newL R2 l2 hfin2 D rmv_same
    rw [upd_rmv hD2] at this
    exact this
  · obtain ⟨go, y⟩ := s2 d hd
    refine .inr ⟨go, fun H' => ∃ ρ2 S2 acc accV, H' D = some (.lst accV) ∧ RepE G ρ2 (rmv H' D) η σ ∧ Rel G ρ2 (rmv H' D) S2 ∧ Le ρ1 H1 ρ2 (rmv H' D) ∧ RepL G ρ2 (rmv H' D) acc accV ∧ compLoop src.nx turn f (i + 1) acc S2 = some (.v ys0, S0),
      fun H' n => ⟨f, Nat.lt_succ_self f, n⟩, fun x H3 hy => ?_⟩
    have key : H3 D = some (.lst accV) ∧ Rel G ρ2 (rmv H3 D) S2 ∧ Le ρ2 (rmv H2 D) ρ2 (rmv H3 D) ∧ Rep G ρ2 (rmv H3 D) d x := by
      rcases y x H3 hy with ⟨rfl, r⟩ | ⟨p, tt, np, rfl, r⟩
      · exact ⟨hD2, R2, Le.refl, r⟩
      · have hp : p ≠ D := fun z => by subst z; rw [hD2] at np; cases np
        rw [rmv_push hp]
        obtain ⟨R', L'⟩ := R2.out (p := p) (o := .tup tt) (by rw [rmv_ne hp]; exact np)
        exact ⟨by rw [upd_ne (Ne.symm hp)]; exact hD2, R', L', r⟩
    obtain ⟨hD3, R3, L3, r3⟩ := key
    obtain ⟨η', S4, t1, t2⟩ := bind_v (show M.bind (t.set d (wipeE η own)) (fun η' => M.bind (evIfs E (Γ.inner scope) ifs η') fun b => if b = true then M.bind (E.e (Γ.inner scope) elt η') fun y => M.pure (some y) else M.pure none) S2 = _ from ht)
    refine tgt_run (X := X) g.K ho t1 R3 ((E2.le L3).wipe own) r3 rmv_sub fun σ4 hS E4 hw => ⟨by rw [hw, wipe_wipe], ?_⟩
    subst hS
    obtain ⟨b, S5, t3, t4⟩ := bind_v t2
    refine ⟨D, _, .inl ⟨accV, rfl⟩, hD3, ρ2, η', S4, E4, R3, .v b, S5, t3, fun ρ5 H5 b' L5 R5 hb hn => ?_⟩
    subst hb
    cases b' with
    | false =>
      rw [if_neg Bool.false_ne_true] at t4 ⊢
      obtain ⟨rfl, rfl⟩ := pure_v t4
      rcases hh with ⟨y, hy, _⟩ | ⟨_, hh⟩
      · cases hy
      · refine ⟨ρ5, S5, acc, accV, upd_same, ?_, ?_, ?_, ?_, hh⟩
        · rw [rmv_upd hn]; exact E2.le (L3.trans L5)
        · rw [rmv_upd hn]; exact R5
        · rw [rmv_upd hn]; exact (L2'.trans L3).trans L5
        · rw [rmv_upd hn]; exact RepL.le (L3.trans L5) _ l2
    | true =>
      rw [if_pos rfl] at t4 ⊢
      obtain ⟨yd, S6, t5, t6⟩ := bind_v t4
      obtain ⟨rfl, rfl⟩ := pure_v t6
      rcases hh with ⟨y', hy, hz, hh⟩ | ⟨hy, _⟩
      · cases hy
        refine ⟨D, _, .inl ⟨accV, rfl⟩, upd_same, ρ5, η', S5, ?_, ?_, .v yd, S6, t5, fun ρ6 H6 yv L6 R6 r6 hn6 => ?_⟩
        · rw [rmv_upd hn]; exact E4.le L5
        · rw [rmv_upd hn]; exact R5
        · rw [rmv_upd hn] at L6
          refine ⟨accV, upd_same, by rw [l2.length]; exact hz, ρ6, S6, acc ++ [yd], accV ++ [yv], upd_same, ?_⟩
          have e6 : rmv (upd (upd H6 D (.lst accV)) D (.lst (accV ++ [yv]))) D = H6 := by
            funext z
            by_cases ez : z = D
            · subst ez; rw [rmv_same, hn6]
            · rw [rmv_ne ez, upd_ne ez, upd_ne ez]
          rw [e6]
          exact ⟨E2.le ((L3.trans L5).trans L6), R6, ((L2'.trans L3).trans L5).trans L6, (RepL.le ((L3.trans L5).trans L6) _ l2).append (.cons r6 .nil), hh⟩
      · cases hy
theorem pe_compD (g : Good T G k c X Γ W) (sn : Snd T G k c E) {st : Bool} {elt tg it : Expr} {ifs : List Expr} {scope : Scope} {pos : Pos} : PE X (.ListComp elt [⟨tg, it, ifs, 0⟩] scope pos) (DE G W (evComp T E Γ st elt tg it ifs scope)) := by
  unfold evComp
  split
  · rename_i t ht
    refine pe_if_ fun hc => ?_
    simp only [Bool.and_eq_true, decide_eq_true_eq] at hc
    obtain ⟨⟨⟨hn, hb⟩, hi⟩, ho⟩ := hc
    have ok : BlkOk X.N X.env.scope scope (ownSlots Γ.N scope) := by rw [g.N, g.sc]; exact blkOk_by hb
    refine (pe_lc g.calm g.nd (pi_srcD g sn it) ok (fun s H C cl fp => ?_) (fun s H C cl fp => ?_) (fun s H C cl fp => ?_) (folded_plain hn)).imp fun σ H Q h => comp_core g sn ho h
    · exact pg_tgt (g.blk ok.kind s H C cl fp) ht
    · exact pts_D (g.blk ok.kind s H C cl fp) sn ifs hi
    · exact pe_hide (sn.e _ _ _ elt (g.blk ok.kind s H C cl fp))
  · exact pe_never
end
end DL
end

section
namespace DL
open PySem L2 PySem.Spec PyProof.Rows
section
variable {T : Tab} {G : Gm} {k : Nat} {c : Str → List D → M D} {X : Cx} {Γ : Sc} {W : WX} {E : Evs}
theorem Good.blkKind (g : Good T G k c X Γ W) : X.env.blockKind = .function := by unfold Env.blockKind; rw [g.kd]; rfl
theorem swap_eq {ts vs : List Expr} {k1 k2 : Nat} {p1 p2 : Pos} {env : Env} : swappedStores [.Tuple ts k1 p1] (.Tuple vs k2 p2) env = (
    if (!(ts.length == 2 || ts.length == 3) || vs.length != ts.length || env.blockKind != .function) = true then pure none else
    if (vs.any fun | .Starred .. => true | _ => false) = true then pure none else
    if ((swNames env.kindOf ts).length != ts.length || (swNames env.kindOf ts).eraseDups.length != (swNames env.kindOf ts).length) = true then pure none else
    if vs.all (foldedForSure 8) = true then pure none else
    if vs.all (constantsAlone 8) = true then ((unsupported "assign.tuple-of-constant-expressions:order-of-the-stores" : Sem PUnit) >>= fun _ => pure (some (swNames env.kindOf ts))) else
    pure (some (swNames env.kindOf ts))) := by
  unfold swappedStores
  rfl
theorem any_star : ∀ {vs : List Expr}, vs.all notStar = true → (vs.any fun | .Starred .. => true | _ => false) = false
  | [], _ => rfl
  | v :: vs, h => by
    rw [List.all_cons, Bool.and_eq_true] at h
    rw [List.any_cons, any_star h.2, Bool.or_false]
    cases v <;> first
      | rfl
      | exact absurd h.1 Bool.false_ne_true
theorem swap_is (g : Good T G k c X Γ W) {tg e : Expr} {r : Option (List Str)} (h : swapNames Γ tg e = some r) : swappedStores [tg] e X.env = pure r := by
  have hk : X.env.kindOf = Γ.kindOf := funext fun x => by show X.env.scope.names.lookup x = _; rw [g.sc] <;> rfl
  by_cases ht : ∃ ts k1 p1 vs k2 p2, tg = .Tuple ts k1 p1 ∧ e = .Tuple vs k2 p2
  · obtain ⟨ts, k1, p1, vs, k2, p2, rfl, rfl⟩ := ht
    rw [swap_eq, hk, g.blkKind]
    have h : (if (!(ts.length == 2 || ts.length == 3) || vs.length != ts.length) = true then some none
      else if (vs.all notStar) = false then none
      else if ((swNames Γ.kindOf ts).length != ts.length || (swNames Γ.kindOf ts).eraseDups.length != (swNames Γ.kindOf ts).length) = true then some none
      else if vs.all (foldedForSure 8) = true then some none
      else if vs.all (constantsAlone 8) = true then none
      else some (some (swNames Γ.kindOf ts))) = some r := h
    have e0 : (ScopeKind.function != ScopeKind.function) = false := rfl
    rw [e0, Bool.or_false]
    split at h
    · rename_i c1
      cases h
      rw [if_pos c1]
    · rename_i c1
      rw [if_neg c1]
      split at h
      · cases h
      · rename_i c2
        rw [any_star (by simpa using c2), if_neg Bool.false_ne_true]
        split at h
        · rename_i c3
          cases h
          rw [if_pos c3]
        · rename_i c3
          rw [if_neg c3]
          split at h
          · rename_i c4
            cases h
            rw [if_pos c4]
          · rename_i c4
            rw [if_neg c4]
            split at h
            · cases h
            · rename_i c5
              cases h
              rw [if_neg c5]
  · unfold swapNames at h
    unfold swappedStores
    cases tg <;> cases e <;> first
      | exact absurd ⟨_, _, _, _, _, _, rfl, rfl⟩ ht
      | (cases h <;> rfl)
theorem assign_slots (g : Good T G k c X Γ W) {A : Around} {Ex : Value → Shared → Prop} {pins : List (Addr × Obj)} {H : Hp} {Q : Unit → Shared → Prop} : ∀ {ns : List Str} {is : List Nat} {vs : List V} {us : List Value} {σ : L2.St} {s : Shared}, ns.mapM Γ.put = some is → Vals vs us → vs.length = is.length → L2.Inv X pins σ H s →
    (∀ s', L2.Inv X pins (setAllV is vs σ) H s' → Q () s') → wpAny (model X.prog X.w) A (assignInOrder (ns.map fun n v => bindName X.env n v) us) Q Ex s
  | [], is, vs, us, σ, s, h, r, hl, I, q => by
    simp at h
    subst h
    have : vs = [] := List.length_eq_zero_iff.mp hl
    subst this
    cases r
    exact assignInOrder_nil (q s I)
  | n :: ns, is, vs, us, σ, s, h, r, hl, I, q => by
    rw [List.mapM_cons] at h
    cases h1 : Γ.put n with
    | none => simp [h1] at h
    | some i =>
      cases h2 : ns.mapM Γ.put with
      | none => simp [h1, h2] at h
      | some js =>
        simp [h1, h2] at h
        subst h
        cases r with
        | nil => simp at hl
        | cons r1 r2 =>
          unfold Sc.put at h1
          split at h1
          · rename_i hc
            rw [Bool.and_eq_true] at hc
            have hN : X.N[i]? = some n := by rw [g.N]; exact idxOf_some h1
            refine assignInOrder_cons (wpAny_bindName (store_ok I g.nd hN (by show X.env.scope.names.lookup n = _ ∨ _; rw [g.sc]; exact loc_of hc.1) r1 (fun s2 I2 => ?_) (g.own n hc.2)))
            exact assign_slots g h2 r2 (by simpa using hl) I2 q
          · cases h1
theorem vals_rev {xs : List V} {us : List Value} (r : Vals xs us) : Vals xs.reverse us.reverse := by
  induction r with
  | nil => exact .nil
  | cons r1 r2 ih =>
    rw [List.reverse_cons, List.reverse_cons]
    exact ih.append (.cons r1 .nil)
theorem RepL.rev {ρ : List Addr} {H : Hp} : ∀ {ds : List D} {vs : List V}, RepL G ρ H ds vs → RepL G ρ H ds.reverse vs.reverse
  | [], vs, r => by unfold RepL at r; subst r; exact .nil
  | d :: ds, vs, r => by
    unfold RepL at r
    obtain ⟨v, w, rfl, r1, r2⟩ := r
    rw [List.reverse_cons, List.reverse_cons]
    exact (RepL.rev r2).append (.cons r1 .nil)
/-- a, b = x, y: stored from the right -/
theorem ps_swapD (g : Good T G k c X Γ W) (sn : Snd T G k c E) {tg e : Expr} {names : List Str} {is : List Nat} {pos : Pos} (h1 : swapsWithSole [tg] e pos.line X.env = pure false) (h2 : swappedStores [tg] e X.env = pure (some names)) (h3 : names.reverse.mapM Γ.put = some is) :
    PS X (.Assign [tg] e pos) (DS G W fun η => liftS (E.e Γ e η) η fun d => liftS (tupOf d) η fun xs S => if xs.length = is.length then some (.nx (setAll is xs.reverse η), S) else none) := by
  refine ⟨fun pins s σ H D I ⟨ρ, η, S, E0, R, hr⟩ => ?_⟩
  rw [exec_Assign_arm]
  refine wpAny_bind (wpAny_standAt ?_)
  rw [h1]
  refine wpAny_bind (wpAny_pure ?_)
  rw [if_neg Bool.false_ne_true]
  refine wpAny_bind (thn ((sn.e X Γ W e g).run pins s σ H _ I ⟨ρ, η, S, E0, R, RunS.lift (rel := Rep G) E0 hr⟩) fun u s1 ⟨x, H1, I1, ru, ρ1, S1, d, L1, R1, r1, hr1⟩ => ?_)
  rw [h2]
  refine wpAny_bind (wpAny_pure ?_)
  obtain ⟨o, S', e2, q⟩ := hr1
  cases d with
  | tup xs =>
    have e2 : (if xs.length = is.length then some (Out.nx (setAll is xs.reverse η), S1) else none) = some (o, S') := e2
    split at e2
    · rename_i hl
      cases e2
      unfold Rep at r1
      obtain ⟨a, ys, rfl, hq, l⟩ := r1
      obtain rfl : u = Value.ref a := ru
      obtain ⟨its, rv, pt, _⟩ := I1.tuple (g.K ▸ hq.sq)
      have hil : is.length = names.length := by
        have : ∀ {ns : List Str} {js : List Nat}, ns.mapM Γ.put = some js → js.length = ns.length := by
          intro ns
          induction ns with
          | nil => intro js h; simp at h; subst h; rfl
          | cons n ns ih =>
            intro js h
            rw [List.mapM_cons] at h
            cases h1 : Γ.put n with
            | none => simp [h1] at h
            | some i =>
              cases h2 : ns.mapM Γ.put with
              | none => simp [h1, h2] at h
              | some js2 =>
                simp [h1, h2] at h
                subst h
                simp [ih h2]
        rw [this h3, List.length_reverse]
      have hsz : names.length = its.toArray.size := by
        rw [List.size_toArray, ← rv.length, l.length, hl, hil]
      show wpAny _ _ (do rule "assign.swapped-stores"; let items ← unpackItems (.ref a) names.length none; assignInOrder (names.reverse.map fun n v => bindName X.env n v) items.reverse; pure Flow.next) _ _ _
      rw [hsz]
      refine wpAny_bind (wpAny_rule (wpAny_bind (unpackItems_tuple (items := its.toArray) (I1.ok.hd g.calm) pt fun h' hx' => ?_)))
      have I3 : L2.Inv X pins σ H1 { s1 with heap := h' } := I1.kept (t' := s1.toks) fun b o e => hx' b o (Nat.ne_of_lt (Heap.lt_size e)) e
      refine wpAny_bind (assign_slots g h3 (vals_rev (by simpa using rv)) (by rw [List.length_reverse, l.length]; exact hl) I3 fun s' I' => wpAny_pure ?_)
      exact ⟨_, H1, I', q ρ1 H1 _ Le.refl R1 ((E0.le L1).setAll l.rev)⟩
    · cases e2
  | _ => cases e2
/-- name = [.. for ..] -/
theorem sw_comp (g : Good T G k c X Γ W) {elt : Expr} {gs : List Comprehension} {scope : Scope} {p py : Pos} {y : Str} {l : Nat} :
    swapsWith (.ListComp elt gs scope p) (some (.Name y py)) l X.env = pure (X.env.blockKind == .function && X.env.kindOf y == some .local && py.line == p.line && !(scope.names.any fun (n, k) => n == y && (k == .local || k == .cell))) := rfl
theorem ps_compD (g : Good T G k c X Γ W) (sn : Snd T G k c E) {st : Bool} {tg elt tg' it : Expr} {ifs : List Expr} {scope : Scope} {p pos : Pos} :
    PS X (.Assign [tg] (.ListComp elt [⟨tg', it, ifs, 0⟩] scope p) pos) (DS G W (asgComp E Γ (evComp T E Γ st elt tg' it ifs scope) tg)) := by
  have other : (∀ y py, tg ≠ .Name y py) → swapsWithSole [tg] (.ListComp elt [⟨tg', it, ifs, 0⟩] scope p) pos.line X.env = pure false := fun hn => by
    show swapsWith (.ListComp elt [⟨tg', it, ifs, 0⟩] scope p) (some tg) pos.line X.env = pure false
    unfold swapsWith
    cases tg <;> first
      | rfl
      | exact absurd rfl (hn _ _)
  have sole : swappedStores [tg] (.ListComp elt [⟨tg', it, ifs, 0⟩] scope p) X.env = pure none := by
    unfold swappedStores
    cases tg <;> rfl
  unfold asgComp
  split
  · rename_i y py
    split
    · rename_i i hi
      unfold Sc.put at hi
      split at hi
      · rename_i hc
        rw [Bool.and_eq_true] at hc
        have hN : X.N[i]? = some y := by rw [g.N]; exact idxOf_some hi
        have pg : PG X (.Name y py) (gName i) := pg_name (i := i) g.nd hN (by show X.env.scope.names.lookup y = _ ∨ _; rw [g.sc]; exact loc_of hc.1) (g.own y hc.2)
        have fin : ∀ {D : Ends} {σ : L2.St} {H : Hp} {ρ : List Addr} {η : En} {S : Store}, RepE G ρ H η σ → Rel G ρ H S → RunS G W (liftS (evComp T E Γ st elt tg' it ifs scope η) η fun d S => some (.nx (η.set i (some d)), S)) ρ H S D →
            DE G W (evComp T E Γ st elt tg' it ifs scope) σ H fun x H1 => gName i x σ H1 D.nx := fun {D σ H ρ η S} E0 R hr => ⟨ρ, η, S, E0, R, (RunS.lift (rel := Rep G) E0 hr).mono fun v H1 ⟨ρ1, S1, a, L1, R1, r1, o, S', e, q⟩ => by
          cases e
          exact q ρ1 H1 _ Le.refl R1 ((E0.le L1).set i r1)⟩
        cases hb : (X.env.blockKind == .function && X.env.kindOf y == some .local && py.line == p.line && !(scope.names.any fun (n, k) => n == y && (k == .local || k == .cell))) with
        | false =>
          refine (ps_asg (pe_compD (st := st) g sn) pg (by show swapsWith (.ListComp elt [⟨tg', it, ifs, 0⟩] scope p) (some (.Name y py)) pos.line X.env = pure false; rw [sw_comp g, hb]) sole (by rfl)).imp fun D σ H ⟨ρ, η, S, E0, R, hr⟩ => fin E0 R hr
        | true =>
          have hloc : X.env.scope.names.lookup y = some .local := by
            simp only [Bool.and_eq_true] at hb
            exact LawfulBEq.eq_of_beq hb.1.1.2
          by_cases hcond : ∃ t, tgOf (Γ.inner scope) tg' = some t ∧ (notSet it && blkC Γ.N Γ.sc scope (ownSlots Γ.N scope) && decide (ifs.length ≤ 1) && t.all fun i => ((ownSlots Γ.N scope).map (·.2)).contains i) = true
          · obtain ⟨t, ht, hc2⟩ := hcond
            have he : evComp T E Γ st elt tg' it ifs scope = fun η => M.bind (evSrc T E Γ tg' it η) fun src => M.bind (fun S => compLoop src.nx (compTurn E (Γ.inner scope) t ((ownSlots Γ.N scope).map (·.2)) elt ifs η) (src.fuel S) 0 [] S) (newLst st) := by
              unfold evComp
              simp only [ht]
              rw [if_pos hc2]
            simp only [Bool.and_eq_true, decide_eq_true_eq] at hc2
            obtain ⟨⟨⟨hn, hbk⟩, hil⟩, ho⟩ := hc2
            have ok : BlkOk X.N X.env.scope scope (ownSlots Γ.N scope) := by rw [g.N, g.sc]; exact blkOk_by hbk
            refine (ps_setLc g.calm g.nd hN hloc (by rw [sw_comp g, hb]) (pi_srcD g sn it) ok (g := gTgt X.K t) (fun s H C cl fp => pg_tgt (g.blk ok.kind s H C cl fp) ht) (fun s H C cl fp => pts_D (g.blk ok.kind s H C cl fp) sn ifs hil)
              (fun s H C cl fp => pe_hide (sn.e _ _ _ elt (g.blk ok.kind s H C cl fp))) (folded_plain hn)).imp fun D σ H ⟨ρ, η, S, E0, R, hr⟩ => ?_
            have := fin E0 R hr
            rw [he] at this
            exact comp_core g sn ho this
          · refine ⟨fun pins s σ H D I ⟨ρ, η, S, E0, R, hr⟩ => ?_⟩
            obtain ⟨o, S', e, _⟩ := hr
            have : evComp T E Γ st elt tg' it ifs scope η S = none := by
              unfold evComp
              cases ht : tgOf (Γ.inner scope) tg' with
              | none => rfl
              | some t =>
                dsimp only
                rw [if_neg (fun hc2 => hcond ⟨t, ht, hc2⟩)]
                rfl
            have e : liftS (evComp T E Γ st elt tg' it ifs scope η) η (fun d S => some (.nx (η.set i (some d)), S)) S = some (o, S') := e
            unfold liftS at e
            rw [this] at e
            cases e
      · cases hi
    · exact ps_never
  · rename_i hn
    by_cases hs : notStar tg = true
    · rw [if_pos hs]
      exact (ps_asg (pe_compD (st := st) g sn) (sn.g X Γ W tg g) (other fun y py e => hn y py e) sole (by rw [assignEach_cons hs]; rfl)).imp fun D σ H ⟨ρ, η, S, E0, R, hr⟩ => ⟨ρ, η, S, E0, R, (RunS.lift (rel := Rep G) E0 hr).mono fun v H1 ⟨ρ1, S1, a, L1, R1, r1, hr1⟩ =>
        ⟨ρ1, η, S1, a, E0.le L1, R1, r1, (RunS.lift (rel := RepE G) (E0.le L1) hr1).mono fun σ' H2 ⟨ρ2, S2, η', L2', R2, r2, o, S', e, q⟩ => by
          cases e
          exact q ρ2 H2 σ' Le.refl R2 r2⟩⟩
    · rw [if_neg hs]
      exact ps_never
end
end DL
end

section
namespace DL
open PySem L2 PySem.Spec PyProof.Rows
section
variable {T : Tab} {G : Gm} {k : Nat} {c : Str → List D → M D} {X : Cx} {Γ : Sc} {W : WX} {E : Evs}
theorem upd_rmv2 {H : Hp} {p : Addr} {o : HO} : upd (rmv H p) p o = upd H p o := funext fun b => by
  by_cases e : b = p
  · subst e; rw [upd_same, upd_same]
  · rw [upd_ne e, upd_ne e, rmv_ne e]
def trsOf (G : Gm) (W : WX) (E : Evs) (Γ : Sc) : List (Option Expr) → List Expr → List (TE × TE)
  | some k :: ks, v :: vs => (hidE (DE G W (E.e Γ k)), hidE (DE G W (E.e Γ v))) :: trsOf G W E Γ ks vs
  | _, _ => []
theorem pps_D (g : Good T G k c X Γ W) (sn : Snd T G k c E) {pos : Pos} : ∀ (ks : List (Option Expr)) (vs : List Expr), ks.all (·.isSome) = true → ks.length = vs.length → PPs X pos ks vs (trsOf G W E Γ ks vs)
  | [], [], _, _ => pps_nil
  | [], _ :: _, _, h => by cases h
  | _ :: _, [], _, h => by cases h
  | none :: _, _ :: _, h, _ => by cases h
  | some a :: ks, v :: vs, h, hl => pps_cons (pe_hide (sn.e X Γ W a g)) (pe_hide (sn.e X Γ W v g)) (pps_D g sn ks vs h (by simpa using hl))
theorem calm_out {α : Type} {m : M α} {a : α} {S S1 : Store} (h : M.calm m S = some (.v a, S1)) : m S = some (.v a, S1) := by
  unfold M.calm at h
  split at h
  · rename_i e
    rw [e]
    exact h
  · cases h
theorem pairs_run {σ : L2.St} {p : Addr} : ∀ (ks : List (Option Expr)) (vs : List Expr) (ρ : List Addr) (η : En) (S : Store) (H : Hp) (Q : List (V × V) → Hp → Prop) (ps : List (D × D)) (S' : Store),
    H p = some (.dK []) → RepE G ρ (rmv H p) η σ → Rel G ρ (rmv H p) S → ePairs E Γ ks vs η S = some (.v ps, S') →
    (∀ ρ' H' vps, H' p = some (.dK []) → Le ρ (rmv H p) ρ' (rmv H' p) → Rel G ρ' (rmv H' p) S' → RepP G ρ' (rmv H' p) ps vps → Q vps H') → tPairs (trsOf G W E Γ ks vs) σ H Q := by
  intro ks
  induction ks with
  | nil =>
    intro vs ρ η S H Q ps S' hp E0 R e q
    cases vs with
    | nil =>
      cases e
      exact q ρ H [] hp Le.refl R rfl
    | cons v vs => cases e
  | cons a ks ih =>
    intro vs ρ η S H Q ps S' hp E0 R e q
    cases a with
    | none => cases vs <;> cases e
    | some a =>
      cases vs with
      | nil => cases e
      | cons v vs =>
        have e' : M.bind (M.calm (E.e Γ a η)) (fun a => M.bind (M.calm (E.e Γ v η)) fun b => M.bind (ePairs E Γ ks vs η) fun r => M.pure ((a, b) :: r)) S = some (.v ps, S') := e
        obtain ⟨x, S1, e1, e2⟩ := bind_v e'
        obtain ⟨y, S2, e3, e4⟩ := bind_v e2
        obtain ⟨r, S3, e5, e6⟩ := bind_v e4
        obtain ⟨rfl, rfl⟩ := pure_v e6
        refine ⟨p, _, .inr ⟨[], rfl⟩, hp, ρ, η, S, E0, R, .v x, S1, calm_out e1, fun ρ1 H1 vx L1 R1 r1 hn1 => ?_⟩
        refine ⟨p, _, .inr ⟨[], rfl⟩, upd_same, ρ1, η, S1, ?_, ?_, .v y, S2, calm_out e3, fun ρ2 H2 vy L2' R2 r2 hn2 => ?_⟩
        · rw [rmv_upd hn1]; exact E0.le L1
        · rw [rmv_upd hn1]; exact R1
        rw [rmv_upd hn1] at L2'
        refine ih vs ρ2 η S2 (upd H2 p (.dK [])) _ r S3 upd_same ?_ ?_ e5 fun ρ3 H3 vps hp3 L3 R3 r3 => ?_
        · rw [rmv_upd hn2]; exact E0.le (L1.trans L2')
        · rw [rmv_upd hn2]; exact R2
        rw [rmv_upd hn2] at L3
        exact q ρ3 H3 ((vx, vy) :: vps) hp3 ((L1.trans L2').trans L3) R3 ⟨vx, vy, vps, rfl, Rep.le (L2'.trans L3) _ r1, Rep.le L3 _ r2, r3⟩
theorem RepP.length {ρ : List Addr} {H : Hp} : ∀ {ps : List (D × D)} {vps : List (V × V)}, RepP G ρ H ps vps → vps.length = ps.length
  | [], _, r => by unfold RepP at r; rw [r]; rfl
  | p :: ps, _, r => by
    unfold RepP at r
    obtain ⟨v, w, t, rfl, _, _, r3⟩ := r
    simp [RepP.length r3]
theorem pairs_length {η : En} : ∀ (ks : List (Option Expr)) (vs : List Expr) {S : Store} {ps : List (D × D)} {S' : Store}, ePairs E Γ ks vs η S = some (.v ps, S') → ps.length = ks.length
  | [], [], S, ps, S', h => by cases h; rfl
  | [], _ :: _, S, ps, S', h => by cases h
  | none :: _, [], S, ps, S', h => by cases h
  | none :: _, _ :: _, S, ps, S', h => by cases h
  | some _ :: _, [], S, ps, S', h => by cases h
  | some a :: ks, v :: vs, S, ps, S', h => by
    have h' : M.bind (M.calm (E.e Γ a η)) (fun a => M.bind (M.calm (E.e Γ v η)) fun b => M.bind (ePairs E Γ ks vs η) fun r => M.pure ((a, b) :: r)) S = some (.v ps, S') := h
    obtain ⟨x, S1, e1, e2⟩ := bind_v h'
    obtain ⟨y, S2, e3, e4⟩ := bind_v e2
    obtain ⟨r, S3, e5, e6⟩ := bind_v e4
    obtain ⟨rfl, rfl⟩ := pure_v e6
    simp [pairs_length ks vs e5]
theorem noex_pairs {η : En} : ∀ (ks : List (Option Expr)) (vs : List Expr), NoEx (ePairs E Γ ks vs η)
  | [], [] => noex_pure _
  | [], _ :: _ => noex_fail
  | none :: _, [] => noex_fail
  | none :: _, _ :: _ => noex_fail
  | some _ :: _, [] => noex_fail
  | some a :: ks, v :: vs => noex_bind (noex_calm _) fun x => noex_bind (noex_calm _) fun y => noex_bind (noex_pairs ks vs) fun r => noex_pure _
theorem pe_dispD (g : Good T G k c X Γ W) (sn : Snd T G k c E) {st : Bool} {ks : List (Option Expr)} {vs : List Expr} {pos : Pos} (h : (ks.all (·.isSome) && ks.length == vs.length && decide (ks.length ≤ 15) && !ks.isEmpty) = true) :
    PE X (.Dict ks vs pos) (DE G W fun η => M.bind (ePairs E Γ ks vs η) (newDisp st)) := by
  simp only [Bool.and_eq_true, decide_eq_true_eq, Bool.not_eq_true', beq_iff_eq] at h
  obtain ⟨⟨⟨h1, h2⟩, h3⟩, h4⟩ := h
  refine (pe_disp (pps_D g sn (pos := pos) ks vs h1 h2) h1 h2 (fun z => by rw [z] at h4; cases h4) h3).imp fun σ H Q ⟨ρ, η, S, E0, R, r, S', e, q⟩ p np => ?_
  have nox : ∃ d, r = .v d := by
    cases r with
    | v d => exact ⟨d, rfl⟩
    | ex x =>
      exact absurd e ((noex_bind (noex_pairs (η := η) ks vs) fun ps => noex_newDisp st ps) S x S')
  obtain ⟨d, rfl⟩ := nox
  obtain ⟨ps, S1, e1, e2⟩ := bind_v e
  refine pairs_run ks vs ρ η S (upd H p (.dK [])) _ ps S1 upd_same (by rw [rmv_upd np]; exact E0) (by rw [rmv_upd np]; exact R) e1 fun ρ' H' vps hp L R' rp => ?_
  rw [rmv_upd np] at L
  unfold newDisp at e2
  cases hk : ps.mapM pairK with
  | none => rw [hk] at e2; cases e2
  | some kvs =>
    rw [hk] at e2
    obtain ⟨kk, rfl, rk⟩ := pairs_keys hk rp
    have len : kk.length ≤ 15 := by
      have h5 : kk.length = ps.length := by
        have := rp.length
        rw [List.length_map] at this
        exact this
      rw [h5, pairs_length ks vs e1]
      exact h3
    refine ⟨hp, kk, rfl, len, ?_⟩
    have := mkD_new (st := st) R' (RepK.fold rk (show RepK G ρ' (rmv H' p) [] [] by unfold RepK; rfl)) ⟨d, S', e2, fun ρ2 H2 b L2' R2 r2 => q ρ2 H2 b (L.trans L2') R2 r2⟩ p rmv_same
    rw [upd_rmv2] at this
    exact this
theorem dc_turn {nx : Nx} {turn : D → M (Option (D × D))} {f i : Nat} {acc ys : List (DK × D)} {S S' : Store} (h : dcLoop nx turn f i acc S = some (.v ys, S')) :
    ∃ f', f = f' + 1 ∧ ((nx S i = some none ∧ ys = acc ∧ S' = S) ∨ ∃ d o S1, nx S i = some (some d) ∧ turn d S = some (.v o, S1) ∧
      ((∃ p kv, o = some p ∧ pairK p = some kv ∧ acc.length < sizeLine ∧ dcLoop nx turn f' (i + 1) (dPut acc kv.1 kv.2) S1 = some (.v ys, S')) ∨ (o = none ∧ dcLoop nx turn f' (i + 1) acc S1 = some (.v ys, S')))) := by
  cases f with
  | zero => cases h
  | succ f =>
    refine ⟨f, rfl, ?_⟩
    unfold dcLoop at h
    cases h1 : nx S i with
    | none => rw [h1] at h; cases h
    | some z =>
      rw [h1] at h
      cases z with
      | none => cases h; exact .inl ⟨rfl, rfl, rfl⟩
      | some d =>
        simp only at h
        cases h2 : turn d S with
        | none => rw [h2] at h; cases h
        | some w =>
          obtain ⟨r, S1⟩ := w
          rw [h2] at h
          cases r with
          | ex x => cases h
          | v o =>
            refine .inr ⟨d, o, S1, rfl, h2, ?_⟩
            cases o with
            | none => exact .inr ⟨rfl, h⟩
            | some p =>
              simp only at h
              cases hp : pairK p with
              | none => rw [hp] at h; cases h
              | some kv =>
                rw [hp] at h
                simp only at h
                by_cases hz : acc.length < sizeLine
                · rw [if_pos hz] at h; exact .inl ⟨p, kv, rfl, hp, hz, h⟩
                · rw [if_neg hz] at h; cases h
theorem noex_dc {nx : Nx} {turn : D → M (Option (D × D))} : ∀ (f i : Nat) (acc : List (DK × D)), NoEx (fun S => dcLoop nx turn f i acc S)
  | 0, i, acc => fun S x S' h => by cases h
  | f + 1, i, acc => fun S x S' h => by
    have h : dcLoop nx turn (f + 1) i acc S = some (.ex x, S') := h
    unfold dcLoop at h
    cases h1 : nx S i with
    | none => rw [h1] at h; cases h
    | some z =>
      rw [h1] at h
      cases z with
      | none => cases h
      | some d =>
        simp only at h
        cases h2 : turn d S with
        | none => rw [h2] at h; cases h
        | some w =>
          obtain ⟨r, S1⟩ := w
          rw [h2] at h
          cases r with
          | ex x => cases h
          | v o =>
            cases o with
            | none => exact noex_dc f (i + 1) acc S1 x S' h
            | some p =>
              simp only at h
              cases hp : pairK p with
              | none => rw [hp] at h; cases h
              | some kv =>
                rw [hp] at h
                simp only at h
                by_cases hz : acc.length < sizeLine
                · rw [if_pos hz] at h; exact noex_dc f (i + 1) _ S1 x S' h
                · rw [if_neg hz] at h; cases h
theorem RepK.length {ρ : List Addr} {H : Hp} : ∀ {kvs : List (DK × D)} {ks : List (Key × V)}, RepK G ρ H kvs ks → ks.length = kvs.length
  | [], ks, r => by unfold RepK at r; rw [r]; rfl
  | (a, d) :: t, ks, r => by
    unfold RepK at r
    obtain ⟨q, v, r', _, rfl, _, r2⟩ := r
    simp [RepK.length r2]
theorem dcomp_core (g : Good T G k c X Γ W) (sn : Snd T G k c E) {st : Bool} {kx vx tg it : Expr} {ifs : List Expr} {scope : Scope} {t : Tgt} {σ : L2.St} {H : Hp} {Q : VK} (ho : t.all (fun i => ((ownSlots Γ.N scope).map (·.2)).contains i) = true)
    (h : DE G W (fun η => M.bind (evSrc T E Γ tg it η) fun src => M.bind (fun S => dcLoop src.nx (dcTurn E (Γ.inner scope) t ((ownSlots Γ.N scope).map (·.2)) kx vx ifs η) (src.fuel S) 0 [] S) (mkD st)) σ H Q) :
    tDc (DI G W (evSrc T E Γ tg it)) (gTgt X.K t) (hidT (DT G (fun _ _ _ _ => False) (evIfs E (Γ.inner scope) ifs))) (hidE (DE G (fun _ _ _ _ => False) (E.e (Γ.inner scope) kx))) (hidE (DE G (fun _ _ _ _ => False) (E.e (Γ.inner scope) vx))) ((ownSlots Γ.N scope).map (·.2)) σ H Q := by
  obtain ⟨ρ, η, S, E0, R, h⟩ := h
  generalize hown : (ownSlots Γ.N scope).map (·.2) = own at *
  refine ⟨ρ, η, S, E0, R, (RunM.bind (rel := srcOk G) h).mono fun J H1 ⟨ρ1, S1, src, L1, R1, sk, h1⟩ => ?_⟩
  intro D hD
  let turn := dcTurn E (Γ.inner scope) t own kx vx ifs η
  have noexN : ∀ ys, NoEx (mkD st ys) := fun ys => noex_ite (noex_alloc _) (noex_pure _)
  have start : ∃ ys S', dcLoop src.nx turn (src.fuel S1) 0 [] S1 = some (.v ys, S') ∧ RunV G (Rep G) (M.bind (fun S => dcLoop src.nx turn (src.fuel S) 0 [] S) (mkD st)) ρ1 H1 S1 Q := by
    have hv : RunV G (Rep G) (M.bind (fun S => dcLoop src.nx turn (src.fuel S) 0 [] S) (mkD st)) ρ1 H1 S1 Q := h1.v (noex_bind (fun S x S' => noex_dc _ _ _ S x S') fun ys => noexN ys)
    obtain ⟨ys, S', e, _⟩ := run_bind hv
    exact ⟨ys, S', e, hv⟩
  obtain ⟨ys0, S0, e0, hv⟩ := start
  have hfin : RunV G (Rep G) (mkD st ys0) ρ1 H1 S0 Q := by
    obtain ⟨b, S', e, q⟩ := hv
    obtain ⟨a, S2, e1, e2⟩ := bind_v e
    have : dcLoop src.nx turn (src.fuel S1) 0 [] S1 = some (.v a, S2) := e1
    rw [e0] at this
    cases this
    exact ⟨b, S', e2, q⟩
  refine ⟨fun i m H => ∃ ρ2 S2 acc accV, H D = some (.dK accV) ∧ RepE G ρ2 (rmv H D) η σ ∧ Rel G ρ2 (rmv H D) S2 ∧ Le ρ1 H1 ρ2 (rmv H D) ∧ RepK G ρ2 (rmv H D) acc accV ∧ dcLoop src.nx turn m i acc S2 = some (.v ys0, S0),
    ⟨src.fuel S1, ρ1, S1, [], [], upd_same, ?_, ?_, ?_, ?_, e0⟩, fun i m H2 ⟨ρ2, S2, acc, accV, hD2, E2, R2, L2', l2, e2⟩ => ?_⟩
  · rw [rmv_upd hD]; exact E0.le L1
  · rw [rmv_upd hD]; exact R1
  · rw [rmv_upd hD]; exact Le.refl
  · unfold RepK; rfl
  obtain ⟨f, rfl, hh⟩ := dc_turn e2
  obtain ⟨s1, s2⟩ := sk ρ2 (rmv H2 D) S2 H2 L2' R2 rmv_sub i
  rcases hh with ⟨hz, rfl, rfl⟩ | ⟨d, o, S3, hd, ht, hh⟩
  · refine .inl ⟨s1 hz, ?_⟩
    obtain ⟨b, S', e, q⟩ := hfin
    have := mkD_new (st := st) R2 l2 ⟨b, S', e, fun ρ' H' b' L' R' r' => q ρ' H' b' (L2'.trans L') R' r'⟩ D rmv_same
    rw [upd_rmv hD2] at this
    exact this
  · obtain ⟨go, y⟩ := s2 d hd
    refine .inr ⟨go, fun H' => ∃ ρ2 S2 acc accV, H' D = some (.dK accV) ∧ RepE G ρ2 (rmv H' D) η σ ∧ Rel G ρ2 (rmv H' D) S2 ∧ Le ρ1 H1 ρ2 (rmv H' D) ∧ RepK G ρ2 (rmv H' D) acc accV ∧ dcLoop src.nx turn f (i + 1) acc S2 = some (.v ys0, S0),
      fun H' n => ⟨f, Nat.lt_succ_self f, n⟩, fun x H3 hy => ?_⟩
    have key : H3 D = some (.dK accV) ∧ Rel G ρ2 (rmv H3 D) S2 ∧ Le ρ2 (rmv H2 D) ρ2 (rmv H3 D) ∧ Rep G ρ2 (rmv H3 D) d x := by
      rcases y x H3 hy with ⟨rfl, r⟩ | ⟨p, tt, np, rfl, r⟩
      · exact ⟨hD2, R2, Le.refl, r⟩
      · have hp : p ≠ D := fun z => by subst z; rw [hD2] at np; cases np
        rw [rmv_push hp]
        obtain ⟨R', L'⟩ := R2.out (p := p) (o := .tup tt) (by rw [rmv_ne hp]; exact np)
        exact ⟨by rw [upd_ne (Ne.symm hp)]; exact hD2, R', L', r⟩
    obtain ⟨hD3, R3, L3, r3⟩ := key
    obtain ⟨η', S4, t1, t2⟩ := bind_v (show M.bind (t.set d (wipeE η own)) (fun η' => M.bind (evIfs E (Γ.inner scope) ifs η') fun b => if b = true then M.bind (E.e (Γ.inner scope) kx η') fun y => M.bind (E.e (Γ.inner scope) vx η') fun z => M.pure (some (y, z)) else M.pure none) S2 = some (.v o, S3) from ht)
    refine tgt_run (X := X) g.K ho t1 R3 ((E2.le L3).wipe own) r3 rmv_sub fun σ4 hS E4 hw => ⟨by rw [hw, wipe_wipe], ?_⟩
    subst hS
    obtain ⟨b, S5, t3, t4⟩ := bind_v t2
    refine ⟨D, _, .inr ⟨accV, rfl⟩, hD3, ρ2, η', S4, E4, R3, .v b, S5, t3, fun ρ5 H5 b' L5 R5 hb hn => ?_⟩
    subst hb
    cases b' with
    | false =>
      rw [if_neg Bool.false_ne_true] at t4 ⊢
      obtain ⟨rfl, rfl⟩ := pure_v t4
      rcases hh with ⟨p, kv, hy, _⟩ | ⟨_, hh⟩
      · cases hy
      · refine ⟨ρ5, S5, acc, accV, upd_same, ?_, ?_, ?_, ?_, hh⟩
        · rw [rmv_upd hn]; exact E2.le (L3.trans L5)
        · rw [rmv_upd hn]; exact R5
        · rw [rmv_upd hn]; exact (L2'.trans L3).trans L5
        · rw [rmv_upd hn]; exact RepK.le (L3.trans L5) _ l2
    | true =>
      rw [if_pos rfl] at t4 ⊢
      obtain ⟨yd, S6, t5, t6⟩ := bind_v t4
      obtain ⟨zd, S7, t7, t8⟩ := bind_v t6
      obtain ⟨rfl, rfl⟩ := pure_v t8
      rcases hh with ⟨p, kv, hy, hk, hz, hh⟩ | ⟨hy, _⟩
      · cases hy
        refine ⟨D, _, .inr ⟨accV, rfl⟩, upd_same, ρ5, η', S5, ?_, ?_, .v yd, S6, t5, fun ρ6 H6 yv L6 R6 r6 hn6 => ?_⟩
        · rw [rmv_upd hn]; exact E4.le L5
        · rw [rmv_upd hn]; exact R5
        rw [rmv_upd hn] at L6
        refine ⟨D, _, .inr ⟨accV, rfl⟩, upd_same, ρ6, η', S6, ?_, ?_, .v zd, S7, t7, fun ρ7 H7 zv L7 R7 r7 hn7 => ?_⟩
        · rw [rmv_upd hn6]; exact E4.le (L5.trans L6)
        · rw [rmv_upd hn6]; exact R6
        rw [rmv_upd hn6] at L7
        have LL := ((L3.trans L5).trans L6).trans L7
        obtain ⟨q, rfl, rfl⟩ := pairK_v (p := (yd, zd)) hk (Rep.le L7 _ r6) r7
        refine ⟨accV, q, rfl, upd_same, by rw [RepK.length l2]; exact hz, ρ7, S7, dPut acc (.inl q) zd, putK accV q zv, upd_same, ?_⟩
        have e6 : rmv (upd (upd H7 D (.dK accV)) D (.dK (putK accV q zv))) D = H7 := by
          funext z
          by_cases ez : z = D
          · subst ez; rw [rmv_same, hn7]
          · rw [rmv_ne ez, upd_ne ez, upd_ne ez]
        rw [e6]
        exact ⟨E2.le LL, R7, (L2'.trans LL), (RepK.le LL _ l2).put r7, hh⟩
      · cases hy
theorem pe_dcompD (g : Good T G k c X Γ W) (sn : Snd T G k c E) {st : Bool} {kx vx tg it : Expr} {ifs : List Expr} {scope : Scope} {pos : Pos} : PE X (.DictComp kx vx [⟨tg, it, ifs, 0⟩] scope pos) (DE G W (evDComp T E Γ st kx vx tg it ifs scope)) := by
  unfold evDComp
  split
  · rename_i t ht
    refine pe_if_ fun hc => ?_
    simp only [Bool.and_eq_true, decide_eq_true_eq] at hc
    obtain ⟨⟨⟨hn, hb⟩, hi⟩, ho⟩ := hc
    have ok : BlkOk X.N X.env.scope scope (ownSlots Γ.N scope) := by rw [g.N, g.sc]; exact blkOk_by hb
    refine (pe_dc g.calm g.nd (pi_srcD g sn it) ok (fun s H C cl fp => ?_) (fun s H C cl fp => ?_) (fun s H C cl fp => ?_) (fun s H C cl fp => ?_) (folded_plain hn)).imp fun σ H Q h => dcomp_core g sn ho h
    · exact pg_tgt (g.blk ok.kind s H C cl fp) ht
    · exact pts_D (g.blk ok.kind s H C cl fp) sn ifs hi
    · exact pe_hide (sn.e _ _ _ kx (g.blk ok.kind s H C cl fp))
    · exact pe_hide (sn.e _ _ _ vx (g.blk ok.kind s H C cl fp))
  · exact pe_never
theorem ps_dcompD (g : Good T G k c X Γ W) (sn : Snd T G k c E) {st : Bool} {tg kx vx tg' it : Expr} {ifs : List Expr} {scope : Scope} {p pos : Pos} :
    PS X (.Assign [tg] (.DictComp kx vx [⟨tg', it, ifs, 0⟩] scope p) pos) (DS G W (asgDComp E Γ (evDComp T E Γ st kx vx tg' it ifs scope) tg)) := by
  unfold asgDComp
  by_cases hs : (notStar tg && !isName tg) = true
  · rw [if_pos hs]
    rw [Bool.and_eq_true] at hs
    have nm : ∀ y py, tg ≠ .Name y py := fun y py e => by
      subst e
      exact absurd (show (!true) = true from hs.2) (by decide)
    have other : swapsWithSole [tg] (.DictComp kx vx [⟨tg', it, ifs, 0⟩] scope p) pos.line X.env = pure false := by
      show swapsWith (.DictComp kx vx [⟨tg', it, ifs, 0⟩] scope p) (some tg) pos.line X.env = pure false
      unfold swapsWith
      cases tg <;> first
        | rfl
        | exact absurd rfl (nm _ _)
    have sole : swappedStores [tg] (.DictComp kx vx [⟨tg', it, ifs, 0⟩] scope p) X.env = pure none := by
      unfold swappedStores
      cases tg <;> rfl
    exact (ps_asg (pe_dcompD (st := st) g sn) (sn.g X Γ W tg g) other sole (by rw [assignEach_cons hs.1]; rfl)).imp fun D σ H ⟨ρ, η, S, E0, R, hr⟩ => ⟨ρ, η, S, E0, R, (RunS.lift (rel := Rep G) E0 hr).mono fun v H1 ⟨ρ1, S1, a, L1, R1, r1, hr1⟩ =>
      ⟨ρ1, η, S1, a, E0.le L1, R1, r1, (RunS.lift (rel := RepE G) (E0.le L1) hr1).mono fun σ' H2 ⟨ρ2, S2, η', L2', R2, r2, o, S', e, q⟩ => by
        cases e
        exact q ρ2 H2 σ' Le.refl R2 r2⟩⟩
  · rw [if_neg hs]
    exact ps_never
end
end DL
end

section
namespace DL
open PySem L2 PySem.Spec PyProof.Rows
section
variable {T : Tab} {G : Gm} {k : Nat} {c : Str → List D → M D} {X : Cx} {Γ : Sc} {W : WX} {E : Evs}
theorem pe_dictD {st : Bool} {pos : Pos} : PE X (.Dict [] [] pos) (DE G W fun _ => mkD st []) := pe_dnewK.imp fun σ H Q ⟨ρ, η, S, E0, R, h⟩ p np => by
  obtain ⟨r, S', e, q⟩ := h
  cases st with
  | true =>
    obtain ⟨R', L, ep⟩ := R.alloc (ob := .dct []) (o := .dK []) np fun ρ' H' L e => .inl ⟨[], e, by unfold RepK; rfl⟩
    cases e
    exact q _ _ _ L R' (by unfold Rep; exact ⟨p, ep, rfl⟩)
  | false =>
    obtain ⟨R', L⟩ := R.out (o := .dK []) np
    cases e
    exact q _ _ _ L R' (by unfold Rep; exact ⟨p, [], rfl, ⟨.inl upd_same, R.fresh np⟩, by unfold RepK; rfl⟩)
theorem pe_callGD (g : Good T G k c X Γ W) (sn : Snd T G k c E) {f : Str} {args : List Expr} {p pos : Pos} (hc : (Γ.glb f && !(f == ("__debug__" : Str)) && !(f == ("__name__" : Str))) = true) :
    PE X (.Call (.Name f p) args [] pos) (DE G W (evCallG T c E Γ f args pos)) := by
  simp only [Bool.and_eq_true, Bool.not_eq_true'] at hc
  obtain ⟨⟨hg, hd⟩, hn⟩ := hc
  unfold evCallG
  split
  · rename_i ht; exact pe_callD g sn ht hg hd
  split
  · rename_i hi; exact pe_makeD g sn hg hd hi
  split
  · rename_i hf
    split
    · rename_i hi
      cases LawfulBEq.eq_of_beq hi
      split
      · rename_i a ty p2
        refine pe_if_ fun hc => ?_
        rw [Bool.and_eq_true] at hc
        exact pe_isiD g sn hf hg hc.1 hc.2
      · exact pe_never
    · split
      · rename_i hz; exact pe_listZD g sn hf hg hz
      · exact pe_if_ fun hk => pe_bltD g sn hf hg hk
  · exact pe_never
theorem snd_e (g : Good T G k c X Γ W) (sn : Snd T G k c E) (x : Expr) : PE X x (DE G W (stepE T c E Γ x)) := by
  unfold stepE
  split
  · exact pe_constD
  · split
    · exact pe_never
    · rename_i h; exact pe_nameD g (by simpa using h)
  · exact pe_binD g sn
  · exact pe_negD g sn
  · exact pe_notD g sn
  · exact pe_andD g sn _
  · exact pe_orD g sn _
  · exact pe_ifD g sn
  · exact pe_if_ fun h => pe_cmpD g sn h
  · exact pe_if_ fun h => pe_chainD g sn h
  · exact pe_tupD g sn
  · exact pe_lstD g sn
  · exact pe_dictD
  · exact pe_if_ fun h => pe_dispD g sn h
  · exact pe_sliceD g sn
  · exact pe_never
  · rename_i h; exact pe_ixD g sn fun lo hi st p e => h lo hi st p e
  · exact pe_if_ fun h => pe_attrD g sn h
  · exact pe_compD g sn
  · exact pe_dcompD g sn
  · exact pe_if_ fun h => pe_callGD g sn h
  · exact pe_methD g sn
  · exact pe_never
theorem snd_t (g : Good T G k c X Γ W) (sn : Snd T G k c E) (x : Expr) : PT X x (DT G W (stepT T c E Γ x)) := by
  unfold stepT
  split
  · exact pt_notD g sn
  · exact (pw_andD g sn _).pt
  · exact (pw_orD g sn _).pt
  · exact pt_ifD g sn
  · exact pt_if_ fun h => pt_cmpD g sn h
  · exact pt_if_ fun h => pt_chainD g sn h
  · exact pt_never
  · rename_i h1 h2 h3 h4 h5 h6 h7
    refine pt_plain g (snd_e g sn x) fun whole => ?_
    cases x with
    | UnaryOp op a p => cases op <;> first | rfl | exact absurd rfl (h1 _ _)
    | BoolOp op vs p => cases op <;> first | exact absurd rfl (h2 _ _) | exact absurd rfl (h3 _ _)
    | IfExp t a b p => exact absurd rfl (h4 _ _ _ _)
    | Compare a ops bs p => exact absurd rfl (h7 _ _ _ _)
    | _ => rfl
theorem noex_stepG (sn : ∀ Γ x d η, NoEx (E.g Γ x d η)) (Γ : Sc) (x : Expr) (d : D) (η : En) : NoEx (stepG T E Γ x d η) := by
  cases x with
  | Name y p =>
    unfold stepG
    cases h : Γ.put y with
    | none => simp only [h]; exact noex_fail
    | some i => simp only [h]; exact noex_pure _
  | Tuple es kk p =>
    show NoEx ((if es.all notStar = true then fun d η => M.bind (seqOf d) fun xs => gList (es.map (E.g Γ)) xs η else fun _ _ => M.fail) d η)
    split
    · exact noex_bind (noex_seqOf _) fun xs => noex_gList (fun g hg d η => by
        obtain ⟨x, _, rfl⟩ := List.mem_map.mp hg
        exact sn _ _ _ _) _ _
    · exact noex_fail
  | Subscript o i p =>
    cases i with
    | Slice lo hi st p2 => exact noex_fail
    | _ => exact noex_bind (noex_calm _) fun _ => noex_bind (noex_calm _) fun _ => noex_bind (noex_set _ _ _) fun _ => noex_pure _
  | Attribute o f p =>
    refine noex_bind (noex_calm _) fun x => ?_
    cases x with
    | obj n =>
      refine noex_bind (noex_getO _) fun ob => ?_
      cases ob with
      | ins C fs => exact noex_ite (noex_bind (noex_setO _ _) fun _ => noex_pure _) noex_fail
      | _ => exact noex_fail
    | _ => exact noex_fail
  | _ => exact noex_fail
theorem snd_g (g : Good T G k c X Γ W) (sn : Snd T G k c E) (x : Expr) : PG X x (DG G W (stepG T E Γ x)) := by
  unfold stepG
  split
  · split
    · rename_i h; exact pg_nameD g h
    · exact pg_never
  · exact pg_if_ fun h => pg_tupD g sn h
  · split
    · exact pg_never
    · rename_i h; exact pg_subD g sn fun lo hi st p e => h lo hi st p e
  · exact pg_attrD g sn
  · exact pg_never
theorem snd_asg (g : Good T G k c X Γ W) (sn : Snd T G k c E) {tg e : Expr} {pos : Pos} : PS X (.Assign [tg] e pos) (DS G W (stepAsg T E Γ tg e)) := by
  unfold stepAsg
  split
  · exact ps_compD g sn
  · exact ps_dcompD g sn
  · split
    · exact ps_never
    · rename_i h
      have hc : isComp e = false := by simpa using h
      have sole : swapsWithSole [tg] e pos.line X.env = pure false := swapsWith_plain hc
      split
      · rename_i hs
        split
        · rename_i h3; exact ps_asgD g sn sole (swap_is g hs) h3
        · exact ps_never
      · rename_i names hs
        split
        · rename_i is hi; exact ps_swapD g sn sole (swap_is g hs) hi
        · exact ps_never
      · exact ps_never
theorem snd_s (g : Good T G k c X Γ W) (sn : Snd T G k c E) (po : PassesOwn (model X.prog X.w) X.A X.env X.xe) (x : Stmt) : PS X x (DS G W (stepS T E Γ x)) := by
  unfold stepS
  split
  · split
    · exact ps_never
    · rename_i h; exact ps_exprD g sn (by simpa using h)
  · exact ps_retD g sn
  · exact ps_ret0D
  · exact ps_passD
  · exact ps_brkD
  · exact ps_contD
  · exact ps_ifD g sn po
  · exact snd_asg g sn
  · split
    · exact ps_never
    · rename_i h; exact ps_forD g sn po (by simpa using h)
  · exact ps_whileD g sn po
  · exact ps_never
theorem snd_ev : ∀ n, Snd T G k c (ev T c n)
  | 0 => ⟨fun X Γ W x g => pe_never, fun X Γ W x g => pt_never, fun X Γ W x g => pg_never, fun Γ x d η => noex_fail, fun X Γ W x g po => ps_never⟩
  | n + 1 => ⟨fun X Γ W x g => snd_e g (snd_ev n) x, fun X Γ W x g => snd_t g (snd_ev n) x, fun X Γ W x g => snd_g g (snd_ev n) x, fun Γ x d η => noex_stepG (snd_ev n).gn Γ x d η, fun X Γ W x g po => snd_s g (snd_ev n) po x⟩
end
end DL
end

section
namespace DL
open PySem L2 PySem.Spec PyProof.Rows
/-- a def of the table stands at a -/
structure FnFact (K : PySem.W.Frag) (F : Fn) (a : Addr) : Prop where
  ok : ∃ x qual fd, Fun K x qual F.st a fd ∧ FnScope F.N F.ps (defScope F.st) ∧ L2.Binds K fd F.ps []
/-- what stands, whatever the level -/
structure Facts (T : Tab) (G : Gm) : Prop where
  text : Text T G
  top : ∀ f, T.top.contains f = true → ∃ a F, G.mg f = some (.ref a) ∧ PySem.W.keepIn G.K (.ref a) = true ∧ T.fn f = some F ∧ FnFact G.K F a
  meth : ∀ C m key, T.meth C m = some key → ∃ ca g F, G.mg C = some (.ref ca) ∧ Cls G.K ca ∧ Meth G.K ca m g ∧ T.fn key = some F ∧ FnFact G.K F g
  make : ∀ C key, T.meth C "__init__" = some key → ∃ ca g F, G.mg C = some (.ref ca) ∧ Mk G.K ca g ∧ T.fn key = some F ∧ FnFact G.K F g
section
variable {P : Program} {w : World} {base : Heap} {T : Tab} {G : Gm}
theorem fn1_zero {F : Fn} {a : Addr} {key : Str} (h : FnFact G.K F a) : Fn1 P w base G 0 a (callAt T 0 key) := by
  obtain ⟨x, qual, fd, hf, hs, hb⟩ := h.ok
  exact ⟨fd, F.ps, hb, ⟨fun vs H Q E ⟨ρ, ds, S, _, _, q⟩ => q.fail, fun A outer s H args us vs Q E hg hr e0 hb r ⟨ρ, ds, S, _, _, q⟩ => q.fail⟩⟩
theorem fnG_succ {k : Nat} {F : Fn} {a : Addr} {key x qual : Str} {fd : FuncData} (ft : Facts T G) (cs : Calls P w base T G k (callAt T k)) (hk : T.fn key = some F) (hf : Fun G.K x qual F.st a fd) (hs : FnScope F.N F.ps (defScope F.st)) :
    FnG P w G.K G.mg base (2 * (k + 1)) a fd F.ps (spD G (callAt T (k + 1) key)) := by
  have run : ∀ {ds : List D} {S S' : Store} {r : R D}, callAt T (k + 1) key ds S = some (r, S') → ds.length = F.ps.length ∧ ∃ o, sBlock ((defBody F.st).map ((ev T (callAt T k) syn).s F.Γ)) (startE F.N ds) S = some (o, S') ∧
      ((∃ η, o = .nx η ∧ r = .v .non) ∨ (∃ d, o = .rt d ∧ r = .v d) ∨ ∃ x η, o = .ex x η ∧ r = .ex x) := fun {ds S S' r} e => by
    unfold callAt at e
    simp only [hk] at e
    by_cases hl : ds.length = F.ps.length
    · rw [if_pos hl] at e
      refine ⟨hl, ?_⟩
      cases hb : sBlock ((defBody F.st).map ((ev T (callAt T k) syn).s F.Γ)) (startE F.N ds) S with
      | none => simp only [hb] at e; cases e
      | some z =>
        obtain ⟨o, S1⟩ := z
        simp only [hb] at e
        cases o with
        | nx η => cases e; exact ⟨_, rfl, .inl ⟨η, rfl, rfl⟩⟩
        | rt d => cases e; exact ⟨_, rfl, .inr (.inl ⟨d, rfl, rfl⟩)⟩
        | ex x η => cases e; exact ⟨_, rfl, .inr (.inr ⟨x, η, rfl, rfl⟩)⟩
        | bk η => cases e
        | ct η => cases e
    · rw [if_neg hl] at e; cases e
  show FnG P w G.K G.mg base (2 * k + 1 + 1) a fd F.ps _
  refine fn_ofG hf hs (fun vs H Q E ⟨ρ, ds, S, rl, _, r, S', e, _⟩ => ?_) fun cdv A outer s H vs Q E hg hr hsp => ?_
  · rw [rl.length, (run e).1]
  · refine ⟨DS G (fun c d _ H => E c d H) (sBlock ((defBody F.st).map ((ev T (callAt T k) syn).s F.Γ))), ?_, ?_⟩
    · have good : Good T G k (callAt T k) (cxOf (L2.CX P w) P w G.K G.mg base F.N qual (defScope F.st) a cdv A outer s H E) F.Γ (fun c d _ H => E c d H) :=
        ⟨rfl, rfl, rfl, hs.nd, rfl, hs.kind, fun _ _ => .inl rfl, rfl, hg, hr, takes_of (E := E) rfl rfl rfl rfl, ft.text, cs⟩
      exact pss_D good (snd_ev syn) (passes_of rfl) _
    · obtain ⟨ρ, ds, S, rl, R, r, S', e, q⟩ := hsp
      obtain ⟨hl, o, e2, hh⟩ := run e
      refine ⟨ρ, startE F.N ds, S, RepE.start F.N rl, R, o, S', e2, ?_⟩
      rcases hh with ⟨η, rfl, rfl⟩ | ⟨d, rfl, rfl⟩ | ⟨x, η, rfl, rfl⟩
      · exact fun ρ' H' σ' L' R' _ => q ρ' H' .non L' R' rep_of_non
      · exact fun ρ' H' v L' R' r' => q ρ' H' v L' R' r'
      · exact fun ρ' H' σ' cls dx L' R' _ r' => q ρ' H' cls dx L' R' r'
theorem fn1_succ {k : Nat} {F : Fn} {a : Addr} {key : Str} (ft : Facts T G) (cs : Calls P w base T G k (callAt T k)) (hk : T.fn key = some F) (h : FnFact G.K F a) : Fn1 P w base G (k + 1) a (callAt T (k + 1) key) := by
  obtain ⟨x, qual, fd, hf, hs, hb⟩ := h.ok
  exact ⟨fd, F.ps, hb, fnG_succ ft cs hk hf hs⟩
theorem calls_at (ft : Facts T G) : ∀ k, Calls P w base T G k (callAt T k)
  | 0 => ⟨fun f h => by
      obtain ⟨a, F, h1, h2, h3, h4⟩ := ft.top f h
      exact ⟨a, h1, h2, fn1_zero h4⟩, fun C m key h => by
      obtain ⟨ca, g, F, h1, h2, h3, h4, h5⟩ := ft.meth C m key h
      exact ⟨ca, g, h1, h2, h3, fn1_zero h5⟩, fun C key h => by
      obtain ⟨ca, g, F, h1, h2, h3, h4⟩ := ft.make C key h
      exact ⟨ca, g, h1, h2, fn1_zero h4⟩⟩
  | k + 1 => by
    have ih := calls_at ft k
    exact ⟨fun f h => by
      obtain ⟨a, F, h1, h2, h3, h4⟩ := ft.top f h
      exact ⟨a, h1, h2, fn1_succ ft ih h3 h4⟩, fun C m key h => by
      obtain ⟨ca, g, F, h1, h2, h3, h4, h5⟩ := ft.meth C m key h
      exact ⟨ca, g, h1, h2, h3, fn1_succ ft ih h4 h5⟩, fun C key h => by
      obtain ⟨ca, g, F, h1, h2, h3, h4⟩ := ft.make C key h
      exact ⟨ca, g, h1, h2, fn1_succ ft ih h3 h4⟩⟩
end
end DL
end

section
namespace DL
open PySem L2 PySem.Spec PyProof.Rows
def keepO (o : Obj) : Bool := match o.cls with
  | .type n => !(n == "list")
  | _ => true
def frL (g : Addr → Option Obj) (as : List Addr) : PySem.W.Frag := (He.frG g as).filter fun p => keepO p.2
theorem memL {β : Type} {a : Addr} {o : β} : ∀ {l : List (Addr × β)}, l.lookup a = some o → (a, o) ∈ l
  | [], h => by simp at h
  | (b, u) :: r, h => by
    rw [List.lookup_cons] at h
    cases q : (a == b) with
    | true => rw [q] at h; cases h; rw [beq_iff_eq.mp q]; exact List.mem_cons_self ..
    | false => rw [q] at h; exact List.mem_cons_of_mem _ (memL h)
theorem frL_get {g : Addr → Option Obj} {as : List Addr} {a : Addr} {o : Obj} (h : (frL g as).lookup a = some o) : g a = some o ∧ keepO o = true := by
  have hm := memL h
  unfold frL at hm
  obtain ⟨h1, h2⟩ := List.mem_filter.mp hm
  unfold He.frG at h1
  obtain ⟨b, _, hb⟩ := List.mem_filterMap.mp h1
  cases q : g b with
  | none => rw [q] at hb; cases hb
  | some ob =>
    rw [q] at hb
    cases hb
    exact ⟨q, h2⟩
def NoList (K : PySem.W.Frag) : Prop := ∀ a o, K.lookup a = some o → keepO o = true
def obsL (n : Nat) (fa : List He.Fa) (fn : List He.DefD) (g : Addr → Option Obj) : He.AlD := He.obsD fa fn (frL g (He.asD g n))
def hookL (n : Nat) (fa : List He.Fa) (fn : List He.DefD) : PySem.W.Hook where
  α := He.AlD
  obs := fun s => obsL n fa fn s.heap.get?
  val := fun _ => He.valD fn
  says := fun _ h => ∃ K : PySem.W.Frag, K.In h ∧ NoList K ∧ He.SaysD fa fn K
  of := fun _ _ e => ⟨_, fun a o h => (frL_get h).1, fun a o h => (frL_get h).2, e⟩
  keeps := fun _ _ _ ⟨K, hK, hn, c⟩ k => ⟨K, PySem.W.Frag.In.keeps hK k, hn, c⟩
theorem obsL_eq {n : Nat} {fa : List He.Fa} {fn : List He.DefD} {g : Addr → Option Obj} {s : Shared} (h : ∀ a, g a = s.heap.get? a) : obsL n fa fn g = (hookL n fa fn).obs s := by
  have e : g = s.heap.get? := funext h
  rw [e] <;> rfl
theorem law_callG {P : Program} {w : World} {K : PySem.W.Frag} {mg mb : Str → Option Value} {k : Nat} {fa a : Addr} {fd : FuncData} {x : Str} {sp : Sp} {st : Shared} {us : List Value} {ns : List Int}
    (KX : K.In st.heap) (nl : NoList K) (hmg : st.heap.Ns mainGlobals mg) (hmb : st.heap.Ns builtinsNs mb) (hbt : ∀ y : Str, y ≠ "__name__" → mb y = bootBuiltins y) (hno : st.heap.NoLimit) (hge : st.gens = #[])
    (ho : st.heap.get? a = some { cls := .type "list", data := .seq us.toArray }) (hi : IntsAre us ns) (hz : ns.length ≤ sizeLine) (hr : Room k callerA)
    (F : ∀ base : Heap, K.In base → base.Ns mainGlobals mg → FnG P w K mg base k fa fd [x] sp) (hbd : ∀ (s : Shared) (u : Value), BindsTo s fd ⟨[u], []⟩ [(x, u)])
    (hsp : ∀ H : Hp, (∀ b, b ≠ a → H b = none) → Rd H a (.lst (ns.map V.int)) → sp [.ref a] H (fun v _ => v = .bl true) fun _ _ _ => False) :
    codeAny (model P w) callerA (.call (.ref fa) ⟨[.ref a], []⟩) (fun r t => r = .ok (.ret (.bool true)) ∧ OldK st.heap t.heap ∧ t.os = st.os ∧ AllBare t.gens) st := by
  have vi := vals_ints hi
  have hk : K.lookup a = none := by
    cases q : K.lookup a with
    | none => rfl
    | some o =>
      have h1 := KX a o q
      rw [ho] at h1
      cases h1
      exact absurd (nl a _ q) (by simp [keepO])
  -- the script alone is tracked, known to the object
  let Hs : Hp := fun b => if b = a then some (.frz { cls := .type "list", data := .seq us.toArray } (.lst (ns.map V.int))) else none
  have ha : Hs a = some (.frz { cls := .type "list", data := .seq us.toArray } (.lst (ns.map V.int))) := if_pos rfl
  have hb : ∀ b, b ≠ a → Hs b = none := fun b h => if_neg h
  have held : HOk P w Hs st.heap := fun b u e => by
    by_cases h : b = a
    · subst h
      rw [ha] at e
      cases e
      exact ⟨ho, by rw [List.length_map]; exact hz, us, _, vi, ho⟩
    · rw [hb b h] at e; cases e
  have toB : ∀ {b : Addr} {o : Obj}, st.heap.get? b = some o → b ≠ a → (L2.hidT st.heap Hs).get? b = some o := fun {b o} e n => hidT_get e (hb b n)
  have nsB : ∀ {b : Addr} {m : Str → Option Value}, st.heap.Ns b m → (L2.hidT st.heap Hs).Ns b m := fun {b m} ⟨o, es, ep, e, d, r⟩ => ⟨o, es, ep, toB e (fun z => by
    subst z
    rw [ho] at e
    cases e
    exact nomatch d), d, r⟩
  have KB : K.In (L2.hidT st.heap Hs) := fun b o e => toB (KX b o e) fun z => by subst z; rw [hk] at e; cases e
  have md : Mod K mg (L2.hidT st.heap Hs) := ⟨KB, nsB hmg, ⟨mb, nsB hmb, hbt⟩, let ⟨mc, h1, h2⟩ := hno; ⟨mc, nsB h1, h2⟩⟩
  have env : Env0 P w K mg (L2.hidT st.heap Hs) callerA [] st Hs := ⟨rfl, md, fun b o e => of_hidT e, Nat.le_of_eq (hidT_size _ _), trivial, fun b hb => absurd (show b ∈ ([] : List Addr) from hb) (by simp), held, .of_eq hge⟩
  refine codeAny_mono ((F _ KB (nsB hmg)).run callerA [] st Hs ⟨[.ref a], []⟩ [.ref a] [.ref a] _ _ rfl hr env (hbd st (.ref a)) (.cons rfl .nil) (hsp Hs hb (.inr ⟨_, ha⟩))) fun r t h => ?_
  cases r with
  | error e =>
    obtain ⟨_, _, _, _, _, _, _, _, _, _, _, _, z⟩ := h
    exact z.elim
  | ok fl =>
    cases fl with
    | ret u =>
      obtain ⟨v, H', os, bare, un, hok, rv, q⟩ := h
      obtain rfl : v = .bl true := q
      obtain rfl : u = Value.bool true := rv
      refine ⟨rfl, OldK.of_keep fun b o e => ?_, os, bare⟩
      by_cases hba : b = a
      · subst hba
        have h2 := (hok b _ (un.frzs b _ _ ha)).1
        rw [ho] at e
        cases e
        exact h2
      · exact un.keep b o e (hb b hba) (fun z => absurd (show b ∈ ([] : List Addr) from z) (by simp)) (by simp)
    | next => exact h.elim
    | brk => exact h.elim
    | cont => exact h.elim
/-- a law's walk, from the promise of its def -/
theorem walkG {l : PySem.W.OpenLaw} {n k : Nat} {q : Program} {loose : List Str} {XP : (Str → Option Value) → Heap → Prop} {YP : World → Heap → Prop} {d : DefRec} {x : Str}
    (hn : l.most = some n) (hn2 : n ≤ sizeLine) (hdf : d.params.defaults = []) (hr : Room k callerA)
    (F : ∀ (w : World) (mg : Str → Option Value) (fa : Addr) (h : Heap), YP w h → h.Ns mainGlobals mg → mg d.name = some (.ref fa) →
      ∃ (K : PySem.W.Frag) (fd : FuncData) (sp : Sp), K.In h ∧ NoList K ∧ (∀ (s : Shared) (u : Value), BindsTo s fd ⟨[u], []⟩ [(x, u)]) ∧
        (∀ (H : Hp) (a : Addr) (ns : List Int), ns.length ≤ n → (∀ b, b ≠ a → H b = none) → Rd H a (.lst (ns.map V.int)) → sp [.ref a] H (fun v _ => v = .bl true) fun _ _ _ => False) ∧
        ∀ base : Heap, K.In base → base.Ns mainGlobals mg → FnG l.prog w K mg base k fa fd [x] sp) :
    PySem.W.WalkO q loose XP YP l.row.toRowW d [] (fun f vs => PySem.call f vs) := by
  refine Att.attach_call hn hdf fun w s₀ s₁ mg mb fa o pm cd doc a vs ns G Y ho hd hcd hmg hobj hints hlen hg => ?_
  obtain ⟨K, fd, sp, KX, nl, hb, hsp, hF⟩ := F w mg fa _ Y G.T.g hmg
  exact law_callG KX nl G.T.g G.T.b G.T.builtins G.T.nolimit hg hobj hints (Nat.le_trans hlen hn2) hr hF hb fun H hO hS => hsp H a ns hlen hO hS
/-- the promise of the law's def, from a run of the evaluator -/
theorem law_sp {G : Gm} {m : List D → M D} {H : Hp} {a : Addr} {ns : List Int} {S' : Store} (hgl : G.gl = []) (ho : ∀ b, b ≠ a → H b = none) (hr : Rd H a (.lst (ns.map V.int))) (h : m [.frz (ns.map D.int)] [] = some (.v (.bl true), S')) :
    spD G m [.ref a] H (fun v _ => v = .bl true) fun _ _ _ => False :=
  ⟨[], [.frz (ns.map D.int)], [], .cons (by unfold Rep; exact ⟨a, ns.map V.int, rfl, ⟨hr, by simp⟩, repL_of_ints ns⟩) .nil,
    ⟨rfl, List.nodup_nil, fun n o b e => by simp at e, fun p hp => by rw [hgl] at hp; cases hp⟩, .v (.bl true), S', h, fun ρ' H' b _ _ r => rep_bl r⟩
/-- a def of the head's list -/
theorem fun_of {K : PySem.W.Frag} {x qual : Str} {st : Stmt} {f : Addr} {fd : FuncData} (F : FunD K x qual (defArgs st) (defBody st) (defScope st) [] [] f fd) : Fun K x qual st f fd := by
  obtain ⟨oc, od, dV, kV, doc, pm, an, cdv, ct, osl, h1, h2, h3, h4, h5⟩ := F.ex
  rcases h4 with ⟨_, rfl⟩ | ⟨z, _⟩
  · exact ⟨⟨oc, od, kV, doc, pm, an, cdv, ct, osl, h1, h2, h3⟩, F.kp⟩
  · exact absurd rfl z
end DL
end

section
namespace DL
open PySem L2 PySem.Spec PyProof.Rows
def isFunK : ScopeKind → Bool
  | .function => true
  | _ => false
def scB (F : Fn) : Bool :=
  isFunK (defScope F.st).kind && !(defScope F.st).isCoroutine && !(defScope F.st).isGenerator && decide F.N.Nodup && decide (F.N.take F.ps.length = F.ps) &&
    (F.ps.all fun x => isLoc ((defScope F.st).names.lookup x)) && ((defScope F.st).names.all fun y => match y.2 with | .free => false | _ => true)
theorem scB_ok {F : Fn} (h : scB F = true) : FnScope F.N F.ps (defScope F.st) := by
  unfold scB at h
  simp only [Bool.and_eq_true, Bool.not_eq_true', decide_eq_true_eq, List.all_eq_true] at h
  obtain ⟨⟨⟨⟨⟨⟨h1, h2⟩, h3⟩, h4⟩, h5⟩, h6⟩, h7⟩ := h
  refine ⟨?_, h2, h3, h4, h5, fun x hx => loc_of (h6 x hx), fun y hy e => ?_⟩
  · unfold isFunK at h1
    split at h1
    · assumption
    · cases h1
  · have := h7 y hy
    rw [e] at this
    cases this
def BindP (F : Fn) : Prop := ∀ (nm q : Str) (kV doc pm : Value) (an : Option Addr) (cdv ct : Value) (us : List Value), us.length = F.ps.length →
  bindArgs (PySem.W.fnOf nm q (defArgs F.st) (defBody F.st) (defScope F.st) .none kV doc pm an cdv ct) ⟨us, []⟩ = pure (F.ps.zip us)
def AllP (P : Fn → Prop) : List Fn → Prop
  | [] => True
  | F :: r => P F ∧ AllP P r
theorem AllP.mem {P : Fn → Prop} : ∀ {l : List Fn}, AllP P l → ∀ F ∈ l, P F
  | [], _, F, h => by cases h
  | G :: r, a, F, h => by
    rcases List.mem_cons.mp h with rfl | h
    · exact a.1
    · exact AllP.mem a.2 F h
def dfd (F : Fn) : He.DefD := ⟨(F.key, none), F.key, F.key, defArgs F.st, defBody F.st, defScope F.st, [], []⟩
/-- a whole number, a text -/
inductive At where
  | i (n : Int) | s (z : Str)
def At.d : At → D
  | .i n => .int n
  | .s z => .str z
def At.v : At → V
  | .i n => .int n
  | .s z => .str z
def At.fa (x : Str) : At → He.Fa
  | .i n => .int x n
  | .s z => .str x z
theorem At.rep {G : Gm} {ρ : List Addr} {H : Hp} : ∀ a : At, Rep G ρ H a.d a.v
  | .i _ => rep_of_int
  | .s _ => rep_of_str
def faOf (izs : List (Str × At)) (free top : List Str) : List He.Fa := izs.map (fun p => p.2.fa p.1) ++ (free.map .free ++ top.map .glo)
def gmOf (K : PySem.W.Frag) (mg : Str → Option Value) (izs : List (Str × At)) : Gm := ⟨K, mg, izs.map fun p => (p.2.v, p.2.d)⟩
section
variable {fa : List He.Fa} {fn : List He.DefD} {K : PySem.W.Frag}
theorem fact_mem (c : He.SaysD fa fn K) {f : He.Fa} (h : f ∈ fa) : f.ok K = true := by
  obtain ⟨i, hi, e⟩ := List.getElem_of_mem h
  exact c.fact i (f := f) (by rw [List.getElem?_eq_getElem hi, e])
theorem def_mem (c : He.SaysD fa fn K) {d : He.DefD} (h : d ∈ fn) : ∃ fd, FunD K d.name d.qual d.params d.body d.scope (d.dvs K) (d.kws K) (He.fAd K d.at_) fd := by
  obtain ⟨i, hi, e⟩ := List.getElem_of_mem h
  exact c.def_ i (d := d) (by rw [List.getElem?_eq_getElem hi, e])
end
theorem find_key {l : List Fn} {f : Str} (h : f ∈ l.map (·.key)) : ∃ F, l.find? (fun F => F.key == f) = some F ∧ F ∈ l ∧ F.key = f := by
  cases q : l.find? (fun F => F.key == f) with
  | none =>
    obtain ⟨F, hF, rfl⟩ := List.mem_map.mp h
    have := List.find?_eq_none.mp q F hF
    simp at this
  | some F =>
    refine ⟨F, rfl, List.mem_of_find?_eq_some q, ?_⟩
    have := List.find?_some q
    exact LawfulBEq.eq_of_beq this
theorem lookup_ats {izs : List (Str × At)} {x : Str} {d : D} (h : (izs.map fun p => (p.1, p.2.d)).lookup x = some d) : ∃ i, (x, i) ∈ izs ∧ d = i.d := by
  induction izs with
  | nil => simp at h
  | cons p r ih =>
    rw [List.map_cons, List.lookup_cons] at h
    cases q : (x == p.1) with
    | true =>
      rw [q] at h
      cases h
      exact ⟨p.2, by rw [LawfulBEq.eq_of_beq q]; exact List.mem_cons_self .., rfl⟩
    | false =>
      rw [q] at h
      obtain ⟨i, hm, e⟩ := ih h
      exact ⟨i, List.mem_cons_of_mem _ hm, e⟩
theorem facts_plain {T : Tab} {K : PySem.W.Frag} {h : Heap} {mg : Str → Option Value} {izs : List (Str × At)} (X : K.In h) (Gn : h.Ns mainGlobals mg) (c : He.SaysD (faOf izs T.free T.top) (T.fns.map dfd) K)
    (hglob : T.glob = izs.map fun p => (p.1, p.2.d)) (hcls : T.cls = []) (htop : T.top = T.fns.map (·.key)) (hsc : T.fns.all scB = true) (hb : AllP BindP T.fns) : Facts T (gmOf K mg izs) := by
  have noM : ∀ C m, T.meth C m = none := fun C m => by unfold Tab.meth Tab.cl; rw [hcls]; rfl
  refine ⟨⟨fun x d hx => ?_, fun x hx => ?_, fun C f hf => ?_⟩, fun f hf => ?_, fun C m key hk => ?_, fun C key hk => ?_⟩
  · rw [hglob] at hx
    obtain ⟨i, hm, rfl⟩ := lookup_ats hx
    have fm := fact_mem c (f := i.fa x) (by
      unfold faOf
      exact List.mem_append_left _ (List.mem_map.mpr ⟨(x, i), hm, rfl⟩))
    cases i with
    | i n =>
      obtain ⟨t, e⟩ := He.int_ok X Gn fm
      exact ⟨.int n, .int n t, e, ⟨t, rfl⟩, List.mem_map.mpr ⟨(x, .i n), hm, rfl⟩⟩
    | s z =>
      obtain ⟨t, e⟩ := He.str_ok X Gn fm
      exact ⟨.str z, .str z t, e, ⟨t, rfl⟩, List.mem_map.mpr ⟨(x, .s z), hm, rfl⟩⟩
  · exact He.free_ok X Gn (fact_mem c (f := .free x) (by
      unfold faOf
      exact List.mem_append_right _ (List.mem_append_left _ (List.mem_map.mpr ⟨x, by simpa using hx, rfl⟩))))
  · unfold Tab.attr Tab.cl at hf
    rw [hcls] at hf
    cases hf
  · have hf' : f ∈ T.top := by simpa using hf
    have gl := He.glo_ok X Gn (fact_mem c (f := .glo f) (by
      unfold faOf
      exact List.mem_append_right _ (List.mem_append_right _ (List.mem_map.mpr ⟨f, hf', rfl⟩))))
    rw [htop] at hf'
    obtain ⟨F, h1, h2, rfl⟩ := find_key hf'
    obtain ⟨fd, hd⟩ := def_mem c (d := dfd F) (List.mem_map.mpr ⟨F, h2, rfl⟩)
    refine ⟨_, F, gl, hd.kp, h1, ⟨F.key, F.key, fd, fun_of hd, scB_ok (List.all_eq_true.mp hsc F h2), ?_⟩⟩
    exact FunD.bindsN hd fun kV doc pm an cdv ct us hl => hb.mem F h2 F.key F.key kV doc pm an cdv ct us hl
  · rw [noM] at hk; cases hk
  · rw [noM] at hk; cases hk
/-- the law's promise over every base -/
theorem law_plain {P : Program} {w : World} {T : Tab} {K : PySem.W.Frag} {h : Heap} {mg : Str → Option Value} {izs : List (Str × At)} {k n : Nat} {fa : Addr} (X : K.In h) (Gn : h.Ns mainGlobals mg) (c : He.SaysD (faOf izs T.free T.top) (T.fns.map dfd) K)
    (hglob : T.glob = izs.map fun p => (p.1, p.2.d)) (hcls : T.cls = []) (htop : T.top = T.fns.map (·.key)) (hsc : T.fns.all scB = true) (hb : AllP BindP T.fns)
    {FL : Fn} (hL : T.fn "law" = some FL) (hm : FL ∈ T.fns) (hkey : FL.key = "law") (hps : FL.ps = [("script" : Str)]) (hmg : mg ("law" : Str) = some (.ref fa)) (hlt : T.top.contains ("law" : Str) = true)
    (pure_ : ∀ ns : List Int, ns.length ≤ n → ∃ S', callAt T (k + 1) "law" [.frz (ns.map D.int)] [] = some (.v (.bl true), S')) :
    ∃ (fd : FuncData) (sp : Sp), (∀ (s : Shared) (u : Value), BindsTo s fd ⟨[u], []⟩ [("script", u)]) ∧
      (∀ (H : Hp) (a : Addr) (ns : List Int), ns.length ≤ n → (∀ b, b ≠ a → H b = none) → Rd H a (.lst (ns.map V.int)) → sp [.ref a] H (fun v _ => v = .bl true) fun _ _ _ => False) ∧
      ∀ base : Heap, K.In base → base.Ns mainGlobals mg → FnG P w K mg base (2 * (k + 1)) fa fd [("script" : Str)] sp := by
  obtain ⟨fd, hd⟩ := def_mem c (d := dfd FL) (List.mem_map.mpr ⟨FL, hm, rfl⟩)
  have gl := He.glo_ok X Gn (fact_mem c (f := .glo "law") (by
      unfold faOf
      exact List.mem_append_right _ (List.mem_append_right _ (List.mem_map.mpr ⟨"law", by simpa using hlt, rfl⟩))))
  have ea : He.fAd K (dfd FL).at_ = fa := by
    rw [hmg] at gl
    cases gl
    show He.ga K FL.key = _
    rw [hkey]
  have ft := facts_plain X Gn c hglob hcls htop hsc hb
  refine ⟨fd, spD (gmOf K mg izs) (callAt T (k + 1) "law"), fun s u => ?_, fun H a ns hl ho hr => ?_, fun base hK hN => ?_⟩
  · have := FunD.bindsA (ps := FL.ps) hd (fun kV doc pm an cdv ct us hl => hb.mem FL hm FL.key FL.key kV doc pm an cdv ct us hl) s [u] (by rw [hps]; rfl)
    rw [hps] at this
    exact this
  · obtain ⟨S', e⟩ := pure_ ns hl
    exact ⟨[], [.frz (ns.map D.int)], [], .cons (by unfold Rep; exact ⟨a, ns.map V.int, rfl, ⟨hr, by simp⟩, repL_of_ints ns⟩) .nil,
      ⟨rfl, List.nodup_nil, fun n o b e => by simp at e, fun p hp => by
        obtain ⟨q, _, rfl⟩ := List.mem_map.mp hp
        exact At.rep _⟩, .v (.bl true), S', e, fun ρ' H' b _ _ r => rep_bl r⟩
  · have r := fnG_succ (P := P) (w := w) (base := base) (k := k) (key := "law") ft (calls_at ft k) hL (ea ▸ fun_of hd) (scB_ok (List.all_eq_true.mp hsc FL hm))
    rw [hps] at r
    exact r
end DL
end

section
namespace DL
open PySem L2 PySem.Spec PyProof.Rows
/-- the methods: class, name, key -/
def mtri (T : Tab) : List (Str × Str × Str) := T.cls.flatMap fun c => c.meths.map fun p => (c.name, p.1, p.2)
def dfx (T : Tab) (at_ : Str × Option Str) (name key : Str) : He.DefD := match T.fn key with
  | some F => ⟨at_, name, key, defArgs F.st, defBody F.st, defScope F.st, [], []⟩
  | none => ⟨at_, name, key, defArgs (.Pass ⟨0, 0, 0, 0⟩), [], defScope (.Pass ⟨0, 0, 0, 0⟩), [], []⟩
def defsOf (T : Tab) : List He.DefD := T.top.map (fun f => dfx T (f, none) f f) ++ (mtri T).map fun p => dfx T (p.1, some p.2.1) p.2.1 p.2.2
def clsFa (c : Cl) : List He.Fa := .glo c.name :: .cls c.name :: ((c.meths.map fun p => .meth c.name p.1) ++ ((c.attrs.map fun f => .noat c.name f) ++ if (c.meths.lookup ("__init__" : Str)).isSome = true then [.mkr c.name] else []))
def faC (T : Tab) (ats : List (Str × At)) : List He.Fa := faOf ats T.free T.top ++ T.cls.flatMap clsFa
section
variable {T : Tab} {K : PySem.W.Frag} {h : Heap} {mg : Str → Option Value} {ats : List (Str × At)}
theorem cl_mem {C : Str} {c : Cl} (h : T.cl C = some c) : c ∈ T.cls ∧ c.name = C := by
  unfold Tab.cl at h
  refine ⟨List.mem_of_find?_eq_some h, ?_⟩
  have := List.find?_some h
  exact LawfulBEq.eq_of_beq this
theorem cls_fact (c : He.SaysD (faC T ats) (defsOf T) K) {C : Cl} (hC : C ∈ T.cls) {f : He.Fa} (hf : f ∈ clsFa C) : f.ok K = true :=
  fact_mem c (List.mem_append_right _ (List.mem_flatMap.mpr ⟨C, hC, hf⟩))
theorem lookup_mem2 {x y : Str} : ∀ {l : List (Str × Str)}, l.lookup x = some y → (x, y) ∈ l
  | [], h => by cases h
  | (a, b) :: r, h => by
    rw [List.lookup_cons] at h
    cases q : (x == a) with
    | true => rw [q] at h; cases h; rw [LawfulBEq.eq_of_beq q]; exact List.mem_cons_self ..
    | false => rw [q] at h; exact List.mem_cons_of_mem _ (lookup_mem2 h)
theorem fnfact_of (c : He.SaysD (faC T ats) (defsOf T) K) (hsc : T.fns.all scB = true) (hb : AllP BindP T.fns) {at_ : Str × Option Str} {name key : Str} {F : Fn} (hm : dfx T at_ name key ∈ defsOf T) (hF : T.fn key = some F) :
    FnFact K F (He.fAd K at_) ∧ (PySem.W.keepIn K (.ref (He.fAd K at_)) = true) ∧ ∃ fd, FunD K name key (defArgs F.st) (defBody F.st) (defScope F.st) [] [] (He.fAd K at_) fd := by
  have e : dfx T at_ name key = ⟨at_, name, key, defArgs F.st, defBody F.st, defScope F.st, [], []⟩ := by
    unfold dfx
    rw [hF]
  rw [e] at hm
  obtain ⟨fd, hd⟩ := def_mem c hm
  have hF2 : F ∈ T.fns := List.mem_of_find?_eq_some hF
  refine ⟨⟨name, key, fd, fun_of hd, scB_ok (List.all_eq_true.mp hsc F hF2), ?_⟩, hd.kp, fd, hd⟩
  exact FunD.bindsN hd fun kV doc pm an cdv ct us hl => hb.mem F hF2 name key kV doc pm an cdv ct us hl
theorem facts_cls (X : K.In h) (Gn : h.Ns mainGlobals mg) (c : He.SaysD (faC T ats) (defsOf T) K)
    (hglob : T.glob = ats.map fun p => (p.1, p.2.d)) (htop : T.top.all (fun f => (T.fn f).isSome) = true) (hmt : (mtri T).all (fun p => (T.fn p.2.2).isSome) = true) (hsc : T.fns.all scB = true) (hb : AllP BindP T.fns) : Facts T (gmOf K mg ats) := by
  have cf : ∀ {C m : Str} {key : Str}, T.meth C m = some key → ∃ c0 ∈ T.cls, c0.name = C ∧ (m, key) ∈ c0.meths ∧ (C, m, key) ∈ mtri T := fun {C m key} hk => by
    unfold Tab.meth at hk
    cases hc : T.cl C with
    | none => rw [hc] at hk; cases hk
    | some c0 =>
      rw [hc] at hk
      obtain ⟨h1, h2⟩ := cl_mem hc
      have h3 := lookup_mem2 hk
      exact ⟨c0, h1, h2, h3, List.mem_flatMap.mpr ⟨c0, h1, List.mem_map.mpr ⟨(m, key), h3, by rw [h2]⟩⟩⟩
  have base : ∀ f ∈ faOf ats T.free T.top, f.ok K = true := fun f hf => fact_mem c (List.mem_append_left _ hf)
  refine ⟨⟨fun x d hx => ?_, fun x hx => ?_, fun C f hf => ?_⟩, fun f hf => ?_, fun C m key hk => ?_, fun C key hk => ?_⟩
  · rw [hglob] at hx
    obtain ⟨i, hm, rfl⟩ := lookup_ats hx
    have fm := base (i.fa x) (by
      unfold faOf
      exact List.mem_append_left _ (List.mem_map.mpr ⟨(x, i), hm, rfl⟩))
    cases i with
    | i n =>
      obtain ⟨t, e⟩ := He.int_ok X Gn fm
      exact ⟨.int n, .int n t, e, ⟨t, rfl⟩, List.mem_map.mpr ⟨(x, .i n), hm, rfl⟩⟩
    | s z =>
      obtain ⟨t, e⟩ := He.str_ok X Gn fm
      exact ⟨.str z, .str z t, e, ⟨t, rfl⟩, List.mem_map.mpr ⟨(x, .s z), hm, rfl⟩⟩
  · exact He.free_ok X Gn (base (.free x) (by
      unfold faOf
      exact List.mem_append_right _ (List.mem_append_left _ (List.mem_map.mpr ⟨x, by simpa using hx, rfl⟩))))
  · unfold Tab.attr at hf
    cases hc : T.cl C with
    | none => rw [hc] at hf; cases hf
    | some c0 =>
      rw [hc] at hf
      obtain ⟨h1, h2⟩ := cl_mem hc
      subst h2
      have f1 := cls_fact c h1 (f := .glo c0.name) (by unfold clsFa; exact List.mem_cons_self ..)
      have f2 := cls_fact c h1 (f := .cls c0.name) (List.mem_cons_of_mem _ (List.mem_cons_self ..))
      have f3 := cls_fact c h1 (f := .noat c0.name f) (List.mem_cons_of_mem _ (List.mem_cons_of_mem _ (List.mem_append_right _ (List.mem_append_left _ (List.mem_map.mpr ⟨f, by simpa using hf, rfl⟩)))))
      exact ⟨_, He.glo_ok X Gn f1, He.cls_ok f2, He.noat_ok f3⟩
  · have hf' : f ∈ T.top := by simpa using hf
    have gl := He.glo_ok X Gn (base (.glo f) (by
      unfold faOf
      exact List.mem_append_right _ (List.mem_append_right _ (List.mem_map.mpr ⟨f, hf', rfl⟩))))
    obtain ⟨F, hF⟩ := Option.isSome_iff_exists.mp (List.all_eq_true.mp htop f hf')
    obtain ⟨h1, h2, _⟩ := fnfact_of c hsc hb (at_ := (f, none)) (List.mem_append_left _ (List.mem_map.mpr ⟨f, hf', rfl⟩)) hF
    exact ⟨_, F, gl, h2, hF, h1⟩
  · obtain ⟨c0, h1, h2, h3, h4⟩ := cf hk
    subst h2
    have f1 := cls_fact c h1 (f := .glo c0.name) (by unfold clsFa; exact List.mem_cons_self ..)
    have f2 := cls_fact c h1 (f := .cls c0.name) (List.mem_cons_of_mem _ (List.mem_cons_self ..))
    have f3 := cls_fact c h1 (f := .meth c0.name m) (List.mem_cons_of_mem _ (List.mem_cons_of_mem _ (List.mem_append_left _ (List.mem_map.mpr ⟨(m, key), h3, rfl⟩))))
    obtain ⟨F, hF⟩ := Option.isSome_iff_exists.mp (List.all_eq_true.mp hmt _ h4)
    obtain ⟨h5, h6, _⟩ := fnfact_of c hsc hb (at_ := (c0.name, some m)) (List.mem_append_right _ (List.mem_map.mpr ⟨_, h4, rfl⟩)) hF
    exact ⟨_, _, F, He.glo_ok X Gn f1, He.cls_ok f2, He.meth_ok f3, hF, h5⟩
  · obtain ⟨c0, h1, h2, h3, h4⟩ := cf hk
    subst h2
    have f1 := cls_fact c h1 (f := .glo c0.name) (by unfold clsFa; exact List.mem_cons_self ..)
    have hl : (c0.meths.lookup ("__init__" : Str)).isSome = true := by
      cases hc : T.cl c0.name with
      | none => unfold Tab.meth at hk; rw [hc] at hk; cases hk
      | some c1 =>
        cases q : c0.meths.lookup ("__init__" : Str) with
        | some _ => rfl
        | none =>
          have := List.lookup_eq_none_iff.mp q ("__init__", key) h3
          simp at this
    have f3 := cls_fact c h1 (f := .mkr c0.name) (List.mem_cons_of_mem _ (List.mem_cons_of_mem _ (List.mem_append_right _ (List.mem_append_right _ (by rw [if_pos hl]; exact List.mem_singleton.mpr rfl)))))
    obtain ⟨F, hF⟩ := Option.isSome_iff_exists.mp (List.all_eq_true.mp hmt _ h4)
    obtain ⟨h5, h6, _⟩ := fnfact_of c hsc hb (at_ := (c0.name, some ("__init__" : Str))) (List.mem_append_right _ (List.mem_map.mpr ⟨_, h4, rfl⟩)) hF
    exact ⟨_, _, F, He.glo_ok X Gn f1, He.mkr_ok f3, hF, h5⟩
/-- the law's promise over every base -/
theorem law_cls {P : Program} {w : World} {k n : Nat} {fa : Addr} (X : K.In h) (Gn : h.Ns mainGlobals mg) (c : He.SaysD (faC T ats) (defsOf T) K)
    (hglob : T.glob = ats.map fun p => (p.1, p.2.d)) (htop : T.top.all (fun f => (T.fn f).isSome) = true) (hmt : (mtri T).all (fun p => (T.fn p.2.2).isSome) = true) (hsc : T.fns.all scB = true) (hb : AllP BindP T.fns)
    {FL : Fn} (hL : T.fn "law" = some FL) (hps : FL.ps = [("script" : Str)]) (hmg : mg ("law" : Str) = some (.ref fa)) (hlt : T.top.contains ("law" : Str) = true)
    (pure_ : ∀ ns : List Int, ns.length ≤ n → ∃ S', callAt T (k + 1) "law" [.frz (ns.map D.int)] [] = some (.v (.bl true), S')) :
    ∃ (fd : FuncData) (sp : Sp), (∀ (s : Shared) (u : Value), BindsTo s fd ⟨[u], []⟩ [("script", u)]) ∧
      (∀ (H : Hp) (a : Addr) (ns : List Int), ns.length ≤ n → (∀ b, b ≠ a → H b = none) → Rd H a (.lst (ns.map V.int)) → sp [.ref a] H (fun v _ => v = .bl true) fun _ _ _ => False) ∧
      ∀ base : Heap, K.In base → base.Ns mainGlobals mg → FnG P w K mg base (2 * (k + 1)) fa fd [("script" : Str)] sp := by
  have ft := facts_cls X Gn c hglob htop hmt hsc hb
  have hlt' : ("law" : Str) ∈ T.top := by simpa using hlt
  obtain ⟨h1, h2, fd, hd⟩ := fnfact_of c hsc hb (at_ := (("law" : Str), none)) (name := "law") (key := "law") (List.mem_append_left _ (List.mem_map.mpr ⟨"law", hlt', rfl⟩)) hL
  have hm : FL ∈ T.fns := List.mem_of_find?_eq_some hL
  have gl := He.glo_ok X Gn (fact_mem c (f := .glo "law") (List.mem_append_left _ (by
      unfold faOf
      exact List.mem_append_right _ (List.mem_append_right _ (List.mem_map.mpr ⟨"law", hlt', rfl⟩)))))
  have ea : He.fAd K (("law" : Str), none) = fa := by
    rw [hmg] at gl
    cases gl
    rfl
  refine ⟨fd, spD (gmOf K mg ats) (callAt T (k + 1) "law"), fun s u => ?_, fun H a ns hl ho hr => ?_, fun base hK hN => ?_⟩
  · have := FunD.bindsA (ps := FL.ps) hd (fun kV doc pm an cdv ct us hl => hb.mem FL hm "law" "law" kV doc pm an cdv ct us hl) s [u] (by rw [hps]; rfl)
    rw [hps] at this
    exact this
  · obtain ⟨S', e⟩ := pure_ ns hl
    exact ⟨[], [.frz (ns.map D.int)], [], .cons (by unfold Rep; exact ⟨a, ns.map V.int, rfl, ⟨hr, by simp⟩, repL_of_ints ns⟩) .nil,
      ⟨rfl, List.nodup_nil, fun n o b e => by simp at e, fun p hp => by
        obtain ⟨q, _, rfl⟩ := List.mem_map.mp hp
        exact At.rep _⟩, .v (.bl true), S', e, fun ρ' H' b _ _ r => rep_bl r⟩
  · have r := fnG_succ (P := P) (w := w) (base := base) (k := k) (key := "law") ft (calls_at ft k) hL (ea ▸ fun_of hd) (scB_ok (List.all_eq_true.mp hsc FL hm))
    rw [hps] at r
    exact r
end
end DL
end

section
namespace DL
open PySem L2
/-- a loop stands still until it is told to go -/
inductive Lp (p : Prop) : Prop where
  | go (h : p) : Lp p
/-- a branching: it goes on by itself where the bool is known -/
def br (b : Bool) (p q : Prop) : Prop := match b with
  | true => p
  | false => q
theorem br_ {b : Bool} {p q : Prop} (h1 : b = true → p) (h2 : b = false → q) : br b p q := by cases b with | true => exact h1 rfl | false => exact h2 rfl
theorem br_t {b : Bool} {p q : Prop} (h : b = true) (h1 : p) : br b p q := by cases h; exact h1
theorem br_f {b : Bool} {p q : Prop} (h : b = false) (h1 : q) : br b p q := by cases h; exact h1
/-- a guard -/
def grd (b : Bool) (p : Prop) : Prop := match b with
  | true => p
  | false => False
theorem grd_ {b : Bool} {p : Prop} (h : b = true) (h1 : p) : grd b p := by cases h; exact h1
theorem grd_out {b : Bool} {p : Prop} (h : grd b p) : b = true ∧ p := by cases b with | true => exact ⟨rfl, h⟩ | false => exact h.elim
theorem br_out {b : Bool} {p q : Prop} (h : br b p q) : (b = true → p) ∧ (b = false → q) := by
  cases b
  · exact ⟨fun e => absurd e (by decide), fun _ => h⟩
  · exact ⟨fun _ => h, fun e => absurd e (by decide)⟩
abbrev MP (α : Type) := Store → (R α → Store → Prop) → Prop
namespace MP
def pure {α : Type} (a : α) : MP α := fun S κ => κ (.v a) S
def bind {α β : Type} (m : MP α) (f : α → MP β) : MP β := fun S κ => m S fun r S1 => (match r with
  | .v a => f a
  | .ex x => fun S κ => κ (.ex x) S) S1 κ
def fail {α : Type} : MP α := fun _ _ => False
def lift {α : Type} (m : M α) : MP α := fun S κ => match m S with
  | some (r, S') => κ r S'
  | none => False
def opD (m : M D) : MP D := lift m
def opU (m : M Unit) : MP Unit := lift m
def opL (m : M (List D)) : MP (List D) := lift m
/-- a decision -/
def opB (m : M Bool) : MP Bool := fun S κ => match m S with
  | some (.v b, S') => br b (κ (.v true) S') (κ (.v false) S')
  | _ => False
def calm {α : Type} (m : MP α) : MP α := fun S κ => m S fun r S1 => match r with
  | .v a => κ (.v a) S1
  | .ex _ => False
end MP
def guardP {α : Type} (b : Bool) (m : MP α) : MP α := fun S κ => grd b (m S κ)
def mkLP (st : Bool) (xs : List D) : MP D := guardP (decide (xs.length ≤ sizeLine)) (MP.lift (if st = true then alloc (.lst xs) else M.pure (.lst xs)))
def mkTP (xs : List D) : MP D := guardP (decide (xs.length ≤ sizeLine)) (MP.pure (.tup xs))
def dAddP (st : Bool) : D → D → MP D
  | .int i, .int j => MP.pure (.int (i + j))
  | .str x, .str y => guardP (decide ((x ++ y).length ≤ sizeLine)) (MP.pure (.str (x ++ y)))
  | .tup xs, .tup ys => mkTP (xs ++ ys)
  | x, y => MP.bind (MP.lift (lstOf x)) fun xs => MP.bind (MP.lift (lstOf y)) fun ys => mkLP st (xs ++ ys)
def dBinP (st : Bool) : Operator → D → D → MP D
  | .Add, x, y => dAddP st x y
  | .Mult, .int i, .int j => guardP (mulOk i j) (MP.pure (.int (i * j)))
  | .FloorDiv, .int i, .int j => guardP (divOk j) (MP.pure (.int (i.fdiv j)))
  | .Mod, .int i, .int j => guardP (decide (j ≠ 0)) (MP.pure (.int (i.fmod j)))
  | .Pow, .int i, .int j => guardP (powOk i j) (MP.pure (.int (i ^ j.toNat)))
  | op, x, y => MP.lift (dBin st op x y)
def on1P (g : D → MP D) : List D → MP D
  | [d] => g d
  | _ => MP.fail
def bListP (st : Bool) (d : D) : MP D := match d with
  | .str z => guardP (decide (z.length ≤ sizeLine)) (mkLP st (charsOf z))
  | d => MP.bind (MP.lift (seqOf d)) fun xs => mkLP st xs
def callBP (st : Bool) (f : Str) : List D → MP D := if (f == "list") = true then on1P (bListP st) else fun ds => MP.lift (callB st f ds)
/-- texts in a row of texts: decided at once -/
def okS (x : Str) : Bool := x.cps.toList.all fun c => decide (c < 0x110000)
def okD : D → Bool
  | .str x => okS x
  | _ => false
def sameS (a : Str) : D → Bool
  | .str b => decide (b = a)
  | _ => false
def inS (neg : Bool) (a : Str) (ys : List D) (m : M Bool) : MP Bool := if (okS a && ys.all okD) = true then fun S κ => br (ys.any (sameS a)) (κ (.v (!neg)) S) (κ (.v neg) S) else MP.opB m
def neS (v : Bool) (b : Str) (m : M Bool) : MP Bool := if okS b = true then fun S κ => κ (.v v) S else MP.opB m
def dCmpP (op : CmpOp) (x y : D) : MP Bool := match op, x, y with
  | .In, .str a, .tup ys => inS false a ys (dCmp .In (.str a) (.tup ys))
  | .In, .str a, .lst ys => inS false a ys (dCmp .In (.str a) (.lst ys))
  | .NotIn, .str a, .tup ys => inS true a ys (dCmp .NotIn (.str a) (.tup ys))
  | .NotIn, .str a, .lst ys => inS true a ys (dCmp .NotIn (.str a) (.lst ys))
  | .Eq, .int i, .str b => neS false b (dCmp .Eq (.int i) (.str b))
  | .NotEq, .int i, .str b => neS true b (dCmp .NotEq (.int i) (.str b))
  | op, x, y => MP.opB (dCmp op x y)
abbrev EMP := En → MP D
abbrev SMP := En → Store → (Out → Store → Prop) → Prop
structure EvP where
  e : Sc → Expr → EMP
  t : Sc → Expr → En → MP Bool
  g : Sc → Expr → D → En → MP En
  s : Sc → Stmt → SMP
def eListP : List EMP → En → MP (List D)
  | [], _ => MP.pure []
  | m :: r, η => MP.bind (m η) fun d => MP.bind (eListP r η) fun ds => MP.pure (d :: ds)
def sBlockP : List SMP → SMP
  | [], η, S, κ => κ (.nx η) S
  | m :: r, η, S, κ => m η S fun o S' => (match o with
    | .nx η' => sBlockP r η'
    | o => fun S κ => κ o S) S' κ
def gListP : List (D → En → MP En) → List D → En → MP En
  | [], [], η => MP.pure η
  | g :: gs, d :: ds, η => MP.bind (g d η) fun η' => gListP gs ds η'
  | _, _, _ => MP.fail
def tAllP : List (En → MP Bool) → En → MP Bool
  | [], _ => MP.pure true
  | t :: r, η => MP.bind (t η) fun b => if b = true then tAllP r η else MP.pure false
def tAnyP : List (En → MP Bool) → En → MP Bool
  | [], _ => MP.pure false
  | t :: r, η => MP.bind (t η) fun b => if b = true then MP.pure true else tAnyP r η
/-- and, or as values: the bool is decided -/
def decD (d : D) : M Bool := match d with
  | .bl b => M.pure b
  | _ => M.fail
def eAllP : List EMP → En → MP D
  | [], _ => MP.fail
  | [t], η => t η
  | t :: r, η => MP.bind (t η) fun d => MP.bind (MP.opB (decD d)) fun b => if b = true then eAllP r η else MP.pure (.bl false)
def eAnyP : List EMP → En → MP D
  | [], _ => MP.fail
  | [t], η => t η
  | t :: r, η => MP.bind (t η) fun d => MP.bind (MP.opB (decD d)) fun b => if b = true then MP.pure (.bl true) else eAnyP r η
section
variable (T : Tab) (cP : Str → List D → MP D) (P : EvP)
def evArgsP (Γ : Sc) (es : List Expr) : En → MP (List D) := if es.all notStar = true then eListP (es.map (P.e Γ)) else fun _ => MP.fail
def makeP (C : Str) (ds : List D) : MP D := match T.meth C "__init__" with
  | some key => MP.bind (MP.lift (alloc (.ins C []))) fun o => MP.bind (cP key (o :: ds)) fun r => match r with | .non => MP.pure o | _ => MP.fail
  | none => MP.fail
def evCallGP (Γ : Sc) (f : Str) (args : List Expr) (pos : Pos) : EMP :=
  if T.top.contains f = true then fun η => MP.bind (evArgsP P Γ args η) fun ds => cP f ds
  else if (T.meth f "__init__").isSome = true then fun η => MP.bind (evArgsP P Γ args η) fun ds => makeP T cP f ds
  else if T.free.contains f = true then
    if f == "isinstance" then (match args with
      | [a, .Name ty _] => if (Γ.glb ty && T.free.contains ty && tyNames.contains ty && notStar a) = true then fun η => MP.bind (P.e Γ a η) fun d => MP.lift fun S => (match isTy ty d S with | some r => some (.v (.bl r), S) | none => none) else fun _ => MP.fail
      | _ => fun _ => MP.fail)
    else (match zipIn T Γ f args with
      | some (a, b) => fun η => MP.bind (evArgsP P Γ [a, b] η) fun ds => MP.lift (listZ (T.at_ pos) ds)
      | none => if bltNames.contains f = true then fun η => MP.bind (evArgsP P Γ args η) fun ds => callBP (T.at_ pos) f ds else fun _ => MP.fail)
  else fun _ => MP.fail
def evMethBP (Γ : Sc) (m : Str) (args : List Expr) (η : En) (d : D) : MP D := fun S κ => (match bTag S d with
  | some t => (match methF t m with
    | some f => MP.bind (evArgsP P Γ args η) (fun ds => MP.opD (f d ds))
    | none => MP.fail)
  | none => MP.fail) S κ
def evMeth1P (Γ : Sc) (m : Str) (args : List Expr) (η : En) : D → MP D
  | .obj n => fun S κ => (match S[n]? with
    | some (.ins C fs) => (match T.meth C m with
      | some key => if (fs.lookup m).isNone = true then MP.bind (evArgsP P Γ args η) (fun ds => cP key (.obj n :: ds)) else MP.fail
      | none => MP.fail)
    | _ => evMethBP P Γ m args η (.obj n)) S κ
  | d => evMethBP P Γ m args η d
def evMethP (Γ : Sc) (o : Expr) (m : Str) (args : List Expr) (apos pos : Pos) : EMP :=
  if (notSup o && (apos.endLine == pos.line) && decide (args.length < 30) && args.all notStar) = true then
    fun η => MP.bind (P.e Γ o η) (evMeth1P T cP P Γ m args η)
  else fun _ => MP.fail
def optIP (Γ : Sc) : Option Expr → En → MP (Option Int)
  | none, _ => MP.pure none
  | some e, η => MP.bind (P.e Γ e η) fun d => match d with | .int i => MP.pure (some i) | _ => MP.fail
def rangeOfP (lo hi : Int) : MP Src := guardP (decide (-(2 ^ 62) ≤ lo) && decide (lo < 2 ^ 62) && decide (-(2 ^ 62) ≤ hi) && decide (hi < 2 ^ 62)) (MP.pure (rangeI lo 1 (hi - lo).toNat))
def rangeByP (lo hi st : Int) : MP Src := guardP (decide (st ≠ 0) && decide (st.natAbs < 1073741824) && Builtin.Range.small lo hi st) (MP.pure (rangeI lo st (Builtin.Range.rangeSize lo hi st).toNat))
def rangeArgsP : List D → MP Src
  | [.int hi] => rangeOfP 0 hi
  | [.int lo, .int hi] => rangeOfP lo hi
  | [.int lo, .int hi, .int st] => rangeByP lo hi st
  | _ => MP.fail
def evSrcP (Γ : Sc) (tg it : Expr) : En → MP Src := match walkOf T Γ tg it with
  | .range args => if decide (0 < args.length ∧ args.length ≤ 3) = true then fun η => MP.bind (evArgsP P Γ args η) fun ds => rangeArgsP ds else fun _ => MP.fail
  | .enum a => fun η => MP.bind (evArgsP P Γ [a] η) fun ds => MP.lift (enumArgs ds)
  | .zip a b => fun η => MP.bind (evArgsP P Γ [a, b] η) fun ds => MP.lift (zipArgs ds)
  | .plain => fun η => MP.bind (P.e Γ it η) fun d => MP.lift (srcOf d)
def evIfsP (Γ : Sc) : List Expr → En → MP Bool
  | [], _ => MP.pure true
  | [t], η => P.t Γ t η
  | _, _ => MP.fail
/-- a turn of a comprehension raises nothing -/
def compTurnP (Γ' : Sc) (tg : Tgt) (own : List Nat) (elt : Expr) (ifs : List Expr) (η : En) (d : D) : MP (Option D) :=
  MP.calm (MP.bind (MP.lift (tg.set d (wipeE η own))) fun η' => MP.bind (evIfsP P Γ' ifs η') fun b => if b = true then MP.bind (P.e Γ' elt η') fun y => MP.pure (some y) else MP.pure none)
def compLoopP (nx : Nx) (turn : D → MP (Option D)) : Nat → Nat → List D → MP (List D)
  | 0, _, _, _, _ => False
  | f + 1, i, acc, S, κ => match nx S i with
    | none => False
    | some none => κ (.v acc) S
    | some (some d) => turn d S fun r S' => (match r with
      | .v (some y) => fun S κ => grd (decide (acc.length < sizeLine)) (compLoopP nx turn f (i + 1) (acc ++ [y]) S κ)
      | .v none => compLoopP nx turn f (i + 1) acc
      | .ex _ => MP.fail) S' κ
def evCompP (Γ : Sc) (st : Bool) (elt tg it : Expr) (ifs : List Expr) (scope : Scope) : EMP :=
  match tgOf (Γ.inner scope) tg with
  | some t =>
    if (notSet it && blkC Γ.N Γ.sc scope (ownSlots Γ.N scope) && decide (ifs.length ≤ 1) && t.all fun i => ((ownSlots Γ.N scope).map (·.2)).contains i) = true then
      fun η => MP.bind (evSrcP T P Γ tg it η) fun src => MP.bind (fun S κ => Lp (compLoopP src.nx (compTurnP P (Γ.inner scope) t ((ownSlots Γ.N scope).map (·.2)) elt ifs η) (src.fuel S) 0 [] S κ)) fun ys => MP.lift (newLst st ys)
    else fun _ => MP.fail
  | none => fun _ => MP.fail
/-- a field read, stored -/
def getF (f : Str) (x : D) : M D := match x with
  | .obj n => M.bind (getO n) fun o => (match o with | .ins C fs => (if T.attr C f = true then M.of (fs.lookup f) else M.fail) | _ => M.fail)
  | _ => M.fail
def putF (f : Str) (d x : D) : M Unit := match x with
  | .obj n => M.bind (getO n) fun ob => (match ob with
    | .ins C fs => if (decide (fs.length ≤ 200) && T.attr C f) = true then setO n (.ins C (fPut f d fs)) else M.fail
    | _ => M.fail)
  | _ => M.fail
def ePairsP (Γ : Sc) : List (Option Expr) → List Expr → En → MP (List (D × D))
  | [], [], _ => MP.pure []
  | some k :: ks, v :: vs, η => MP.bind (MP.calm (P.e Γ k η)) fun a => MP.bind (MP.calm (P.e Γ v η)) fun b => MP.bind (ePairsP Γ ks vs η) fun r => MP.pure ((a, b) :: r)
  | _, _, _ => MP.fail
def dcLoopP (nx : Nx) (turn : D → MP (Option (D × D))) : Nat → Nat → List (DK × D) → MP (List (DK × D))
  | 0, _, _, _, _ => False
  | f + 1, i, acc, S, κ => match nx S i with
    | none => False
    | some none => κ (.v acc) S
    | some (some d) => turn d S fun r S' => (match r with
      | .v (some p) => (match pairK p with
        | some kv => fun S κ => grd (decide (acc.length < sizeLine)) (dcLoopP nx turn f (i + 1) (dPut acc kv.1 kv.2) S κ)
        | none => MP.fail)
      | .v none => dcLoopP nx turn f (i + 1) acc
      | .ex _ => MP.fail) S' κ
def dcTurnP (Γ' : Sc) (tg : Tgt) (own : List Nat) (kx vx : Expr) (ifs : List Expr) (η : En) (d : D) : MP (Option (D × D)) :=
  MP.calm (MP.bind (MP.lift (tg.set d (wipeE η own))) fun η' => MP.bind (evIfsP P Γ' ifs η') fun b => if b = true then MP.bind (P.e Γ' kx η') fun y => MP.bind (P.e Γ' vx η') fun z => MP.pure (some (y, z)) else MP.pure none)
def evDCompP (Γ : Sc) (st : Bool) (kx vx tg it : Expr) (ifs : List Expr) (scope : Scope) : EMP :=
  match tgOf (Γ.inner scope) tg with
  | some t =>
    if (notSet it && blkC Γ.N Γ.sc scope (ownSlots Γ.N scope) && decide (ifs.length ≤ 1) && t.all fun i => ((ownSlots Γ.N scope).map (·.2)).contains i) = true then
      fun η => MP.bind (evSrcP T P Γ tg it η) fun src => MP.bind (fun S κ => Lp (dcLoopP src.nx (dcTurnP P (Γ.inner scope) t ((ownSlots Γ.N scope).map (·.2)) kx vx ifs η) (src.fuel S) 0 [] S κ)) fun ys => MP.lift (mkD st ys)
    else fun _ => MP.fail
  | none => fun _ => MP.fail
def stepEP (Γ : Sc) : Expr → EMP
  | .Constant k _ _ => fun _ => MP.lift (M.of (constD k))
  | .Name x _ => if (x == ("__debug__" : Str) || x == ("__classdict__" : Str)) = true then fun _ => MP.fail else fun η => MP.lift (evName T Γ x η)
  | .BinOp a op b pos => fun η => MP.bind (P.e Γ a η) fun x => MP.bind (P.e Γ b η) fun y => dBinP (T.at_ pos) op x y
  | .UnaryOp .USub a _ => fun η => MP.bind (P.e Γ a η) fun x => MP.lift (dNeg x)
  | .UnaryOp .Not a _ => fun η => MP.bind (P.e Γ a η) fun x => (match x with | .bl b => MP.pure (.bl (!b)) | _ => MP.fail)
  | .BoolOp .And vs _ => eAllP (vs.map (P.e Γ))
  | .BoolOp .Or vs _ => eAnyP (vs.map (P.e Γ))
  | .IfExp t a b _ => fun η => MP.bind (P.t Γ t η) fun k => if k = true then P.e Γ a η else P.e Γ b η
  | .Compare a [op] [b] _ => if behindInMarks op b = false then fun η => MP.bind (P.e Γ a η) fun x => MP.bind (P.e Γ b η) fun y => MP.bind (dCmpP op x y) fun k => MP.pure (.bl k) else fun _ => MP.fail
  | .Compare a [op, op'] [b, b'] _ => if lastMarks [op, op'] [b, b'] = false then fun η => MP.bind (P.e Γ a η) fun x => MP.bind (P.e Γ b η) fun y => MP.bind (dCmpP op x y) fun k =>
      if k = true then MP.bind (P.e Γ b' η) fun z => MP.bind (dCmpP op' y z) fun k' => MP.pure (.bl k') else MP.pure (.bl false)
      else fun _ => MP.fail
  | .Tuple es _ _ => fun η => MP.bind (evArgsP P Γ es η) fun ds => mkTP ds
  | .List es pos => fun η => MP.bind (evArgsP P Γ es η) fun ds => mkLP (T.at_ pos) ds
  | .Dict [] [] pos => fun _ => MP.lift (mkD (T.at_ pos) [])
  | .Dict ks vs pos => if (ks.all (·.isSome) && ks.length == vs.length && decide (ks.length ≤ 15) && !ks.isEmpty) = true then fun η => MP.bind (ePairsP P Γ ks vs η) fun ps => MP.lift (newDisp (T.at_ pos) ps) else fun _ => MP.fail
  | .Subscript a (.Slice lo hi none _) pos => fun η => MP.bind (P.e Γ a η) fun x => MP.bind (optIP P Γ lo η) fun l => MP.bind (optIP P Γ hi η) fun h => MP.opD (dCut (T.at_ pos) x l h)
  | .Subscript _ (.Slice _ _ _ _) _ => fun _ => MP.fail
  | .Subscript a b _ => fun η => MP.bind (P.e Γ a η) fun x => MP.bind (P.e Γ b η) fun y => MP.opD (dIx x y)
  | .Attribute a f _ => if notSup a = true then fun η => MP.bind (P.e Γ a η) fun x => MP.lift (getF T f x)
      else fun _ => MP.fail
  | .ListComp elt [⟨tg, it, ifs, 0⟩] scope pos => evCompP T P Γ (T.at_ pos) elt tg it ifs scope
  | .DictComp kx vx [⟨tg, it, ifs, 0⟩] scope pos => evDCompP T P Γ (T.at_ pos) kx vx tg it ifs scope
  | .Call (.Name f _) args [] pos => if (Γ.glb f && !(f == ("__debug__" : Str)) && !(f == ("__name__" : Str))) = true then evCallGP T cP P Γ f args pos else fun _ => MP.fail
  | .Call (.Attribute o m apos) args [] pos => evMethP T cP P Γ o m args apos pos
  | _ => fun _ => MP.fail
def stepTP (Γ : Sc) : Expr → En → MP Bool
  | .UnaryOp .Not a _ => fun η => MP.bind (P.t Γ a η) fun b => MP.pure (!b)
  | .BoolOp .And vs _ => tAllP (vs.map (P.t Γ))
  | .BoolOp .Or vs _ => tAnyP (vs.map (P.t Γ))
  | .IfExp t a b _ => fun η => MP.bind (P.t Γ t η) fun k => if k = true then P.t Γ a η else P.t Γ b η
  | .Compare a [op] [b] _ => if behindInMarks op b = false then fun η => MP.bind (P.e Γ a η) fun x => MP.bind (P.e Γ b η) fun y => dCmpP op x y else fun _ => MP.fail
  | .Compare a [op, op'] [b, b'] _ => if lastMarks [op, op'] [b, b'] = false then fun η => MP.bind (P.e Γ a η) fun x => MP.bind (P.e Γ b η) fun y => MP.bind (dCmpP op x y) fun k =>
      if k = true then MP.bind (P.e Γ b' η) fun z => dCmpP op' y z else MP.pure false
      else fun _ => MP.fail
  | .Compare _ _ _ _ => fun _ => MP.fail
  | e => fun η => MP.bind (stepEP T cP P Γ e η) fun d => MP.opB (tru d)
def stepGP (Γ : Sc) : Expr → D → En → MP En
  | .Name x _ => (match Γ.put x with | some i => fun d η => MP.pure (η.set i (some d)) | none => fun _ _ => MP.fail)
  | .Tuple es _ _ => if es.all notStar = true then fun d η => MP.bind (MP.opL (seqOf d)) fun xs => gListP (es.map (P.g Γ)) xs η else fun _ _ => MP.fail
  | .Subscript o i _ => (match i with
      | .Slice _ _ _ _ => fun _ _ => MP.fail
      | _ => fun d η => MP.bind (MP.calm (P.e Γ o η)) fun x => MP.bind (MP.calm (P.e Γ i η)) fun y => MP.bind (MP.opU (dSet x y d)) fun _ => MP.pure η)
  | .Attribute o f _ => fun d η => MP.bind (MP.calm (P.e Γ o η)) fun x => MP.bind (MP.lift (putF T f d x)) fun _ => MP.pure η
  | _ => fun _ _ => MP.fail
def liftSP {α : Type} (m : MP α) (η : En) (k : α → Store → (Out → Store → Prop) → Prop) : Store → (Out → Store → Prop) → Prop := fun S κ => m S fun r S1 => (match r with
  | .v a => k a
  | .ex x => fun S κ => κ (.ex x η) S) S1 κ
def forLoopP (nx : Nx) (body : D → SMP) : Nat → Nat → SMP
  | 0, _, _, _, _ => False
  | f + 1, i, η, S, κ => match nx S i with
    | none => False
    | some none => κ (.nx η) S
    | some (some d) => body d η S fun o S' => (match o with
      | .nx η' => forLoopP nx body f (i + 1) η'
      | .ct η' => forLoopP nx body f (i + 1) η'
      | .bk η' => fun S κ => κ (.nx η') S
      | o => fun S κ => κ o S) S' κ
def whileLoopP (cc : En → MP Bool) (body : SMP) : Nat → SMP
  | 0, _, _, _ => False
  | f + 1, η, S, κ => cc η S fun r S1 => (match r with
    | .v true => fun S1 κ => body η S1 fun o S' => (match o with
      | .nx η' => whileLoopP cc body f η'
      | .ct η' => whileLoopP cc body f η'
      | .bk η' => fun S κ => κ (.nx η') S
      | o => fun S κ => κ o S) S' κ
    | .v false => fun S1 κ => κ (.nx η) S1
    | .ex x => fun S1 κ => κ (.ex x η) S1) S1 κ
def asgCompP (Γ : Sc) (m : EMP) (tg : Expr) : SMP := match tg with
  | .Name y _ => (match Γ.put y with
    | some i => fun η => liftSP (m η) η fun d S κ => κ (.nx (η.set i (some d))) S
    | none => fun _ _ _ => False)
  | _ => if notStar tg = true then fun η => liftSP (m η) η fun d => liftSP (P.g Γ tg d η) η fun η' S κ => κ (.nx η') S else fun _ _ _ => False
def asgDCompP (Γ : Sc) (m : EMP) (tg : Expr) : SMP := if (notStar tg && !isName tg) = true then fun η => liftSP (m η) η fun d => liftSP (P.g Γ tg d η) η fun η' S κ => κ (.nx η') S else fun _ _ _ => False
def stepAsgP (Γ : Sc) (tg e : Expr) : SMP := match e with
  | .ListComp elt [⟨tg', it, ifs, 0⟩] scope p => asgCompP P Γ (evCompP T P Γ (T.at_ p) elt tg' it ifs scope) tg
  | .DictComp kx vx [⟨tg', it, ifs, 0⟩] scope p => asgDCompP P Γ (evDCompP T P Γ (T.at_ p) kx vx tg' it ifs scope) tg
  | e => if isComp e = true then fun _ _ _ => False else (match swapNames Γ tg e with
    | some none => if notStar tg = true then fun η => liftSP (P.e Γ e η) η fun d => liftSP (P.g Γ tg d η) η fun η' S κ => κ (.nx η') S else fun _ _ _ => False
    | some (some names) => (match names.reverse.mapM Γ.put with
      | some is => fun η => liftSP (P.e Γ e η) η fun d => liftSP (MP.lift (tupOf d)) η fun xs S κ => grd (decide (xs.length = is.length)) (κ (.nx (setAll is xs.reverse η)) S)
      | none => fun _ _ _ => False)
    | none => fun _ _ _ => False)
def stepSP (Γ : Sc) (st : Stmt) : SMP := match st with
  | .Expr e _ => if isComp e = true then fun _ _ _ => False else fun η => liftSP (P.e Γ e η) η fun _ S κ => κ (.nx η) S
  | .Return (some e) _ => fun η => liftSP (P.e Γ e η) η fun d S κ => κ (.rt d) S
  | .Return none _ => fun _ S κ => κ (.rt .non) S
  | .Pass _ => fun η S κ => κ (.nx η) S
  | .Break _ => fun η S κ => κ (.bk η) S
  | .Continue _ => fun η S κ => κ (.ct η) S
  | .If t a b _ => fun η => liftSP (P.t Γ t η) η fun k => if k = true then sBlockP (a.map (P.s Γ)) η else sBlockP (b.map (P.s Γ)) η
  | .Assign [tg] e _ => stepAsgP T P Γ tg e
  | .For tg it body [] _ => if notSet it = false then fun _ _ _ => False else fun η => liftSP (evSrcP T P Γ tg it η) η fun src S κ =>
      Lp (forLoopP src.nx (fun d η => liftSP (P.g Γ tg d η) η fun η' => sBlockP (body.map (P.s Γ)) η') (src.fuel S) 0 η S κ)
  | .While t body [] _ => fun η S κ => Lp (whileLoopP (P.t Γ t) (sBlockP (body.map (P.s Γ))) whileF η S κ)
  | _ => fun _ _ _ => False
end
def evP (T : Tab) (cP : Str → List D → MP D) : Nat → EvP
  | 0 => ⟨fun _ _ _ => MP.fail, fun _ _ _ => MP.fail, fun _ _ _ _ => MP.fail, fun _ _ _ _ _ => False⟩
  | n + 1 => ⟨stepEP T cP (evP T cP n), stepTP T cP (evP T cP n), stepGP T (evP T cP n), stepSP T (evP T cP n)⟩
def outR : Out → Option (R D)
  | .nx _ => some (.v .non)
  | .rt d => some (.v d)
  | .ex x _ => some (.ex x)
  | _ => none
def callAtP (T : Tab) : Nat → Str → List D → MP D
  | 0, _, _ => MP.fail
  | k + 1, f, ds => match T.fn f with
    | none => MP.fail
    | some F => if ds.length = F.ps.length then fun S κ => sBlockP ((defBody F.st).map ((evP T (callAtP T k) syn).s F.Γ)) (startE F.N ds) S fun o S' => (match outR o with
        | some r => κ r S'
        | none => False) else MP.fail
end DL
end

section
namespace DL
open PySem L2
def Sim {α : Type} (mp : MP α) (m : M α) : Prop := ∀ S κ, mp S κ → ∃ r S', m S = some (r, S') ∧ κ r S'
def SimS (mp : SMP) (m : SM) : Prop := ∀ η S κ, mp η S κ → ∃ o S', m η S = some (o, S') ∧ κ o S'
section
variable {α β : Type}
theorem sim_pure (a : α) : Sim (MP.pure a) (M.pure a) := fun S κ h => ⟨_, _, rfl, h⟩
theorem sim_fail : Sim (MP.fail (α := α)) M.fail := fun S κ h => h.elim
theorem sim_no {m : M α} : Sim (MP.fail (α := α)) m := fun S κ h => h.elim
theorem sim_bind {mp : MP α} {m : M α} {fp : α → MP β} {f : α → M β} (h1 : Sim mp m) (h2 : ∀ a, Sim (fp a) (f a)) : Sim (MP.bind mp fp) (M.bind m f) := fun S κ h => by
  obtain ⟨r, S1, e, q⟩ := h1 S _ h
  unfold M.bind
  rw [e]
  cases r with
  | v a => exact h2 a S1 κ q
  | ex x => exact ⟨_, _, rfl, q⟩
theorem sim_lift (m : M α) : Sim (MP.lift m) m := fun S κ h => by
  unfold MP.lift at h
  cases e : m S with
  | none => rw [e] at h; exact h.elim
  | some z =>
    obtain ⟨r, S'⟩ := z
    rw [e] at h
    exact ⟨r, S', rfl, h⟩
theorem sim_opB (m : M Bool) : Sim (MP.opB m) m := fun S κ h => by
  unfold MP.opB at h
  cases e : m S with
  | none => rw [e] at h; exact h.elim
  | some z =>
    obtain ⟨r, S'⟩ := z
    rw [e] at h
    cases r with
    | ex x => exact h.elim
    | v b =>
      cases b with
      | true => exact ⟨_, _, rfl, h⟩
      | false => exact ⟨_, _, rfl, h⟩
theorem sim_calm {mp : MP α} {m : M α} (h1 : Sim mp m) : Sim (MP.calm mp) (M.calm m) := fun S κ h => by
  obtain ⟨r, S1, e, q⟩ := h1 S _ h
  unfold M.calm
  rw [e]
  cases r with
  | v a => exact ⟨_, _, rfl, q⟩
  | ex x => exact q.elim
theorem sim_ite {c : Prop} [Decidable c] {a b : MP α} {a' b' : M α} (h1 : c → Sim a a') (h2 : ¬c → Sim b b') : Sim (if c then a else b) (if c then a' else b') := by
  by_cases h : c
  · rw [if_pos h, if_pos h]; exact h1 h
  · rw [if_neg h, if_neg h]; exact h2 h
theorem sim_if {γ : Type} {c : Prop} [Decidable c] {a b : γ → MP α} {a' b' : γ → M α} (η : γ) (h1 : c → Sim (a η) (a' η)) (h2 : ¬c → Sim (b η) (b' η)) : Sim ((if c then a else b) η) ((if c then a' else b') η) := by
  by_cases h : c
  · rw [if_pos h, if_pos h]; exact h1 h
  · rw [if_neg h, if_neg h]; exact h2 h
theorem sim_guard {b : Bool} {mp : MP α} {m : M α} (h : Sim mp m) : Sim (guardP b mp) (if b = true then m else M.fail) := fun S κ q => by
  obtain ⟨hb, q⟩ := grd_out q
  rw [if_pos hb]
  exact h S κ q
end
theorem sim_guardD {α : Type} {q : Prop} [Decidable q] {mp : MP α} {m : M α} (h : Sim mp m) : Sim (guardP (decide q) mp) (if q then m else M.fail) := fun S κ g => by
  obtain ⟨hb, g⟩ := grd_out g
  rw [if_pos (of_decide_eq_true hb)]
  exact h S κ g
theorem sim_mkL (st : Bool) (xs : List D) : Sim (mkLP st xs) (mkL st xs) := sim_guardD (sim_lift _)
theorem sim_mkT (xs : List D) : Sim (mkTP xs) (mkT xs) := sim_guardD (sim_pure _)
theorem sim_add (st : Bool) (x y : D) : Sim (dAddP st x y) (dAdd st x y) := by
  unfold dAddP dAdd
  split
  · exact sim_pure _
  · exact sim_guardD (sim_pure _)
  · exact sim_mkT _
  · rename_i h1 h2 h3
    have e : dAdd st x y = M.bind (lstOf x) fun xs => M.bind (lstOf y) fun ys => mkL st (xs ++ ys) := by
      unfold dAdd
      split
      · exact absurd rfl (h1 _ _ rfl)
      · exact absurd rfl (h2 _ _ rfl)
      · exact absurd rfl (h3 _ _ rfl)
      · rfl
    have g : Sim (MP.bind (MP.lift (lstOf x)) fun xs => MP.bind (MP.lift (lstOf y)) fun ys => mkLP st (xs ++ ys)) (dAdd st x y) := by
      rw [e]
      exact sim_bind (sim_lift _) fun xs => sim_bind (sim_lift _) fun ys => sim_mkL _ _
    first
      | exact g
      | (rw [e] at g; exact g)
theorem sim_bin (st : Bool) (op : Operator) (x y : D) : Sim (dBinP st op x y) (dBin st op x y) := by
  unfold dBinP
  split
  · exact sim_add st _ _
  · exact sim_guard (sim_pure _)
  · exact sim_guard (sim_pure _)
  · exact sim_guard (sim_pure _)
  · exact sim_guard (sim_pure _)
  · exact sim_lift _
theorem sim_listA (st : Bool) (d : D) : Sim (bListP st d) (bListA st d) := by
  cases d <;> first
    | exact sim_guardD (sim_mkL _ _)
    | exact sim_bind (sim_lift _) fun xs => sim_mkL _ _
theorem sim_callB (st : Bool) (f : Str) (ds : List D) : Sim (callBP st f ds) (callB st f ds) := by
  unfold callBP
  by_cases h : (f == "list") = true
  · rw [if_pos h]
    cases LawfulBEq.eq_of_beq h
    have e : callB st "list" = on1 (bListA st) := by
      unfold callB
      rw [if_neg (by decide), if_neg (by decide), if_neg (by decide), if_neg (by decide), if_neg (by decide), if_pos (by decide)]
    rw [e]
    match ds with
    | [] => exact sim_fail
    | [d] => exact sim_listA st d
    | _ :: _ :: _ => exact sim_fail
  · rw [if_neg h]; exact sim_lift _
theorem bindK {α β : Type} {m : M α} {f : α → M β} {a : α} {S S1 : Store} (h : m S = some (.v a, S1)) : M.bind m f S = f a S1 := by
  unfold M.bind
  rw [h]
theorem pyOf_of {d : D} {p : PyData} {S : Store} (h : toPy S depthF d = some p) : pyOf d S = some (.v p, S) := by
  unfold pyOf
  rw [h]
theorem toPy_lst {xs : List D} {ps : List PyData} {S : Store} (h : xs.mapM (toPy S 59) = some ps) : toPy S depthF (.lst xs) = some (.list ps) := by
  show (xs.mapM (toPy S 59)).map PyData.list = _
  rw [h]
  rfl
theorem toPy_tup {xs : List D} {ps : List PyData} {S : Store} (h : xs.mapM (toPy S 59) = some ps) : toPy S depthF (.tup xs) = some (.tuple ps) := by
  show (xs.mapM (toPy S 59)).map PyData.tuple = _
  rw [h]
  rfl
theorem mapM_of {α β : Type} {f : α → Option β} {g : α → β} : ∀ {xs : List α}, (∀ x ∈ xs, f x = some (g x)) → xs.mapM f = some (xs.map g)
  | [], _ => rfl
  | x :: r, h => by
    rw [List.mapM_cons, h x (List.mem_cons_self ..), mapM_of fun y hy => h y (List.mem_cons_of_mem _ hy)]
    rfl
theorem dEq_lst {xs ys : List D} {p q : PyData} {S : Store} (h1 : toPy S depthF (.lst xs) = some p) (h2 : toPy S depthF (.lst ys) = some q) (h3 : SeqAt.shaped p = true) (h4 : SeqAt.shaped q = true) : dEq (.lst xs) (.lst ys) S = some (.v (PyData.eqv p q), S) := by
  have e : dEq (.lst xs) (.lst ys) = M.bind (pyOf (.lst xs)) fun p => M.bind (pyOf (.lst ys)) fun q => if (SeqAt.shaped p && SeqAt.shaped q) = true then M.pure (PyData.eqv p q) else M.fail := rfl
  rw [e, bindK (pyOf_of h1), bindK (pyOf_of h2), h3, h4]
  rfl
theorem dEq_tup {xs ys : List D} {p q : PyData} {S : Store} (h1 : toPy S depthF (.tup xs) = some p) (h2 : toPy S depthF (.tup ys) = some q) (h3 : SeqAt.shaped p = true) (h4 : SeqAt.shaped q = true) : dEq (.tup xs) (.tup ys) S = some (.v (PyData.eqv p q), S) := by
  have e : dEq (.tup xs) (.tup ys) = M.bind (pyOf (.tup xs)) fun p => M.bind (pyOf (.tup ys)) fun q => if (SeqAt.shaped p && SeqAt.shaped q) = true then M.pure (PyData.eqv p q) else M.fail := rfl
  rw [e, bindK (pyOf_of h1), bindK (pyOf_of h2), h3, h4]
  rfl
theorem dIn_lst {x : D} {ys : List D} {p : PyData} {qs : List PyData} {S : Store} (h1 : toPy S depthF x = some p) (h2 : toPy S depthF (.lst ys) = some (.list qs)) (h3 : SeqAt.shaped p = true) (h4 : SeqAt.shaped (.list qs) = true) : dIn x (.lst ys) S = some (.v (qs.any fun z => PyData.eqv z p), S) := by
  have e : dIn x (.lst ys) = M.bind (pyOf x) fun p => M.bind (pyOf (.lst ys)) fun q => match q with
    | .list ds => if (SeqAt.shaped p && SeqAt.shaped q) = true then M.pure (ds.any fun z => PyData.eqv z p) else M.fail
    | _ => M.fail := rfl
  rw [e, bindK (pyOf_of h1), bindK (pyOf_of h2)]
  show (if (SeqAt.shaped p && SeqAt.shaped (.list qs)) = true then M.pure (qs.any fun z => PyData.eqv z p) else M.fail) S = _
  rw [h3, h4]
  rfl
theorem lay_all {ps : List PyData} (h : ∀ p ∈ ps, p.canLay0 = true) : PyData.canLayAll0 ps = true := by
  induction ps with
  | nil => rfl
  | cons p r ih =>
    show (p.canLay0 && PyData.canLayAll0 r) = true
    rw [h p (List.mem_cons_self ..), ih fun q hq => h q (List.mem_cons_of_mem _ hq)]
    rfl
theorem depth_all {ps : List PyData} {n : Nat} (h : ∀ p ∈ ps, p.depth ≤ n) : PyData.depthAll ps ≤ n := by
  induction ps with
  | nil => exact Nat.zero_le _
  | cons p r ih => exact Nat.max_le.mpr ⟨h p (List.mem_cons_self ..), ih fun q hq => h q (List.mem_cons_of_mem _ hq)⟩
theorem shaped_list {ps : List PyData} (h : ∀ p ∈ ps, p.canLay0 = true ∧ p.depth ≤ 63) : SeqAt.shaped (.list ps) = true := by
  have h1 : (PyData.list ps).canLay0 = true := lay_all fun p hp => (h p hp).1
  have h2 : (PyData.list ps).depth ≤ 64 := Nat.succ_le_succ (depth_all fun p hp => (h p hp).2)
  unfold SeqAt.shaped
  rw [h1, decide_eq_true h2]
  rfl
theorem dIn_tup {x : D} {ys : List D} {p : PyData} {qs : List PyData} {S : Store} (h1 : toPy S depthF x = some p) (h2 : toPy S depthF (.tup ys) = some (.tuple qs)) (h3 : SeqAt.shaped p = true) (h4 : SeqAt.shaped (.tuple qs) = true) : dIn x (.tup ys) S = some (.v (qs.any fun z => PyData.eqv z p), S) := by
  have e : dIn x (.tup ys) = M.bind (pyOf x) fun p => M.bind (pyOf (.tup ys)) fun q => match q with
    | .tuple ds => if (SeqAt.shaped p && SeqAt.shaped q) = true then M.pure (ds.any fun z => PyData.eqv z p) else M.fail
    | _ => M.fail := rfl
  rw [e, bindK (pyOf_of h1), bindK (pyOf_of h2)]
  show (if (SeqAt.shaped p && SeqAt.shaped (.tuple qs)) = true then M.pure (qs.any fun z => PyData.eqv z p) else M.fail) S = _
  rw [h3, h4]
  rfl
theorem shaped_tuple {ps : List PyData} (h : ∀ p ∈ ps, p.canLay0 = true ∧ p.depth ≤ 63) : SeqAt.shaped (.tuple ps) = true := by
  have h1 : (PyData.tuple ps).canLay0 = true := lay_all fun p hp => (h p hp).1
  have h2 : (PyData.tuple ps).depth ≤ 64 := Nat.succ_le_succ (depth_all fun p hp => (h p hp).2)
  unfold SeqAt.shaped
  rw [h1, decide_eq_true h2]
  rfl
theorem okS_ok {x : Str} (h : okS x = true) : PyData.strOk x = true := by
  unfold okS at h
  unfold PyData.strOk
  rw [← Array.all_toList]
  exact h
theorem shaped_str {x : Str} (h : okS x = true) : SeqAt.shaped (.str x) = true := by
  unfold SeqAt.shaped
  show (PyData.strOk x && _) = true
  rw [okS_ok h]
  rfl
def pyS : D → PyData
  | .str x => .str x
  | _ => .none
theorem okD_py {d : D} (h : okD d = true) (S : Store) (n : Nat) : toPy S n d = some (pyS d) := by
  cases d <;> first
    | exact Bool.noConfusion h
    | (cases n <;> rfl)
theorem okD_lay {d : D} (h : okD d = true) : (pyS d).canLay0 = true ∧ (pyS d).depth ≤ 63 := by
  cases d <;> first
    | exact Bool.noConfusion h
    | exact ⟨okS_ok h, Nat.zero_le _⟩
theorem any_same {a : Str} : ∀ {ys : List D}, ys.all okD = true → ((ys.map pyS).any fun z => PyData.eqv z (.str a)) = ys.any (sameS a)
  | [], _ => rfl
  | y :: r, h => by
    rw [List.all_cons, Bool.and_eq_true] at h
    rw [List.map_cons, List.any_cons, List.any_cons, any_same h.2]
    cases y <;> first
      | exact Bool.noConfusion h.1
      | (rename_i b
         have : PyData.eqv (pyS (.str b)) (.str a) = sameS a (.str b) := by
           show (b == a) = decide (b = a)
           by_cases e : b = a
           · subst e; simp
           · simp [e]
         rw [this])
theorem in_tup {a : Str} {ys : List D} (h1 : okS a = true) (h2 : ys.all okD = true) (S : Store) : dIn (.str a) (.tup ys) S = some (.v (ys.any (sameS a)), S) := by
  have hm : ys.mapM (toPy S 59) = some (ys.map pyS) := mapM_of fun d hd => okD_py (List.all_eq_true.mp h2 d hd) S 59
  rw [dIn_tup (p := .str a) rfl (toPy_tup hm) (shaped_str h1) (shaped_tuple fun p hp => by
    obtain ⟨d, hd, rfl⟩ := List.mem_map.mp hp
    exact okD_lay (List.all_eq_true.mp h2 d hd)), any_same h2]
theorem in_lst {a : Str} {ys : List D} (h1 : okS a = true) (h2 : ys.all okD = true) (S : Store) : dIn (.str a) (.lst ys) S = some (.v (ys.any (sameS a)), S) := by
  have hm : ys.mapM (toPy S 59) = some (ys.map pyS) := mapM_of fun d hd => okD_py (List.all_eq_true.mp h2 d hd) S 59
  rw [dIn_lst (p := .str a) rfl (toPy_lst hm) (shaped_str h1) (shaped_list fun p hp => by
    obtain ⟨d, hd, rfl⟩ := List.mem_map.mp hp
    exact okD_lay (List.all_eq_true.mp h2 d hd)), any_same h2]
theorem sim_inS {neg : Bool} {a : Str} {ys : List D} {m : M Bool} (h : okS a = true → ys.all okD = true → ∀ S, m S = some (.v (if neg = true then !(ys.any (sameS a)) else ys.any (sameS a)), S)) : Sim (inS neg a ys m) m := by
  unfold inS
  by_cases hc : (okS a && ys.all okD) = true
  · rw [if_pos hc]
    rw [Bool.and_eq_true] at hc
    intro S κ q
    refine ⟨_, _, h hc.1 hc.2 S, ?_⟩
    cases hb : ys.any (sameS a) with
    | true => rw [hb] at q; cases neg <;> exact q
    | false => rw [hb] at q; cases neg <;> exact q
  · rw [if_neg hc]
    exact sim_opB m
theorem eq_is {i : Int} {b : Str} (h : okS b = true) (S : Store) : dEq (.int i) (.str b) S = some (.v false, S) := by
  have e : dEq (.int i) (.str b) = M.bind (pyOf (.int i)) fun p => M.bind (pyOf (.str b)) fun q => if (SeqAt.shaped p && SeqAt.shaped q) = true then M.pure (PyData.eqv p q) else M.fail := rfl
  rw [e, bindK (pyOf_of (p := .int i) rfl), bindK (pyOf_of (p := .str b) rfl), shaped_str h]
  rfl
theorem sim_neS {v : Bool} {b : Str} {m : M Bool} (h : okS b = true → ∀ S, m S = some (.v v, S)) : Sim (neS v b m) m := by
  unfold neS
  by_cases hc : okS b = true
  · rw [if_pos hc]
    exact fun S κ q => ⟨_, _, h hc S, q⟩
  · rw [if_neg hc]
    exact sim_opB m
theorem sim_cmp (op : CmpOp) (x y : D) : Sim (dCmpP op x y) (dCmp op x y) := by
  unfold dCmpP
  split
  · exact sim_inS fun h1 h2 S => in_tup h1 h2 S
  · exact sim_inS fun h1 h2 S => in_lst h1 h2 S
  · exact sim_inS fun h1 h2 S => by
      show M.bind (dIn _ _) (fun b => M.pure (!b)) S = _
      rw [bindK (in_tup h1 h2 S)]
      rfl
  · exact sim_inS fun h1 h2 S => by
      show M.bind (dIn _ _) (fun b => M.pure (!b)) S = _
      rw [bindK (in_lst h1 h2 S)]
      rfl
  · exact sim_neS fun h S => eq_is h S
  · exact sim_neS fun h S => by
      show M.bind (dEq _ _) (fun b => M.pure (!b)) S = _
      rw [bindK (eq_is h S)]
      rfl
  · exact sim_opB _
structure SimE (P : EvP) (E : Evs) : Prop where
  e : ∀ Γ x η, Sim (P.e Γ x η) (E.e Γ x η)
  t : ∀ Γ x η, Sim (P.t Γ x η) (E.t Γ x η)
  g : ∀ Γ x d η, Sim (P.g Γ x d η) (E.g Γ x d η)
  s : ∀ Γ x, SimS (P.s Γ x) (E.s Γ x)
section
variable {T : Tab} {c : Str → List D → M D} {cP : Str → List D → MP D} {E : Evs} {P : EvP} {Γ : Sc}
theorem sim_list (h : SimE P E) : ∀ (es : List Expr) (η : En), Sim (eListP (es.map (P.e Γ)) η) (eList (es.map (E.e Γ)) η)
  | [], η => sim_pure _
  | e :: es, η => sim_bind (h.e Γ e η) fun d => sim_bind (sim_list h es η) fun ds => sim_pure _
theorem sim_args (h : SimE P E) (es : List Expr) (η : En) : Sim (evArgsP P Γ es η) (evArgs E Γ es η) := by
  unfold evArgsP evArgs
  by_cases hs : es.all notStar = true
  · rw [if_pos hs, if_pos hs]; exact sim_list h es η
  · rw [if_neg hs]; exact sim_no
theorem sim_and (h : SimE P E) : ∀ (es : List Expr) (η : En), Sim (eAllP (es.map (P.e Γ)) η) (eAll (es.map (E.e Γ)) η)
  | [], η => sim_fail
  | [e], η => h.e Γ e η
  | e :: e2 :: es, η => sim_bind (h.e Γ e η) fun d => by
    have ih := sim_and h (e2 :: es) η
    cases d <;> first
      | exact fun S κ q => q.elim
      | (rename_i b
         intro S κ q
         cases b with
         | true => exact ih S κ q
         | false => exact ⟨_, _, rfl, q⟩)
theorem sim_or (h : SimE P E) : ∀ (es : List Expr) (η : En), Sim (eAnyP (es.map (P.e Γ)) η) (eAny (es.map (E.e Γ)) η)
  | [], η => sim_fail
  | [e], η => h.e Γ e η
  | e :: e2 :: es, η => sim_bind (h.e Γ e η) fun d => by
    have ih := sim_or h (e2 :: es) η
    cases d <;> first
      | exact fun S κ q => q.elim
      | (rename_i b
         intro S κ q
         cases b with
         | false => exact ih S κ q
         | true => exact ⟨_, _, rfl, q⟩)
theorem sim_tAll (h : SimE P E) : ∀ (es : List Expr) (η : En), Sim (tAllP (es.map (P.t Γ)) η) (tAll (es.map (E.t Γ)) η)
  | [], η => sim_pure _
  | e :: es, η => sim_bind (h.t Γ e η) fun b => sim_ite (fun _ => sim_tAll h es η) fun _ => sim_pure _
theorem sim_tAny (h : SimE P E) : ∀ (es : List Expr) (η : En), Sim (tAnyP (es.map (P.t Γ)) η) (tAny (es.map (E.t Γ)) η)
  | [], η => sim_pure _
  | e :: es, η => sim_bind (h.t Γ e η) fun b => sim_ite (fun _ => sim_pure _) fun _ => sim_tAny h es η
theorem sim_gList (h : SimE P E) : ∀ (es : List Expr) (ds : List D) (η : En), Sim (gListP (es.map (P.g Γ)) ds η) (gList (es.map (E.g Γ)) ds η)
  | [], [], η => sim_pure _
  | [], _ :: _, η => sim_fail
  | _ :: _, [], η => sim_fail
  | e :: es, d :: ds, η => sim_bind (h.g Γ e d η) fun η' => sim_gList h es ds η'
theorem sim_block (h : SimE P E) : ∀ (ss : List Stmt), SimS (sBlockP (ss.map (P.s Γ))) (sBlock (ss.map (E.s Γ)))
  | [] => fun η S κ q => ⟨_, _, rfl, q⟩
  | st :: ss => fun η S κ q => by
    obtain ⟨o, S', e, q2⟩ := h.s Γ st η S _ q
    have e1 : sBlock ((st :: ss).map (E.s Γ)) η S = (match E.s Γ st η S with | some (.nx η', S') => sBlock (ss.map (E.s Γ)) η' S' | o => o) := rfl
    rw [e1, e]
    cases o with
    | nx η' => exact sim_block h ss η' S' κ q2
    | _ => exact ⟨_, _, rfl, q2⟩
theorem sim_make (hc : ∀ f ds, Sim (cP f ds) (c f ds)) (C : Str) (ds : List D) : Sim (makeP T cP C ds) (make T c C ds) := by
  unfold makeP make
  cases T.meth C "__init__" with
  | none => exact sim_fail
  | some key =>
    refine sim_bind (sim_lift _) fun o => sim_bind (hc _ _) fun r => ?_
    cases r <;> first
      | exact sim_pure _
      | exact sim_fail
theorem sim_callG (h : SimE P E) (hc : ∀ f ds, Sim (cP f ds) (c f ds)) (f : Str) (args : List Expr) (pos : Pos) (η : En) : Sim (evCallGP T cP P Γ f args pos η) (evCallG T c E Γ f args pos η) := by
  unfold evCallGP evCallG
  by_cases h1 : T.top.contains f = true
  · rw [if_pos h1, if_pos h1]; exact sim_bind (sim_args h args η) fun ds => hc _ _
  rw [if_neg h1, if_neg h1]
  by_cases h2 : (T.meth f "__init__").isSome = true
  · rw [if_pos h2, if_pos h2]; exact sim_bind (sim_args h args η) fun ds => sim_make hc _ _
  rw [if_neg h2, if_neg h2]
  by_cases h3 : T.free.contains f = true
  · rw [if_pos h3, if_pos h3]
    by_cases h4 : (f == "isinstance") = true
    · rw [if_pos h4, if_pos h4]
      split
      · rename_i a ty p2
        by_cases hq : (Γ.glb ty && T.free.contains ty && tyNames.contains ty && notStar a) = true
        · rw [if_pos hq]
          show Sim _ ((if (Γ.glb ty && T.free.contains ty && tyNames.contains ty && notStar a) = true then fun η => M.bind (E.e Γ a η) fun d => fun S => (match isTy ty d S with | some r => some (.v (D.bl r), S) | none => none) else fun _ => M.fail) η)
          rw [if_pos hq]
          exact sim_bind (h.e Γ _ η) fun d => sim_lift _
        · rw [if_neg hq]; exact sim_no
      · exact sim_no
    · rw [if_neg h4, if_neg h4]
      cases hz : zipIn T Γ f args with
      | some ab => exact sim_bind (sim_args h [ab.1, ab.2] η) fun ds => sim_lift _
      | none =>
        by_cases h5 : bltNames.contains f = true
        · rw [if_pos h5, if_pos h5]; exact sim_bind (sim_args h args η) fun ds => sim_callB _ _ _
        · rw [if_neg h5]; exact sim_no
  · rw [if_neg h3]; exact sim_no
theorem sim_methB (h : SimE P E) (m : Str) (args : List Expr) (η : En) (d : D) : Sim (evMethBP P Γ m args η d) (evMethB E Γ m args η d) := fun S κ q => by
  unfold evMethBP at q
  unfold evMethB
  cases ht : bTag S d with
  | none => rw [ht] at q; exact q.elim
  | some t =>
    rw [ht] at q
    simp only at q ⊢
    cases hf : methF t m with
    | none => rw [hf] at q; exact q.elim
    | some f =>
      rw [hf] at q
      exact sim_bind (sim_args h args η) (fun ds => sim_lift (f d ds)) S κ q
theorem sim_meth1 (h : SimE P E) (hc : ∀ f ds, Sim (cP f ds) (c f ds)) (m : Str) (args : List Expr) (η : En) (d : D) : Sim (evMeth1P T cP P Γ m args η d) (evMeth1 T c E Γ m args η d) := by
  cases d with
  | obj n =>
    intro S κ q
    unfold evMeth1P at q
    unfold evMeth1
    simp only at q ⊢
    cases hS : S[n]? with
    | none => rw [hS] at q; exact sim_methB (Γ := Γ) h m args η _ S κ q
    | some o =>
      rw [hS] at q
      cases o with
      | lst _ => exact sim_methB (Γ := Γ) h m args η _ S κ q
      | dct _ => exact sim_methB (Γ := Γ) h m args η _ S κ q
      | ins C fs =>
        simp only at q ⊢
        cases hm : T.meth C m with
        | none => rw [hm] at q; exact q.elim
        | some key =>
          rw [hm] at q
          simp only at q ⊢
          by_cases hl : (fs.lookup m).isNone = true
          · rw [if_pos hl] at q ⊢
            exact sim_bind (sim_args h args η) (fun ds => hc key (.obj n :: ds)) S κ q
          · rw [if_neg hl] at q; exact q.elim
  | non => exact sim_methB (Γ := Γ) h m args η D.non
  | bl b => exact sim_methB (Γ := Γ) h m args η (D.bl b)
  | int i => exact sim_methB (Γ := Γ) h m args η (D.int i)
  | str x => exact sim_methB (Γ := Γ) h m args η (D.str x)
  | tup xs => exact sim_methB (Γ := Γ) h m args η (D.tup xs)
  | lst xs => exact sim_methB (Γ := Γ) h m args η (D.lst xs)
  | dct xs => exact sim_methB (Γ := Γ) h m args η (D.dct xs)
  | fn x => exact sim_methB (Γ := Γ) h m args η (D.fn x)
  | frz xs => exact sim_methB (Γ := Γ) h m args η (D.frz xs)
theorem sim_meth (h : SimE P E) (hc : ∀ f ds, Sim (cP f ds) (c f ds)) (o : Expr) (m : Str) (args : List Expr) (apos pos : Pos) (η : En) : Sim (evMethP T cP P Γ o m args apos pos η) (evMeth T c E Γ o m args apos pos η) := by
  unfold evMethP evMeth
  by_cases h1 : (notSup o && (apos.endLine == pos.line) && decide (args.length < 30) && args.all notStar) = true
  · rw [if_pos h1, if_pos h1]; exact sim_bind (h.e Γ o η) fun d => sim_meth1 h hc m args η d
  · rw [if_neg h1]; exact sim_no
theorem sim_opt (h : SimE P E) (o : Option Expr) (η : En) : Sim (optIP P Γ o η) (optI E Γ o η) := by
  cases o with
  | none => exact sim_pure _
  | some e =>
    refine sim_bind (h.e Γ e η) fun d => ?_
    cases d <;> first
      | exact sim_pure _
      | exact sim_fail
theorem sim_range (ds : List D) : Sim (rangeArgsP ds) (rangeArgs ds) := by
  unfold rangeArgsP
  split
  · exact sim_guard (sim_pure _)
  · exact sim_guard (sim_pure _)
  · exact sim_guard (sim_pure _)
  · exact sim_no
theorem sim_src (h : SimE P E) (tg it : Expr) (η : En) : Sim (evSrcP T P Γ tg it η) (evSrc T E Γ tg it η) := by
  unfold evSrcP evSrc
  cases walkOf T Γ tg it with
  | range args =>
    dsimp only
    by_cases h1 : decide (0 < args.length ∧ args.length ≤ 3) = true
    · rw [if_pos h1, if_pos h1]; exact sim_bind (sim_args h args η) fun ds => sim_range _
    · rw [if_neg h1]; exact sim_no
  | enum a => exact sim_bind (sim_args h [a] η) fun ds => sim_lift _
  | zip a b => exact sim_bind (sim_args h [a, b] η) fun ds => sim_lift _
  | plain => exact sim_bind (h.e Γ it η) fun d => sim_lift _
theorem sim_ifs (h : SimE P E) (ifs : List Expr) (η : En) : Sim (evIfsP P Γ ifs η) (evIfs E Γ ifs η) := by
  match ifs with
  | [] => exact sim_pure _
  | [t] => exact h.t Γ t η
  | _ :: _ :: _ => exact sim_fail
/-- a turn: only values -/
theorem sim_turn (h : SimE P E) (tg : Tgt) (own : List Nat) (elt : Expr) (ifs : List Expr) (η : En) (d : D) (S : Store) (κ : R (Option D) → Store → Prop) (q : compTurnP P Γ tg own elt ifs η d S κ) :
    ∃ o S', compTurn E Γ tg own elt ifs η d S = some (.v o, S') ∧ κ (.v o) S' := by
  have hs : Sim (MP.bind (MP.lift (tg.set d (wipeE η own))) fun η' => MP.bind (evIfsP P Γ ifs η') fun b => if b = true then MP.bind (P.e Γ elt η') fun y => MP.pure (some y) else MP.pure none) (compTurn E Γ tg own elt ifs η d) :=
    sim_bind (sim_lift _) fun η' => sim_bind (sim_ifs h ifs η') fun b => sim_ite (fun _ => sim_bind (h.e Γ elt η') fun y => sim_pure _) fun _ => sim_pure _
  obtain ⟨r, S', e, q2⟩ := hs S _ q
  cases r with
  | v o => exact ⟨o, S', e, q2⟩
  | ex x => exact q2.elim
theorem sim_compLoop {nx : Nx} {tp : D → MP (Option D)} {t : D → M (Option D)} (ht : ∀ d S κ, tp d S κ → ∃ o S', t d S = some (.v o, S') ∧ κ (.v o) S') : ∀ (f i : Nat) (acc : List D) (S : Store) (κ : R (List D) → Store → Prop), compLoopP nx tp f i acc S κ → ∃ r S', compLoop nx t f i acc S = some (r, S') ∧ κ r S'
  | 0, i, acc, S, κ, q => q.elim
  | f + 1, i, acc, S, κ, q => by
    unfold compLoopP at q
    unfold compLoop
    cases h1 : nx S i with
    | none => rw [h1] at q; exact q.elim
    | some z =>
      rw [h1] at q
      cases z with
      | none => exact ⟨_, _, rfl, q⟩
      | some d =>
        simp only at q ⊢
        obtain ⟨o, S1, e, q2⟩ := ht d S _ q
        rw [e]
        cases o with
        | none => exact sim_compLoop ht f (i + 1) acc S1 κ q2
        | some y =>
          simp only
          obtain ⟨g1, g2⟩ := grd_out q2
          rw [if_pos (of_decide_eq_true g1)]
          exact sim_compLoop ht f (i + 1) (acc ++ [y]) S1 κ g2
theorem sim_comp (h : SimE P E) (st : Bool) (elt tg it : Expr) (ifs : List Expr) (scope : Scope) (η : En) : Sim (evCompP T P Γ st elt tg it ifs scope η) (evComp T E Γ st elt tg it ifs scope η) := by
  unfold evCompP evComp
  cases tgOf (Γ.inner scope) tg with
  | none => exact sim_no
  | some t =>
    dsimp only
    split
    · exact sim_bind (sim_src h tg it η) fun src => sim_bind (fun S κ q => sim_compLoop (fun d S κ q => sim_turn h _ _ _ _ _ d S κ q) (src.fuel S) 0 [] S κ (by cases q with | go q => exact q)) fun ys => sim_lift _
    · exact sim_no
theorem sim_pairs (h : SimE P E) {η : En} : ∀ (ks : List (Option Expr)) (vs : List Expr), Sim (ePairsP P Γ ks vs η) (ePairs E Γ ks vs η)
  | [], [] => sim_pure _
  | [], _ :: _ => sim_fail
  | none :: _, [] => sim_fail
  | none :: _, _ :: _ => sim_fail
  | some _ :: _, [] => sim_fail
  | some a :: ks, v :: vs => sim_bind (sim_calm (h.e Γ a η)) fun x => sim_bind (sim_calm (h.e Γ v η)) fun y => sim_bind (sim_pairs h ks vs) fun r => sim_pure _
theorem sim_dturn (h : SimE P E) (tg : Tgt) (own : List Nat) (kx vx : Expr) (ifs : List Expr) (η : En) (d : D) (S : Store) (κ : R (Option (D × D)) → Store → Prop) (q : dcTurnP P Γ tg own kx vx ifs η d S κ) :
    ∃ o S', dcTurn E Γ tg own kx vx ifs η d S = some (.v o, S') ∧ κ (.v o) S' := by
  have hs : Sim (MP.bind (MP.lift (tg.set d (wipeE η own))) fun η' => MP.bind (evIfsP P Γ ifs η') fun b => if b = true then MP.bind (P.e Γ kx η') fun y => MP.bind (P.e Γ vx η') fun z => MP.pure (some (y, z)) else MP.pure none) (dcTurn E Γ tg own kx vx ifs η d) :=
    sim_bind (sim_lift _) fun η' => sim_bind (sim_ifs h ifs η') fun b => sim_ite (fun _ => sim_bind (h.e Γ kx η') fun y => sim_bind (h.e Γ vx η') fun z => sim_pure _) fun _ => sim_pure _
  obtain ⟨r, S', e, q2⟩ := hs S _ q
  cases r with
  | v o => exact ⟨o, S', e, q2⟩
  | ex x => exact q2.elim
theorem sim_dcLoop {nx : Nx} {tp : D → MP (Option (D × D))} {t : D → M (Option (D × D))} (ht : ∀ d S κ, tp d S κ → ∃ o S', t d S = some (.v o, S') ∧ κ (.v o) S') : ∀ (f i : Nat) (acc : List (DK × D)) (S : Store) (κ : R (List (DK × D)) → Store → Prop), dcLoopP nx tp f i acc S κ → ∃ r S', dcLoop nx t f i acc S = some (r, S') ∧ κ r S'
  | 0, i, acc, S, κ, q => q.elim
  | f + 1, i, acc, S, κ, q => by
    unfold dcLoopP at q
    unfold dcLoop
    cases h1 : nx S i with
    | none => rw [h1] at q; exact q.elim
    | some z =>
      rw [h1] at q
      cases z with
      | none => exact ⟨_, _, rfl, q⟩
      | some d =>
        simp only at q ⊢
        obtain ⟨o, S1, e, q2⟩ := ht d S _ q
        rw [e]
        cases o with
        | none => exact sim_dcLoop ht f (i + 1) acc S1 κ q2
        | some p =>
          simp only at q2 ⊢
          cases hp : pairK p with
          | none => rw [hp] at q2; exact q2.elim
          | some kv =>
            rw [hp] at q2
            simp only at q2 ⊢
            obtain ⟨g1, g2⟩ := grd_out q2
            rw [if_pos (of_decide_eq_true g1)]
            exact sim_dcLoop ht f (i + 1) _ S1 κ g2
theorem sim_dcomp (h : SimE P E) (st : Bool) (kx vx tg it : Expr) (ifs : List Expr) (scope : Scope) (η : En) : Sim (evDCompP T P Γ st kx vx tg it ifs scope η) (evDComp T E Γ st kx vx tg it ifs scope η) := by
  unfold evDCompP evDComp
  cases tgOf (Γ.inner scope) tg with
  | none => exact sim_no
  | some t =>
    dsimp only
    split
    · exact sim_bind (sim_src h tg it η) fun src => sim_bind (fun S κ q => sim_dcLoop (fun d S κ q => sim_dturn h _ _ _ _ _ _ d S κ q) (src.fuel S) 0 [] S κ (by cases q with | go q => exact q)) fun ys => sim_lift _
    · exact sim_no
end
end DL
end

section
namespace DL
open PySem L2
section
variable {T : Tab} {c : Str → List D → M D} {cP : Str → List D → MP D} {E : Evs} {P : EvP} {Γ : Sc}
theorem sim_e (h : SimE P E) (hc : ∀ f ds, Sim (cP f ds) (c f ds)) (x : Expr) (η : En) : Sim (stepEP T cP P Γ x η) (stepE T c E Γ x η) := by
  unfold stepEP
  split
  · exact sim_lift _
  · exact sim_if η (fun _ => sim_no) fun _ => sim_lift _
  · exact sim_bind (h.e Γ _ η) fun x => sim_bind (h.e Γ _ η) fun y => sim_bin _ _ _ _
  · exact sim_bind (h.e Γ _ η) fun x => sim_lift _
  · refine sim_bind (h.e Γ _ η) fun x => ?_
    cases x <;> first
      | exact sim_pure _
      | exact sim_fail
  · exact sim_and h _ η
  · exact sim_or h _ η
  · exact sim_bind (h.t Γ _ η) fun b => sim_ite (fun _ => h.e Γ _ η) fun _ => h.e Γ _ η
  · exact sim_if η (fun _ => sim_bind (h.e Γ _ η) fun x => sim_bind (h.e Γ _ η) fun y => sim_bind (sim_cmp _ _ _) fun b => sim_pure _) fun _ => sim_no
  · exact sim_if η (fun _ => sim_bind (h.e Γ _ η) fun x => sim_bind (h.e Γ _ η) fun y => sim_bind (sim_cmp _ _ _) fun b => sim_ite (fun _ => sim_bind (h.e Γ _ η) fun z => sim_bind (sim_cmp _ _ _) fun b => sim_pure _) fun _ => sim_pure _) fun _ => sim_no
  · exact sim_bind (sim_args h _ η) fun ds => sim_mkT _
  · exact sim_bind (sim_args h _ η) fun ds => sim_mkL _ _
  · exact sim_lift _
  · rename_i ks vs pos hd
    have e : stepE T c E Γ (.Dict ks vs pos) = if (ks.all (·.isSome) && ks.length == vs.length && decide (ks.length ≤ 15) && !ks.isEmpty) = true then fun η => M.bind (ePairs E Γ ks vs η) (newDisp (T.at_ pos)) else fun _ => M.fail := by
      cases ks with
      | cons a r => cases vs <;> rfl
      | nil =>
        cases vs with
        | nil => exact absurd rfl (hd rfl)
        | cons a r => rfl
    have g : Sim ((if (ks.all (·.isSome) && ks.length == vs.length && decide (ks.length ≤ 15) && !ks.isEmpty) = true then fun η => MP.bind (ePairsP P Γ ks vs η) fun ps => MP.lift (newDisp (T.at_ pos) ps) else fun _ => MP.fail) η) (stepE T c E Γ (.Dict ks vs pos) η) := by
      rw [e]
      exact sim_if η (fun _ => sim_bind (sim_pairs h ks vs) fun ps => sim_lift _) fun _ => sim_no
    exact g
  · exact sim_bind (h.e Γ _ η) fun x => sim_bind (sim_opt h _ η) fun l => sim_bind (sim_opt h _ η) fun u => sim_lift _
  · exact sim_no
  · rename_i a b p0 hs0 hs
    have e : stepE T c E Γ (.Subscript a b p0) = fun η => M.bind (E.e Γ a η) fun x => M.bind (E.e Γ b η) fun y => dIx x y := by
      cases b <;> first
        | rfl
        | exact absurd rfl (hs _ _ _ _)
    have g : Sim (MP.bind (P.e Γ a η) fun x => MP.bind (P.e Γ b η) fun y => MP.opD (dIx x y)) (stepE T c E Γ (.Subscript a b p0) η) := by
      rw [e]
      exact sim_bind (h.e Γ _ η) fun x => sim_bind (h.e Γ _ η) fun y => sim_lift _
    exact g
  · exact sim_if η (fun _ => sim_bind (h.e Γ _ η) fun x => sim_lift (getF T _ x)) fun _ => sim_no
  · exact sim_comp h _ _ _ _ _ _ η
  · exact sim_dcomp h _ _ _ _ _ _ _ η
  · exact sim_if η (fun _ => sim_callG h hc _ _ _ η) fun _ => sim_no
  · exact sim_meth h hc _ _ _ _ _ η
  · exact sim_no
theorem sim_t (h : SimE P E) (hc : ∀ f ds, Sim (cP f ds) (c f ds)) (x : Expr) (η : En) : Sim (stepTP T cP P Γ x η) (stepT T c E Γ x η) := by
  unfold stepTP
  split
  · exact sim_bind (h.t Γ _ η) fun b => sim_pure _
  · exact sim_tAll h _ η
  · exact sim_tAny h _ η
  · exact sim_bind (h.t Γ _ η) fun b => sim_ite (fun _ => h.t Γ _ η) fun _ => h.t Γ _ η
  · exact sim_if η (fun _ => sim_bind (h.e Γ _ η) fun x => sim_bind (h.e Γ _ η) fun y => sim_cmp _ _ _) fun _ => sim_no
  · exact sim_if η (fun _ => sim_bind (h.e Γ _ η) fun x => sim_bind (h.e Γ _ η) fun y => sim_bind (sim_cmp _ _ _) fun b => sim_ite (fun _ => sim_bind (h.e Γ _ η) fun z => sim_cmp _ _ _) fun _ => sim_pure _) fun _ => sim_no
  · exact sim_no
  · rename_i h1 h2 h3 h4 h5 h6 h7
    have e : stepT T c E Γ x = fun η => M.bind (stepE T c E Γ x η) tru := by
      cases x with
      | UnaryOp op a p => cases op <;> first | rfl | exact absurd rfl (h1 _ _)
      | BoolOp op vs p => cases op <;> first | exact absurd rfl (h2 _ _) | exact absurd rfl (h3 _ _)
      | IfExp t a b p => exact absurd rfl (h4 _ _ _ _)
      | Compare a ops bs p => exact absurd rfl (h7 _ _ _ _)
      | _ => rfl
    have g : Sim (MP.bind (stepEP T cP P Γ x η) fun d => MP.opB (tru d)) (stepT T c E Γ x η) := by
      rw [e]
      exact sim_bind (sim_e h hc _ η) fun d => sim_opB _
    exact g
theorem sim_putF (f : Str) (d x : D) (η : En) : Sim (MP.bind (MP.lift (putF T f d x)) fun _ => MP.pure η) (match x with
      | .obj n => M.bind (getO n) fun ob => (match ob with
        | .ins C fs => if (decide (fs.length ≤ 200) && T.attr C f) = true then M.bind (setO n (.ins C (fPut f d fs))) fun _ => M.pure η else M.fail
        | _ => M.fail)
      | _ => M.fail) := by
  have e : (M.bind (putF T f d x) fun _ => M.pure η) = (match x with
      | .obj n => M.bind (getO n) fun ob => (match ob with
        | .ins C fs => if (decide (fs.length ≤ 200) && T.attr C f) = true then M.bind (setO n (.ins C (fPut f d fs))) fun _ => M.pure η else M.fail
        | _ => M.fail)
      | _ => M.fail) := by
    funext S
    cases x <;> first
      | rfl
      | (rename_i n
         unfold putF
         simp only [M.bind]
         cases getO n S with
         | none => rfl
         | some z =>
           obtain ⟨r, S1⟩ := z
           cases r with
           | ex y => rfl
           | v ob =>
             cases ob <;> first
               | rfl
               | (rename_i C fs
                  simp only
                  by_cases hc : (decide (fs.length ≤ 200) && T.attr C f) = true
                  · rw [if_pos hc, if_pos hc]; rfl
                  · rw [if_neg hc, if_neg hc]; rfl))
  have g : Sim (MP.bind (MP.lift (putF T f d x)) fun _ => MP.pure η) (M.bind (putF T f d x) fun _ => M.pure η) := sim_bind (sim_lift _) fun _ => sim_pure _
  rw [e] at g
  exact g
theorem sim_g (h : SimE P E) (x : Expr) (d : D) (η : En) : Sim (stepGP T P Γ x d η) (stepG T E Γ x d η) := by
  cases x with
  | Name y p =>
    unfold stepGP stepG
    cases hp : Γ.put y with
    | none => simp only [hp]; exact sim_no
    | some i => simp only [hp]; exact sim_pure _
  | Tuple es kk p =>
    show Sim ((if es.all notStar = true then fun d η => MP.bind (MP.opL (seqOf d)) fun xs => gListP (es.map (P.g Γ)) xs η else fun _ _ => MP.fail) d η) ((if es.all notStar = true then fun d η => M.bind (seqOf d) fun xs => gList (es.map (E.g Γ)) xs η else fun _ _ => M.fail) d η)
    by_cases hs : es.all notStar = true
    · rw [if_pos hs, if_pos hs]; exact sim_bind (sim_lift _) fun xs => sim_gList h es xs η
    · rw [if_neg hs]; exact sim_no
  | Subscript o i p =>
    cases i with
    | Slice lo hi st p2 => exact sim_fail
    | _ => exact sim_bind (sim_calm (h.e Γ _ η)) fun x => sim_bind (sim_calm (h.e Γ _ η)) fun y => sim_bind (sim_lift _) fun _ => sim_pure _
  | Attribute o f p => exact sim_bind (sim_calm (h.e Γ _ η)) fun x => sim_putF f d x η
  | _ => exact sim_fail
theorem simS_lift {α : Type} {mp : En → MP α} {m : En → M α} {kp : En → α → Store → (Out → Store → Prop) → Prop} {k : En → α → Store → Option (Out × Store)} (h1 : ∀ η, Sim (mp η) (m η)) (h2 : ∀ η a S κ, kp η a S κ → ∃ o S', k η a S = some (o, S') ∧ κ o S') :
    SimS (fun η => liftSP (mp η) η (kp η)) (fun η => liftS (m η) η (k η)) := fun η S κ q => by
  obtain ⟨r, S1, e, q2⟩ := h1 η S _ q
  show ∃ o S', liftS (m η) η (k η) S = some (o, S') ∧ κ o S'
  unfold liftS
  rw [e]
  cases r with
  | v a => exact h2 η a S1 κ q2
  | ex x => exact ⟨_, _, rfl, q2⟩
theorem simS_no {m : SM} : SimS (fun _ _ _ => False) m := fun η S κ q => q.elim
theorem sim_for {nx : Nx} {bp : D → SMP} {b : D → SM} (hb : ∀ d, SimS (bp d) (b d)) : ∀ (f i : Nat), SimS (forLoopP nx bp f i) (forLoop nx b f i)
  | 0, i => fun η S κ q => q.elim
  | f + 1, i => fun η S κ q => by
    unfold forLoopP at q
    unfold forLoop
    cases h1 : nx S i with
    | none => rw [h1] at q; exact q.elim
    | some z =>
      rw [h1] at q
      cases z with
      | none => exact ⟨_, _, rfl, q⟩
      | some d =>
        simp only at q ⊢
        obtain ⟨o, S1, e, q2⟩ := hb d η S _ q
        rw [e]
        cases o with
        | nx η' => exact sim_for hb f (i + 1) η' S1 κ q2
        | ct η' => exact sim_for hb f (i + 1) η' S1 κ q2
        | _ => exact ⟨_, _, rfl, q2⟩
theorem sim_while {cp : En → MP Bool} {cc : En → M Bool} {bp : SMP} {b : SM} (hc : ∀ η, Sim (cp η) (cc η)) (hb : SimS bp b) : ∀ f : Nat, SimS (whileLoopP cp bp f) (whileLoop cc b f)
  | 0 => fun η S κ q => q.elim
  | f + 1 => fun η S κ q => by
    unfold whileLoopP at q
    unfold whileLoop
    obtain ⟨r, S1, e, q2⟩ := hc η S _ q
    rw [e]
    cases r with
    | ex x => exact ⟨_, _, rfl, q2⟩
    | v k =>
      cases k with
      | false => exact ⟨_, _, rfl, q2⟩
      | true =>
        simp only at q2 ⊢
        obtain ⟨o, S2, e2, q3⟩ := hb η S1 _ q2
        rw [e2]
        cases o with
        | nx η' => exact sim_while hc hb f η' S2 κ q3
        | ct η' => exact sim_while hc hb f η' S2 κ q3
        | _ => exact ⟨_, _, rfl, q3⟩
theorem simS_if {q : Prop} [Decidable q] {a b : SMP} {a' b' : SM} (h1 : q → SimS a a') (h2 : ¬q → SimS b b') : SimS (if q then a else b) (if q then a' else b') := by
  by_cases h : q
  · rw [if_pos h, if_pos h]; exact h1 h
  · rw [if_neg h, if_neg h]; exact h2 h
theorem sim_asgComp (h : SimE P E) {mp : EMP} {m : EM} (hm : ∀ η, Sim (mp η) (m η)) (tg : Expr) : SimS (asgCompP P Γ mp tg) (asgComp E Γ m tg) := by
  have other : SimS (if notStar tg = true then fun η => liftSP (mp η) η fun d => liftSP (P.g Γ tg d η) η fun η' S κ => κ (.nx η') S else fun _ _ _ => False) (if notStar tg = true then fun η => liftS (m η) η fun d => liftS (E.g Γ tg d η) η fun η' S => some (.nx η', S) else fun _ _ => none) :=
    simS_if (fun _ => simS_lift (kp := fun η d => liftSP (P.g Γ tg d η) η fun η' S κ => κ (.nx η') S) (k := fun η d => liftS (E.g Γ tg d η) η fun η' S => some (.nx η', S)) hm fun η d S κ q =>
      simS_lift (mp := fun η => P.g Γ tg d η) (kp := fun _ η' S κ => κ (.nx η') S) (k := fun _ η' S => some (.nx η', S)) (fun η => h.g Γ tg d η) (fun η a S κ q => ⟨_, _, rfl, q⟩) η S κ q) fun _ => simS_no
  cases tg with
  | Name y p =>
    have key : ∀ o : Option Nat, SimS (match o with
      | some i => fun η => liftSP (mp η) η fun d S κ => κ (.nx (List.set η i (some d))) S
      | none => fun _ _ _ => False) (match o with
      | some i => fun η => liftS (m η) η fun d S => some (.nx (List.set η i (some d)), S)
      | none => fun _ _ => none) := fun o => by
      cases o with
      | none => exact simS_no
      | some i => exact simS_lift (kp := fun η d S κ => κ (.nx (List.set η i (some d))) S) (k := fun η d S => some (.nx (List.set η i (some d)), S)) hm fun η d S κ q => ⟨_, _, rfl, q⟩
    exact key (Γ.put y)
  | _ => exact other
theorem sim_asg (h : SimE P E) (tg e : Expr) : SimS (stepAsgP T P Γ tg e) (stepAsg T E Γ tg e) := by
  have main : isComp e = false → SimS (match swapNames Γ tg e with
    | some none => if notStar tg = true then fun η => liftSP (P.e Γ e η) η fun d => liftSP (P.g Γ tg d η) η fun η' S κ => κ (.nx η') S else fun _ _ _ => False
    | some (some names) => (match names.reverse.mapM Γ.put with
      | some is => fun η => liftSP (P.e Γ e η) η fun d => liftSP (MP.lift (tupOf d)) η fun xs S κ => grd (decide (xs.length = is.length)) (κ (.nx (setAll is xs.reverse η)) S)
      | none => fun _ _ _ => False)
    | none => fun _ _ _ => False) (stepAsg T E Γ tg e) := fun hc => by
    have e1 : stepAsg T E Γ tg e = (match swapNames Γ tg e with
      | some none => if notStar tg = true then fun η => liftS (E.e Γ e η) η fun d => liftS (E.g Γ tg d η) η fun η' S => some (.nx η', S) else fun _ _ => none
      | some (some names) => (match names.reverse.mapM Γ.put with
        | some is => fun η => liftS (E.e Γ e η) η fun d => liftS (tupOf d) η fun xs S => if xs.length = is.length then some (.nx (setAll is xs.reverse η), S) else none
        | none => fun _ _ => none)
      | none => fun _ _ => none) := by
      cases e <;> first
        | rfl
        | cases hc
    rw [e1]
    cases swapNames Γ tg e with
    | none => exact simS_no
    | some o =>
      cases o with
      | none =>
        exact simS_if (fun _ => simS_lift (kp := fun η d => liftSP (P.g Γ tg d η) η fun η' S κ => κ (.nx η') S) (k := fun η d => liftS (E.g Γ tg d η) η fun η' S => some (.nx η', S)) (fun η => h.e Γ e η) fun η d S κ q =>
          simS_lift (mp := fun η => P.g Γ tg d η) (kp := fun _ η' S κ => κ (.nx η') S) (k := fun _ η' S => some (.nx η', S)) (fun η => h.g Γ tg d η) (fun η a S κ q => ⟨_, _, rfl, q⟩) η S κ q) fun _ => simS_no
      | some names =>
        dsimp only
        cases names.reverse.mapM Γ.put with
        | none => exact simS_no
        | some is =>
          exact simS_lift (kp := fun η d => liftSP (MP.lift (tupOf d)) η fun xs S κ => grd (decide (xs.length = is.length)) (κ (.nx (setAll is xs.reverse η)) S)) (k := fun η d => liftS (tupOf d) η fun xs S => if xs.length = is.length then some (.nx (setAll is xs.reverse η), S) else none) (fun η => h.e Γ e η) fun η d S κ q =>
            simS_lift (mp := fun η => MP.lift (tupOf d)) (kp := fun η xs S κ => grd (decide (xs.length = is.length)) (κ (.nx (setAll is xs.reverse η)) S)) (k := fun η xs S => if xs.length = is.length then some (.nx (setAll is xs.reverse η), S) else none) (fun η => sim_lift _) (fun η xs S κ q => by
              obtain ⟨q1, q2⟩ := grd_out q
              exact ⟨_, _, if_pos (of_decide_eq_true q1), q2⟩) η S κ q
  unfold stepAsgP
  split
  · exact sim_asgComp h (fun η => sim_comp h _ _ _ _ _ _ η) tg
  · exact simS_if (fun _ => simS_lift (kp := fun η d => liftSP (P.g Γ tg d η) η fun η' S κ => κ (.nx η') S) (k := fun η d => liftS (E.g Γ tg d η) η fun η' S => some (.nx η', S)) (fun η => sim_dcomp h _ _ _ _ _ _ _ η) fun η d S κ q =>
      simS_lift (mp := fun η => P.g Γ tg d η) (kp := fun _ η' S κ => κ (.nx η') S) (k := fun _ η' S => some (.nx η', S)) (fun η => h.g Γ tg d η) (fun η a S κ q => ⟨_, _, rfl, q⟩) η S κ q) fun _ => simS_no
  · split
    · exact simS_no
    · rename_i hc
      exact main (by simpa using hc)
theorem sim_s (h : SimE P E) (x : Stmt) : SimS (stepSP T P Γ x) (stepS T E Γ x) := by
  unfold stepSP
  split
  · exact simS_if (fun _ => simS_no) fun _ => simS_lift (kp := fun η _ S κ => κ (.nx η) S) (k := fun η _ S => some (.nx η, S)) (fun η => h.e Γ _ η) fun η d S κ q => ⟨_, _, rfl, q⟩
  · exact simS_lift (kp := fun η d S κ => κ (.rt d) S) (k := fun η d S => some (.rt d, S)) (fun η => h.e Γ _ η) fun η d S κ q => ⟨_, _, rfl, q⟩
  · exact fun η S κ q => ⟨_, _, rfl, q⟩
  · exact fun η S κ q => ⟨_, _, rfl, q⟩
  · exact fun η S κ q => ⟨_, _, rfl, q⟩
  · exact fun η S κ q => ⟨_, _, rfl, q⟩
  · rename_i t a b p
    refine simS_lift (kp := fun η k => if k = true then sBlockP (a.map (P.s Γ)) η else sBlockP (b.map (P.s Γ)) η) (k := fun η k S => if k = true then sBlock (a.map (E.s Γ)) η S else sBlock (b.map (E.s Γ)) η S) (fun η => h.t Γ t η) fun η k S κ q => ?_
    cases k with
    | true => exact sim_block h _ η S κ q
    | false => exact sim_block h _ η S κ q
  · exact sim_asg h _ _
  · rename_i tg it body p
    exact simS_if (fun _ => simS_no) fun _ => simS_lift (kp := fun η src S κ => Lp (forLoopP src.nx (fun d η => liftSP (P.g Γ tg d η) η fun η' => sBlockP (body.map (P.s Γ)) η') (src.fuel S) 0 η S κ))
      (k := fun η src S => forLoop src.nx (fun d η => liftS (E.g Γ tg d η) η fun η' => sBlock (body.map (E.s Γ)) η') (src.fuel S) 0 η S) (fun η => sim_src h tg it η) fun η src S κ q =>
      sim_for (fun d => simS_lift (mp := fun η => P.g Γ tg d η) (kp := fun _ η' => sBlockP (body.map (P.s Γ)) η') (k := fun _ η' => sBlock (body.map (E.s Γ)) η') (fun η => h.g Γ tg d η) fun η η' S κ q => sim_block h _ η' S κ q) (src.fuel S) 0 η S κ (by cases q with | go q => exact q)
  · exact fun η S κ q => sim_while (fun η => h.t Γ _ η) (sim_block h _) whileF η S κ (by cases q with | go q => exact q)
  · exact simS_no
theorem sim_ev (hc : ∀ f ds, Sim (cP f ds) (c f ds)) : ∀ n, SimE (evP T cP n) (ev T c n)
  | 0 => ⟨fun Γ x η => sim_fail, fun Γ x η => sim_fail, fun Γ x d η => sim_fail, fun Γ x => simS_no⟩
  | n + 1 => ⟨fun Γ x η => sim_e (sim_ev hc n) hc x η, fun Γ x η => sim_t (sim_ev hc n) hc x η, fun Γ x d η => sim_g (sim_ev hc n) x d η, fun Γ x => sim_s (sim_ev hc n) x⟩
/-- THE RULE: a precondition that holds gives the evaluator's run -/
theorem sim_call : ∀ (k : Nat) (f : Str) (ds : List D), Sim (callAtP T k f ds) (callAt T k f ds)
  | 0, f, ds => sim_fail
  | k + 1, f, ds => fun S κ q => by
    unfold callAtP at q
    unfold callAt
    cases hf : T.fn f with
    | none => simp only [hf] at q; exact q.elim
    | some F =>
      simp only [hf] at q ⊢
      by_cases hl : ds.length = F.ps.length
      · rw [if_pos hl] at q ⊢
        obtain ⟨o, S', e, q2⟩ := sim_block (sim_ev (sim_call k) syn) (defBody F.st) _ S _ q
        rw [e]
        cases o with
        | nx η => exact ⟨_, _, rfl, q2⟩
        | rt d => exact ⟨_, _, rfl, q2⟩
        | ex x η => exact ⟨_, _, rfl, q2⟩
        | bk η => exact q2.elim
        | ct η => exact q2.elim
      · rw [if_neg hl] at q; exact q.elim
end
end DL
end

section
namespace DL
open PySem L2
/-- a loop over items: what holds ahead of each turn; a turn ends in the next one's, or in an end of its own -/
theorem for_items {xs : List D} {body : D → SMP} {κ : Out → Store → Prop} (Inv : Nat → En → Store → Prop) (Ex : Out → Store → Prop)
    (step : ∀ i d η S (K : Out → Store → Prop), xs[i]? = some d → Inv i η S → (∀ η' S', Inv (i + 1) η' S' → K (.nx η') S') → (∀ η' S', Inv (i + 1) η' S' → K (.ct η') S') → (∀ o S', Ex o S' → K o S') → body d η S K)
    (ends : ∀ o S', Ex o S' → match o with | .nx _ => False | .ct _ => False | .bk η' => κ (.nx η') S' | o => κ o S')
    (fin : ∀ η S, Inv xs.length η S → κ (.nx η) S) : ∀ (f i : Nat) (η : En) (S : Store), xs.length ≤ i + f → i ≤ xs.length → Inv i η S → forLoopP (Src.items xs).nx body (f + 1) i η S κ
  | 0, i, η, S, hf, hi, h => by
    have e : i = xs.length := by omega
    subst e
    unfold forLoopP
    simp only [Src.nx, List.getElem?_eq_none (Nat.le_refl _)]
    exact fin η S h
  | f + 1, i, η, S, hf, hi, h => by
    unfold forLoopP
    by_cases hl : i < xs.length
    · simp only [Src.nx, List.getElem?_eq_getElem hl]
      refine step i _ η S _ (List.getElem?_eq_getElem hl) h (fun η' S' h' => ?_) (fun η' S' h' => ?_) (fun o S' h' => ?_)
      · exact for_items Inv Ex step ends fin f (i + 1) η' S' (by omega) (by omega) h'
      · exact for_items Inv Ex step ends fin f (i + 1) η' S' (by omega) (by omega) h'
      · have := ends o S' h'
        cases o with
        | nx _ => exact this.elim
        | ct _ => exact this.elim
        | _ => exact this
    · have e : i = xs.length := by omega
      subst e
      simp only [Src.nx, List.getElem?_eq_none (Nat.le_refl _)]
      exact fin η S h
theorem forP {xs : List D} {body : D → SMP} {κ : Out → Store → Prop} {η : En} {S : Store} (Inv : Nat → En → Store → Prop) (h0 : Inv 0 η S)
    (step : ∀ i d η S (K : Out → Store → Prop), xs[i]? = some d → Inv i η S → (∀ η' S', Inv (i + 1) η' S' → K (.nx η') S') → body d η S K)
    (fin : ∀ η S, Inv xs.length η S → κ (.nx η) S) : Lp (forLoopP (Src.items xs).nx body ((Src.items xs).fuel S) 0 η S κ) :=
  .go (for_items Inv (fun _ _ => False) (fun i d η S K hd hi hn _ _ => step i d η S K hd hi hn) (fun o S' h => h.elim) fin xs.length 0 η S (by omega) (by omega) h0)
/-- .. over a row that stands by value -/
theorem forV {d : D} {xs : List D} (hd : ∀ S i, seqAt d S i = some xs[i]?) (hl : ∀ S, lenAt S d = xs.length) {body : D → SMP} {κ : Out → Store → Prop} {η : En} {S : Store} (Inv : Nat → En → Store → Prop) (h0 : Inv 0 η S)
    (step : ∀ i d η S (K : Out → Store → Prop), xs[i]? = some d → Inv i η S → (∀ η' S', Inv (i + 1) η' S' → K (.nx η') S') → body d η S K)
    (fin : ∀ η S, Inv xs.length η S → κ (.nx η) S) : Lp (forLoopP (Src.seq d).nx body ((Src.seq d).fuel S) 0 η S κ) := by
  have e : (Src.seq d).nx = (Src.items xs).nx := by funext S i; exact hd S i
  have e2 : (Src.seq d).fuel S = (Src.items xs).fuel S := by show lenAt S d + 1 = xs.length + 1; rw [hl]
  rw [e, e2]
  exact forP Inv h0 step fin
/-- a comprehension: the new list so far -/
theorem comp_items {nx : Nx} {xs : List D} {turn : D → MP (Option D)} {κ : R (List D) → Store → Prop} (Inv : Nat → List D → Store → Prop) (hnx : ∀ i acc S, Inv i acc S → nx S i = some xs[i]?)
    (step : ∀ i d acc S (K : R (Option D) → Store → Prop), xs[i]? = some d → Inv i acc S → (∀ y S', Inv (i + 1) (acc ++ [y]) S' → acc.length < sizeLine → K (.v (some y)) S') → (∀ S', Inv (i + 1) acc S' → K (.v none) S') → turn d S K)
    (fin : ∀ acc S, Inv xs.length acc S → κ (.v acc) S) : ∀ (f i : Nat) (acc : List D) (S : Store), xs.length ≤ i + f → i ≤ xs.length → Inv i acc S → compLoopP nx turn (f + 1) i acc S κ
  | 0, i, acc, S, hf, hi, h => by
    have e : i = xs.length := by omega
    subst e
    unfold compLoopP
    simp only [hnx _ _ _ h, List.getElem?_eq_none (Nat.le_refl _)]
    exact fin acc S h
  | f + 1, i, acc, S, hf, hi, h => by
    unfold compLoopP
    by_cases hl : i < xs.length
    · simp only [hnx _ _ _ h, List.getElem?_eq_getElem hl]
      refine step i _ acc S _ (List.getElem?_eq_getElem hl) h (fun y S' h' hs => grd_ (decide_eq_true hs) ?_) (fun S' h' => ?_)
      · exact comp_items Inv hnx step fin f (i + 1) _ S' (by omega) (by omega) h'
      · exact comp_items Inv hnx step fin f (i + 1) _ S' (by omega) (by omega) h'
    · have e : i = xs.length := by omega
      subst e
      simp only [hnx _ _ _ h, List.getElem?_eq_none (Nat.le_refl _)]
      exact fin acc S h
/-- a comprehension without a store, one value for each -/
theorem comp_map {nx : Nx} {xs : List D} (g : D → D) {turn : D → MP (Option D)} {κ : R (List D) → Store → Prop} {S : Store} (hnx : ∀ i, nx S i = some xs[i]?) {fu : Nat} (hf : fu = xs.length + 1) (hl : xs.length ≤ sizeLine)
    (step : ∀ d (K : R (Option D) → Store → Prop), d ∈ xs → K (.v (some (g d))) S → turn d S K)
    (fin : κ (.v (xs.map g)) S) : Lp (compLoopP nx turn fu 0 [] S κ) := by
  subst hf
  refine .go (comp_items (xs := xs) (fun i acc S' => S' = S ∧ acc = (xs.take i).map g) (fun i acc S' h => by rw [h.1]; exact hnx i) (fun i d acc S' K hd hi hy _ => ?_) (fun acc S' h => ?_) xs.length 0 [] S (by omega) (by omega) ⟨rfl, rfl⟩)
  · obtain ⟨rfl, rfl⟩ := hi
    have hi : i < xs.length := by
      rcases Nat.lt_or_ge i xs.length with h | h
      · exact h
      · rw [List.getElem?_eq_none h] at hd; cases hd
    refine step d K (List.mem_of_getElem? hd) (hy _ _ ⟨rfl, ?_⟩ ?_)
    · rw [List.take_succ, hd]; simp
    · simp; omega
  · obtain ⟨rfl, rfl⟩ := h
    rw [List.take_length]
    exact fin
/-- a comprehension that takes nothing -/
theorem comp_none {nx : Nx} {xs : List D} {turn : D → MP (Option D)} {κ : R (List D) → Store → Prop} {S : Store} (hnx : ∀ i, nx S i = some xs[i]?) {fu : Nat} (hf : fu = xs.length + 1)
    (step : ∀ d (K : R (Option D) → Store → Prop), d ∈ xs → K (.v none) S → turn d S K)
    (fin : κ (.v []) S) : Lp (compLoopP nx turn fu 0 [] S κ) := by
  subst hf
  refine .go (comp_items (xs := xs) (fun i acc S' => S' = S ∧ acc = []) (fun i acc S' h => by rw [h.1]; exact hnx i) (fun i d acc S' K hd hi _ hn => ?_) (fun acc S' h => ?_) xs.length 0 [] S (by omega) (by omega) ⟨rfl, rfl⟩)
  · obtain ⟨rfl, rfl⟩ := hi
    exact step d K (List.mem_of_getElem? hd) (hn _ ⟨rfl, rfl⟩)
  · obtain ⟨rfl, rfl⟩ := h
    exact fin
theorem len_str (st : Bool) (z : Str) (h : z.length ≤ sizeLine) (S : Store) : callB st "len" [.str z] S = some (.v (.int (z.length : Nat)), S) := by
  show (if z.length ≤ sizeLine then M.pure (D.int (z.length : Nat)) else M.fail) S = _
  rw [if_pos h]
  rfl
/-- a comprehension with a condition -/
theorem comp_filter {nx : Nx} {xs : List D} (p : D → Bool) {turn : D → MP (Option D)} {κ : R (List D) → Store → Prop} {S : Store} (hnx : ∀ i, nx S i = some xs[i]?) {fu : Nat} (hf : fu = xs.length + 1) (hl : xs.length ≤ sizeLine)
    (step : ∀ d (K : R (Option D) → Store → Prop), d ∈ xs → (p d = true → K (.v (some d)) S) → (p d = false → K (.v none) S) → turn d S K)
    (fin : κ (.v (xs.filter p)) S) : Lp (compLoopP nx turn fu 0 [] S κ) := by
  subst hf
  refine .go (comp_items (xs := xs) (fun i acc S' => S' = S ∧ acc = (xs.take i).filter p) (fun i acc S' h => by rw [h.1]; exact hnx i) (fun i d acc S' K hd hi hy hn => ?_) (fun acc S' h => ?_) xs.length 0 [] S (by omega) (by omega) ⟨rfl, rfl⟩)
  · obtain ⟨rfl, rfl⟩ := hi
    have hi : i < xs.length := by
      rcases Nat.lt_or_ge i xs.length with h | h
      · exact h
      · rw [List.getElem?_eq_none h] at hd; cases hd
    have len : ((xs.take i).filter p).length ≤ i := Nat.le_trans (List.length_filter_le ..) (by simp; omega)
    refine step d K (List.mem_of_getElem? hd) (fun e => hy _ _ ⟨rfl, ?_⟩ (by omega)) (fun e => hn _ ⟨rfl, ?_⟩)
    · rw [List.take_add_one, hd]; simp [e]
    · rw [List.take_add_one, hd]; simp [e]
  · obtain ⟨rfl, rfl⟩ := h
    rw [List.take_length]
    exact fin
theorem κbl {κ : R D → Store → Prop} {S : Store} {b c : Bool} (h : κ (.v (.bl c)) S) (e : b = c) : κ (.v (.bl b)) S := e ▸ h
theorem κint {κ : R D → Store → Prop} {S : Store} {b c : Int} (h : κ (.v (.int c)) S) (e : b = c) : κ (.v (.int b)) S := e ▸ h
theorem lev {k : Nat} (n : Nat) (h : n ≤ k) : ∃ j, k = j + n := ⟨k - n, by omega⟩
/-- .. with ends of its own -/
theorem forVX {d : D} {xs : List D} (hd : ∀ S i, seqAt d S i = some xs[i]?) (hl : ∀ S, lenAt S d = xs.length) {body : D → SMP} {κ : Out → Store → Prop} {η : En} {S : Store} (Inv : Nat → En → Store → Prop) (Ex : Out → Store → Prop) (h0 : Inv 0 η S)
    (step : ∀ i d η S (K : Out → Store → Prop), xs[i]? = some d → Inv i η S → (∀ η' S', Inv (i + 1) η' S' → K (.nx η') S') → (∀ η' S', Inv (i + 1) η' S' → K (.ct η') S') → (∀ o S', Ex o S' → K o S') → body d η S K)
    (ends : ∀ o S', Ex o S' → match o with | .nx _ => False | .ct _ => False | .bk η' => κ (.nx η') S' | o => κ o S')
    (fin : ∀ η S, Inv xs.length η S → κ (.nx η) S) : Lp (forLoopP (Src.seq d).nx body ((Src.seq d).fuel S) 0 η S κ) := by
  have e : (Src.seq d).nx = (Src.items xs).nx := by funext S i; exact hd S i
  have e2 : (Src.seq d).fuel S = xs.length + 1 := by show lenAt S d + 1 = xs.length + 1; rw [hl]
  rw [e, e2]
  exact .go (for_items Inv Ex step ends fin xs.length 0 η S (by omega) (by omega) h0)
theorem forPX {xs : List D} {body : D → SMP} {κ : Out → Store → Prop} {η : En} {S : Store} (Inv : Nat → En → Store → Prop) (Ex : Out → Store → Prop) (h0 : Inv 0 η S)
    (step : ∀ i d η S (K : Out → Store → Prop), xs[i]? = some d → Inv i η S → (∀ η' S', Inv (i + 1) η' S' → K (.nx η') S') → (∀ η' S', Inv (i + 1) η' S' → K (.ct η') S') → (∀ o S', Ex o S' → K o S') → body d η S K)
    (ends : ∀ o S', Ex o S' → match o with | .nx _ => False | .ct _ => False | .bk η' => κ (.nx η') S' | o => κ o S')
    (fin : ∀ η S, Inv xs.length η S → κ (.nx η) S) : Lp (forLoopP (Src.items xs).nx body ((Src.items xs).fuel S) 0 η S κ) :=
  .go (for_items Inv Ex step ends fin xs.length 0 η S (by omega) (by omega) h0)
/-- a while: what holds ahead of the test, behind it, at the end -/
theorem whileR {cc : En → MP Bool} {body : SMP} {κ : Out → Store → Prop} (Inv Go : Nat → En → Store → Prop) (Fin : En → Store → Prop) (Ex : Out → Store → Prop)
    (hc : ∀ n η S (K : R Bool → Store → Prop), Inv n η S → (∀ S1, Go n η S1 → K (.v true) S1) → (∀ S1, Fin η S1 → K (.v false) S1) → cc η S K)
    (hb : ∀ n η S (K : Out → Store → Prop), Go n η S → (∀ n' η' S', n' < n → Inv n' η' S' → K (.nx η') S') → (∀ o S', Ex o S' → K o S') → body η S K)
    (ends : ∀ o S', Ex o S' → match o with | .nx _ => False | .ct _ => False | .bk η' => κ (.nx η') S' | o => κ o S')
    (fin : ∀ η S, Fin η S → κ (.nx η) S) : ∀ (f n : Nat) (η : En) (S : Store), n < f → Inv n η S → whileLoopP cc body f η S κ
  | 0, n, η, S, hf, h => by omega
  | f + 1, n, η, S, hf, h => by
    unfold whileLoopP
    refine hc n η S _ h (fun S1 h1 => ?_) (fun S1 h1 => ?_)
    · show body η S1 _
      refine hb n η S1 _ h1 (fun n' η' S' hn h' => ?_) (fun o S' h' => ?_)
      · exact whileR Inv Go Fin Ex hc hb ends fin f n' η' S' (by omega) h'
      · have := ends o S' h'
        cases o with
        | nx _ => exact this.elim
        | ct _ => exact this.elim
        | _ => exact this
    · exact fin η S1 h1
theorem dPut_len (kvs : List (DK × D)) (k : DK) (v : D) : (dPut kvs k v).length ≤ kvs.length + 1 := by
  unfold dPut
  split
  · rw [List.length_map]; omega
  · rw [List.length_append]; exact Nat.le_refl _
theorem dc_items {nx : Nx} {xs : List D} {turn : D → MP (Option (D × D))} {κ : R (List (DK × D)) → Store → Prop} (kf : D → DK) (vf : D → D) {S : Store} (hnx : ∀ i, nx S i = some xs[i]?)
    (step : ∀ d (K : R (Option (D × D)) → Store → Prop), d ∈ xs → (∀ p, pairK p = some (kf d, vf d) → K (.v (some p)) S) → turn d S K)
    (fin : κ (.v (xs.foldl (fun acc d => dPut acc (kf d) (vf d)) [])) S) (hl : xs.length ≤ sizeLine) : ∀ (f i : Nat) (acc : List (DK × D)), xs.length ≤ i + f → i ≤ xs.length → acc.length ≤ i → acc = (xs.take i).foldl (fun acc d => dPut acc (kf d) (vf d)) [] → dcLoopP nx turn (f + 1) i acc S κ
  | 0, i, acc, hf, hi, ha, h => by
    have e : i = xs.length := by omega
    subst e
    unfold dcLoopP
    simp only [hnx, List.getElem?_eq_none (Nat.le_refl _)]
    rw [h, List.take_length]
    exact fin
  | f + 1, i, acc, hf, hi, ha, h => by
    unfold dcLoopP
    by_cases hlt : i < xs.length
    · simp only [hnx, List.getElem?_eq_getElem hlt]
      refine step _ _ (List.getElem_mem hlt) fun p hp => ?_
      simp only [hp]
      refine grd_ (decide_eq_true (by omega)) ?_
      refine dc_items kf vf hnx step fin hl f (i + 1) _ (by omega) (by omega) (Nat.le_trans (dPut_len _ _ _) (by omega)) ?_
      rw [List.take_add_one, List.getElem?_eq_getElem hlt, h, List.foldl_append]
      rfl
    · have e : i = xs.length := by omega
      subst e
      simp only [hnx, List.getElem?_eq_none (Nat.le_refl _)]
      rw [h, List.take_length]
      exact fin
theorem dc_fold {nx : Nx} {xs : List D} {turn : D → MP (Option (D × D))} {κ : R (List (DK × D)) → Store → Prop} (kf : D → DK) (vf : D → D) {S : Store} (hnx : ∀ i, nx S i = some xs[i]?) {fu : Nat} (hf : fu = xs.length + 1) (hl : xs.length ≤ sizeLine)
    (step : ∀ d (K : R (Option (D × D)) → Store → Prop), d ∈ xs → (∀ p, pairK p = some (kf d, vf d) → K (.v (some p)) S) → turn d S K)
    (fin : κ (.v (xs.foldl (fun acc d => dPut acc (kf d) (vf d)) [])) S) : Lp (dcLoopP nx turn fu 0 [] S κ) := by
  subst hf
  exact .go (dc_items kf vf hnx step fin hl xs.length 0 [] (by omega) (by omega) (Nat.le_refl _) rfl)
theorem zip_get {α β : Type} : ∀ (xs : List α) (ys : List β) (i : Nat), (xs.zip ys)[i]? = match xs[i]?, ys[i]? with
    | some x, some y => some (x, y)
    | _, _ => none
  | [], ys, i => by simp
  | x :: xs, [], i => by cases i <;> simp
  | x :: xs, y :: ys, 0 => by simp
  | x :: xs, y :: ys, i + 1 => by simpa using zip_get xs ys i
/-- two rows side by side -/
theorem zip_tup (xs ys : List D) (S : Store) (i : Nat) : (Src.zip (.tup xs) (.tup ys)).nx S i = some ((xs.zip ys).map fun p => D.tup [p.1, p.2])[i]? := by
  show (match some xs[i]?, some ys[i]? with
    | some (some x), some (some y) => some (some (D.tup [x, y]))
    | some none, some _ => some none
    | some (some _), some none => some none
    | _, _ => none) = _
  have e := zip_get xs ys i
  rw [List.getElem?_map, e]
  cases xs[i]? with
  | none => cases ys[i]? <;> rfl
  | some x => cases ys[i]? <;> rfl
theorem app_at {S : Store} {o : Ob} {n : Nat} (h : n = S.length) : (S ++ [o])[n]? = some o := by subst h; simp
theorem app_lt {S : Store} {o : Ob} {n : Nat} (h : n < S.length) : (S ++ [o])[n]? = S[n]? := by
  rw [List.getElem?_append_left h]
theorem getO_at {n : Nat} {o : Ob} {S : Store} (h : S[n]? = some o) : getO n S = some (.v o, S) := by
  unfold getO
  rw [h]
theorem setO_at {n : Nat} {o p : Ob} {S : Store} (h : S[n]? = some o) : setO n p S = some (.v (), S.set n p) := by
  unfold setO
  have : n < S.length := (List.getElem?_eq_some_iff.mp h).1
  rw [if_pos this]
theorem getF_at {T : Tab} {f C : Str} {fs : List (Str × D)} {n : Nat} {S : Store} {v : D} (h : S[n]? = some (.ins C fs)) (ha : T.attr C f = true) (hl : fs.lookup f = some v) : getF T f (.obj n) S = some (.v v, S) := by
  have e : getF T f (.obj n) = M.bind (getO n) fun o => (match o with | .ins C fs => (if T.attr C f = true then M.of (fs.lookup f) else M.fail) | _ => M.fail) := rfl
  rw [e, bindK (getO_at h)]
  show (if T.attr C f = true then M.of (fs.lookup f) else M.fail) S = _
  rw [if_pos ha, hl]
  rfl
theorem putF_at {T : Tab} {f C : Str} {fs : List (Str × D)} {n : Nat} {S : Store} {d : D} (h : S[n]? = some (.ins C fs)) (ha : (decide (fs.length ≤ 200) && T.attr C f) = true) : putF T f d (.obj n) S = some (.v (), S.set n (.ins C (fPut f d fs))) := by
  have e : putF T f d (.obj n) = M.bind (getO n) fun ob => (match ob with
    | .ins C fs => if (decide (fs.length ≤ 200) && T.attr C f) = true then setO n (.ins C (fPut f d fs)) else M.fail
    | _ => M.fail) := rfl
  rw [e, bindK (getO_at h)]
  show (if (decide (fs.length ≤ 200) && T.attr C f) = true then setO n (.ins C (fPut f d fs)) else M.fail) S = _
  rw [if_pos ha, setO_at h]
theorem set_get {S : Store} {n : Nat} {o p : Ob} (h : S[n]? = some o) : (S.set n p)[n]? = some p := by
  have : n < S.length := (List.getElem?_eq_some_iff.mp h).1
  simp [this]
theorem set_ne {S : Store} {n m : Nat} {p : Ob} (h : n ≠ m) : (S.set n p)[m]? = S[m]? := by
  simp [h]
theorem bTag_dct {n : Nat} {kvs : List (DK × D)} {S : Store} (h : S[n]? = some (.dct kvs)) : bTag S (.obj n) = some "dict" := by
  show (match S[n]? with | some (.lst _) => some "list" | some (.dct _) => some "dict" | _ => none) = _
  rw [h]
theorem bTag_lst {n : Nat} {xs : List D} {S : Store} (h : S[n]? = some (.lst xs)) : bTag S (.obj n) = some "list" := by
  show (match S[n]? with | some (.lst _) => some "list" | some (.dct _) => some "dict" | _ => none) = _
  rw [h]
theorem look_dct {kvs : List (DK × D)} {x : Str} (hf : dFit kvs (.inl (.inr x)) = true) (S : Store) : dLook kvs (.str x) S = some (.v (dGet kvs (.inl (.inr x))), S) := by
  have e3 : dLook kvs (.str x) = if dFit kvs (.inl (.inr x)) = true then M.pure (dGet kvs (.inl (.inr x))) else M.fail := rfl
  rw [e3, if_pos hf]
  rfl
theorem mGet_dct {n : Nat} {kvs : List (DK × D)} {x : Str} {b : D} {S : Store} (h : S[n]? = some (.dct kvs)) (hf : dFit kvs (.inl (.inr x)) = true) : mGet (.obj n) [.str x, b] S = some (.v ((dGet kvs (.inl (.inr x))).getD b), S) := by
  have e : mGet (.obj n) [.str x, b] = M.bind (getO n) fun ob => match ob with
      | .dct kvs => M.bind (dLook kvs (.str x)) fun r => M.pure (r.getD b)
      | _ => M.fail := rfl
  rw [e, bindK (getO_at h)]
  show M.bind (dLook kvs (.str x)) (fun r => M.pure (r.getD b)) S = _
  rw [bindK (look_dct hf S)]
  rfl
theorem dIx_dct {q : Nat} {x : Str} {kvs : List (DK × D)} {v : D} {S : Store} (h : S[q]? = some (.dct kvs)) (hf : dFit kvs (.inl (.inr x)) = true) (hg : dGet kvs (.inl (.inr x)) = some v) : dIx (.obj q) (.str x) S = some (.v v, S) := by
  have e : dIx (.obj q) (.str x) = M.bind (getO q) fun o => match o with
    | .lst xs => M.fail
    | .dct kvs => M.bind (dLook kvs (.str x)) M.of
    | _ => M.fail := rfl
  rw [e, bindK (getO_at h)]
  show M.bind (dLook kvs (.str x)) M.of S = _
  rw [bindK (look_dct hf S), hg]
  rfl
theorem dSet_dct {q : Nat} {x : Str} {kvs : List (DK × D)} {v : D} {S : Store} (h : S[q]? = some (.dct kvs)) (hf : dFit kvs (.inl (.inr x)) = true) (hl : kvs.length < sizeLine) : dSet (.obj q) (.str x) v S = some (.v (), S.set q (.dct (dPut kvs (.inl (.inr x)) v))) := by
  have e : dSet (.obj q) (.str x) v = M.bind (getO q) fun ob => match ob with
    | .lst xs => M.fail
    | .dct kvs => (if (decide (kvs.length < sizeLine) && dFit kvs (.inl (.inr x))) = true then setO q (.dct (dPut kvs (.inl (.inr x)) v)) else M.fail)
    | _ => M.fail := rfl
  rw [e, bindK (getO_at h)]
  show (if (decide (kvs.length < sizeLine) && dFit kvs (.inl (.inr x))) = true then setO q (.dct (dPut kvs (.inl (.inr x)) v)) else M.fail) S = _
  rw [if_pos (by rw [hf, decide_eq_true hl]; rfl), setO_at h]
theorem dIx_lst {q : Nat} {xs : List D} {i : Int} {v : D} {S : Store} (h : S[q]? = some (.lst xs)) (hg : atI xs i = some v) : dIx (.obj q) (.int i) S = some (.v v, S) := by
  have e : dIx (.obj q) (.int i) = M.bind (getO q) fun o => match o with
    | .lst xs => M.of (atI xs i)
    | .dct kvs => M.bind (dLook kvs (.int i)) M.of
    | _ => M.fail := rfl
  rw [e, bindK (getO_at h)]
  show M.of (atI xs i) S = _
  rw [hg]
  rfl
theorem dSet_lst {q : Nat} {xs : List D} {i : Int} {j : Nat} {v : D} {S : Store} (h : S[q]? = some (.lst xs)) (hg : ixN xs.length i = some j) : dSet (.obj q) (.int i) v S = some (.v (), S.set q (.lst (xs.set j v))) := by
  have e : dSet (.obj q) (.int i) v = M.bind (getO q) fun ob => match ob with
    | .lst xs => (match ixN xs.length i with | some j => setO q (.lst (xs.set j v)) | none => M.fail)
    | .dct kvs => (if (decide (kvs.length < sizeLine) && dFit kvs (.inl (.inl i))) = true then setO q (.dct (dPut kvs (.inl (.inl i)) v)) else M.fail)
    | _ => M.fail := rfl
  rw [e, bindK (getO_at h)]
  show (match ixN xs.length i with | some j => setO q (.lst (xs.set j v)) | none => M.fail) S = _
  rw [hg]
  exact setO_at h
theorem append_lst {q : Nat} {xs : List D} {v : D} {S : Store} (h : S[q]? = some (.lst xs)) (hl : xs.length < sizeLine) : mAppend (.obj q) [v] S = some (.v .non, S.set q (.lst (xs ++ [v]))) := by
  have e : mAppend (.obj q) [v] = M.bind (getO q) fun ob => match ob with | .lst xs => (if xs.length < sizeLine then M.bind (setO q (.lst (xs ++ [v]))) fun _ => M.pure .non else M.fail) | _ => M.fail := rfl
  rw [e, bindK (getO_at h)]
  show (if xs.length < sizeLine then M.bind (setO q (.lst (xs ++ [v]))) fun _ => M.pure D.non else M.fail) S = _
  rw [if_pos hl, bindK (setO_at h)]
  rfl
theorem len_lst {q : Nat} {xs : List D} {st : Bool} {S : Store} (h : S[q]? = some (.lst xs)) : callB st "len" [.obj q] S = some (.v (.int (xs.length : Nat)), S) := by
  have e : callB st "len" [.obj q] = M.bind (getO q) fun o => match o with
    | .lst xs => M.pure (.int (xs.length : Nat))
    | .dct kvs => M.pure (.int (kvs.length : Nat))
    | _ => M.fail := rfl
  rw [e, bindK (getO_at h)]
  rfl
end DL
end

section
set_option maxHeartbeats 0
namespace DLL
open PySem PySem.Spec PyProof.Rows L2 DL
def topS (i : Nat) : Stmt := PySem.Challenge.pw_reducehouse_k18_whole_calls.main.body.getD i (.Pass ⟨0, 0, 0, 0⟩)
def fns : List Fn := [
  ⟨"wrapped", ["number"], ["number"], (topS 3)⟩,
  ⟨"quotient", ["one", "other"], ["one", "other", "found"], (topS 4)⟩,
  ⟨"rest_of", ["one", "other"], ["one", "other", "found"], (topS 5)⟩,
  ⟨"Call.__init__", ["self", "names", "given", "values"], ["self", "names", "given", "values", "name", "number", "letter"], (inClass (topS 10) 0)⟩,
  ⟨"Call.is_over", ["self"], ["self"], (inClass (topS 10) 1)⟩,
  ⟨"Call.can_step", ["self"], ["self"], (inClass (topS 10) 2)⟩,
  ⟨"Call.divided", ["self", "word", "one", "other"], ["self", "word", "one", "other"], (inClass (topS 10) 3)⟩,
  ⟨"Call.worth", ["self", "expression"], ["self", "expression", "word", "one", "other"], (inClass (topS 10) 4)⟩,
  ⟨"Call.block", ["self", "block"], ["self", "block", "statement"], (inClass (topS 10) 5)⟩,
  ⟨"Call.plain", ["self", "statement"], ["self", "statement", "word", "told", "part"], (inClass (topS 10) 6)⟩,
  ⟨"Call.blocked", ["self", "statement"], ["self", "statement", "number"], (inClass (topS 10) 7)⟩,
  ⟨"Call.each", ["self", "name", "block"], ["self", "name", "block", "number"], (inClass (topS 10) 8)⟩,
  ⟨"Call.again", ["self", "number", "expression", "block"], ["self", "number", "expression", "block"], (inClass (topS 10) 9)⟩,
  ⟨"Call.outcome", ["self"], ["self"], (inClass (topS 10) 10)⟩,
  ⟨"called", ["function", "given", "values"], ["function", "given", "values", "call"], (topS 11)⟩,
  ⟨"call_joined", ["job", "key", "one", "other"], ["job", "key", "one", "other", "call"], (topS 12)⟩,
  ⟨"mapped", ["job", "key", "value"], ["job", "key", "value"], (topS 13)⟩,
  ⟨"map_steps", ["job", "key", "value"], ["job", "key", "value"], (topS 14)⟩,
  ⟨"joined", ["job", "key", "one", "other"], ["job", "key", "one", "other"], (topS 15)⟩,
  ⟨"join_steps", ["job", "key", "one", "other"], ["job", "key", "one", "other"], (topS 16)⟩,
  ⟨"reduced", ["job", "key", "values"], ["job", "key", "values"], (topS 17)⟩,
  ⟨"reduce_steps", ["job", "key", "values"], ["job", "key", "values"], (topS 18)⟩,
  ⟨"_law_cup", ["script"], ["script", "cell"], (topS 20)⟩,
  ⟨"_law_roll", ["cup", "many"], ["cup", "many", "deep", "found"], (topS 21)⟩,
  ⟨"_law_some", ["cup", "things"], ["cup", "things"], (topS 22)⟩,
  ⟨"_law_like", ["one", "other"], ["one", "other"], (topS 23)⟩,
  ⟨"_law_letter", ["cup"], ["cup"], (topS 24)⟩,
  ⟨"_law_expr", ["cup", "function", "parts"], ["cup", "function", "parts", "way", "some", "one", "word"], (topS 25)⟩,
  ⟨"_law_any", ["cup", "function"], ["cup", "function"], (topS 26)⟩,
  ⟨"_law_statement", ["cup", "function", "deep", "left", "in_each"], ["cup", "function", "deep", "left", "in_each", "words", "word", "asked", "block"], (topS 27)⟩,
  ⟨"_law_block", ["cup", "function", "deep", "left", "in_each"], ["cup", "function", "deep", "left", "in_each", "found", "turn"], (topS 28)⟩,
  ⟨"_law_job", ["cup"], ["cup", "left", "rows", "name", "function", "many", "some"], (topS 29)⟩,
  ⟨"_law_round", ["number"], ["number", "half"], (topS 30)⟩,
  ⟨"_law_worth", ["e", "state"], ["e", "state", "word", "one", "other", "size", "whole"], (topS 31)⟩,
  ⟨"_law_do", ["block", "state", "log"], ["block", "state", "log", "s", "end"], (topS 32)⟩,
  ⟨"_law_statement_done", ["s", "state", "log"], ["s", "state", "log", "word", "worth", "other"], (topS 33)⟩,
  ⟨"_law_each", ["s", "state", "log"], ["s", "state", "log", "value", "end"], (topS 34)⟩,
  ⟨"_law_while", ["s", "worth", "state", "log"], ["s", "worth", "state", "log", "turn", "end"], (topS 35)⟩,
  ⟨"_law_call", ["row", "given", "values", "is_join"], ["row", "given", "values", "is_join", "end", "state", "log", "name", "number"], (topS 36)⟩,
  ⟨"_law_due", ["job", "function", "given"], ["job", "function", "given"], (topS 37)⟩,
  ⟨"_law_told", ["job", "function", "given"], ["job", "function", "given"], (topS 38)⟩,
  ⟨"_law_number", ["cup"], ["cup"], (topS 39)⟩,
  ⟨"_law_given", ["cup", "function"], ["cup", "function", "turn"], (topS 40)⟩,
  ⟨"_law_is_right", ["cup", "job", "function"], ["cup", "job", "function", "given"], (topS 41)⟩,
  ⟨"_law_job_of", ["function", "block"], ["function", "block", "rows"], (topS 42)⟩,
  ⟨"_law_renamed", ["value", "names"], ["value", "names", "item"], (topS 43)⟩,
  ⟨"_law_same_renamed", ["job", "function", "given"], ["job", "function", "given", "letters", "names", "other", "told", "rows", "more", "row"], (topS 44)⟩,
  ⟨"law", ["script"], ["script", "cup", "turn", "odd", "body", "added", "reducing", "job", "told", "due", "function", "k", "v", "given"], (topS 45)⟩]
def cls : List Cl := [⟨"Call", [("__init__", "Call.__init__"), ("is_over", "Call.is_over"), ("can_step", "Call.can_step"), ("divided", "Call.divided"), ("worth", "Call.worth"), ("block", "Call.block"), ("plain", "Call.plain"), ("blocked", "Call.blocked"), ("each", "Call.each"), ("again", "Call.again"), ("outcome", "Call.outcome")], ["fell", "given", "records", "steps", "told", "variables"]⟩]
def glob : List (Str × D) := [("ROUND", (.int 18446744073709551616)), ("HALF", (.int 9223372036854775808)), ("SMALL", (.str "abcdefghijklmnopqrstuvwxyz")), ("STEPS", (.int 100)), ("EMITS", (.int 6))]
def free : List Str := ["abs", "dict", "int", "isinstance", "len", "list", "range", "repr", "str", "tuple", "zip"]
def sites : List (Nat × Nat) := [(19, 25), (24, 23), (140, 11), (174, 15), (188, 20), (191, 11), (192, 11), (194, 31), (194, 48), (194, 65), (200, 11), (219, 56), (227, 17), (258, 17), (273, 17), (279, 19), (279, 32), (279, 36), (298, 83), (307, 11)]
def top : List Str := [("wrapped" : Str), ("quotient" : Str), ("rest_of" : Str), ("called" : Str), ("call_joined" : Str), ("mapped" : Str), ("map_steps" : Str), ("joined" : Str), ("join_steps" : Str), ("reduced" : Str), ("reduce_steps" : Str), ("_law_cup" : Str), ("_law_roll" : Str), ("_law_some" : Str), ("_law_like" : Str), ("_law_letter" : Str), ("_law_expr" : Str), ("_law_any" : Str), ("_law_statement" : Str), ("_law_block" : Str), ("_law_job" : Str), ("_law_round" : Str), ("_law_worth" : Str), ("_law_do" : Str), ("_law_statement_done" : Str), ("_law_each" : Str), ("_law_while" : Str), ("_law_call" : Str), ("_law_due" : Str), ("_law_told" : Str), ("_law_number" : Str), ("_law_given" : Str), ("_law_is_right" : Str), ("_law_job_of" : Str), ("_law_renamed" : Str), ("_law_same_renamed" : Str), ("law" : Str)]
def T : Tab := ⟨fns, top, cls, glob, free, fun l c => sites.contains (l, c)⟩
def izs : List (Str × DL.At) := [("ROUND", (.i 18446744073709551616)), ("HALF", (.i 9223372036854775808)), ("SMALL", (.s "abcdefghijklmnopqrstuvwxyz")), ("STEPS", (.i 100)), ("EMITS", (.i 6))]
theorem binds : DL.AllP BindP T.fns := ⟨fun _ _ _ _ _ _ _ _ us hl => match us, hl with | [_], _ => rfl, ⟨fun _ _ _ _ _ _ _ _ us hl => match us, hl with | [_, _], _ => rfl, ⟨fun _ _ _ _ _ _ _ _ us hl => match us, hl with | [_, _], _ => rfl, ⟨fun _ _ _ _ _ _ _ _ us hl => match us, hl with | [_, _, _, _], _ => rfl, ⟨fun _ _ _ _ _ _ _ _ us hl => match us, hl with | [_], _ => rfl, ⟨fun _ _ _ _ _ _ _ _ us hl => match us, hl with | [_], _ => rfl, ⟨fun _ _ _ _ _ _ _ _ us hl => match us, hl with | [_, _, _, _], _ => rfl, ⟨fun _ _ _ _ _ _ _ _ us hl => match us, hl with | [_, _], _ => rfl, ⟨fun _ _ _ _ _ _ _ _ us hl => match us, hl with | [_, _], _ => rfl, ⟨fun _ _ _ _ _ _ _ _ us hl => match us, hl with | [_, _], _ => rfl, ⟨fun _ _ _ _ _ _ _ _ us hl => match us, hl with | [_, _], _ => rfl, ⟨fun _ _ _ _ _ _ _ _ us hl => match us, hl with | [_, _, _], _ => rfl, ⟨fun _ _ _ _ _ _ _ _ us hl => match us, hl with | [_, _, _, _], _ => rfl, ⟨fun _ _ _ _ _ _ _ _ us hl => match us, hl with | [_], _ => rfl, ⟨fun _ _ _ _ _ _ _ _ us hl => match us, hl with | [_, _, _], _ => rfl, ⟨fun _ _ _ _ _ _ _ _ us hl => match us, hl with | [_, _, _, _], _ => rfl, ⟨fun _ _ _ _ _ _ _ _ us hl => match us, hl with | [_, _, _], _ => rfl, ⟨fun _ _ _ _ _ _ _ _ us hl => match us, hl with | [_, _, _], _ => rfl, ⟨fun _ _ _ _ _ _ _ _ us hl => match us, hl with | [_, _, _, _], _ => rfl, ⟨fun _ _ _ _ _ _ _ _ us hl => match us, hl with | [_, _, _, _], _ => rfl, ⟨fun _ _ _ _ _ _ _ _ us hl => match us, hl with | [_, _, _], _ => rfl, ⟨fun _ _ _ _ _ _ _ _ us hl => match us, hl with | [_, _, _], _ => rfl, ⟨fun _ _ _ _ _ _ _ _ us hl => match us, hl with | [_], _ => rfl, ⟨fun _ _ _ _ _ _ _ _ us hl => match us, hl with | [_, _], _ => rfl, ⟨fun _ _ _ _ _ _ _ _ us hl => match us, hl with | [_, _], _ => rfl, ⟨fun _ _ _ _ _ _ _ _ us hl => match us, hl with | [_, _], _ => rfl, ⟨fun _ _ _ _ _ _ _ _ us hl => match us, hl with | [_], _ => rfl, ⟨fun _ _ _ _ _ _ _ _ us hl => match us, hl with | [_, _, _], _ => rfl, ⟨fun _ _ _ _ _ _ _ _ us hl => match us, hl with | [_, _], _ => rfl, ⟨fun _ _ _ _ _ _ _ _ us hl => match us, hl with | [_, _, _, _, _], _ => rfl, ⟨fun _ _ _ _ _ _ _ _ us hl => match us, hl with | [_, _, _, _, _], _ => rfl, ⟨fun _ _ _ _ _ _ _ _ us hl => match us, hl with | [_], _ => rfl, ⟨fun _ _ _ _ _ _ _ _ us hl => match us, hl with | [_], _ => rfl, ⟨fun _ _ _ _ _ _ _ _ us hl => match us, hl with | [_, _], _ => rfl, ⟨fun _ _ _ _ _ _ _ _ us hl => match us, hl with | [_, _, _], _ => rfl, ⟨fun _ _ _ _ _ _ _ _ us hl => match us, hl with | [_, _, _], _ => rfl, ⟨fun _ _ _ _ _ _ _ _ us hl => match us, hl with | [_, _, _], _ => rfl, ⟨fun _ _ _ _ _ _ _ _ us hl => match us, hl with | [_, _, _, _], _ => rfl, ⟨fun _ _ _ _ _ _ _ _ us hl => match us, hl with | [_, _, _, _], _ => rfl, ⟨fun _ _ _ _ _ _ _ _ us hl => match us, hl with | [_, _, _], _ => rfl, ⟨fun _ _ _ _ _ _ _ _ us hl => match us, hl with | [_, _, _], _ => rfl, ⟨fun _ _ _ _ _ _ _ _ us hl => match us, hl with | [_], _ => rfl, ⟨fun _ _ _ _ _ _ _ _ us hl => match us, hl with | [_, _], _ => rfl, ⟨fun _ _ _ _ _ _ _ _ us hl => match us, hl with | [_, _, _], _ => rfl, ⟨fun _ _ _ _ _ _ _ _ us hl => match us, hl with | [_, _], _ => rfl, ⟨fun _ _ _ _ _ _ _ _ us hl => match us, hl with | [_, _], _ => rfl, ⟨fun _ _ _ _ _ _ _ _ us hl => match us, hl with | [_, _, _], _ => rfl, ⟨fun _ _ _ _ _ _ _ _ us hl => match us, hl with | [_], _ => rfl, trivial⟩⟩⟩⟩⟩⟩⟩⟩⟩⟩⟩⟩⟩⟩⟩⟩⟩⟩⟩⟩⟩⟩⟩⟩⟩⟩⟩⟩⟩⟩⟩⟩⟩⟩⟩⟩⟩⟩⟩⟩⟩⟩⟩⟩⟩⟩⟩⟩
theorem scopes : T.fns.all scB = true := by decide +kernel
abbrev R : PySem.W.OpenRow := PySem.W.OpenLaw.row PySem.Challenge.rw_reducehouse_k18_whole_calls
abbrev fa : List He.Fa := faC T izs
abbrev fn : List He.DefD := defsOf T
abbrev hk : PySem.W.Hook := hookL 7 fa fn
def ob (s : PySem.W.SharedT) : He.AlD := obsL 7 fa fn (HandSHeadRun.getT s)
theorem ob_eq (s : PySem.W.SharedT) : ob s = hk.obs s.abs := obsL_eq (HandSHeadRun.getT_eq s)
def loose : List Str := [("ROUND" : Str), ("HALF" : Str), ("SMALL" : Str), ("STEPS" : Str), ("EMITS" : Str), ("wrapped" : Str), ("quotient" : Str), ("rest_of" : Str), ("called" : Str), ("call_joined" : Str), ("mapped" : Str), ("map_steps" : Str), ("joined" : Str), ("join_steps" : Str), ("reduced" : Str), ("reduce_steps" : Str), ("_law_cup" : Str), ("_law_roll" : Str), ("_law_some" : Str), ("_law_like" : Str), ("_law_letter" : Str), ("_law_expr" : Str), ("_law_any" : Str), ("_law_statement" : Str), ("_law_block" : Str), ("_law_job" : Str), ("_law_round" : Str), ("_law_worth" : Str), ("_law_do" : Str), ("_law_statement_done" : Str), ("_law_each" : Str), ("_law_while" : Str), ("_law_call" : Str), ("_law_due" : Str), ("_law_told" : Str), ("_law_number" : Str), ("_law_given" : Str), ("_law_is_right" : Str), ("_law_job_of" : Str), ("_law_renamed" : Str), ("_law_same_renamed" : Str), ("Call" : Str)]
theorem run (w : World) : HandSHeadRun.RunEq R (PySem.W.view R.prog [45]) hk ob 4000 loose w := by
  intro os
  kernel_rfl

end DLL
open PySem PySem.W PySem.Calls PyProof.Rows
theorem DLL.holds (pure_ : ∀ ns : List Int, ns.length ≤ 63 → ∃ S', DL.callAt DLL.T (90 + 1) "law" [.frz (ns.map DL.D.int)] [] = some (.v (.bl true), S')) : PySem.Challenge.rw_reducehouse_k18_whole_calls.Holds := by
  w_on; o_law
  refine HandSHeadRun.head_any (r := OpenLaw.row PySem.Challenge.rw_reducehouse_k18_whole_calls) (q := view (OpenLaw.row PySem.Challenge.rw_reducehouse_k18_whole_calls).prog [45]) (H := DLL.hk) (ob := DLL.ob) (M := 4000) (loose := DLL.loose) (d := HandSHeadRun.topDef (OpenLaw.row PySem.Challenge.rw_reducehouse_k18_whole_calls).prog 45) (kwd := []) DLL.ob_eq
    (by kernel_rfl) (fun s => by kernel_rfl) DLL.run (by kernel_rfl) (by kernel_rfl) (by kernel_rfl) (by rfl) (by first | assumption | decide +kernel) (by decide +kernel) ⟨rfl, rfl, rfl, rfl, rfl, by decide +kernel⟩ ?hw ?hc
  case hw => w_witness2
  case hc =>
    refine DL.walkG (l := PySem.Challenge.rw_reducehouse_k18_whole_calls) (n := 63) (k := 2 * (90 + 1)) (x := "script") rfl (by decide) (by kernel_rfl) ⟨rfl, by decide, by decide⟩ ?F
    intro w mg fa h Y G hmg0
    obtain ⟨K, KX, nl, c⟩ := Y
    have hmg : mg ("law" : PySem.Str) = some (.ref fa) := by
      have e : (HandSHeadRun.topDef (OpenLaw.row PySem.Challenge.rw_reducehouse_k18_whole_calls).prog 45).name = ("law" : PySem.Str) := by kernel_rfl
      rw [← e]
      exact hmg0
    obtain ⟨fd, sp, h1, h2, h3⟩ := DL.law_cls (P := (PySem.Challenge.rw_reducehouse_k18_whole_calls).prog) (w := w) (T := DLL.T) (ats := DLL.izs) (n := 63) (k := 90) KX G c rfl (by decide +kernel) (by decide +kernel) DLL.scopes DLL.binds (FL := DLL.fns.getLast (by decide)) (by rfl) (by rfl) hmg (by decide +kernel) pure_
    exact ⟨K, fd, sp, KX, nl, h1, h2, h3⟩
end

section
open PySem L2 DL DLL
set_option maxHeartbeats 0
theorem divOk_small {m : Int} (h : 0 < m) (h2 : m < 18446744073709551616) : divOk m = true := by
  unfold divOk
  have h3 : m.natAbs ≠ 0 := by omega
  have h4 : m.natAbs.log2 < 64 := (Nat.log2_lt h3).mpr (by omega)
  simp only [Bool.and_eq_true, decide_eq_true_eq]
  omega
theorem mulOk_left {i j : Int} (h : 0 ≤ i) (h2 : i < 18446744073709551616) : mulOk i j = true := by
  unfold mulOk
  have : i.natAbs < 18446744073709551616 := by omega
  simp [this]
theorem mulOk_right {i j : Int} (h : 0 ≤ j) (h2 : j < 18446744073709551616) : mulOk i j = true := by
  unfold mulOk
  have : j.natAbs < 18446744073709551616 := by omega
  simp [this]
theorem roll (k : Nat) (a b m : Int) (ha : 0 ≤ a) (hb : 0 ≤ b) (hm : 0 < m) (hm2 : m < 18446744073709551616) (κ : R D → Store → Prop)
    (h : ∀ r a' b', 0 ≤ r → r < m → 0 ≤ a' → 0 ≤ b' → κ (.v (.int r)) [.lst [.int a', .int b']]) : callAtP T (k+1) "_law_roll" [.obj 0, .int m] [.lst [.int a, .int b]] κ := by
  have hne : decide (m ≠ 0) = true := by simp; omega
  conv => whnf
  refine br_ (fun h1 => ?_) (fun h1 => ?_)
  · conv => whnf
    refine grd_ hne ?_
    conv => whnf
    refine grd_ (divOk_small hm hm2) ?_
    conv => whnf
    refine h _ _ _ ?_ ?_ ?_ ?_
    · exact Int.fmod_nonneg_of_pos _ hm
    · exact Int.fmod_lt_of_pos _ hm
    · exact Int.fdiv_nonneg ha (by omega)
    · exact hb
  · have p1 := Int.fmod_nonneg_of_pos (b * 31051 + 7993) (b := 2147483543) (by decide)
    have p2 := Int.fmod_lt_of_pos (b * 31051 + 7993) (b := 2147483543) (by decide)
    conv => whnf
    refine grd_ (mulOk_right (by decide) (by decide)) ?_
    conv => whnf
    refine grd_ (mulOk_left p1 (by omega)) ?_
    conv => whnf
    refine grd_ hne ?_
    conv => whnf
    refine h _ _ _ ?_ ?_ ?_ ?_
    · exact Int.fmod_nonneg_of_pos _ hm
    · exact Int.fmod_lt_of_pos _ hm
    · exact ha
    · exact p1
theorem head_at (ns : List Int) : ∃ c : Int, ∀ S : Store, dIx (.lst (ns.map D.int ++ [.int 0])) (.int 0) S = some (.v (.int c), S) := by
  cases ns with
  | nil => exact ⟨0, fun S => rfl⟩
  | cons n r =>
    refine ⟨n, fun S => ?_⟩
    have e : atI (D.int n :: (r.map D.int ++ [D.int 0])) 0 = some (D.int n) := by
      unfold atI ixN
      have : (0 : Int) < ↑r.length + 1 + 1 := by omega
      simp [this]
    show M.of (atI (D.int n :: (r.map D.int ++ [D.int 0])) 0) S = _
    rw [e]
    rfl
theorem cup (k : Nat) (ns : List Int) (hn : ns.length ≤ 63) (κ : R D → Store → Prop)
    (h : ∀ a b, 0 ≤ a → 0 ≤ b → κ (.v (.obj 0)) [.lst [.int a, .int b]]) : callAtP T (k+1) "_law_cup" [.frz (ns.map D.int)] [] κ := by
  obtain ⟨c, hc⟩ := head_at ns
  have h1 : decide ((ns.map D.int).length ≤ sizeLine) = true := by simp [sizeLine_eq]; omega
  have h2 : decide ((ns.map D.int ++ [D.int 0]).length ≤ sizeLine) = true := by simp [sizeLine_eq]; omega
  conv => whnf
  refine grd_ h1 ?_
  conv => whnf
  refine grd_ h2 ?_
  conv => whnf
  rw [hc]
  conv => whnf
  have pm := Int.fmod_nonneg_of_pos (((c.natAbs : Nat) : Int) * 277 + 2609) (b := 2077503167) (by decide)
  refine br_ (fun h3 => ?_) (fun h3 => ?_)
  · conv => whnf
    refine grd_ (mulOk_right (by decide) (by decide)) ?_
    conv => whnf
    exact h _ _ (Int.fdiv_nonneg (by omega) (by decide)) (Int.add_nonneg pm (by decide))
  · conv => whnf
    refine grd_ (mulOk_right (by decide) (by decide)) ?_
    conv => whnf
    exact h _ _ (by decide) (Int.add_nonneg pm (by decide))
theorem roll' (k : Nat) (hk : 1 ≤ k) (a b m : Int) (ha : 0 ≤ a) (hb : 0 ≤ b) (hm : 0 < m) (hm2 : m < 18446744073709551616) (κ : R D → Store → Prop)
    (h : ∀ r a' b', 0 ≤ r → r < m → 0 ≤ a' → 0 ≤ b' → κ (.v (.int r)) [.lst [.int a', .int b']]) : callAtP T k "_law_roll" [.obj 0, .int m] [.lst [.int a, .int b]] κ := by
  obtain ⟨j, rfl⟩ : ∃ j, k = j + 1 := ⟨k - 1, by omega⟩
  exact roll j a b m ha hb hm hm2 κ h
theorem atI_mem {xs : List D} {r : Int} (h0 : 0 ≤ r) (h1 : r < xs.length) : ∃ x, atI xs r = some x ∧ x ∈ xs := by
  unfold atI ixN
  have hl : r.toNat < xs.length := by omega
  refine ⟨xs[r.toNat], ?_, List.getElem_mem hl⟩
  simp [h0, h1, hl]
theorem some_ (k : Nat) (hk : 1 ≤ k) (a b : Int) (xs : List D) (ha : 0 ≤ a) (hb : 0 ≤ b) (hx : 0 < xs.length) (hx2 : xs.length < 18446744073709551616) (κ : R D → Store → Prop)
    (h : ∀ x a' b', x ∈ xs → 0 ≤ a' → 0 ≤ b' → κ (.v x) [.lst [.int a', .int b']]) : callAtP T (k+1) "_law_some" [.obj 0, .lst xs] [.lst [.int a, .int b]] κ := by
  conv => whnf
  refine roll' k hk a b _ ha hb (by omega) (by omega) _ fun r a' b' h0 h1 ha' hb' => ?_
  obtain ⟨x, e, hm⟩ := atI_mem h0 h1
  conv => whnf
  have e2 : ∀ S : Store, dIx (.lst xs) (.int r) S = some (.v x, S) := fun S => by
    show M.of (atI xs r) S = _
    rw [e]; rfl
  rw [e2]
  exact h x a' b' hm ha' hb'
theorem some' (k : Nat) (hk : 2 ≤ k) (a b : Int) (xs : List D) (ha : 0 ≤ a) (hb : 0 ≤ b) (hx : 0 < xs.length) (hx2 : xs.length < 18446744073709551616) (κ : R D → Store → Prop)
    (h : ∀ x a' b', x ∈ xs → 0 ≤ a' → 0 ≤ b' → κ (.v x) [.lst [.int a', .int b']]) : callAtP T k "_law_some" [.obj 0, .lst xs] [.lst [.int a, .int b]] κ := by
  obtain ⟨j, rfl⟩ : ∃ j, k = j + 1 := ⟨k - 1, by omega⟩
  exact some_ j (by omega) a b xs ha hb hx hx2 κ h
theorem cup' (k : Nat) (hk : 1 ≤ k) (ns : List Int) (hn : ns.length ≤ 63) (κ : R D → Store → Prop)
    (h : ∀ a b, 0 ≤ a → 0 ≤ b → κ (.v (.obj 0)) [.lst [.int a, .int b]]) : callAtP T k "_law_cup" [.frz (ns.map D.int)] [] κ := by
  obtain ⟨k, rfl⟩ := lev 1 hk
  exact cup k ns hn κ h
def W (n : Int) : Int := (n + 9223372036854775808) % 18446744073709551616 - 9223372036854775808
def InR (n : Int) : Prop := -9223372036854775808 ≤ n ∧ n ≤ 9223372036854775808
theorem W_in (n : Int) : InR (W n) := by unfold W InR; omega
theorem wrapped_ (k : Nat) (hk : 1 ≤ k) (n : Int) (S : Store) (κ : R D → Store → Prop) (h : κ (.v (.int (W n))) S) : callAtP T k "wrapped" [.int n] S κ := by
  obtain ⟨k, rfl⟩ := lev 1 hk
  conv => whnf
  have e : (n + 9223372036854775808).fmod 18446744073709551616 - 9223372036854775808 = W n := by
    rw [Int.fmod_eq_emod_of_nonneg _ (by decide)]; rfl
  rw [← e] at h
  exact h
theorem p63 : (2 : Int) ^ Int.toNat 63 = 9223372036854775808 := by decide
theorem p64 : (2 : Int) ^ Int.toNat 64 = 18446744073709551616 := by decide
def C0 (a b : Int) : Int := if (a < 0) = (b < 0) then ((a.natAbs : Int) / (b.natAbs : Int)) else -((a.natAbs : Int) / (b.natAbs : Int))
def Q (a b : Int) : Int := W (C0 a b)
def Re (a b : Int) : Int := if a < 0 then -((a.natAbs : Int) % (b.natAbs : Int)) else (a.natAbs : Int) % (b.natAbs : Int)
theorem rest_ (k : Nat) (hk : 1 ≤ k) (a b : Int) (hb : b ≠ 0) (S : Store) (κ : R D → Store → Prop) (h : κ (.v (.int (Re a b))) S) : callAtP T k "rest_of" [.int a, .int b] S κ := by
  obtain ⟨k, rfl⟩ := lev 1 hk
  have e : (a.natAbs : Int).fmod (b.natAbs : Int) = (a.natAbs : Int) % (b.natAbs : Int) := Int.fmod_eq_emod_of_nonneg _ (by omega)
  conv => whnf
  refine grd_ (by simpa using hb) ?_
  conv => whnf
  refine br_ (fun h1 => ?_) (fun h1 => ?_)
  · conv => whnf
    exact κint h (by simp at h1; unfold Re; rw [if_pos h1]; exact congrArg (- ·) e)
  · conv => whnf
    exact κint h (by simp at h1; unfold Re; rw [if_neg (by omega)]; exact e)
theorem quot_ (k : Nat) (hk : 2 ≤ k) (a b : Int) (hb : b ≠ 0) (hs : b.natAbs < 18446744073709551616) (S : Store) (κ : R D → Store → Prop) (h : κ (.v (.int (Q a b))) S) : callAtP T k "quotient" [.int a, .int b] S κ := by
  obtain ⟨k, rfl⟩ := lev 2 hk
  have e : (a.natAbs : Int).fdiv (b.natAbs : Int) = (a.natAbs : Int) / (b.natAbs : Int) := Int.fdiv_eq_ediv_of_nonneg _ (by omega)
  conv => whnf
  refine grd_ (divOk_small (by omega) (by omega)) ?_
  conv => whnf
  have fin : ∀ v : Int, v = C0 a b → κ (.v (.int (W v))) S := fun v hv => by
    subst hv
    exact h
  refine br_ (fun h1 => ?_) (fun h1 => ?_)
  · conv => whnf
    refine br_ (fun h2 => ?_) (fun h2 => ?_)
    · conv => whnf
      refine wrapped_ (k + 1) (by omega) _ _ _ ?_
      conv => whnf
      exact fin _ (by unfold C0; simp at h1 h2; rw [if_pos (by simp [h1, h2])]; exact e)
    · conv => whnf
      refine wrapped_ (k + 1) (by omega) _ _ _ ?_
      conv => whnf
      exact fin _ (by unfold C0; simp at h1 h2; rw [if_neg (by simp [h1, h2])]; exact congrArg (- ·) e)
  · conv => whnf
    refine br_ (fun h2 => ?_) (fun h2 => ?_)
    · conv => whnf
      refine wrapped_ (k + 1) (by omega) _ _ _ ?_
      conv => whnf
      exact fin _ (by unfold C0; simp at h1 h2; rw [if_neg (by simp [h2]; omega)]; exact congrArg (- ·) e)
    · conv => whnf
      refine wrapped_ (k + 1) (by omega) _ _ _ ?_
      conv => whnf
      exact fin _ (by unfold C0; simp at h1 h2; rw [if_pos (by apply propext; constructor <;> intro <;> omega)]; exact e)
theorem re_lt (a b : Int) (hb : b ≠ 0) : (Re a b).natAbs < b.natAbs := by
  have h1 := Int.emod_nonneg (a.natAbs : Int) (b := (b.natAbs : Int)) (by omega)
  have h2 := Int.emod_lt_of_pos (a.natAbs : Int) (b := (b.natAbs : Int)) (by omega)
  unfold Re
  by_cases h : a < 0
  · rw [if_pos h]; omega
  · rw [if_neg h]; omega
theorem re_sign (a b : Int) (hb : b ≠ 0) (h0 : Re a b ≠ 0) : (Re a b < 0) ↔ (a < 0) := by
  have h1 := Int.emod_nonneg (a.natAbs : Int) (b := (b.natAbs : Int)) (by omega)
  unfold Re at *
  by_cases h : a < 0
  · rw [if_pos h] at *; omega
  · rw [if_neg h] at *; omega
theorem re_eq (a b : Int) : a - Re a b = b * C0 a b := by
  have h1 := Int.mul_ediv_add_emod (a.natAbs : Int) (b.natAbs : Int)
  have hs : ∀ x : Int, (b.natAbs : Int) * x = if b < 0 then -(b * x) else b * x := fun x => by
    by_cases h : b < 0
    · rw [if_pos h, show (b.natAbs : Int) = -b by omega, Int.neg_mul]
    · rw [if_neg h, show (b.natAbs : Int) = b by omega]
  have h2 := hs ((a.natAbs : Int) / (b.natAbs : Int))
  rw [h2] at h1
  unfold Re C0
  by_cases ha : a < 0
  · by_cases hb : b < 0
    · rw [if_pos ha, if_pos (by simp [ha, hb])]
      rw [if_pos hb] at h1
      omega
    · rw [if_pos ha, if_neg (by simp [ha, hb]), Int.mul_neg]
      rw [if_neg hb] at h1
      omega
  · by_cases hb : b < 0
    · rw [if_neg ha, if_neg (by simp [hb]; omega), Int.mul_neg]
      rw [if_pos hb] at h1
      omega
    · rw [if_neg ha, if_pos (by simp [ha, hb])]
      rw [if_neg hb] at h1
      omega
theorem fdiv_eq (a b : Int) (hb : b ≠ 0) : (a - Re a b).fdiv b = C0 a b := by
  rw [re_eq, Int.mul_fdiv_cancel_left _ hb]
theorem c0_le (a b : Int) : (C0 a b).natAbs ≤ a.natAbs := by
  have h0 := Nat.div_le_self a.natAbs b.natAbs
  have h1 : ((a.natAbs : Int) / (b.natAbs : Int)) = ((a.natAbs / b.natAbs : Nat) : Int) := rfl
  unfold C0
  rw [h1]
  generalize a.natAbs / b.natAbs = n at *
  by_cases h : (a < 0) = (b < 0)
  · rw [if_pos h]; omega
  · rw [if_neg h]; omega
theorem mulOk_r {i j : Int} (h : j.natAbs < 18446744073709551616) : mulOk i j = true := by
  unfold mulOk
  simp [h]
theorem divOk_abs {m : Int} (h : m ≠ 0) (h2 : m.natAbs < 18446744073709551616) : divOk m = true := by
  unfold divOk
  have h3 : m.natAbs ≠ 0 := by omega
  have h4 : m.natAbs.log2 < 64 := (Nat.log2_lt h3).mpr (by omega)
  simp only [Bool.and_eq_true, decide_eq_true_eq]
  omega
theorem re_in (a b : Int) (hb : b ≠ 0) (h : InR b) : InR (Re a b) := by
  have := re_lt a b hb
  unfold InR at *
  omega
theorem round_ (k : Nat) (hk : 1 ≤ k) (n : Int) (hn : mulOk ((n + 9223372036854775808).fdiv 18446744073709551616) 18446744073709551616 = true) (S : Store) (κ : R D → Store → Prop) (h : κ (.v (.int (W n))) S) : callAtP T k "_law_round" [.int n] S κ := by
  obtain ⟨k, rfl⟩ := lev 1 hk
  conv => whnf
  refine grd_ hn ?_
  conv => whnf
  exact κint h (by
    simp only [p63, p64]
    rw [Int.fdiv_eq_ediv_of_nonneg _ (by decide)]
    unfold W
    omega)
end

section
open PySem L2 DL DLL
set_option maxHeartbeats 0
theorem rd_ok {n : Int} (h : n.natAbs ≤ 170141183460469231731687303715884105728) : mulOk ((n + 9223372036854775808).fdiv 18446744073709551616) 18446744073709551616 = true := by
  rw [Int.fdiv_eq_ediv_of_nonneg _ (by decide)]
  unfold mulOk
  have : ((n + 9223372036854775808) / 18446744073709551616).natAbs < 18446744073709551616 := by omega
  simp [this]
theorem mul_in {a b : Int} (ha : InR a) (hb : InR b) : (a * b).natAbs ≤ 170141183460469231731687303715884105728 := by
  have h1 : a.natAbs ≤ 9223372036854775808 := by unfold InR at ha; omega
  have h2 : b.natAbs ≤ 9223372036854775808 := by unfold InR at hb; omega
  rw [Int.natAbs_mul]
  exact Nat.le_trans (Nat.mul_le_mul h1 h2) (by decide)
inductive Op where
  | plus | less | times | over | rest | below | above | same
def Op.s : Op → Str
  | .plus => "plus"
  | .less => "less"
  | .times => "times"
  | .over => "over"
  | .rest => "rest"
  | .below => "below"
  | .above => "above"
  | .same => "same"
inductive Ex where
  | int (n : Int) | var (x : Str) | cnt | neg (e : Ex) | bin (o : Op) (a b : Ex)
def Ex.d : Ex → D
  | .int n => .tup [.str "int", .int n]
  | .var x => .tup [.str "var", .str x]
  | .cnt => .tup [.str "count"]
  | .neg e => .tup [.str "minus", e.d]
  | .bin o a b => .tup [.str o.s, a.d, b.d]
def letters : List Str := ["a", "b", "c", "d", "e", "f", "g", "h", "i", "j", "k", "l", "m", "n", "o", "p", "q", "r", "s", "t", "u", "v", "w", "x", "y", "z"]
def Ex.ok : Ex → Prop
  | .int n => InR n
  | .var x => x ∈ letters
  | .cnt => True
  | .neg e => e.ok
  | .bin _ a b => a.ok ∧ b.ok
def Ex.deep : Ex → Nat
  | .int _ => 0
  | .var _ => 0
  | .cnt => 0
  | .neg e => e.deep + 1
  | .bin _ a b => max a.deep b.deep + 1
def opV : Op → Int → Int → Option Int
  | .plus, a, b => some (W (a + b))
  | .less, a, b => some (W (a - b))
  | .times, a, b => some (W (a * b))
  | .over, a, b => if b = 0 then none else some (Q a b)
  | .rest, a, b => if b = 0 then none else some (Re a b)
  | .below, a, b => some (if a < b then 1 else 0)
  | .above, a, b => some (if b < a then 1 else 0)
  | .same, a, b => some (if a = b then 1 else 0)
def worth (σ : Str → Int) (n : Nat) : Ex → Option Int
  | .int i => some i
  | .var x => some (σ x)
  | .cnt => some (n : Int)
  | .neg e => (worth σ n e).map fun v => W (-v)
  | .bin o a b => (worth σ n a).bind fun x => (worth σ n b).bind fun y => opV o x y
theorem opV_in {o : Op} {a b v : Int} (hb : InR b) (h : opV o a b = some v) : InR v := by
  cases o with
  | plus => cases h; exact W_in _
  | less => cases h; exact W_in _
  | times => cases h; exact W_in _
  | over =>
    have h : (if b = 0 then none else some (Q a b)) = some v := h
    by_cases h0 : b = 0
    · rw [if_pos h0] at h; cases h
    · rw [if_neg h0] at h; cases h; exact W_in _
  | rest =>
    have h : (if b = 0 then none else some (Re a b)) = some v := h
    by_cases h0 : b = 0
    · rw [if_pos h0] at h; cases h
    · rw [if_neg h0] at h; cases h; exact re_in _ _ h0 hb
  | below => cases h; unfold InR; split <;> omega
  | above => cases h; unfold InR; split <;> omega
  | same => cases h; unfold InR; split <;> omega
theorem worth_in {σ : Str → Int} {n : Nat} (hs : ∀ x, InR (σ x)) (hn : n ≤ 1000) : ∀ (e : Ex) {v : Int}, e.ok → worth σ n e = some v → InR v
  | .int i, v, ok, h => by cases h; exact ok
  | .var x, v, ok, h => by cases h; exact hs x
  | .cnt, v, ok, h => by cases h; unfold InR; omega
  | .neg e, v, ok, h => by
    unfold worth at h
    cases q : worth σ n e with
    | none => rw [q] at h; cases h
    | some w => rw [q] at h; cases h; exact W_in _
  | .bin o a b, v, ok, h => by
    unfold worth at h
    cases q : worth σ n a with
    | none => rw [q] at h; cases h
    | some x =>
      rw [q] at h
      cases q2 : worth σ n b with
      | none => rw [q2] at h; cases h
      | some y =>
        rw [q2] at h
        exact opV_in (worth_in hs hn b ok.2 q2) h
/-- the variables of a dict -/
structure Vars (kvs : List (DK × D)) (σ : Str → Int) (all : Bool) : Prop where
  fit : ∀ x : Str, dFit kvs (.inl (.inr x)) = true
  got : ∀ x ∈ letters, dGet kvs (.inl (.inr x)) = some (.int (σ x)) ∨ (all = false ∧ dGet kvs (.inl (.inr x)) = none ∧ σ x = 0)
def flds (q r : Nat) (told : List D) (s : Int) (f : Str) (g : D) : List (Str × D) := [("variables", .obj q), ("told", .tup told), ("steps", .int s), ("records", .obj r), ("fell", .str f), ("given", g)]
theorem in_nat {b : Int} (h : InR b) : b.natAbs < 18446744073709551616 := by unfold InR at h; omega
theorem divided_ (k : Nat) (hk : 3 ≤ k) (w : Op) (hw : w = .over ∨ w = .rest) (a b : Int) (hb : InR b) (S : Store) (p q r : Nat) (told : List D) (s : Int) (g : D) (hS : S[p]? = some (.ins "Call" (flds q r told s "" g))) (κ : R D → Store → Prop)
    (h1 : ∀ v, opV w a b = some v → κ (.v (.int v)) S) (h2 : opV w a b = none → κ (.v (.int 0)) (S.set p (.ins "Call" (flds q r told s "zero" g)))) : callAtP T k "Call.divided" [.obj p, .str w.s, .int a, .int b] S κ := by
  obtain ⟨k, rfl⟩ := lev 1 (show 1 ≤ k by omega)
  conv => whnf
  refine br_ (fun h0 => ?_) (fun h0 => ?_)
  · have hb0 : b = 0 := of_decide_eq_true h0
    conv => whnf
    rw [putF_at hS (by rfl)]
    conv => whnf
    refine h2 ?_
    subst hb0
    rcases hw with rfl | rfl <;> rfl
  · have hb0 : b ≠ 0 := of_decide_eq_false h0
    rcases hw with rfl | rfl
    · conv => whnf
      refine quot_ k (by omega) a b hb0 (in_nat hb) _ _ ?_
      conv => whnf
      exact h1 _ (if_neg hb0)
    · conv => whnf
      refine rest_ k (by omega) a b hb0 _ _ ?_
      conv => whnf
      exact h1 _ (if_neg hb0)
theorem Vars.at_ {kvs : List (DK × D)} {σ : Str → Int} (h : Vars kvs σ true) {x : Str} (hx : x ∈ letters) : dGet kvs (.inl (.inr x)) = some (.int (σ x)) := by
  rcases h.got x hx with h | ⟨h, _⟩
  · exact h
  · cases h
/-- already fallen: some number, and nothing is stored -/
theorem worth_fell : ∀ (e : Ex) (k : Nat), e.ok → e.deep + 2 ≤ k → ∀ (S : Store) (p q r : Nat) (told : List D) (s : Int) (g : D) (kvs : List (DK × D)) (σ : Str → Int), told.length ≤ 1000 → S[p]? = some (.ins "Call" (flds q r told s "zero" g)) → S[q]? = some (.dct kvs) → Vars kvs σ true → (∀ x, InR (σ x)) →
    ∀ κ : R D → Store → Prop, (∀ v, InR v → κ (.v (.int v)) S) → callAtP T k "Call.worth" [.obj p, e.d] S κ := by
  intro e
  induction e with
  | int n =>
    intro k ok hk S p q r told s g kvs σ ht hS hq hv hr κ h
    obtain ⟨k, rfl⟩ := lev 2 (show 2 ≤ k by omega)
    conv => whnf
    exact h n ok
  | var x =>
    intro k ok hk S p q r told s g kvs σ ht hS hq hv hr κ h
    obtain ⟨k, rfl⟩ := lev 2 (show 2 ≤ k by omega)
    conv => whnf
    rw [getF_at hS (by rfl) (by rfl)]
    conv => whnf
    rw [dIx_dct hq (hv.fit x) (hv.at_ ok)]
    conv => whnf
    exact h _ (hr x)
  | cnt =>
    intro k ok hk S p q r told s g kvs σ ht hS hq hv hr κ h
    obtain ⟨k, rfl⟩ := lev 2 (show 2 ≤ k by omega)
    conv => whnf
    rw [getF_at hS (by rfl) (by rfl)]
    conv => whnf
    exact h _ (by unfold InR; omega)
  | neg e ih =>
    intro k ok hk S p q r told s g kvs σ ht hS hq hv hr κ h
    have hd : e.deep + 1 + 2 ≤ k := hk
    obtain ⟨k, rfl⟩ := lev 1 (show 1 ≤ k by omega)
    conv => whnf
    rw [hS]
    conv => whnf
    refine ih k ok (by omega) S p q r told s g kvs σ ht hS hq hv hr _ fun v hv' => ?_
    conv => whnf
    refine wrapped_ k (by omega) _ _ _ ?_
    conv => whnf
    exact h _ (W_in _)
  | bin o a b iha ihb =>
    intro k ok hk S p q r told s g kvs σ ht hS hq hv hr κ h
    have hd : max a.deep b.deep + 1 + 2 ≤ k := hk
    obtain ⟨k, rfl⟩ := lev 1 (show 1 ≤ k by omega)
    cases o
    all_goals
      conv => whnf
      rw [hS]
      conv => whnf
      refine iha k ok.1 (by omega) S p q r told s g kvs σ ht hS hq hv hr _ fun v hv' => ?_
      conv => whnf
      rw [getF_at hS (by rfl) (by rfl)]
      conv => whnf
      rw [getF_at hS (by rfl) (by rfl)]
      conv => whnf
      exact h _ (by unfold InR; omega)
end

section
open PySem L2 DL DLL
set_option maxHeartbeats 0
theorem w_neg_some {σ : Str → Int} {n : Nat} {e : Ex} {v : Int} (h : worth σ n e = some v) : worth σ n (.neg e) = some (W (-v)) := by
  show (worth σ n e).map _ = _
  rw [h]
  rfl
theorem w_neg_none {σ : Str → Int} {n : Nat} {e : Ex} (h : worth σ n e = none) : worth σ n (.neg e) = none := by
  show (worth σ n e).map _ = _
  rw [h]
  rfl
theorem w_bin {σ : Str → Int} {n : Nat} {o : Op} {a b : Ex} {x y : Int} (h1 : worth σ n a = some x) (h2 : worth σ n b = some y) : worth σ n (.bin o a b) = opV o x y := by
  show (worth σ n a).bind _ = _
  rw [h1]
  show (worth σ n b).bind _ = _
  rw [h2]
  rfl
theorem w_bin1 {σ : Str → Int} {n : Nat} {o : Op} {a b : Ex} (h1 : worth σ n a = none) : worth σ n (.bin o a b) = none := by
  show (worth σ n a).bind _ = _
  rw [h1]
  rfl
theorem w_bin2 {σ : Str → Int} {n : Nat} {o : Op} {a b : Ex} {x : Int} (h1 : worth σ n a = some x) (h2 : worth σ n b = none) : worth σ n (.bin o a b) = none := by
  show (worth σ n a).bind _ = _
  rw [h1]
  show (worth σ n b).bind _ = _
  rw [h2]
  rfl
theorem worth_run : ∀ (e : Ex) (k : Nat), e.ok → e.deep + 4 ≤ k → ∀ (S : Store) (p q r : Nat) (told : List D) (s : Int) (g : D) (kvs : List (DK × D)) (σ : Str → Int), told.length ≤ 1000 → S[p]? = some (.ins "Call" (flds q r told s "" g)) → S[q]? = some (.dct kvs) → Vars kvs σ true → (∀ x, InR (σ x)) →
    ∀ κ : R D → Store → Prop, (∀ v, worth σ told.length e = some v → κ (.v (.int v)) S) → (worth σ told.length e = none → ∀ v, InR v → κ (.v (.int v)) (S.set p (.ins "Call" (flds q r told s "zero" g)))) → callAtP T k "Call.worth" [.obj p, e.d] S κ := by
  intro e
  induction e with
  | int n =>
    intro k ok hk S p q r told s g kvs σ ht hS hq hv hr κ h h0
    obtain ⟨k, rfl⟩ := lev 2 (show 2 ≤ k by omega)
    conv => whnf
    exact h n rfl
  | var x =>
    intro k ok hk S p q r told s g kvs σ ht hS hq hv hr κ h h0
    obtain ⟨k, rfl⟩ := lev 2 (show 2 ≤ k by omega)
    conv => whnf
    rw [getF_at hS (by rfl) (by rfl)]
    conv => whnf
    rw [dIx_dct hq (hv.fit x) (hv.at_ ok)]
    conv => whnf
    exact h _ rfl
  | cnt =>
    intro k ok hk S p q r told s g kvs σ ht hS hq hv hr κ h h0
    obtain ⟨k, rfl⟩ := lev 2 (show 2 ≤ k by omega)
    conv => whnf
    rw [getF_at hS (by rfl) (by rfl)]
    conv => whnf
    exact h _ rfl
  | neg e ih =>
    intro k ok hk S p q r told s g kvs σ ht hS hq hv hr κ h h0
    have hd : e.deep + 1 + 4 ≤ k := hk
    obtain ⟨k, rfl⟩ := lev 1 (show 1 ≤ k by omega)
    conv => whnf
    rw [hS]
    conv => whnf
    refine ih k ok (by omega) S p q r told s g kvs σ ht hS hq hv hr _ (fun v hv' => ?_) (fun hn v hv' => ?_)
    · conv => whnf
      refine wrapped_ k (by omega) _ _ _ ?_
      conv => whnf
      exact h _ (w_neg_some hv')
    · conv => whnf
      refine wrapped_ k (by omega) _ _ _ ?_
      conv => whnf
      exact h0 (w_neg_none hn) _ (W_in _)
  | bin o a b iha ihb =>
    intro k ok hk S p q r told s g kvs σ ht hS hq hv hr κ h h0
    have hd : max a.deep b.deep + 1 + 4 ≤ k := hk
    obtain ⟨k, rfl⟩ := lev 1 (show 1 ≤ k by omega)
    have hS0 := set_get (p := .ins "Call" (flds q r told s "zero" g)) hS
    have inn : ∀ {v : Int}, worth σ told.length b = some v → InR v := fun hw => worth_in hr ht b ok.2 hw
    have inx : ∀ {v : Int}, worth σ told.length a = some v → InR v := fun hw => worth_in hr ht a ok.1 hw
    cases o with
    | plus =>
      conv => whnf
      rw [hS]
      conv => whnf
      refine iha k ok.1 (by omega) S p q r told s g kvs σ ht hS hq hv hr _ (fun x hx => ?_) (fun hn v hv' => ?_)
      · conv => whnf
        rw [getF_at hS (by rfl) (by rfl)]
        conv => whnf
        rw [hS]
        conv => whnf
        refine ihb k ok.2 (by omega) S p q r told s g kvs σ ht hS hq hv hr _ (fun y hy => ?_) (fun hn v hv' => ?_)
        · conv => whnf
          rw [getF_at hS (by rfl) (by rfl)]
          conv => whnf
          refine wrapped_ k (by omega) _ _ _ ?_
          conv => whnf
          exact h _ (w_bin hx hy)
        · conv => whnf
          rw [getF_at hS0 (by rfl) (by rfl)]
          conv => whnf
          exact h0 (w_bin2 hx hn) _ (by unfold InR; omega)
      · conv => whnf
        rw [getF_at hS0 (by rfl) (by rfl)]
        conv => whnf
        rw [getF_at hS0 (by rfl) (by rfl)]
        conv => whnf
        exact h0 (w_bin1 hn) _ (by unfold InR; omega)
    | less =>
      conv => whnf
      rw [hS]
      conv => whnf
      refine iha k ok.1 (by omega) S p q r told s g kvs σ ht hS hq hv hr _ (fun x hx => ?_) (fun hn v hv' => ?_)
      · conv => whnf
        rw [getF_at hS (by rfl) (by rfl)]
        conv => whnf
        rw [hS]
        conv => whnf
        refine ihb k ok.2 (by omega) S p q r told s g kvs σ ht hS hq hv hr _ (fun y hy => ?_) (fun hn v hv' => ?_)
        · conv => whnf
          rw [getF_at hS (by rfl) (by rfl)]
          conv => whnf
          refine wrapped_ k (by omega) _ _ _ ?_
          conv => whnf
          exact h _ (w_bin hx hy)
        · conv => whnf
          rw [getF_at hS0 (by rfl) (by rfl)]
          conv => whnf
          exact h0 (w_bin2 hx hn) _ (by unfold InR; omega)
      · conv => whnf
        rw [getF_at hS0 (by rfl) (by rfl)]
        conv => whnf
        rw [getF_at hS0 (by rfl) (by rfl)]
        conv => whnf
        exact h0 (w_bin1 hn) _ (by unfold InR; omega)
    | times =>
      conv => whnf
      rw [hS]
      conv => whnf
      refine iha k ok.1 (by omega) S p q r told s g kvs σ ht hS hq hv hr _ (fun x hx => ?_) (fun hn v hv' => ?_)
      · conv => whnf
        rw [getF_at hS (by rfl) (by rfl)]
        conv => whnf
        rw [hS]
        conv => whnf
        refine ihb k ok.2 (by omega) S p q r told s g kvs σ ht hS hq hv hr _ (fun y hy => ?_) (fun hn v hv' => ?_)
        · conv => whnf
          rw [getF_at hS (by rfl) (by rfl)]
          conv => whnf
          refine grd_ (mulOk_r (in_nat (inn hy))) ?_
          conv => whnf
          refine wrapped_ k (by omega) _ _ _ ?_
          conv => whnf
          exact h _ (w_bin hx hy)
        · conv => whnf
          rw [getF_at hS0 (by rfl) (by rfl)]
          conv => whnf
          exact h0 (w_bin2 hx hn) _ (by unfold InR; omega)
      · conv => whnf
        rw [getF_at hS0 (by rfl) (by rfl)]
        conv => whnf
        rw [getF_at hS0 (by rfl) (by rfl)]
        conv => whnf
        exact h0 (w_bin1 hn) _ (by unfold InR; omega)
    | over =>
      conv => whnf
      rw [hS]
      conv => whnf
      refine iha k ok.1 (by omega) S p q r told s g kvs σ ht hS hq hv hr _ (fun x hx => ?_) (fun hn v hv' => ?_)
      · conv => whnf
        rw [getF_at hS (by rfl) (by rfl)]
        conv => whnf
        rw [hS]
        conv => whnf
        refine ihb k ok.2 (by omega) S p q r told s g kvs σ ht hS hq hv hr _ (fun y hy => ?_) (fun hn v hv' => ?_)
        · conv => whnf
          rw [getF_at hS (by rfl) (by rfl)]
          conv => whnf
          rw [hS]
          conv => whnf
          refine divided_ k (by omega) .over (.inl rfl) x y (inn hy) S p q r told s g hS _ (fun v hv => ?_) (fun hn => ?_)
          · conv => whnf
            exact h _ (by rw [w_bin hx hy]; exact hv)
          · conv => whnf
            exact h0 (by rw [w_bin hx hy]; exact hn) 0 (by unfold InR; omega)
        · conv => whnf
          rw [getF_at hS0 (by rfl) (by rfl)]
          conv => whnf
          exact h0 (w_bin2 hx hn) _ (by unfold InR; omega)
      · conv => whnf
        rw [getF_at hS0 (by rfl) (by rfl)]
        conv => whnf
        rw [getF_at hS0 (by rfl) (by rfl)]
        conv => whnf
        exact h0 (w_bin1 hn) _ (by unfold InR; omega)
    | rest =>
      conv => whnf
      rw [hS]
      conv => whnf
      refine iha k ok.1 (by omega) S p q r told s g kvs σ ht hS hq hv hr _ (fun x hx => ?_) (fun hn v hv' => ?_)
      · conv => whnf
        rw [getF_at hS (by rfl) (by rfl)]
        conv => whnf
        rw [hS]
        conv => whnf
        refine ihb k ok.2 (by omega) S p q r told s g kvs σ ht hS hq hv hr _ (fun y hy => ?_) (fun hn v hv' => ?_)
        · conv => whnf
          rw [getF_at hS (by rfl) (by rfl)]
          conv => whnf
          rw [hS]
          conv => whnf
          refine divided_ k (by omega) .rest (.inr rfl) x y (inn hy) S p q r told s g hS _ (fun v hv => ?_) (fun hn => ?_)
          · conv => whnf
            exact h _ (by rw [w_bin hx hy]; exact hv)
          · conv => whnf
            exact h0 (by rw [w_bin hx hy]; exact hn) 0 (by unfold InR; omega)
        · conv => whnf
          rw [getF_at hS0 (by rfl) (by rfl)]
          conv => whnf
          exact h0 (w_bin2 hx hn) _ (by unfold InR; omega)
      · conv => whnf
        rw [getF_at hS0 (by rfl) (by rfl)]
        conv => whnf
        rw [getF_at hS0 (by rfl) (by rfl)]
        conv => whnf
        exact h0 (w_bin1 hn) _ (by unfold InR; omega)
    | below =>
      conv => whnf
      rw [hS]
      conv => whnf
      refine iha k ok.1 (by omega) S p q r told s g kvs σ ht hS hq hv hr _ (fun x hx => ?_) (fun hn v hv' => ?_)
      · conv => whnf
        rw [getF_at hS (by rfl) (by rfl)]
        conv => whnf
        rw [hS]
        conv => whnf
        refine ihb k ok.2 (by omega) S p q r told s g kvs σ ht hS hq hv hr _ (fun y hy => ?_) (fun hn v hv' => ?_)
        · conv => whnf
          rw [getF_at hS (by rfl) (by rfl)]
          conv => whnf
          refine br_ (fun h1 => ?_) (fun h1 => ?_)
          · conv => whnf
            exact h _ (by rw [w_bin hx hy]; exact congrArg some (if_pos (of_decide_eq_true h1)))
          · conv => whnf
            exact h _ (by rw [w_bin hx hy]; exact congrArg some (if_neg (of_decide_eq_false h1)))
        · conv => whnf
          rw [getF_at hS0 (by rfl) (by rfl)]
          conv => whnf
          exact h0 (w_bin2 hx hn) _ (by unfold InR; omega)
      · conv => whnf
        rw [getF_at hS0 (by rfl) (by rfl)]
        conv => whnf
        rw [getF_at hS0 (by rfl) (by rfl)]
        conv => whnf
        exact h0 (w_bin1 hn) _ (by unfold InR; omega)
    | above =>
      conv => whnf
      rw [hS]
      conv => whnf
      refine iha k ok.1 (by omega) S p q r told s g kvs σ ht hS hq hv hr _ (fun x hx => ?_) (fun hn v hv' => ?_)
      · conv => whnf
        rw [getF_at hS (by rfl) (by rfl)]
        conv => whnf
        rw [hS]
        conv => whnf
        refine ihb k ok.2 (by omega) S p q r told s g kvs σ ht hS hq hv hr _ (fun y hy => ?_) (fun hn v hv' => ?_)
        · conv => whnf
          rw [getF_at hS (by rfl) (by rfl)]
          conv => whnf
          refine br_ (fun h1 => ?_) (fun h1 => ?_)
          · conv => whnf
            exact h _ (by rw [w_bin hx hy]; exact congrArg some (if_pos (of_decide_eq_true h1)))
          · conv => whnf
            exact h _ (by rw [w_bin hx hy]; exact congrArg some (if_neg (of_decide_eq_false h1)))
        · conv => whnf
          rw [getF_at hS0 (by rfl) (by rfl)]
          conv => whnf
          exact h0 (w_bin2 hx hn) _ (by unfold InR; omega)
      · conv => whnf
        rw [getF_at hS0 (by rfl) (by rfl)]
        conv => whnf
        rw [getF_at hS0 (by rfl) (by rfl)]
        conv => whnf
        exact h0 (w_bin1 hn) _ (by unfold InR; omega)
    | same =>
      conv => whnf
      rw [hS]
      conv => whnf
      refine iha k ok.1 (by omega) S p q r told s g kvs σ ht hS hq hv hr _ (fun x hx => ?_) (fun hn v hv' => ?_)
      · conv => whnf
        rw [getF_at hS (by rfl) (by rfl)]
        conv => whnf
        rw [hS]
        conv => whnf
        refine ihb k ok.2 (by omega) S p q r told s g kvs σ ht hS hq hv hr _ (fun y hy => ?_) (fun hn v hv' => ?_)
        · conv => whnf
          rw [getF_at hS (by rfl) (by rfl)]
          conv => whnf
          refine br_ (fun h1 => ?_) (fun h1 => ?_)
          · conv => whnf
            exact h _ (by rw [w_bin hx hy]; exact congrArg some (if_pos (of_decide_eq_true h1)))
          · conv => whnf
            exact h _ (by rw [w_bin hx hy]; exact congrArg some (if_neg (of_decide_eq_false h1)))
        · conv => whnf
          rw [getF_at hS0 (by rfl) (by rfl)]
          conv => whnf
          exact h0 (w_bin2 hx hn) _ (by unfold InR; omega)
      · conv => whnf
        rw [getF_at hS0 (by rfl) (by rfl)]
        conv => whnf
        rw [getF_at hS0 (by rfl) (by rfl)]
        conv => whnf
        exact h0 (w_bin1 hn) _ (by unfold InR; omega)
end

section
open PySem L2 DL DLL
set_option maxHeartbeats 0
theorem Vars.get0 {kvs : List (DK × D)} {σ : Str → Int} {al : Bool} (h : Vars kvs σ al) {x : Str} (hx : x ∈ letters) : (dGet kvs (.inl (.inr x))).getD (.int 0) = .int (σ x) := by
  rcases h.got x hx with h | ⟨_, h, h2⟩
  · rw [h]; rfl
  · rw [h, h2]; rfl
theorem c0_big (x y : Int) (h : InR x) : (C0 x y).natAbs ≤ 170141183460469231731687303715884105728 := by
  have := c0_le x y
  unfold InR at h
  omega
theorem re_c0 (x y : Int) : x - C0 x y * y = Re x y := by
  have := re_eq x y
  rw [Int.mul_comm]
  omega
theorem fd_nat (x y : Int) : ((x.natAbs : Nat) : Int).fdiv ((y.natAbs : Nat) : Int) = (x.natAbs : Int) / (y.natAbs : Int) := Int.fdiv_eq_ediv_of_nonneg _ (by omega)
theorem size_pp {x y : Int} (h1 : ¬ x < 0) (h2 : ¬ y < 0) : ((x.natAbs : Nat) : Int).fdiv ((y.natAbs : Nat) : Int) = C0 x y := by
  rw [fd_nat]; unfold C0; rw [if_pos (by simp [h1, h2])]
theorem size_nn {x y : Int} (h1 : x < 0) (h2 : y < 0) : ((x.natAbs : Nat) : Int).fdiv ((y.natAbs : Nat) : Int) = C0 x y := by
  rw [fd_nat]; unfold C0; rw [if_pos (by simp [h1, h2])]
theorem size_pn {x y : Int} (h1 : ¬ x < 0) (h2 : y < 0) : 0 - ((x.natAbs : Nat) : Int).fdiv ((y.natAbs : Nat) : Int) = C0 x y := by
  rw [fd_nat]; unfold C0; rw [if_neg (by simp [h1, h2])]; omega
theorem size_np {x y : Int} (h1 : x < 0) (h2 : ¬ y < 0) : 0 - ((x.natAbs : Nat) : Int).fdiv ((y.natAbs : Nat) : Int) = C0 x y := by
  rw [fd_nat]; unfold C0; rw [if_neg (by simp [h1, h2])]; omega
theorem lworth (e : Ex) : ∀ (k : Nat), e.ok → e.deep + 4 ≤ k → ∀ (S : Store) (d : Nat) (told : List D) (kvs : List (DK × D)) (σ : Str → Int), told.length ≤ 1000 → S[d]? = some (.dct kvs) → Vars kvs σ false → (∀ x, InR (σ x)) →
    ∀ κ : R D → Store → Prop, (∀ v, worth σ told.length e = some v → κ (.v (.int v)) S) → (worth σ told.length e = none → κ (.v (.str "zero")) S) → callAtP T k "_law_worth" [e.d, .tup [.obj d, .tup told]] S κ := by
  induction e with
  | int n =>
    intro k ok hk S d told kvs σ ht hq hv hr κ h h0
    obtain ⟨k, rfl⟩ := lev 2 (show 2 ≤ k by omega)
    conv => whnf
    exact h n rfl
  | var x =>
    intro k ok hk S d told kvs σ ht hq hv hr κ h h0
    obtain ⟨k, rfl⟩ := lev 2 (show 2 ≤ k by omega)
    conv => whnf
    rw [hq]
    conv => whnf
    rw [bTag_dct hq]
    conv => whnf
    rw [mGet_dct hq (hv.fit x), hv.get0 ok]
    conv => whnf
    exact h _ rfl
  | cnt =>
    intro k ok hk S d told kvs σ ht hq hv hr κ h h0
    obtain ⟨k, rfl⟩ := lev 2 (show 2 ≤ k by omega)
    conv => whnf
    exact h _ rfl
  | neg e ih =>
    intro k ok hk S d told kvs σ ht hq hv hr κ h h0
    have hd : e.deep + 1 + 4 ≤ k := hk
    obtain ⟨k, rfl⟩ := lev 1 (show 1 ≤ k by omega)
    conv => whnf
    refine ih k ok (by omega) S d told kvs σ ht hq hv hr _ (fun v hv' => ?_) (fun hn => ?_)
    · conv => whnf
      refine round_ k (by omega) _ (rd_ok (by have := worth_in hr ht e ok hv'; unfold InR at this; omega)) _ _ ?_
      conv => whnf
      exact h _ (by rw [show (0 : Int) - v = -v by omega]; exact w_neg_some hv')
    · conv => whnf
      exact h0 (w_neg_none hn)
  | bin o a b iha ihb =>
    intro k ok hk S d told kvs σ ht hq hv hr κ h h0
    have hd : max a.deep b.deep + 1 + 4 ≤ k := hk
    obtain ⟨k, rfl⟩ := lev 1 (show 1 ≤ k by omega)
    have inx : ∀ {v : Int}, worth σ told.length a = some v → InR v := fun hw => worth_in hr ht a ok.1 hw
    have inn : ∀ {v : Int}, worth σ told.length b = some v → InR v := fun hw => worth_in hr ht b ok.2 hw
    cases o with
    | plus =>
      conv => whnf
      refine iha k ok.1 (by omega) S d told kvs σ ht hq hv hr _ (fun x hx => ?_) (fun hn => ?_)
      · conv => whnf
        refine ihb k ok.2 (by omega) S d told kvs σ ht hq hv hr _ (fun y hy => ?_) (fun hn => ?_)
        · conv => whnf
          refine round_ k (by omega) _ (rd_ok (by have := inx hx; have := inn hy; unfold InR at *; omega)) _ _ ?_
          conv => whnf
          exact h _ (w_bin hx hy)
        · conv => whnf
          exact h0 (w_bin2 hx hn)
      · conv => whnf
        refine ihb k ok.2 (by omega) S d told kvs σ ht hq hv hr _ (fun y hy => ?_) (fun hn' => ?_)
        · conv => whnf
          exact h0 (w_bin1 hn)
        · conv => whnf
          exact h0 (w_bin1 hn)
    | less =>
      conv => whnf
      refine iha k ok.1 (by omega) S d told kvs σ ht hq hv hr _ (fun x hx => ?_) (fun hn => ?_)
      · conv => whnf
        refine ihb k ok.2 (by omega) S d told kvs σ ht hq hv hr _ (fun y hy => ?_) (fun hn => ?_)
        · conv => whnf
          refine round_ k (by omega) _ (rd_ok (by have := inx hx; have := inn hy; unfold InR at *; omega)) _ _ ?_
          conv => whnf
          exact h _ (w_bin hx hy)
        · conv => whnf
          exact h0 (w_bin2 hx hn)
      · conv => whnf
        refine ihb k ok.2 (by omega) S d told kvs σ ht hq hv hr _ (fun y hy => ?_) (fun hn' => ?_)
        · conv => whnf
          exact h0 (w_bin1 hn)
        · conv => whnf
          exact h0 (w_bin1 hn)
    | times =>
      conv => whnf
      refine iha k ok.1 (by omega) S d told kvs σ ht hq hv hr _ (fun x hx => ?_) (fun hn => ?_)
      · conv => whnf
        refine ihb k ok.2 (by omega) S d told kvs σ ht hq hv hr _ (fun y hy => ?_) (fun hn => ?_)
        · conv => whnf
          refine grd_ (mulOk_r (in_nat (inn hy))) ?_
          conv => whnf
          refine round_ k (by omega) _ (rd_ok (mul_in (inx hx) (inn hy))) _ _ ?_
          conv => whnf
          exact h _ (w_bin hx hy)
        · conv => whnf
          exact h0 (w_bin2 hx hn)
      · conv => whnf
        refine ihb k ok.2 (by omega) S d told kvs σ ht hq hv hr _ (fun y hy => ?_) (fun hn' => ?_)
        · conv => whnf
          exact h0 (w_bin1 hn)
        · conv => whnf
          exact h0 (w_bin1 hn)
    | over =>
      conv => whnf
      refine iha k ok.1 (by omega) S d told kvs σ ht hq hv hr _ (fun x hx => ?_) (fun hn => ?_)
      · conv => whnf
        refine ihb k ok.2 (by omega) S d told kvs σ ht hq hv hr _ (fun y hy => ?_) (fun hn => ?_)
        · conv => whnf
          refine br_ (fun h1 => ?_) (fun h1 => ?_)
          · have hb0 : y = 0 := of_decide_eq_true h1
            conv => whnf
            exact h0 (by rw [w_bin hx hy]; exact if_pos hb0)
          · have hb0 : y ≠ 0 := of_decide_eq_false h1
            conv => whnf
            refine grd_ (divOk_small (by omega) (by have := in_nat (inn hy); omega)) ?_
            conv => whnf
            refine br_ (fun h2 => ?_) (fun h2 => ?_)
            · conv => whnf
              refine br_ (fun h3 => ?_) (fun h3 => ?_)
              · have ec : ((x.natAbs : Nat) : Int).fdiv ((y.natAbs : Nat) : Int) = C0 x y := size_nn (of_decide_eq_true h2) (of_decide_eq_true h3)
                conv => whnf
                refine round_ k (by omega) _ (rd_ok (by rw [ec]; exact c0_big x y (inx hx))) _ _ ?_
                conv => whnf
                rw [ec]
                exact h _ (by rw [w_bin hx hy]; exact if_neg hb0)
              · have ec : 0 - ((x.natAbs : Nat) : Int).fdiv ((y.natAbs : Nat) : Int) = C0 x y := size_np (of_decide_eq_true h2) (of_decide_eq_false h3)
                conv => whnf
                refine round_ k (by omega) _ (rd_ok (by rw [ec]; exact c0_big x y (inx hx))) _ _ ?_
                conv => whnf
                rw [ec]
                exact h _ (by rw [w_bin hx hy]; exact if_neg hb0)
            · conv => whnf
              refine br_ (fun h3 => ?_) (fun h3 => ?_)
              · have ec : 0 - ((x.natAbs : Nat) : Int).fdiv ((y.natAbs : Nat) : Int) = C0 x y := size_pn (of_decide_eq_false h2) (of_decide_eq_true h3)
                conv => whnf
                refine round_ k (by omega) _ (rd_ok (by rw [ec]; exact c0_big x y (inx hx))) _ _ ?_
                conv => whnf
                rw [ec]
                exact h _ (by rw [w_bin hx hy]; exact if_neg hb0)
              · have ec : ((x.natAbs : Nat) : Int).fdiv ((y.natAbs : Nat) : Int) = C0 x y := size_pp (of_decide_eq_false h2) (of_decide_eq_false h3)
                conv => whnf
                refine round_ k (by omega) _ (rd_ok (by rw [ec]; exact c0_big x y (inx hx))) _ _ ?_
                conv => whnf
                rw [ec]
                exact h _ (by rw [w_bin hx hy]; exact if_neg hb0)
        · conv => whnf
          exact h0 (w_bin2 hx hn)
      · conv => whnf
        refine ihb k ok.2 (by omega) S d told kvs σ ht hq hv hr _ (fun y hy => ?_) (fun hn' => ?_)
        · conv => whnf
          exact h0 (w_bin1 hn)
        · conv => whnf
          exact h0 (w_bin1 hn)
    | rest =>
      conv => whnf
      refine iha k ok.1 (by omega) S d told kvs σ ht hq hv hr _ (fun x hx => ?_) (fun hn => ?_)
      · conv => whnf
        refine ihb k ok.2 (by omega) S d told kvs σ ht hq hv hr _ (fun y hy => ?_) (fun hn => ?_)
        · conv => whnf
          refine br_ (fun h1 => ?_) (fun h1 => ?_)
          · have hb0 : y = 0 := of_decide_eq_true h1
            conv => whnf
            exact h0 (by rw [w_bin hx hy]; exact if_pos hb0)
          · have hb0 : y ≠ 0 := of_decide_eq_false h1
            conv => whnf
            refine grd_ (divOk_small (by omega) (by have := in_nat (inn hy); omega)) ?_
            conv => whnf
            refine br_ (fun h2 => ?_) (fun h2 => ?_)
            · conv => whnf
              refine br_ (fun h3 => ?_) (fun h3 => ?_)
              · have ec : ((x.natAbs : Nat) : Int).fdiv ((y.natAbs : Nat) : Int) = C0 x y := size_nn (of_decide_eq_true h2) (of_decide_eq_true h3)
                conv => whnf
                refine grd_ (mulOk_r (in_nat (inn hy))) ?_
                conv => whnf
                rw [ec]
                exact h _ (by rw [w_bin hx hy, re_c0]; exact if_neg hb0)
              · have ec : 0 - ((x.natAbs : Nat) : Int).fdiv ((y.natAbs : Nat) : Int) = C0 x y := size_np (of_decide_eq_true h2) (of_decide_eq_false h3)
                conv => whnf
                refine grd_ (mulOk_r (in_nat (inn hy))) ?_
                conv => whnf
                rw [ec]
                exact h _ (by rw [w_bin hx hy, re_c0]; exact if_neg hb0)
            · conv => whnf
              refine br_ (fun h3 => ?_) (fun h3 => ?_)
              · have ec : 0 - ((x.natAbs : Nat) : Int).fdiv ((y.natAbs : Nat) : Int) = C0 x y := size_pn (of_decide_eq_false h2) (of_decide_eq_true h3)
                conv => whnf
                refine grd_ (mulOk_r (in_nat (inn hy))) ?_
                conv => whnf
                rw [ec]
                exact h _ (by rw [w_bin hx hy, re_c0]; exact if_neg hb0)
              · have ec : ((x.natAbs : Nat) : Int).fdiv ((y.natAbs : Nat) : Int) = C0 x y := size_pp (of_decide_eq_false h2) (of_decide_eq_false h3)
                conv => whnf
                refine grd_ (mulOk_r (in_nat (inn hy))) ?_
                conv => whnf
                rw [ec]
                exact h _ (by rw [w_bin hx hy, re_c0]; exact if_neg hb0)
        · conv => whnf
          exact h0 (w_bin2 hx hn)
      · conv => whnf
        refine ihb k ok.2 (by omega) S d told kvs σ ht hq hv hr _ (fun y hy => ?_) (fun hn' => ?_)
        · conv => whnf
          exact h0 (w_bin1 hn)
        · conv => whnf
          exact h0 (w_bin1 hn)
    | below =>
      conv => whnf
      refine iha k ok.1 (by omega) S d told kvs σ ht hq hv hr _ (fun x hx => ?_) (fun hn => ?_)
      · conv => whnf
        refine ihb k ok.2 (by omega) S d told kvs σ ht hq hv hr _ (fun y hy => ?_) (fun hn => ?_)
        · conv => whnf
          refine br_ (fun h1 => ?_) (fun h1 => ?_)
          · conv => whnf
            exact h _ (by rw [w_bin hx hy]; exact congrArg some (if_pos (of_decide_eq_true h1)))
          · conv => whnf
            exact h _ (by rw [w_bin hx hy]; exact congrArg some (if_neg (of_decide_eq_false h1)))
        · conv => whnf
          exact h0 (w_bin2 hx hn)
      · conv => whnf
        refine ihb k ok.2 (by omega) S d told kvs σ ht hq hv hr _ (fun y hy => ?_) (fun hn' => ?_)
        · conv => whnf
          exact h0 (w_bin1 hn)
        · conv => whnf
          exact h0 (w_bin1 hn)
    | above =>
      conv => whnf
      refine iha k ok.1 (by omega) S d told kvs σ ht hq hv hr _ (fun x hx => ?_) (fun hn => ?_)
      · conv => whnf
        refine ihb k ok.2 (by omega) S d told kvs σ ht hq hv hr _ (fun y hy => ?_) (fun hn => ?_)
        · conv => whnf
          refine br_ (fun h1 => ?_) (fun h1 => ?_)
          · conv => whnf
            exact h _ (by rw [w_bin hx hy]; exact congrArg some (if_pos (of_decide_eq_true h1)))
          · conv => whnf
            exact h _ (by rw [w_bin hx hy]; exact congrArg some (if_neg (of_decide_eq_false h1)))
        · conv => whnf
          exact h0 (w_bin2 hx hn)
      · conv => whnf
        refine ihb k ok.2 (by omega) S d told kvs σ ht hq hv hr _ (fun y hy => ?_) (fun hn' => ?_)
        · conv => whnf
          exact h0 (w_bin1 hn)
        · conv => whnf
          exact h0 (w_bin1 hn)
    | same =>
      conv => whnf
      refine iha k ok.1 (by omega) S d told kvs σ ht hq hv hr _ (fun x hx => ?_) (fun hn => ?_)
      · conv => whnf
        refine ihb k ok.2 (by omega) S d told kvs σ ht hq hv hr _ (fun y hy => ?_) (fun hn => ?_)
        · conv => whnf
          refine br_ (fun h1 => ?_) (fun h1 => ?_)
          · conv => whnf
            exact h _ (by rw [w_bin hx hy]; exact congrArg some (if_pos (of_decide_eq_true h1)))
          · conv => whnf
            exact h _ (by rw [w_bin hx hy]; exact congrArg some (if_neg (of_decide_eq_false h1)))
        · conv => whnf
          exact h0 (w_bin2 hx hn)
      · conv => whnf
        refine ihb k ok.2 (by omega) S d told kvs σ ht hq hv hr _ (fun y hy => ?_) (fun hn' => ?_)
        · conv => whnf
          exact h0 (w_bin1 hn)
        · conv => whnf
          exact h0 (w_bin1 hn)
end

section
open PySem L2 DL DLL
set_option maxHeartbeats 0
inductive S1 where
  | set (x : Str) (e : Ex) | emit (a b : Ex) | give (e : Ex) | fail | crash | each (x : Str) (b : List S1) | ite (e : Ex) (a b : List S1) | loop (e : Ex) (b : List S1)
mutual
def S1.d : S1 → D
  | .set x e => .tup [.str "set", .str x, e.d]
  | .emit a b => .tup [.str "emit", a.d, b.d]
  | .give e => .tup [.str "give", e.d]
  | .fail => .tup [.str "fail"]
  | .crash => .tup [.str "crash"]
  | .each x b => .tup [.str "each", .str x, .tup (bd b)]
  | .ite e a b => .tup [.str "if", e.d, .tup (bd a), .tup (bd b)]
  | .loop e b => .tup [.str "while", e.d, .tup (bd b)]
def bd : List S1 → List D
  | [] => []
  | s :: r => s.d :: bd r
end
mutual
def S1.ok : S1 → Prop
  | .set x e => x ∈ letters ∧ e.ok
  | .emit a b => a.ok ∧ b.ok
  | .give e => e.ok
  | .fail => True
  | .crash => True
  | .each x b => x ∈ letters ∧ bok b
  | .ite e a b => e.ok ∧ bok a ∧ bok b
  | .loop e b => e.ok ∧ bok b
def bok : List S1 → Prop
  | [] => True
  | s :: r => s.ok ∧ bok r
end
mutual
def S1.deep : S1 → Nat
  | .set _ e => e.deep
  | .emit a b => max a.deep b.deep
  | .give e => e.deep
  | .fail => 0
  | .crash => 0
  | .each _ b => bdeep b + 3
  | .ite e a b => max e.deep (max (bdeep a) (bdeep b)) + 3
  | .loop e b => max e.deep (bdeep b) + 3
def bdeep : List S1 → Nat
  | [] => 0
  | s :: r => max s.deep (bdeep r)
end
structure Ms where
  σ : Str → Int
  n : Nat
  recs : List (Int × Int)
  given : Option Int
inductive Fi where
  | ok | gave | fell (w : Str)
def Fi.s : Fi → Str
  | .ok => ""
  | .gave => ""
  | .fell w => w
def upS (σ : Str → Int) (x : Str) (v : Int) : Str → Int := fun y => if y = x then v else σ y
inductive Cf where
  | blk (b : List S1) | one (s : S1) | wh (e : Ex) (b : List S1) (v : Int) | ea (x : Str) (b : List S1) (vs : List Int)
/-- what a call does: at most 100 steps, six records -/
inductive Run (told : List Int) : Cf → Ms → Fi → Ms → Prop where
  | nil {m} : Run told (.blk []) m .ok m
  | tired {s r m} (h : m.n = 100) : Run told (.blk (s :: r)) m (.fell "tired") m
  | more {s r m m1 m2 f} (h : m.n < 100) (h1 : Run told (.one s) { m with n := m.n + 1 } .ok m1) (h2 : Run told (.blk r) m1 f m2) : Run told (.blk (s :: r)) m f m2
  | ends {s r m m1 f} (h : m.n < 100) (h1 : Run told (.one s) { m with n := m.n + 1 } f m1) (hf : f ≠ .ok) : Run told (.blk (s :: r)) m f m1
  | fail {m} : Run told (.one .fail) m (.fell "failed") m
  | crash {m} : Run told (.one .crash) m (.fell "crashed") m
  | set {x e m v} (h : worth m.σ told.length e = some v) : Run told (.one (.set x e)) m .ok { m with σ := upS m.σ x v }
  | set0 {x e m} (h : worth m.σ told.length e = none) : Run told (.one (.set x e)) m (.fell "zero") m
  | give {e m v} (h : worth m.σ told.length e = some v) : Run told (.one (.give e)) m .gave { m with given := some v }
  | give0 {e m} (h : worth m.σ told.length e = none) : Run told (.one (.give e)) m (.fell "zero") m
  | emit {a b m v w} (h : worth m.σ told.length a = some v) (h2 : worth m.σ told.length b = some w) (h3 : m.recs.length < 6) : Run told (.one (.emit a b)) m .ok { m with recs := m.recs ++ [(v, w)] }
  | much {a b m v w} (h : worth m.σ told.length a = some v) (h2 : worth m.σ told.length b = some w) (h3 : m.recs.length = 6) : Run told (.one (.emit a b)) m (.fell "much") m
  | emit0 {a b m} (h : worth m.σ told.length a = none ∨ worth m.σ told.length b = none) : Run told (.one (.emit a b)) m (.fell "zero") m
  | ite {e a b m v f m1} (h : worth m.σ told.length e = some v) (h1 : Run told (.blk (if v = 0 then b else a)) m f m1) : Run told (.one (.ite e a b)) m f m1
  | ite0 {e a b m} (h : worth m.σ told.length e = none) : Run told (.one (.ite e a b)) m (.fell "zero") m
  | loop {e b m v f m1} (h : worth m.σ told.length e = some v) (h1 : Run told (.wh e b v) m f m1) : Run told (.one (.loop e b)) m f m1
  | loop0 {e b m} (h : worth m.σ told.length e = none) : Run told (.one (.loop e b)) m (.fell "zero") m
  | each {x b m f m1} (h1 : Run told (.ea x b told) m f m1) : Run told (.one (.each x b)) m f m1
  | wh0 {e b m} : Run told (.wh e b 0) m .ok m
  | whE {e b m v f m1} (hv : v ≠ 0) (h1 : Run told (.blk b) m f m1) (hf : f ≠ .ok) : Run told (.wh e b v) m f m1
  | whT {e b m v m1} (hv : v ≠ 0) (h1 : Run told (.blk b) m .ok m1) (h : m1.n = 100) : Run told (.wh e b v) m (.fell "tired") m1
  | whZ {e b m v m1} (hv : v ≠ 0) (h1 : Run told (.blk b) m .ok m1) (h : m1.n < 100) (h2 : worth m1.σ told.length e = none) : Run told (.wh e b v) m (.fell "zero") { m1 with n := m1.n + 1 }
  | whM {e b m v m1 v2 f m2} (hv : v ≠ 0) (h1 : Run told (.blk b) m .ok m1) (h : m1.n < 100) (h2 : worth m1.σ told.length e = some v2) (h3 : Run told (.wh e b v2) { m1 with n := m1.n + 1 } f m2) : Run told (.wh e b v) m f m2
  | ea0 {x b m} : Run told (.ea x b []) m .ok m
  | eaT {x b m v vs} (h : m.n = 100) : Run told (.ea x b (v :: vs)) m (.fell "tired") m
  | eaE {x b m v vs f m1} (h : m.n < 100) (h1 : Run told (.blk b) { m with n := m.n + 1, σ := upS m.σ x v } f m1) (hf : f ≠ .ok) : Run told (.ea x b (v :: vs)) m f m1
  | eaM {x b m v vs m1 f m2} (h : m.n < 100) (h1 : Run told (.blk b) { m with n := m.n + 1, σ := upS m.σ x v } .ok m1) (h2 : Run told (.ea x b vs) m1 f m2) : Run told (.ea x b (v :: vs)) m f m2
def gD : Option Int → D
  | none => .non
  | some v => .int v
def recD (p : Int × Int) : D := .tup [.int p.1, .int p.2]
def kvsOf (σ : Str → Int) : List (DK × D) := letters.map fun x => (.inl (.inr x), .int (σ x))
theorem kvs_get (σ : Str → Int) {x : Str} (hx : x ∈ letters) : dGet (kvsOf σ) (.inl (.inr x)) = some (.int (σ x)) := by
  unfold dGet kvsOf
  generalize letters = l at hx
  induction l with
  | nil => cases hx
  | cons y r ih =>
    rw [List.map_cons, List.find?_cons]
    by_cases e : y = x
    · subst e; simp
    · have e2 : decide ((Sum.inl (Sum.inr y) : DK) = .inl (.inr x)) = false := by
        simp [e]
      simp only [e2]
      rcases List.mem_cons.mp hx with h | h
      · exact absurd h.symm e
      · exact ih h
theorem kvs_vars (σ : Str → Int) : Vars (kvsOf σ) σ true := ⟨fun x => by
  unfold dFit kvsOf
  rw [List.all_map]
  exact List.all_eq_true.mpr fun y _ => rfl, fun x hx => .inl (kvs_get σ hx)⟩
theorem kvs_put (σ : Str → Int) {x : Str} (hx : x ∈ letters) (v : Int) : dPut (kvsOf σ) (.inl (.inr x)) (.int v) = kvsOf (upS σ x v) := by
  unfold dPut
  have h : ((kvsOf σ).any fun kv => decide (kv.1 = (.inl (.inr x) : DK))) = true := by
    unfold kvsOf
    rw [List.any_map]
    exact List.any_eq_true.mpr ⟨x, hx, by simp⟩
  rw [if_pos h]
  unfold kvsOf
  rw [List.map_map]
  refine List.map_congr_left fun y _ => ?_
  show (if (Sum.inl (Sum.inr y) : DK) = .inl (.inr x) then (Sum.inl (Sum.inr y), D.int v) else (Sum.inl (Sum.inr y), D.int (σ y))) = _
  unfold upS
  by_cases e : y = x
  · subst e; simp
  · rw [if_neg (by simp [e]), if_neg e]
theorem kvs_len (σ : Str → Int) : (kvsOf σ).length = 26 := by unfold kvsOf; rw [List.length_map]; rfl
/-- the call's object and what it holds -/
structure PAt (S : Store) (p q r : Nat) (told : List D) (m : Ms) (f : Str) : Prop where
  ob : S[p]? = some (.ins "Call" (flds q r told m.n f (gD m.given)))
  vs : S[q]? = some (.dct (kvsOf m.σ))
  rs : S[r]? = some (.lst (m.recs.map recD))
  pq : p ≠ q
  pr : p ≠ r
  qr : q ≠ r
def Keep (S S' : Store) (p q r : Nat) : Prop := S'.length = S.length ∧ ∀ i, i ≠ p → i ≠ q → i ≠ r → S'[i]? = S[i]?
theorem Keep.refl {S : Store} {p q r : Nat} : Keep S S p q r := ⟨rfl, fun _ _ _ _ => rfl⟩
theorem Keep.trans {S S1 S2 : Store} {p q r : Nat} (h1 : Keep S S1 p q r) (h2 : Keep S1 S2 p q r) : Keep S S2 p q r := ⟨h2.1.trans h1.1, fun i a b c => (h2.2 i a b c).trans (h1.2 i a b c)⟩
theorem Keep.set1 {S : Store} {p q r : Nat} {o : Ob} : Keep S (S.set p o) p q r := ⟨by simp, fun i a b c => set_ne (Ne.symm a)⟩
theorem Keep.set2 {S : Store} {p q r : Nat} {o : Ob} : Keep S (S.set q o) p q r := ⟨by simp, fun i a b c => set_ne (Ne.symm b)⟩
theorem Keep.set3 {S : Store} {p q r : Nat} {o : Ob} : Keep S (S.set r o) p q r := ⟨by simp, fun i a b c => set_ne (Ne.symm c)⟩
/-- the object's fields stored anew -/
theorem PAt.ob_ {S : Store} {p q r : Nat} {told : List D} {m : Ms} {f : Str} (h : PAt S p q r told m f) (n : Nat) (f' : Str) (g : Option Int) : PAt (S.set p (.ins "Call" (flds q r told n f' (gD g)))) p q r told { m with n := n, given := g } f' :=
  ⟨set_get h.ob, by rw [set_ne h.pq]; exact h.vs, by rw [set_ne h.pr]; exact h.rs, h.pq, h.pr, h.qr⟩
theorem PAt.vs_ {S : Store} {p q r : Nat} {told : List D} {m : Ms} {f : Str} (h : PAt S p q r told m f) (σ : Str → Int) : PAt (S.set q (.dct (kvsOf σ))) p q r told { m with σ := σ } f :=
  ⟨by rw [set_ne (Ne.symm h.pq)]; exact h.ob, set_get h.vs, by rw [set_ne h.qr]; exact h.rs, h.pq, h.pr, h.qr⟩
theorem PAt.rs_ {S : Store} {p q r : Nat} {told : List D} {m : Ms} {f : Str} (h : PAt S p q r told m f) (l : List (Int × Int)) : PAt (S.set r (.lst (l.map recD))) p q r told { m with recs := l } f :=
  ⟨by rw [set_ne (Ne.symm h.pr)]; exact h.ob, by rw [set_ne (Ne.symm h.qr)]; exact h.vs, set_get h.rs, h.pq, h.pr, h.qr⟩
theorem is_over_no (k : Nat) (hk : 1 ≤ k) {S : Store} {p q r : Nat} {told : List D} {m : Ms} (h : PAt S p q r told m "") (hg : m.given = none) (κ : R D → Store → Prop) (hκ : κ (.v (.bl false)) S) : callAtP T k "Call.is_over" [.obj p] S κ := by
  obtain ⟨k, rfl⟩ := lev 1 hk
  have ob := h.ob
  rw [hg] at ob
  conv => whnf
  rw [getF_at ob (by rfl) (by rfl)]
  conv => whnf
  rw [getF_at ob (by rfl) (by rfl)]
  conv => whnf
  exact hκ
theorem is_over_yes (k : Nat) (hk : 1 ≤ k) {S : Store} {p q r : Nat} {told : List D} {m : Ms} {f : Str} (h : PAt S p q r told m f) (hg : f ≠ "" ∨ ∃ v, m.given = some v) (κ : R D → Store → Prop) (hκ : κ (.v (.bl true)) S) : callAtP T k "Call.is_over" [.obj p] S κ := by
  obtain ⟨k, rfl⟩ := lev 1 hk
  have ob := h.ob
  conv => whnf
  rw [getF_at ob (by rfl) (by rfl)]
  conv => whnf
  refine br_ (fun h1 => ?_) (fun h1 => ?_)
  · conv => whnf
    exact hκ
  · have hf : f = "" := by simpa using h1
    obtain ⟨v, hv⟩ : ∃ v, m.given = some v := by
      rcases hg with h | h
      · exact absurd hf h
      · exact h
    rw [hv] at ob
    conv => whnf
    rw [getF_at ob (by rfl) (by rfl)]
    conv => whnf
    exact hκ
theorem can_step_ (k : Nat) (hk : 1 ≤ k) {S : Store} {p q r : Nat} {told : List D} {m : Ms} (h : PAt S p q r told m "") (hn : m.n ≤ 100) (κ : R D → Store → Prop)
    (h1 : m.n = 100 → ∀ S', PAt S' p q r told m "tired" → Keep S S' p q r → κ (.v (.bl false)) S') (h2 : m.n < 100 → ∀ S', PAt S' p q r told { m with n := m.n + 1 } "" → Keep S S' p q r → κ (.v (.bl true)) S') : callAtP T k "Call.can_step" [.obj p] S κ := by
  obtain ⟨k, rfl⟩ := lev 1 hk
  conv => whnf
  rw [getF_at h.ob (by rfl) (by rfl)]
  conv => whnf
  refine br_ (fun e => ?_) (fun e => ?_)
  · have e' : m.n = 100 := by have := of_decide_eq_true e; omega
    conv => whnf
    rw [putF_at h.ob (by rfl)]
    conv => whnf
    exact h1 e' _ (h.ob_ m.n "tired" m.given) Keep.set1
  · have e' : m.n < 100 := by have := of_decide_eq_false e; omega
    conv => whnf
    rw [getF_at h.ob (by rfl) (by rfl)]
    conv => whnf
    rw [putF_at h.ob (by rfl)]
    conv => whnf
    exact h2 e' _ (h.ob_ (m.n + 1) "" m.given) Keep.set1
end

section
open PySem L2 DL DLL
set_option maxHeartbeats 0
theorem ex_tup (e : Ex) : ∃ ts, e.d = .tup ts := by cases e <;> exact ⟨_, rfl⟩
structure Fine (m : Ms) : Prop where
  inr : ∀ x, InR (m.σ x)
  n : m.n ≤ 100
  few : m.recs.length ≤ 6
theorem PAt.fell {S : Store} {p q r : Nat} {told : List D} {m : Ms} {f : Str} (h : PAt S p q r told m f) (w : Str) : PAt (S.set p (.ins "Call" (flds q r told m.n w (gD m.given)))) p q r told m w := h.ob_ m.n w m.given
theorem plain_set (k : Nat) {x : Str} {e : Ex} (hx : x ∈ letters) (he : e.ok) (hk : e.deep + 6 ≤ k) {S : Store} {p q r : Nat} {told : List D} {m : Ms} (ht : told.length ≤ 1000) (h : PAt S p q r told m "") (F : Fine m) (κ : R D → Store → Prop)
    (h1 : ∀ v, worth m.σ told.length e = some v → ∀ S', PAt S' p q r told { m with σ := upS m.σ x v } "" → Keep S S' p q r → κ (.v .non) S')
    (h0 : worth m.σ told.length e = none → ∀ S', PAt S' p q r told m "zero" → Keep S S' p q r → κ (.v .non) S') : callAtP T k "Call.plain" [.obj p, (S1.set x e).d] S κ := by
  obtain ⟨k, rfl⟩ := lev 1 (show 1 ≤ k by omega)
  have wr := worth_run e k he (by omega) S p q r told m.n (gD m.given) (kvsOf m.σ) m.σ ht h.ob h.vs (kvs_vars _) F.inr
  obtain ⟨ts, et⟩ := ex_tup e
  rw [et] at wr
  have ed : (S1.set x e).d = .tup [.str "set", .str x, .tup ts] := by
    show D.tup [.str "set", .str x, e.d] = _
    rw [et]
  rw [ed]
  conv => whnf
  refine .go ?_
  conv => whnf
  rw [h.ob]
  conv => whnf
  refine wr _ (fun v hv => ?_) (fun hn v hv => ?_)
  · conv => whnf
    rw [getF_at h.ob (by rfl) (by rfl)]
    conv => whnf
    rw [getF_at h.ob (by rfl) (by rfl)]
    conv => whnf
    rw [dSet_dct h.vs ((kvs_vars _).fit x) (by rw [kvs_len, sizeLine_eq]; decide), kvs_put _ hx]
    conv => whnf
    exact h1 v hv _ (h.vs_ _) Keep.set2
  · conv => whnf
    rw [getF_at (h.fell "zero").ob (by rfl) (by rfl)]
    conv => whnf
    exact h0 hn _ (h.fell "zero") Keep.set1
theorem plain_give (k : Nat) {e : Ex} (he : e.ok) (hk : e.deep + 6 ≤ k) {S : Store} {p q r : Nat} {told : List D} {m : Ms} (ht : told.length ≤ 1000) (h : PAt S p q r told m "") (F : Fine m) (κ : R D → Store → Prop)
    (h1 : ∀ v, worth m.σ told.length e = some v → ∀ S', PAt S' p q r told { m with given := some v } "" → Keep S S' p q r → κ (.v .non) S')
    (h0 : worth m.σ told.length e = none → ∀ S', PAt S' p q r told m "zero" → Keep S S' p q r → κ (.v .non) S') : callAtP T k "Call.plain" [.obj p, (S1.give e).d] S κ := by
  obtain ⟨k, rfl⟩ := lev 1 (show 1 ≤ k by omega)
  have wr := worth_run e k he (by omega) S p q r told m.n (gD m.given) (kvsOf m.σ) m.σ ht h.ob h.vs (kvs_vars _) F.inr
  obtain ⟨ts, et⟩ := ex_tup e
  rw [et] at wr
  have ed : (S1.give e).d = .tup [.str "give", .tup ts] := by
    show D.tup [.str "give", e.d] = _
    rw [et]
  rw [ed]
  conv => whnf
  refine .go ?_
  conv => whnf
  rw [h.ob]
  conv => whnf
  refine wr _ (fun v hv => ?_) (fun hn v hv => ?_)
  · conv => whnf
    rw [getF_at h.ob (by rfl) (by rfl)]
    conv => whnf
    rw [putF_at h.ob (by rfl)]
    conv => whnf
    exact h1 v hv _ (h.ob_ m.n "" (some v)) Keep.set1
  · conv => whnf
    rw [getF_at (h.fell "zero").ob (by rfl) (by rfl)]
    conv => whnf
    exact h0 hn _ (h.fell "zero") Keep.set1
theorem plain_fall (k : Nat) (hk : 2 ≤ k) {S : Store} {p q r : Nat} {told : List D} {m : Ms} (h : PAt S p q r told m "") (s : S1) (w : Str) (hs : (s = .fail ∧ w = "failed") ∨ (s = .crash ∧ w = "crashed")) (κ : R D → Store → Prop)
    (h1 : ∀ S', PAt S' p q r told m w → Keep S S' p q r → κ (.v .non) S') : callAtP T k "Call.plain" [.obj p, s.d] S κ := by
  obtain ⟨k, rfl⟩ := lev 1 (show 1 ≤ k by omega)
  rcases hs with ⟨rfl, rfl⟩ | ⟨rfl, rfl⟩
  · have ed : S1.fail.d = .tup [.str "fail"] := rfl
    rw [ed]
    conv => whnf
    rw [putF_at h.ob (by rfl)]
    conv => whnf
    exact h1 _ (h.fell "failed") Keep.set1
  · have ed : S1.crash.d = .tup [.str "crash"] := rfl
    rw [ed]
    conv => whnf
    rw [putF_at h.ob (by rfl)]
    conv => whnf
    exact h1 _ (h.fell "crashed") Keep.set1
theorem set_same {S : Store} {n : Nat} {o : Ob} (h : S[n]? = some o) : S.set n o = S := by
  apply List.ext_getElem?
  intro i
  by_cases e : n = i
  · subst e; rw [set_get h, h]
  · rw [set_ne e]
theorem plain_emit (k : Nat) {a b : Ex} (ha : a.ok) (hb : b.ok) (hk : max a.deep b.deep + 6 ≤ k) {S : Store} {p q r : Nat} {told : List D} {m : Ms} (ht : told.length ≤ 1000) (h : PAt S p q r told m "") (F : Fine m) (κ : R D → Store → Prop)
    (h1 : ∀ v w, worth m.σ told.length a = some v → worth m.σ told.length b = some w → m.recs.length < 6 → ∀ S', PAt S' p q r told { m with recs := m.recs ++ [(v, w)] } "" → Keep S S' p q r → κ (.v .non) S')
    (h2 : ∀ v w, worth m.σ told.length a = some v → worth m.σ told.length b = some w → m.recs.length = 6 → ∀ S', PAt S' p q r told m "much" → Keep S S' p q r → κ (.v .non) S')
    (h0 : worth m.σ told.length a = none ∨ worth m.σ told.length b = none → ∀ S', PAt S' p q r told m "zero" → Keep S S' p q r → κ (.v .non) S') : callAtP T k "Call.plain" [.obj p, (S1.emit a b).d] S κ := by
  obtain ⟨k, rfl⟩ := lev 1 (show 1 ≤ k by omega)
  have wa := worth_run a k ha (by omega) S p q r told m.n (gD m.given) (kvsOf m.σ) m.σ ht h.ob h.vs (kvs_vars _) F.inr
  have wb := worth_run b k hb (by omega) S p q r told m.n (gD m.given) (kvsOf m.σ) m.σ ht h.ob h.vs (kvs_vars _) F.inr
  have hz := h.fell "zero"
  have wf := worth_fell b k hb (by omega) (S.set p (.ins "Call" (flds q r told m.n "zero" (gD m.given)))) p q r told m.n (gD m.given) (kvsOf m.σ) m.σ ht hz.ob hz.vs (kvs_vars _) F.inr
  obtain ⟨ta, ea⟩ := ex_tup a
  obtain ⟨tb, eb⟩ := ex_tup b
  rw [ea] at wa
  rw [eb] at wb wf
  have ed : (S1.emit a b).d = .tup [.str "emit", .tup ta, .tup tb] := by
    show D.tup [.str "emit", a.d, b.d] = _
    rw [ea, eb]
  rw [ed]
  conv => whnf
  refine .go ?_
  conv => whnf
  rw [h.ob]
  conv => whnf
  refine wa _ (fun v hv => ?_) (fun hn v hv => ?_)
  · conv => whnf
    rw [h.ob]
    conv => whnf
    refine wb _ (fun w hw => ?_) (fun hn w hw => ?_)
    · conv => whnf
      rw [getF_at h.ob (by rfl) (by rfl)]
      conv => whnf
      rw [getF_at h.ob (by rfl) (by rfl)]
      conv => whnf
      rw [len_lst h.rs]
      conv => whnf
      refine br_ (fun e => ?_) (fun e => ?_)
      · have e' : m.recs.length = 6 := by have := of_decide_eq_true e; rw [List.length_map] at this; omega
        conv => whnf
        rw [putF_at h.ob (by rfl)]
        conv => whnf
        exact h2 v w hv hw e' _ (h.fell "much") Keep.set1
      · have e' : m.recs.length < 6 := by have := of_decide_eq_false e; rw [List.length_map] at this; have := F.few; omega
        conv => whnf
        rw [getF_at h.ob (by rfl) (by rfl)]
        conv => whnf
        rw [h.rs]
        conv => whnf
        rw [bTag_lst h.rs]
        conv => whnf
        rw [append_lst h.rs (by rw [List.length_map, sizeLine_eq]; omega)]
        conv => whnf
        have er : m.recs.map recD ++ [D.tup [D.int v, D.int w]] = (m.recs ++ [(v, w)]).map recD := by rw [List.map_append]; rfl
        rw [er]
        exact h1 v w hv hw e' _ (h.rs_ _) Keep.set3
    · conv => whnf
      rw [getF_at hz.ob (by rfl) (by rfl)]
      conv => whnf
      exact h0 (.inr hn) _ hz Keep.set1
  · conv => whnf
    rw [hz.ob]
    conv => whnf
    refine wf _ fun w hw => ?_
    conv => whnf
    rw [getF_at hz.ob (by rfl) (by rfl)]
    conv => whnf
    exact h0 (.inl hn) _ hz Keep.set1
end

section
open PySem L2 DL DLL
set_option maxHeartbeats 0
theorem bd_map : ∀ b : List S1, bd b = b.map S1.d
  | [] => rfl
  | s :: r => by show s.d :: bd r = _; rw [bd_map r]; rfl
theorem bok_mem : ∀ {b : List S1}, bok b → ∀ s ∈ b, s.ok
  | [], _, s, h => by cases h
  | t :: r, ok, s, h => by
    have ok' : t.ok ∧ bok r := ok
    rcases List.mem_cons.mp h with rfl | h
    · exact ok'.1
    · exact bok_mem ok'.2 s h
theorem bdeep_mem : ∀ {b : List S1} {s : S1}, s ∈ b → s.deep ≤ bdeep b
  | t :: r, s, h => by
    show s.deep ≤ max t.deep (bdeep r)
    rcases List.mem_cons.mp h with rfl | h
    · omega
    · have := bdeep_mem h; omega
def CfOk (told : List Int) : Cf → Prop
  | .blk b => bok b
  | .one s => s.ok
  | .wh e b _ => e.ok ∧ bok b
  | .ea x b vs => x ∈ letters ∧ bok b ∧ ∀ v ∈ vs, InR v
def Post (f : Fi) (m m' : Ms) : Prop := m.n ≤ m'.n ∧ match f with
  | .ok => m'.given = m.given
  | .gave => ∃ v, m'.given = some v
  | .fell w => m'.given = m.given ∧ w ≠ ""
theorem Post.step {f : Fi} {m m1 m2 : Ms} (h1 : Post .ok m m1) (h2 : Post f m1 m2) : Post f m m2 := by
  refine ⟨Nat.le_trans h1.1 h2.1, ?_⟩
  have e : m1.given = m.given := h1.2
  have h := h2.2
  cases f with
  | ok => exact Eq.trans h e
  | gave => exact h
  | fell w => exact ⟨h.1.trans e, h.2⟩
theorem Post.up {f : Fi} {m m' : Ms} {n : Nat} {σ : Str → Int} (h : Post f { m with n := n, σ := σ } m') (hn : m.n ≤ n) : Post f m m' := ⟨Nat.le_trans hn h.1, h.2⟩
theorem Post.refl {m : Ms} : Post .ok m m := ⟨Nat.le_refl _, rfl⟩
theorem Post.fell {m : Ms} {w : Str} (h : w ≠ "") : Post (.fell w) m m := ⟨Nat.le_refl _, rfl, h⟩
theorem Fine.up {m : Ms} (F : Fine m) {n : Nat} (h : n ≤ 100) : Fine { m with n := n } := ⟨F.inr, h, F.few⟩
theorem Fine.var {m : Ms} (F : Fine m) {x : Str} {v : Int} (h : InR v) : Fine { m with σ := upS m.σ x v } := ⟨fun y => by
  show InR (if y = x then v else m.σ y)
  split
  · exact h
  · exact F.inr y, F.n, F.few⟩
theorem run_post {told : List Int} (hl : told.length ≤ 1000) (ht : ∀ v ∈ told, InR v) {cf : Cf} {m : Ms} {f : Fi} {m' : Ms} (h : Run told cf m f m') : CfOk told cf → Fine m → Fine m' ∧ Post f m m' := by
  induction h with
  | nil => exact fun ok F => ⟨F, Post.refl⟩
  | tired h => exact fun ok F => ⟨F, Post.fell (by decide)⟩
  | more h h1 h2 ih1 ih2 =>
    intro ok F
    obtain ⟨F1, P1⟩ := ih1 ok.1 (F.up (by omega))
    obtain ⟨F2, P2⟩ := ih2 ok.2 F1
    exact ⟨F2, (P1.up (by omega)).step P2⟩
  | ends h h1 hf ih1 =>
    intro ok F
    obtain ⟨F1, P1⟩ := ih1 ok.1 (F.up (by omega))
    exact ⟨F1, P1.up (by omega)⟩
  | fail => exact fun ok F => ⟨F, Post.fell (by decide)⟩
  | crash => exact fun ok F => ⟨F, Post.fell (by decide)⟩
  | set h => exact fun ok F => ⟨F.var (worth_in F.inr hl _ ok.2 h), Nat.le_refl _, rfl⟩
  | set0 h => exact fun ok F => ⟨F, Post.fell (by decide)⟩
  | give h => exact fun ok F => ⟨⟨F.inr, F.n, F.few⟩, Nat.le_refl _, _, rfl⟩
  | give0 h => exact fun ok F => ⟨F, Post.fell (by decide)⟩
  | emit h h2 h3 => exact fun ok F => ⟨⟨F.inr, F.n, by show (_ ++ [_]).length ≤ 6; rw [List.length_append]; exact h3⟩, Nat.le_refl _, rfl⟩
  | much h h2 h3 => exact fun ok F => ⟨F, Post.fell (by decide)⟩
  | emit0 h => exact fun ok F => ⟨F, Post.fell (by decide)⟩
  | @ite e a b m v f m1 h h1 ih => exact fun ok F => ih (by show bok _; split; exact ok.2.2; exact ok.2.1) F
  | ite0 h => exact fun ok F => ⟨F, Post.fell (by decide)⟩
  | loop h h1 ih => exact fun ok F => ih ok F
  | loop0 h => exact fun ok F => ⟨F, Post.fell (by decide)⟩
  | each h1 ih => exact fun ok F => ih ⟨ok.1, ok.2, ht⟩ F
  | wh0 => exact fun ok F => ⟨F, Post.refl⟩
  | whE hv h1 hf ih => exact fun ok F => ih ok.2 F
  | whT hv h1 h ih =>
    intro ok F
    obtain ⟨F1, P1⟩ := ih ok.2 F
    exact ⟨F1, P1.step (Post.fell (by decide))⟩
  | whZ hv h1 h h2 ih =>
    intro ok F
    obtain ⟨F1, P1⟩ := ih ok.2 F
    exact ⟨F1.up (by omega), P1.step ⟨Nat.le_succ _, rfl, by decide⟩⟩
  | whM hv h1 h h2 h3 ih1 ih3 =>
    intro ok F
    obtain ⟨F1, P1⟩ := ih1 ok.2 F
    obtain ⟨F2, P2⟩ := ih3 ok (F1.up (by omega))
    exact ⟨F2, P1.step (P2.up (Nat.le_succ _))⟩
  | ea0 => exact fun ok F => ⟨F, Post.refl⟩
  | eaT h => exact fun ok F => ⟨F, Post.fell (by decide)⟩
  | eaE h h1 hf ih =>
    intro ok F
    obtain ⟨F1, P1⟩ := ih ok.2.1 ((F.var (ok.2.2 _ (List.mem_cons_self ..))).up (by omega))
    exact ⟨F1, P1.up (by omega)⟩
  | eaM h h1 h2 ih1 ih2 =>
    intro ok F
    obtain ⟨F1, P1⟩ := ih1 ok.2.1 ((F.var (ok.2.2 _ (List.mem_cons_self ..))).up (by omega))
    obtain ⟨F2, P2⟩ := ih2 ⟨ok.1, ok.2.1, fun v hv => ok.2.2 v (List.mem_cons_of_mem _ hv)⟩ F1
    exact ⟨F2, (P1.up (by omega)).step P2⟩
def S1.nm : S1 → Str
  | .each _ _ => "Call.blocked"
  | .ite _ _ _ => "Call.blocked"
  | .loop _ _ => "Call.blocked"
  | _ => "Call.plain"
def BlockP (told : List Int) (b : List S1) : Prop := ∀ m f m', Run told (.blk b) m f m' → Fine m → m.given = none → ∀ k, bdeep b + 8 ≤ k → ∀ S p q r, PAt S p q r (told.map D.int) m "" → ∀ κ : R D → Store → Prop,
  (∀ S', PAt S' p q r (told.map D.int) m' f.s → Keep S S' p q r → κ (.v .non) S') → callAtP T k "Call.block" [.obj p, .tup (bd b)] S κ
def OneP (told : List Int) (s : S1) : Prop := ∀ m f m', Run told (.one s) m f m' → Fine m → m.given = none → ∀ k, s.deep + 7 ≤ k → ∀ S p q r, PAt S p q r (told.map D.int) m "" → ∀ κ : R D → Store → Prop,
  (∀ S', PAt S' p q r (told.map D.int) m' f.s → Keep S S' p q r → κ (.v .non) S') → callAtP T k s.nm [.obj p, s.d] S κ
theorem block_of (told : List Int) (hl : told.length ≤ 1000) (ht : ∀ v ∈ told, InR v) (b : List S1) (ok : bok b) (ones : ∀ s ∈ b, OneP told s) : BlockP told b := by
  intro m f m' hR F hg k hk S p q r hP κ hκ
  obtain ⟨k, rfl⟩ := lev 1 (show 1 ≤ k by omega)
  conv => whnf
  refine forVX (xs := bd b) (fun S i => rfl) (fun S => rfl) (fun i η S1 => ∃ t : Option D, η = [some (.obj p), some (.tup (bd b)), t] ∧ Keep S S1 p q r ∧ ((∃ m1, Fine m1 ∧ m1.given = none ∧ PAt S1 p q r (told.map D.int) m1 "" ∧ Run told (.blk (b.drop i)) m1 f m') ∨ (f ≠ .ok ∧ (f.s ≠ "" ∨ ∃ v, m'.given = some v) ∧ PAt S1 p q r (told.map D.int) m' f.s)))
    (fun o S1 => o = .rt .non ∧ PAt S1 p q r (told.map D.int) m' f.s ∧ Keep S S1 p q r) ⟨none, rfl, Keep.refl, .inl ⟨m, F, hg, hP, by rw [List.drop_zero]; exact hR⟩⟩ (fun i d η S1 K hd hI hK hC hE => ?_) (fun o S1 h => ?_) (fun η S1 hI => ?_)
  · obtain ⟨t, rfl, kp, hI⟩ := hI
    rcases hI with ⟨m1, F1, g1, P1, R1⟩ | ⟨hf, hf2, P1⟩
    · rw [bd_map, List.getElem?_map] at hd
      obtain ⟨s, hs, rfl⟩ : ∃ s, b[i]? = some s ∧ s.d = d := by
        cases q : b[i]? with
        | none => rw [q] at hd; cases hd
        | some s => rw [q] at hd; exact ⟨s, rfl, by cases hd; rfl⟩
      have hm : s ∈ b := List.mem_of_getElem? hs
      have hdr : b.drop i = s :: b.drop (i + 1) := by
        obtain ⟨hi, e⟩ := List.getElem?_eq_some_iff.mp hs
        rw [List.drop_eq_getElem_cons hi, e]
      rw [hdr] at R1
      have one := ones s hm
      have hdeep := bdeep_mem hm
      conv => whnf
      rw [P1.ob]
      conv => whnf
      refine is_over_no k (by omega) P1 g1 _ ?_
      conv => whnf
      rw [P1.ob]
      conv => whnf
      refine can_step_ k (by omega) P1 F1.n _ (fun hn S2 P2 K2 => ?_) (fun hn S2 P2 K2 => ?_)
      · conv => whnf
        cases R1 with
        | tired h => exact hE _ _ ⟨rfl, P2, kp.trans K2⟩
        | more h _ _ => omega
        | ends h _ _ => omega
      · have fin : ∃ f1 m2, Run told (.one s) { m1 with n := m1.n + 1 } f1 m2 ∧ ((f1 = .ok ∧ Run told (.blk (b.drop (i + 1))) m2 f m') ∨ (f1 ≠ .ok ∧ f = f1 ∧ m' = m2)) := by
          cases R1 with
          | tired h => omega
          | more h h1 h2 => exact ⟨_, _, h1, .inl ⟨rfl, h2⟩⟩
          | ends h h1 hf => exact ⟨_, _, h1, .inr ⟨hf, rfl, rfl⟩⟩
        obtain ⟨f1, m2, h1, h2⟩ := fin
        have F1' : Fine { m1 with n := m1.n + 1 } := F1.up (by omega)
        obtain ⟨F2, Po⟩ := run_post hl ht h1 (bok_mem ok s hm) F1'
        have nxt : ∀ η' S3, (∃ t : Option D, η' = [some (.obj p), some (.tup (bd b)), t]) → PAt S3 p q r (told.map D.int) m2 f1.s → Keep S2 S3 p q r → K (.nx η') S3 := fun η' S3 ⟨t, e⟩ P3 K3 => by
          refine hK _ _ ⟨t, e, (kp.trans K2).trans K3, ?_⟩
          rcases h2 with ⟨rfl, h2⟩ | ⟨hf, rfl, rfl⟩
          · exact .inl ⟨m2, F2, Po.2.trans g1, P3, h2⟩
          · refine .inr ⟨hf, ?_, P3⟩
            cases f with
            | ok => exact absurd rfl hf
            | gave => exact .inr Po.2
            | fell w => exact .inl Po.2.2
        have one' := one _ _ _ h1 F1' g1 k (by omega) S2 p q r P2
        clear one
        cases s
        all_goals
          conv => whnf
          rw [P2.ob]
          conv => whnf
          refine one' _ fun S3 P3 K3 => ?_
          conv => whnf
          exact nxt _ _ ⟨_, rfl⟩ P3 K3
    · conv => whnf
      rw [P1.ob]
      conv => whnf
      refine is_over_yes k (by omega) P1 hf2 _ ?_
      conv => whnf
      exact hE _ _ ⟨rfl, P1, kp⟩
  · obtain ⟨rfl, P1, kp⟩ := h
    conv => whnf
    exact hκ _ P1 kp
  · obtain ⟨t, rfl, kp, hI⟩ := hI
    have hlen : b.drop (bd b).length = [] := by rw [bd_map, List.length_map, List.drop_length]
    conv => whnf
    rcases hI with ⟨m1, F1, g1, P1, R1⟩ | ⟨hf, hf2, P1⟩
    · rw [hlen] at R1
      cases R1
      exact hκ _ P1 kp
    · exact hκ _ P1 kp
end

section
open PySem L2 DL DLL
set_option maxHeartbeats 0
set_option linter.unusedVariables false
theorem PAt.step {S : Store} {p q r : Nat} {told : List D} {m : Ms} (h : PAt S p q r told { m with n := m.n + 1 } "") (x : Str) (v : Int) : PAt (S.set q (.dct (kvsOf (upS m.σ x v)))) p q r told { m with n := m.n + 1, σ := upS m.σ x v } "" := h.vs_ _
theorem Fi.over {f : Fi} {m m' : Ms} (hf : f ≠ .ok) (P : Post f m m') : f.s ≠ "" ∨ ∃ v, m'.given = some v := by
  cases f with
  | ok => exact absurd rfl hf
  | gave => exact .inr P.2
  | fell w => exact .inl P.2.2
theorem each_of (told : List Int) (hl : told.length ≤ 1000) (ht : ∀ v ∈ told, InR v) (x : Str) (hx : x ∈ letters) (b : List S1) (ok : bok b) (hb : BlockP told b) :
    ∀ m f m', Run told (.ea x b told) m f m' → Fine m → m.given = none → ∀ k, bdeep b + 9 ≤ k → ∀ S p q r, PAt S p q r (told.map D.int) m "" → ∀ κ : R D → Store → Prop,
      (∀ S', PAt S' p q r (told.map D.int) m' f.s → Keep S S' p q r → κ (.v .non) S') → callAtP T k "Call.each" [.obj p, .str x, .tup (bd b)] S κ := by
  intro m f m' hR F hg k hk S p q r hP κ hκ
  obtain ⟨k, rfl⟩ := lev 1 (show 1 ≤ k by omega)
  conv => whnf
  rw [getF_at hP.ob (by rfl) (by rfl)]
  conv => whnf
  refine forVX (xs := told.map D.int) (fun S i => rfl) (fun S => rfl) (fun i η S1 => ∃ t : Option D, η = [some (.obj p), some (.str x), some (.tup (bd b)), t] ∧ Keep S S1 p q r ∧ ((∃ m1, Fine m1 ∧ m1.given = none ∧ PAt S1 p q r (told.map D.int) m1 "" ∧ Run told (.ea x b (told.drop i)) m1 f m') ∨ (f ≠ .ok ∧ (f.s ≠ "" ∨ ∃ v, m'.given = some v) ∧ PAt S1 p q r (told.map D.int) m' f.s)))
    (fun o S1 => o = .rt .non ∧ PAt S1 p q r (told.map D.int) m' f.s ∧ Keep S S1 p q r) ⟨none, rfl, Keep.refl, .inl ⟨m, F, hg, hP, by rw [List.drop_zero]; exact hR⟩⟩ (fun i d η S1 K hd hI hK hC hE => ?_) (fun o S1 h => ?_) (fun η S1 hI => ?_)
  · obtain ⟨t, rfl, kp, hI⟩ := hI
    rcases hI with ⟨m1, F1, g1, P1, R1⟩ | ⟨hf, hf2, P1⟩
    · rw [List.getElem?_map] at hd
      obtain ⟨v, hs, rfl⟩ : ∃ v, told[i]? = some v ∧ D.int v = d := by
        cases q : told[i]? with
        | none => rw [q] at hd; cases hd
        | some s => rw [q] at hd; exact ⟨s, rfl, by cases hd; rfl⟩
      have hm : v ∈ told := List.mem_of_getElem? hs
      have hdr : told.drop i = v :: told.drop (i + 1) := by
        obtain ⟨hi, e⟩ := List.getElem?_eq_some_iff.mp hs
        rw [List.drop_eq_getElem_cons hi, e]
      rw [hdr] at R1
      conv => whnf
      rw [P1.ob]
      conv => whnf
      refine is_over_no k (by omega) P1 g1 _ ?_
      conv => whnf
      rw [P1.ob]
      conv => whnf
      refine can_step_ k (by omega) P1 F1.n _ (fun hn S2 P2 K2 => ?_) (fun hn S2 P2 K2 => ?_)
      · conv => whnf
        cases R1 with
        | eaT h => exact hE _ _ ⟨rfl, P2, kp.trans K2⟩
        | eaE h _ _ => omega
        | eaM h _ _ => omega
      · have fin : ∃ f1 m2, Run told (.blk b) { m1 with n := m1.n + 1, σ := upS m1.σ x v } f1 m2 ∧ ((f1 = .ok ∧ Run told (.ea x b (told.drop (i + 1))) m2 f m') ∨ (f1 ≠ .ok ∧ f = f1 ∧ m' = m2)) := by
          cases R1 with
          | eaT h => omega
          | eaM h h1 h2 => exact ⟨_, _, h1, .inl ⟨rfl, h2⟩⟩
          | eaE h h1 hf => exact ⟨_, _, h1, .inr ⟨hf, rfl, rfl⟩⟩
        obtain ⟨f1, m2, h1, h2⟩ := fin
        have F1' : Fine { m1 with n := m1.n + 1, σ := upS m1.σ x v } := (F1.var (ht v hm)).up (by omega)
        obtain ⟨F2, Po⟩ := run_post hl ht h1 ok F1'
        conv => whnf
        rw [getF_at P2.ob (by rfl) (by rfl)]
        conv => whnf
        rw [dSet_dct P2.vs ((kvs_vars _).fit x) (by rw [kvs_len, sizeLine_eq]; decide), kvs_put _ hx]
        have P3 := P2.step x v
        have K3 : Keep S2 (S2.set q (.dct (kvsOf (upS m1.σ x v)))) p q r := Keep.set2
        generalize S2.set q (.dct (kvsOf (upS m1.σ x v))) = S3 at P3 K3
        conv => whnf
        rw [P3.ob]
        conv => whnf
        refine hb _ _ _ h1 F1' g1 k (by omega) S3 p q r P3 _ fun S4 P4 K4 => ?_
        conv => whnf
        refine hK _ _ ⟨_, rfl, ((kp.trans K2).trans K3).trans K4, ?_⟩
        rcases h2 with ⟨rfl, h2⟩ | ⟨hf, rfl, rfl⟩
        · exact .inl ⟨m2, F2, Po.2.trans g1, P4, h2⟩
        · exact .inr ⟨hf, Fi.over hf Po, P4⟩
    · conv => whnf
      rw [P1.ob]
      conv => whnf
      refine is_over_yes k (by omega) P1 hf2 _ ?_
      conv => whnf
      exact hE _ _ ⟨rfl, P1, kp⟩
  · obtain ⟨rfl, P1, kp⟩ := h
    conv => whnf
    exact hκ _ P1 kp
  · obtain ⟨t, rfl, kp, hI⟩ := hI
    have hlen : told.drop (told.map D.int).length = [] := by rw [List.length_map, List.drop_length]
    conv => whnf
    rcases hI with ⟨m1, F1, g1, P1, R1⟩ | ⟨hf, hf2, P1⟩
    · rw [hlen] at R1
      cases R1
      exact hκ _ P1 kp
    · exact hκ _ P1 kp
/-- fallen: the loop isn't entered -/
theorem again_fell (k : Nat) (hk : 2 ≤ k) {S : Store} {p q r : Nat} {told : List D} {m : Ms} {w : Str} (hw : w ≠ "") (h : PAt S p q r told m w) (v : Int) (e b : D) (κ : R D → Store → Prop) (hκ : κ (.v .non) S) : callAtP T k "Call.again" [.obj p, .int v, e, b] S κ := by
  obtain ⟨k, rfl⟩ := lev 1 (show 1 ≤ k by omega)
  conv => whnf
  refine .go ?_
  conv => whnf
  rw [getF_at h.ob (by rfl) (by rfl)]
  conv => whnf
  refine br_f (by simpa using hw) ?_
  conv => whnf
  exact hκ
theorem again_of (told : List Int) (hl : told.length ≤ 1000) (ht : ∀ v ∈ told, InR v) (e : Ex) (he : e.ok) (b : List S1) (ok : bok b) (hb : BlockP told b) :
    ∀ v m f m', Run told (.wh e b v) m f m' → Fine m → m.given = none → ∀ k, max e.deep (bdeep b) + 9 ≤ k → ∀ S p q r, PAt S p q r (told.map D.int) m "" → ∀ κ : R D → Store → Prop,
      (∀ S', PAt S' p q r (told.map D.int) m' f.s → Keep S S' p q r → κ (.v .non) S') → callAtP T k "Call.again" [.obj p, .int v, e.d, .tup (bd b)] S κ := by
  intro v m f m' hR F hg k hk S p q r hP κ hκ
  obtain ⟨k, rfl⟩ := lev 1 (show 1 ≤ k by omega)
  conv => whnf
  refine .go (whileR
    (fun n η S1 => ∃ v1, η = [some (.obj p), some (.int v1), some e.d, some (.tup (bd b))] ∧ Keep S S1 p q r ∧ ((∃ m1, Fine m1 ∧ m1.given = none ∧ PAt S1 p q r (told.map D.int) m1 "" ∧ Run told (.wh e b v1) m1 f m' ∧ n = 201 - m1.n) ∨ (f.s ≠ "" ∧ PAt S1 p q r (told.map D.int) m' f.s)))
    (fun n η S1 => ∃ v1, η = [some (.obj p), some (.int v1), some e.d, some (.tup (bd b))] ∧ Keep S S1 p q r ∧ v1 ≠ 0 ∧ ∃ m1, Fine m1 ∧ m1.given = none ∧ PAt S1 p q r (told.map D.int) m1 "" ∧ Run told (.wh e b v1) m1 f m' ∧ n = 201 - m1.n)
    (fun η S1 => PAt S1 p q r (told.map D.int) m' f.s ∧ Keep S S1 p q r)
    (fun o S1 => o = .rt .non ∧ PAt S1 p q r (told.map D.int) m' f.s ∧ Keep S S1 p q r)
    (fun n η S1 K hI hG hF => ?_) (fun n η S1 K hI hK hE => ?_) (fun o S1 h => ?_) (fun η S1 hI => ?_) _ (201 - m.n) _ S (by show _ < 100000; omega) ⟨v, rfl, Keep.refl, .inl ⟨m, F, hg, hP, hR, rfl⟩⟩)
  · obtain ⟨v1, rfl, kp, hI⟩ := hI
    rcases hI with ⟨m1, F1, g1, P1, R1, hn⟩ | ⟨hf, P1⟩
    · conv => whnf
      rw [getF_at P1.ob (by rfl) (by rfl)]
      conv => whnf
      refine br_ (fun h0 => ?_) (fun h0 => ?_)
      · have hv : v1 ≠ 0 := by simpa using h0
        conv => whnf
        exact hG _ ⟨v1, rfl, kp, hv, m1, F1, g1, P1, R1, hn⟩
      · have hv : v1 = 0 := by simpa using h0
        subst hv
        conv => whnf
        cases R1 with
        | wh0 => exact hF _ ⟨P1, kp⟩
        | whE hv _ _ => exact absurd rfl hv
        | whT hv _ _ => exact absurd rfl hv
        | whZ hv _ _ _ => exact absurd rfl hv
        | whM hv _ _ _ _ => exact absurd rfl hv
    · conv => whnf
      rw [getF_at P1.ob (by rfl) (by rfl)]
      conv => whnf
      refine br_f (by simpa using hf) ?_
      conv => whnf
      exact hF _ ⟨P1, kp⟩
  · obtain ⟨v1, rfl, kp, hv, m1, F1, g1, P1, R1, hn⟩ := hI
    have main : ∃ f1 m2, Run told (.blk b) m1 f1 m2 ∧ ((f1 ≠ .ok ∧ f = f1 ∧ m' = m2) ∨ (f1 = .ok ∧ ((m2.n = 100 ∧ f = .fell "tired" ∧ m' = m2) ∨ (m2.n < 100 ∧ ((worth m2.σ told.length e = none ∧ f = .fell "zero" ∧ m' = { m2 with n := m2.n + 1 }) ∨ ∃ v2, worth m2.σ told.length e = some v2 ∧ Run told (.wh e b v2) { m2 with n := m2.n + 1 } f m'))))) := by
      cases R1 with
      | wh0 => exact absurd rfl hv
      | whE hv h1 hf => exact ⟨_, _, h1, .inl ⟨hf, rfl, rfl⟩⟩
      | whT hv h1 h => exact ⟨_, _, h1, .inr ⟨rfl, .inl ⟨h, rfl, rfl⟩⟩⟩
      | whZ hv h1 h h2 => exact ⟨_, _, h1, .inr ⟨rfl, .inr ⟨h, .inl ⟨h2, rfl, rfl⟩⟩⟩⟩
      | whM hv h1 h h2 h3 => exact ⟨_, _, h1, .inr ⟨rfl, .inr ⟨h, .inr ⟨_, h2, h3⟩⟩⟩⟩
    obtain ⟨f1, m2, h1, h2⟩ := main
    obtain ⟨F2, Po⟩ := run_post hl ht h1 ok F1
    conv => whnf
    rw [P1.ob]
    conv => whnf
    refine hb _ _ _ h1 F1 g1 k (by omega) S1 p q r P1 _ fun S2 P2 K2 => ?_
    conv => whnf
    rw [P2.ob]
    conv => whnf
    rcases h2 with ⟨hf, rfl, rfl⟩ | ⟨rfl, h2⟩
    · refine is_over_yes k (by omega) P2 (Fi.over hf Po) _ ?_
      conv => whnf
      exact hE _ _ ⟨rfl, P2, kp.trans K2⟩
    · have g2 : m2.given = none := Po.2.trans g1
      refine is_over_no k (by omega) P2 g2 _ ?_
      conv => whnf
      rw [P2.ob]
      conv => whnf
      refine can_step_ k (by omega) P2 F2.n _ (fun hn2 S3 P3 K3 => ?_) (fun hn2 S3 P3 K3 => ?_)
      · conv => whnf
        rcases h2 with ⟨h, rfl, rfl⟩ | ⟨h, _⟩
        · exact hE _ _ ⟨rfl, P3, (kp.trans K2).trans K3⟩
        · omega
      · rcases h2 with ⟨h, _, _⟩ | ⟨h, h2⟩
        · omega
        · conv => whnf
          rw [P3.ob]
          conv => whnf
          have ht' : (told.map D.int).length ≤ 1000 := by rw [List.length_map]; exact hl
          refine worth_run e k he (by omega) S3 p q r (told.map D.int) (m2.n + 1 : Nat) (gD m2.given) (kvsOf m2.σ) m2.σ ht' P3.ob P3.vs (kvs_vars _) F2.inr _ (fun v2 hv2 => ?_) (fun hn3 v2 hv2 => ?_)
          · rw [List.length_map] at hv2
            conv => whnf
            rcases h2 with ⟨h2, _, _⟩ | ⟨v3, h2, h3⟩
            · rw [h2] at hv2; cases hv2
            · rw [hv2] at h2
              cases h2
              exact hK (201 - (m2.n + 1)) _ _ (by have := Po.1; omega) ⟨v2, rfl, (kp.trans K2).trans K3, .inl ⟨{ m2 with n := m2.n + 1 }, F2.up (by omega), g2, P3, h3, rfl⟩⟩
          · rw [List.length_map] at hn3
            conv => whnf
            rcases h2 with ⟨_, rfl, rfl⟩ | ⟨v3, h2, _⟩
            · exact hK 0 _ _ (by have := F1.n; omega) ⟨v2, rfl, ((kp.trans K2).trans K3).trans Keep.set1, .inr ⟨by decide, P3.fell "zero"⟩⟩
            · rw [hn3] at h2; cases h2
  · obtain ⟨rfl, P1, kp⟩ := h
    conv => whnf
    exact hκ _ P1 kp
  · conv => whnf
    exact hκ _ hI.1 hI.2
theorem one_plain (told : List Int) (hl : told.length ≤ 1000) (s : S1) (ok : s.ok) (hs : s.nm = "Call.plain") : OneP told s := by
  intro m f m' hR F hg k hk S p q r hP κ hκ
  have ht' : (told.map D.int).length ≤ 1000 := by rw [List.length_map]; exact hl
  cases s with
  | set x e =>
    refine plain_set k ok.1 ok.2 (by have : e.deep + 7 ≤ k := hk; omega) ht' hP F κ (fun v hv S' P' K' => ?_) (fun hn S' P' K' => ?_)
    · rw [List.length_map] at hv
      cases hR with
      | set h => rw [hv] at h; cases h; exact hκ _ P' K'
      | set0 h => rw [hv] at h; cases h
    · rw [List.length_map] at hn
      cases hR with
      | set h => rw [hn] at h; cases h
      | set0 h => exact hκ _ P' K'
  | give e =>
    refine plain_give k ok (by have : e.deep + 7 ≤ k := hk; omega) ht' hP F κ (fun v hv S' P' K' => ?_) (fun hn S' P' K' => ?_)
    · rw [List.length_map] at hv
      cases hR with
      | give h => rw [hv] at h; cases h; exact hκ _ P' K'
      | give0 h => rw [hv] at h; cases h
    · rw [List.length_map] at hn
      cases hR with
      | give h => rw [hn] at h; cases h
      | give0 h => exact hκ _ P' K'
  | emit a b =>
    refine plain_emit k ok.1 ok.2 (by have : max a.deep b.deep + 7 ≤ k := hk; omega) ht' hP F κ (fun v w hv hw h6 S' P' K' => ?_) (fun v w hv hw h6 S' P' K' => ?_) (fun hn S' P' K' => ?_)
    · rw [List.length_map] at hv hw
      cases hR with
      | emit h h2 h3 => rw [hv] at h; rw [hw] at h2; cases h; cases h2; exact hκ _ P' K'
      | much h h2 h3 => omega
      | emit0 h => rw [hv, hw] at h; rcases h with h | h <;> cases h
    · rw [List.length_map] at hv hw
      cases hR with
      | emit h h2 h3 => omega
      | much h h2 h3 => exact hκ _ P' K'
      | emit0 h => rw [hv, hw] at h; rcases h with h | h <;> cases h
    · rw [List.length_map] at hn
      cases hR with
      | emit h h2 h3 => rw [h, h2] at hn; rcases hn with h | h <;> cases h
      | much h h2 h3 => rw [h, h2] at hn; rcases hn with h | h <;> cases h
      | emit0 h => exact hκ _ P' K'
  | fail =>
    cases hR
    exact plain_fall k (by have : 0 + 7 ≤ k := hk; omega) hP .fail "failed" (.inl ⟨rfl, rfl⟩) κ fun S' P' K' => hκ _ P' K'
  | crash =>
    cases hR
    exact plain_fall k (by have : 0 + 7 ≤ k := hk; omega) hP .crash "crashed" (.inr ⟨rfl, rfl⟩) κ fun S' P' K' => hκ _ P' K'
  | each x b => exact absurd (show ("Call.blocked" : Str) = "Call.plain" from hs) (by decide)
  | ite e a b => exact absurd (show ("Call.blocked" : Str) = "Call.plain" from hs) (by decide)
  | loop e b => exact absurd (show ("Call.blocked" : Str) = "Call.plain" from hs) (by decide)
theorem one_each (told : List Int) (hl : told.length ≤ 1000) (ht : ∀ v ∈ told, InR v) (x : Str) (b : List S1) (ok : (S1.each x b).ok) (hb : BlockP told b) : OneP told (.each x b) := by
  intro m f m' hR F hg k hk S p q r hP κ hκ
  have hk' : bdeep b + 3 + 7 ≤ k := hk
  cases hR with
  | each h1 =>
    have ec := each_of told hl ht x ok.1 b ok.2 hb m f m' h1 F hg
    obtain ⟨k, rfl⟩ := lev 1 (show 1 ≤ k by omega)
    show callAtP T (k + 1) "Call.blocked" [.obj p, (S1.each x b).d] S κ
    conv => whnf
    rw [hP.ob]
    conv => whnf
    refine ec k (by omega) S p q r hP _ fun S' P' K' => ?_
    conv => whnf
    exact hκ _ P' K'
theorem one_ite (told : List Int) (hl : told.length ≤ 1000) (e : Ex) (a b : List S1) (ok : (S1.ite e a b).ok) (ha : BlockP told a) (hb : BlockP told b) : OneP told (.ite e a b) := by
  intro m f m' hR F hg k hk S p q r hP κ hκ
  have ht' : (told.map D.int).length ≤ 1000 := by rw [List.length_map]; exact hl
  have hk' : max e.deep (max (bdeep a) (bdeep b)) + 3 + 7 ≤ k := hk
  obtain ⟨k, rfl⟩ := lev 1 (show 1 ≤ k by omega)
  show callAtP T (k + 1) "Call.blocked" [.obj p, (S1.ite e a b).d] S κ
  conv => whnf
  rw [hP.ob]
  conv => whnf
  refine worth_run e k ok.1 (by omega) S p q r _ m.n (gD m.given) (kvsOf m.σ) m.σ ht' hP.ob hP.vs (kvs_vars _) F.inr _ (fun v hv => ?_) (fun hn v hv => ?_)
  · rw [List.length_map] at hv
    conv => whnf
    rw [getF_at hP.ob (by rfl) (by rfl)]
    conv => whnf
    rw [hP.ob]
    conv => whnf
    cases hR with
    | ite h h1 =>
      rw [hv] at h
      cases h
      refine br_ (fun h0 => ?_) (fun h0 => ?_)
      · have hv0 : v ≠ 0 := by simpa using h0
        rw [if_neg hv0] at h1
        conv => whnf
        refine ha _ _ _ h1 F hg k (by omega) S p q r hP _ fun S' P' K' => ?_
        conv => whnf
        exact hκ _ P' K'
      · have hv0 : v = 0 := by simpa using h0
        rw [if_pos hv0] at h1
        conv => whnf
        refine hb _ _ _ h1 F hg k (by omega) S p q r hP _ fun S' P' K' => ?_
        conv => whnf
        exact hκ _ P' K'
    | ite0 h => rw [hv] at h; cases h
  · rw [List.length_map] at hn
    conv => whnf
    rw [getF_at (hP.fell "zero").ob (by rfl) (by rfl)]
    conv => whnf
    cases hR with
    | ite h h1 => rw [hn] at h; cases h
    | ite0 h => exact hκ _ (hP.fell "zero") Keep.set1
theorem one_loop (told : List Int) (hl : told.length ≤ 1000) (ht : ∀ v ∈ told, InR v) (e : Ex) (b : List S1) (ok : (S1.loop e b).ok) (hb : BlockP told b) : OneP told (.loop e b) := by
  intro m f m' hR F hg k hk S p q r hP κ hκ
  have ht' : (told.map D.int).length ≤ 1000 := by rw [List.length_map]; exact hl
  have hk' : max e.deep (bdeep b) + 3 + 7 ≤ k := hk
  obtain ⟨k, rfl⟩ := lev 1 (show 1 ≤ k by omega)
  show callAtP T (k + 1) "Call.blocked" [.obj p, (S1.loop e b).d] S κ
  conv => whnf
  rw [hP.ob]
  conv => whnf
  refine worth_run e k ok.1 (by omega) S p q r _ m.n (gD m.given) (kvsOf m.σ) m.σ ht' hP.ob hP.vs (kvs_vars _) F.inr _ (fun v hv => ?_) (fun hn v hv => ?_)
  · rw [List.length_map] at hv
    conv => whnf
    rw [hP.ob]
    conv => whnf
    cases hR with
    | loop h h1 =>
      rw [hv] at h
      cases h
      refine again_of told hl ht e ok.1 b ok.2 hb v _ _ _ h1 F hg k (by omega) S p q r hP _ fun S' P' K' => ?_
      conv => whnf
      exact hκ _ P' K'
    | loop0 h => rw [hv] at h; cases h
  · rw [List.length_map] at hn
    have hz := hP.fell "zero"
    conv => whnf
    rw [hz.ob]
    conv => whnf
    refine again_fell k (by omega) (by decide) hz v _ _ _ ?_
    conv => whnf
    cases hR with
    | loop h h1 => rw [hn] at h; cases h
    | loop0 h => exact hκ _ hz Keep.set1
mutual
theorem oneP (told : List Int) (hl : told.length ≤ 1000) (ht : ∀ v ∈ told, InR v) : ∀ s : S1, s.ok → OneP told s
  | .set x e, ok => one_plain told hl _ ok rfl
  | .emit a b, ok => one_plain told hl _ ok rfl
  | .give e, ok => one_plain told hl _ ok rfl
  | .fail, ok => one_plain told hl _ ok rfl
  | .crash, ok => one_plain told hl _ ok rfl
  | .each x b, ok => one_each told hl ht x b ok (block_of told hl ht b ok.2 (onesP told hl ht b ok.2))
  | .ite e a b, ok => one_ite told hl e a b ok (block_of told hl ht a ok.2.1 (onesP told hl ht a ok.2.1)) (block_of told hl ht b ok.2.2 (onesP told hl ht b ok.2.2))
  | .loop e b, ok => one_loop told hl ht e b ok (block_of told hl ht b ok.2 (onesP told hl ht b ok.2))
theorem onesP (told : List Int) (hl : told.length ≤ 1000) (ht : ∀ v ∈ told, InR v) : ∀ b : List S1, bok b → ∀ s ∈ b, OneP told s
  | [], ok, s, h => by cases h
  | t :: r, ok, s, h => by
    have h1 := oneP told hl ht t ok.1
    have h2 := onesP told hl ht r ok.2
    rcases List.mem_cons.mp h with e | h
    · rw [e]; exact h1
    · exact h2 s h
end
theorem blockP (told : List Int) (hl : told.length ≤ 1000) (ht : ∀ v ∈ told, InR v) (b : List S1) (ok : bok b) : BlockP told b := block_of told hl ht b ok (onesP told hl ht b ok)
end

section
open PySem L2 DL DLL
set_option maxHeartbeats 0
set_option linter.unusedVariables false
theorem get_put (kvs : List (DK × D)) (k : DK) (v : D) : dGet (dPut kvs k v) k = some v := by
  unfold dPut
  by_cases h : (kvs.any fun kv => decide (kv.1 = k)) = true
  · rw [if_pos h]
    unfold dGet
    induction kvs with
    | nil => cases h
    | cons p r ih =>
      rw [List.map_cons, List.find?_cons]
      by_cases e : p.1 = k
      · simp [e]
      · simp only [e, if_false, decide_false]
        rw [List.any_cons] at h
        simp only [e, decide_false, Bool.false_or] at h
        exact ih h
  · rw [if_neg h]
    unfold dGet
    rw [List.find?_append]
    have : kvs.find? (fun kv => decide (kv.1 = k)) = none := by
      rw [List.find?_eq_none]
      intro x hx he
      exact h (List.any_eq_true.mpr ⟨x, hx, he⟩)
    rw [this]
    simp
theorem get_put_ne (kvs : List (DK × D)) {k k' : DK} (v : D) (hne : k ≠ k') : dGet (dPut kvs k v) k' = dGet kvs k' := by
  unfold dPut
  split
  · rename_i h
    clear h
    unfold dGet
    induction kvs with
    | nil => rfl
    | cons p r ih =>
      rw [List.map_cons, List.find?_cons, List.find?_cons]
      by_cases e : p.1 = k
      · have e2 : ¬ p.1 = k' := fun z => hne (e.symm.trans z)
        simp only [e, if_true, hne, decide_false]
        exact ih
      · simp only [e, if_false]
        by_cases e2 : p.1 = k'
        · simp [e2]
        · simp only [e2, decide_false]
          exact ih
  · unfold dGet
    rw [List.find?_append]
    cases kvs.find? (fun kv => decide (kv.1 = k')) with
    | some x => rfl
    | none => simp [hne]
theorem put_fit {kvs : List (DK × D)} {x : Str} {v : D} (h : ∀ y : Str, dFit kvs (.inl (.inr y)) = true) (y : Str) : dFit (dPut kvs (.inl (.inr x)) v) (.inl (.inr y)) = true := by
  have h1 := h y
  unfold dFit at h1 ⊢
  rw [List.all_eq_true] at h1 ⊢
  unfold dPut
  split
  · intro p hp
    obtain ⟨q, hq, rfl⟩ := List.mem_map.mp hp
    have := h1 q hq
    split <;> exact this
  · intro p hp
    rcases List.mem_append.mp hp with hp | hp
    · exact h1 p hp
    · rw [List.mem_singleton.mp hp]; rfl
theorem put_len (kvs : List (DK × D)) (k : DK) (v : D) : (dPut kvs k v).length ≤ kvs.length + 1 := by
  unfold dPut
  split
  · rw [List.length_map]; omega
  · rw [List.length_append]; exact Nat.le_refl _
theorem Vars.put {kvs : List (DK × D)} {σ : Str → Int} (h : Vars kvs σ false) (x : Str) (v : Int) : Vars (dPut kvs (.inl (.inr x)) (.int v)) (upS σ x v) false := ⟨put_fit h.fit, fun y hy => by
  by_cases e : y = x
  · subst e
    refine .inl ?_
    rw [get_put]
    simp [upS]
  · rw [get_put_ne _ _ (by simp; exact fun z => e z.symm)]
    have := h.got y hy
    rw [show upS σ x v y = σ y from if_neg e]
    exact this⟩
structure LAt (S : Store) (d l r : Nat) (m : Ms) (c : Nat) : Prop where
  vs : ∃ kvs, S[d]? = some (.dct kvs) ∧ Vars kvs m.σ false ∧ kvs.length ≤ m.n + c
  lg : S[l]? = some (.lst [.int m.n, .obj r, gD m.given])
  rs : S[r]? = some (.lst (m.recs.map recD))
  dl : d ≠ l
  dr : d ≠ r
  lr : l ≠ r
def Fi.e : Fi → Str
  | .ok => ""
  | .gave => "gave"
  | .fell w => w
theorem LAt.lg_ {S : Store} {d l r : Nat} {m : Ms} {c c' : Nat} (h : LAt S d l r m c) (n : Nat) (g : Option Int) (hc : m.n + c ≤ n + c') : LAt (S.set l (.lst [.int n, .obj r, gD g])) d l r { m with n := n, given := g } c' := by
  obtain ⟨kvs, h1, h2, h3⟩ := h.vs
  exact ⟨⟨kvs, by rw [set_ne (Ne.symm h.dl)]; exact h1, h2, Nat.le_trans h3 hc⟩, set_get h.lg, by rw [set_ne h.lr]; exact h.rs, h.dl, h.dr, h.lr⟩
theorem LAt.rs_ {S : Store} {d l r : Nat} {m : Ms} {c : Nat} (h : LAt S d l r m c) (x : List (Int × Int)) : LAt (S.set r (.lst (x.map recD))) d l r { m with recs := x } c := by
  obtain ⟨kvs, h1, h2, h3⟩ := h.vs
  exact ⟨⟨kvs, by rw [set_ne (Ne.symm h.dr)]; exact h1, h2, h3⟩, by rw [set_ne (Ne.symm h.lr)]; exact h.lg, set_get h.rs, h.dl, h.dr, h.lr⟩
theorem LAt.vs_ {S : Store} {d l r : Nat} {m : Ms} {c : Nat} (h : LAt S d l r m c) {kvs : List (DK × D)} (h1 : S[d]? = some (.dct kvs)) (h2 : Vars kvs m.σ false) (h3 : kvs.length ≤ m.n + c) (x : Str) (v : Int) : LAt (S.set d (.dct (dPut kvs (.inl (.inr x)) (.int v)))) d l r { m with σ := upS m.σ x v } (c + 1) :=
  ⟨⟨_, set_get h1, h2.put x v, by have := put_len kvs (.inl (.inr x)) (.int v); show _ ≤ m.n + (c + 1); omega⟩, by rw [set_ne h.dl]; exact h.lg, by rw [set_ne h.dr]; exact h.rs, h.dl, h.dr, h.lr⟩
theorem LAt.more {S : Store} {d l r : Nat} {m : Ms} {c c' : Nat} (h : LAt S d l r m c) (hc : c ≤ c') : LAt S d l r m c' := by
  obtain ⟨kvs, h1, h2, h3⟩ := h.vs
  exact ⟨⟨kvs, h1, h2, by omega⟩, h.lg, h.rs, h.dl, h.dr, h.lr⟩
def stD (d : Nat) (told : List Int) : D := .tup [.obj d, .tup (told.map D.int)]
def LBlockP (told : List Int) (b : List S1) : Prop := ∀ m f m', Run told (.blk b) m f m' → Fine m → m.given = none → ∀ k, bdeep b + 8 ≤ k → ∀ S d l r, LAt S d l r m 4 → ∀ κ : R D → Store → Prop,
  (∀ S', LAt S' d l r m' 4 → Keep S S' d l r → κ (.v (.str f.e)) S') → callAtP T k "_law_do" [.tup (bd b), stD d told, .obj l] S κ
def LOneP (told : List Int) (s : S1) : Prop := ∀ m f m', Run told (.one s) m f m' → Fine m → m.given = none → ∀ k, s.deep + 7 ≤ k → ∀ S d l r, LAt S d l r m 3 → ∀ κ : R D → Store → Prop,
  (∀ S', LAt S' d l r m' 4 → Keep S S' d l r → κ (.v (.str f.e)) S') → callAtP T k "_law_statement_done" [s.d, stD d told, .obj l] S κ
theorem Fi.e_ok {f : Fi} {m m' : Ms} (P : Post f m m') : f.e = "" ↔ f = .ok := by
  cases f with
  | ok => exact ⟨fun _ => rfl, fun _ => rfl⟩
  | gave => exact ⟨fun h => absurd (show ("gave" : Str) = "" from h) (by decide), fun h => by cases h⟩
  | fell w => exact ⟨fun h => absurd (show w = "" from h) P.2.2, fun h => by cases h⟩
theorem at0 (n : Int) (a b : D) : atI [.int n, a, b] 0 = some (.int n) := rfl
theorem lblock_of (told : List Int) (hl : told.length ≤ 1000) (ht : ∀ v ∈ told, InR v) (b : List S1) (ok : bok b) (ones : ∀ s ∈ b, LOneP told s) : LBlockP told b := by
  intro m f m' hR F hg k hk S d l r hP κ hκ
  obtain ⟨k, rfl⟩ := lev 1 (show 1 ≤ k by omega)
  conv => whnf
  refine forVX (xs := bd b) (fun S i => rfl) (fun S => rfl) (fun i η S1 => ∃ t u : Option D, η = [some (.tup (bd b)), some (stD d told), some (.obj l), t, u] ∧ Keep S S1 d l r ∧ ∃ m1, Fine m1 ∧ m1.given = none ∧ LAt S1 d l r m1 4 ∧ Run told (.blk (b.drop i)) m1 f m')
    (fun o S1 => o = .rt (.str f.e) ∧ LAt S1 d l r m' 4 ∧ Keep S S1 d l r) ⟨none, none, rfl, Keep.refl, m, F, hg, hP, by rw [List.drop_zero]; exact hR⟩ (fun i y η S1 K hd hI hK hC hE => ?_) (fun o S1 h => ?_) (fun η S1 hI => ?_)
  · obtain ⟨t, u, rfl, kp, m1, F1, g1, P1, R1⟩ := hI
    rw [bd_map, List.getElem?_map] at hd
    obtain ⟨s, hs, rfl⟩ : ∃ s, b[i]? = some s ∧ s.d = y := by
      cases q : b[i]? with
      | none => rw [q] at hd; cases hd
      | some s => rw [q] at hd; exact ⟨s, rfl, by cases hd; rfl⟩
    have hm : s ∈ b := List.mem_of_getElem? hs
    have hdr : b.drop i = s :: b.drop (i + 1) := by
      obtain ⟨hi, e⟩ := List.getElem?_eq_some_iff.mp hs
      rw [List.drop_eq_getElem_cons hi, e]
    rw [hdr] at R1
    have one := ones s hm
    have hdeep := bdeep_mem hm
    conv => whnf
    rw [dIx_lst P1.lg (at0 _ _ _)]
    conv => whnf
    refine br_ (fun e => ?_) (fun e => ?_)
    · have e' : m1.n = 100 := by have := of_decide_eq_true e; omega
      conv => whnf
      cases R1 with
      | tired h => exact hE _ _ ⟨rfl, P1, kp⟩
      | more h _ _ => omega
      | ends h _ _ => omega
    · have e' : m1.n < 100 := by have := of_decide_eq_false e; have := F1.n; omega
      have fin : ∃ f1 m2, Run told (.one s) { m1 with n := m1.n + 1 } f1 m2 ∧ ((f1 = .ok ∧ Run told (.blk (b.drop (i + 1))) m2 f m') ∨ (f1 ≠ .ok ∧ f = f1 ∧ m' = m2)) := by
        cases R1 with
        | tired h => omega
        | more h h1 h2 => exact ⟨_, _, h1, .inl ⟨rfl, h2⟩⟩
        | ends h h1 hf => exact ⟨_, _, h1, .inr ⟨hf, rfl, rfl⟩⟩
      obtain ⟨f1, m2, h1, h2⟩ := fin
      have F1' : Fine { m1 with n := m1.n + 1 } := F1.up (by omega)
      obtain ⟨F2, Po⟩ := run_post hl ht h1 (bok_mem ok s hm) F1'
      conv => whnf
      rw [dIx_lst P1.lg (at0 _ _ _)]
      conv => whnf
      rw [dSet_lst P1.lg (j := 0) (by rfl)]
      have P2 : LAt (S1.set l (.lst [.int ((m1.n : Int) + 1), .obj r, gD m1.given])) d l r { m1 with n := m1.n + 1 } 3 := P1.lg_ (m1.n + 1) m1.given (by omega)
      have K2 : Keep S1 (S1.set l (.lst [.int ((m1.n : Int) + 1), .obj r, gD m1.given])) d l r := Keep.set2
      have es : ([D.int m1.n, D.obj r, gD m1.given] : List D).set 0 (.int ((m1.n : Int) + 1)) = [.int ((m1.n : Int) + 1), .obj r, gD m1.given] := rfl
      rw [es]
      generalize S1.set l (.lst [.int ((m1.n : Int) + 1), .obj r, gD m1.given]) = S2 at P2 K2 ⊢
      conv => whnf
      refine one _ _ _ h1 F1' g1 k (by omega) S2 d l r P2 _ fun S3 P3 K3 => ?_
      conv => whnf
      rcases h2 with ⟨rfl, h2⟩ | ⟨hf, rfl, rfl⟩
      · conv => whnf
        exact hK _ _ ⟨_, _, rfl, (kp.trans K2).trans K3, m2, F2, Po.2.trans g1, P3, h2⟩
      · have ne : f.e ≠ "" := fun z => hf ((Fi.e_ok Po).mp z)
        refine br_t (by simpa using ne) ?_
        conv => whnf
        exact hE _ _ ⟨rfl, P3, (kp.trans K2).trans K3⟩
  · obtain ⟨rfl, P1, kp⟩ := h
    conv => whnf
    exact hκ _ P1 kp
  · obtain ⟨t, u, rfl, kp, m1, F1, g1, P1, R1⟩ := hI
    have hlen : b.drop (bd b).length = [] := by rw [bd_map, List.length_map, List.drop_length]
    rw [hlen] at R1
    cases R1
    conv => whnf
    exact hκ _ P1 kp
end

section
open PySem L2 DL DLL
set_option maxHeartbeats 0
set_option linter.unusedVariables false
def eachD (x : Str) (b : List S1) : D := (S1.each x b).d
def loopD (e : Ex) (b : List S1) : D := (S1.loop e b).d
theorem set0_lst (n n' : Int) (a b : D) : ([D.int n, a, b] : List D).set 0 (.int n') = [.int n', a, b] := rfl
theorem leach_of (told : List Int) (hl : told.length ≤ 1000) (ht : ∀ v ∈ told, InR v) (x : Str) (hx : x ∈ letters) (b : List S1) (ok : bok b) (hb : LBlockP told b) :
    ∀ m f m', Run told (.ea x b told) m f m' → Fine m → m.given = none → ∀ k, bdeep b + 9 ≤ k → ∀ S d l r, LAt S d l r m 4 → ∀ κ : R D → Store → Prop,
      (∀ S', LAt S' d l r m' 4 → Keep S S' d l r → κ (.v (.str f.e)) S') → callAtP T k "_law_each" [(eachD x b), stD d told, .obj l] S κ := by
  intro m f m' hR F hg k hk S d l r hP κ hκ
  obtain ⟨k, rfl⟩ := lev 1 (show 1 ≤ k by omega)
  conv => whnf
  refine forVX (xs := told.map D.int) (fun S i => rfl) (fun S => rfl) (fun i η S1 => ∃ t u : Option D, η = [some (eachD x b), some (stD d told), some (.obj l), t, u] ∧ Keep S S1 d l r ∧ ∃ m1, Fine m1 ∧ m1.given = none ∧ LAt S1 d l r m1 4 ∧ Run told (.ea x b (told.drop i)) m1 f m')
    (fun o S1 => o = .rt (.str f.e) ∧ LAt S1 d l r m' 4 ∧ Keep S S1 d l r) ⟨none, none, rfl, Keep.refl, m, F, hg, hP, by rw [List.drop_zero]; exact hR⟩ (fun i y η S1 K hd hI hK hC hE => ?_) (fun o S1 h => ?_) (fun η S1 hI => ?_)
  · obtain ⟨t, u, rfl, kp, m1, F1, g1, P1, R1⟩ := hI
    rw [List.getElem?_map] at hd
    obtain ⟨v, hs, rfl⟩ : ∃ v, told[i]? = some v ∧ D.int v = y := by
      cases q : told[i]? with
      | none => rw [q] at hd; cases hd
      | some s => rw [q] at hd; exact ⟨s, rfl, by cases hd; rfl⟩
    have hm : v ∈ told := List.mem_of_getElem? hs
    have hdr : told.drop i = v :: told.drop (i + 1) := by
      obtain ⟨hi, e⟩ := List.getElem?_eq_some_iff.mp hs
      rw [List.drop_eq_getElem_cons hi, e]
    rw [hdr] at R1
    conv => whnf
    rw [dIx_lst P1.lg (at0 _ _ _)]
    conv => whnf
    refine br_ (fun e => ?_) (fun e => ?_)
    · have e' : m1.n = 100 := by have := of_decide_eq_true e; omega
      conv => whnf
      cases R1 with
      | eaT h => exact hE _ _ ⟨rfl, P1, kp⟩
      | eaE h _ _ => omega
      | eaM h _ _ => omega
    · have e' : m1.n < 100 := by have := of_decide_eq_false e; have := F1.n; omega
      have fin : ∃ f1 m2, Run told (.blk b) { m1 with n := m1.n + 1, σ := upS m1.σ x v } f1 m2 ∧ ((f1 = .ok ∧ Run told (.ea x b (told.drop (i + 1))) m2 f m') ∨ (f1 ≠ .ok ∧ f = f1 ∧ m' = m2)) := by
        cases R1 with
        | eaT h => omega
        | eaM h h1 h2 => exact ⟨_, _, h1, .inl ⟨rfl, h2⟩⟩
        | eaE h h1 hf => exact ⟨_, _, h1, .inr ⟨hf, rfl, rfl⟩⟩
      obtain ⟨f1, m2, h1, h2⟩ := fin
      have F1' : Fine { m1 with n := m1.n + 1, σ := upS m1.σ x v } := (F1.var (ht v hm)).up (by omega)
      obtain ⟨F2, Po⟩ := run_post hl ht h1 ok F1'
      conv => whnf
      rw [dIx_lst P1.lg (at0 _ _ _)]
      conv => whnf
      rw [dSet_lst P1.lg (j := 0) (by rfl), set0_lst]
      have P2 : LAt (S1.set l (.lst [.int ((m1.n : Int) + 1), .obj r, gD m1.given])) d l r { m1 with n := m1.n + 1 } 3 := P1.lg_ (m1.n + 1) m1.given (by omega)
      have K2 : Keep S1 (S1.set l (.lst [.int ((m1.n : Int) + 1), .obj r, gD m1.given])) d l r := Keep.set2
      generalize S1.set l (.lst [.int ((m1.n : Int) + 1), .obj r, gD m1.given]) = S2 at P2 K2 ⊢
      obtain ⟨kvs, v1, v2, v3⟩ := P2.vs
      have P3 := P2.vs_ v1 v2 v3 x v
      have K3 : Keep S2 (S2.set d (.dct (dPut kvs (.inl (.inr x)) (.int v)))) d l r := Keep.set1
      have v3' : kvs.length ≤ (m1.n + 1) + 3 := v3
      conv => whnf
      rw [dSet_dct v1 (v2.fit x) (by rw [sizeLine_eq]; omega)]
      generalize S2.set d (.dct (dPut kvs (.inl (.inr x)) (.int v))) = S3 at P3 K3 ⊢
      conv => whnf
      refine hb _ _ _ h1 F1' g1 k (by omega) S3 d l r P3 _ fun S4 P4 K4 => ?_
      conv => whnf
      rcases h2 with ⟨rfl, h2⟩ | ⟨hf, rfl, rfl⟩
      · conv => whnf
        exact hK _ _ ⟨_, _, rfl, ((kp.trans K2).trans K3).trans K4, m2, F2, Po.2.trans g1, P4, h2⟩
      · have ne : f.e ≠ "" := fun z => hf ((Fi.e_ok Po).mp z)
        refine br_t (by simpa using ne) ?_
        conv => whnf
        exact hE _ _ ⟨rfl, P4, ((kp.trans K2).trans K3).trans K4⟩
  · obtain ⟨rfl, P1, kp⟩ := h
    conv => whnf
    exact hκ _ P1 kp
  · obtain ⟨t, u, rfl, kp, m1, F1, g1, P1, R1⟩ := hI
    have hlen : told.drop (told.map D.int).length = [] := by rw [List.length_map, List.drop_length]
    rw [hlen] at R1
    cases R1
    conv => whnf
    exact hκ _ P1 kp
theorem lwhile_of (told : List Int) (hl : told.length ≤ 1000) (ht : ∀ v ∈ told, InR v) (e : Ex) (he : e.ok) (b : List S1) (ok : bok b) (hb : LBlockP told b) :
    ∀ v m f m', Run told (.wh e b v) m f m' → Fine m → m.given = none → ∀ k, max e.deep (bdeep b) + 9 ≤ k → ∀ S d l r, LAt S d l r m 4 → ∀ κ : R D → Store → Prop,
      (∀ S', LAt S' d l r m' 4 → Keep S S' d l r → κ (.v (.str f.e)) S') → callAtP T k "_law_while" [(loopD e b), .int v, stD d told, .obj l] S κ := by
  intro v m f m' hR F hg k hk S d l r hP κ hκ
  obtain ⟨k, rfl⟩ := lev 1 (show 1 ≤ k by omega)
  have ht' : (told.map D.int).length ≤ 1000 := by rw [List.length_map]; exact hl
  conv => whnf
  refine forPX (fun i η S1 => ∃ (t u : Option D) (v1 : Int), η = [some (loopD e b), some (.int v1), some (stD d told), some (.obj l), t, u] ∧ Keep S S1 d l r ∧ ∃ m1, Fine m1 ∧ m1.given = none ∧ LAt S1 d l r m1 4 ∧ Run told (.wh e b v1) m1 f m' ∧ m.n + i ≤ m1.n)
    (fun o S1 => o = .rt (.str f.e) ∧ LAt S1 d l r m' 4 ∧ Keep S S1 d l r) ⟨none, none, v, rfl, Keep.refl, m, F, hg, hP, hR, Nat.le_refl _⟩ (fun i y η S1 K hd hI hK hC hE => ?_) (fun o S1 h => ?_) (fun η S1 hI => ?_)
  · obtain ⟨t, u, v1, rfl, kp, m1, F1, g1, P1, R1, hn⟩ := hI
    conv => whnf
    refine br_ (fun h0 => ?_) (fun h0 => ?_)
    · have hv : v1 = 0 := of_decide_eq_true h0
      subst hv
      conv => whnf
      cases R1 with
      | wh0 => exact hE _ _ ⟨rfl, P1, kp⟩
      | whE hv _ _ => exact absurd rfl hv
      | whT hv _ _ => exact absurd rfl hv
      | whZ hv _ _ _ => exact absurd rfl hv
      | whM hv _ _ _ _ => exact absurd rfl hv
    · have hv : v1 ≠ 0 := of_decide_eq_false h0
      have main : ∃ f1 m2, Run told (.blk b) m1 f1 m2 ∧ ((f1 ≠ .ok ∧ f = f1 ∧ m' = m2) ∨ (f1 = .ok ∧ ((m2.n = 100 ∧ f = .fell "tired" ∧ m' = m2) ∨ (m2.n < 100 ∧ ((worth m2.σ told.length e = none ∧ f = .fell "zero" ∧ m' = { m2 with n := m2.n + 1 }) ∨ ∃ v2, worth m2.σ told.length e = some v2 ∧ Run told (.wh e b v2) { m2 with n := m2.n + 1 } f m'))))) := by
        cases R1 with
        | wh0 => exact absurd rfl hv
        | whE hv h1 hf => exact ⟨_, _, h1, .inl ⟨hf, rfl, rfl⟩⟩
        | whT hv h1 h => exact ⟨_, _, h1, .inr ⟨rfl, .inl ⟨h, rfl, rfl⟩⟩⟩
        | whZ hv h1 h h2 => exact ⟨_, _, h1, .inr ⟨rfl, .inr ⟨h, .inl ⟨h2, rfl, rfl⟩⟩⟩⟩
        | whM hv h1 h h2 h3 => exact ⟨_, _, h1, .inr ⟨rfl, .inr ⟨h, .inr ⟨_, h2, h3⟩⟩⟩⟩
      obtain ⟨f1, m2, h1, h2⟩ := main
      obtain ⟨F2, Po⟩ := run_post hl ht h1 ok F1
      conv => whnf
      refine hb _ _ _ h1 F1 g1 k (by omega) S1 d l r P1 _ fun S2 P2 K2 => ?_
      conv => whnf
      rcases h2 with ⟨hf, rfl, rfl⟩ | ⟨rfl, h2⟩
      · have ne : f.e ≠ "" := fun z => hf ((Fi.e_ok Po).mp z)
        refine br_t (by simpa using ne) ?_
        conv => whnf
        exact hE _ _ ⟨rfl, P2, kp.trans K2⟩
      · have g2 : m2.given = none := Po.2.trans g1
        conv => whnf
        rw [dIx_lst P2.lg (at0 _ _ _)]
        conv => whnf
        refine br_ (fun h3 => ?_) (fun h3 => ?_)
        · have h3' : m2.n = 100 := by have := of_decide_eq_true h3; omega
          conv => whnf
          rcases h2 with ⟨h, rfl, rfl⟩ | ⟨h, _⟩
          · exact hE _ _ ⟨rfl, P2, kp.trans K2⟩
          · omega
        · have h3' : m2.n < 100 := by have := of_decide_eq_false h3; have := F2.n; omega
          rcases h2 with ⟨h, _, _⟩ | ⟨h, h2⟩
          · omega
          · conv => whnf
            rw [dIx_lst P2.lg (at0 _ _ _)]
            conv => whnf
            rw [dSet_lst P2.lg (j := 0) (by rfl), set0_lst]
            have P3 : LAt (S2.set l (.lst [.int ((m2.n : Int) + 1), .obj r, gD m2.given])) d l r { m2 with n := m2.n + 1 } 4 := P2.lg_ (m2.n + 1) m2.given (by omega)
            have K3 : Keep S2 (S2.set l (.lst [.int ((m2.n : Int) + 1), .obj r, gD m2.given])) d l r := Keep.set2
            generalize S2.set l (.lst [.int ((m2.n : Int) + 1), .obj r, gD m2.given]) = S3 at P3 K3 ⊢
            obtain ⟨kvs, w1, w2, w3⟩ := P3.vs
            conv => whnf
            refine lworth e k he (by omega) S3 d (told.map D.int) kvs m2.σ ht' w1 w2 F2.inr _ (fun v2 hv2 => ?_) (fun hn3 => ?_)
            · rw [List.length_map] at hv2
              conv => whnf
              rcases h2 with ⟨h2, _, _⟩ | ⟨v3, h2, h4⟩
              · rw [h2] at hv2; cases hv2
              · rw [hv2] at h2
                cases h2
                exact hK _ _ ⟨_, _, v2, rfl, (kp.trans K2).trans K3, { m2 with n := m2.n + 1 }, F2.up (by omega), g2, P3, h4, by have := Po.1; show _ ≤ m2.n + 1; omega⟩
            · rw [List.length_map] at hn3
              conv => whnf
              rcases h2 with ⟨_, rfl, rfl⟩ | ⟨v3, h2, _⟩
              · exact hE _ _ ⟨rfl, P3, (kp.trans K2).trans K3⟩
              · rw [hn3] at h2; cases h2
  · obtain ⟨rfl, P1, kp⟩ := h
    conv => whnf
    exact hκ _ P1 kp
  · obtain ⟨t, u, v1, rfl, kp, m1, F1, g1, P1, R1, hn⟩ := hI
    have : (List.map (fun i => D.int (0 + (i : Nat) * 1)) (List.range (101 - 0 : Int).toNat)).length = 101 := by rw [List.length_map, List.length_range]; rfl
    have h1 := F1.n
    exfalso
    rw [this] at hn
    omega
end

section
open PySem L2 DL DLL
set_option maxHeartbeats 0
set_option linter.unusedVariables false
theorem at1 (n : D) (a b : D) : atI [n, a, b] 1 = some a := rfl
theorem lone_of (told : List Int) (hl : told.length ≤ 1000) (ht : ∀ v ∈ told, InR v) (s : S1) (ok : s.ok) (sub : match s with | .each _ b => LBlockP told b | .ite _ a b => LBlockP told a ∧ LBlockP told b | .loop _ b => LBlockP told b | _ => True) : LOneP told s := by
  intro m f m' hR F hg k hk S d l r hP κ hκ
  have ht' : (told.map D.int).length ≤ 1000 := by rw [List.length_map]; exact hl
  obtain ⟨kvs, w1, w2, w3⟩ := hP.vs
  cases s with
  | fail =>
    cases hR
    obtain ⟨k, rfl⟩ := lev 2 (show 2 ≤ k by have : 0 + 7 ≤ k := hk; omega)
    show callAtP T (k + 2) "_law_statement_done" [.tup [.str "fail"], stD d told, .obj l] S κ
    conv => whnf
    exact hκ _ (hP.more (by omega)) Keep.refl
  | crash =>
    cases hR
    obtain ⟨k, rfl⟩ := lev 2 (show 2 ≤ k by have : 0 + 7 ≤ k := hk; omega)
    show callAtP T (k + 2) "_law_statement_done" [.tup [.str "crash"], stD d told, .obj l] S κ
    conv => whnf
    exact hκ _ (hP.more (by omega)) Keep.refl
  | each x b =>
    have hk' : bdeep b + 3 + 7 ≤ k := hk
    cases hR with
    | each h1 =>
      have ec := leach_of told hl ht x ok.1 b ok.2 sub m f m' h1 F hg
      obtain ⟨k, rfl⟩ := lev 1 (show 1 ≤ k by omega)
      show callAtP T (k + 1) "_law_statement_done" [.tup [.str "each", .str x, .tup (bd b)], stD d told, .obj l] S κ
      conv => whnf
      refine ec k (by omega) S d l r (hP.more (by omega)) _ fun S' P' K' => ?_
      conv => whnf
      exact hκ _ P' K'
  | set x e =>
    have hk' : e.deep + 7 ≤ k := hk
    obtain ⟨k, rfl⟩ := lev 1 (show 1 ≤ k by omega)
    show callAtP T (k + 1) "_law_statement_done" [.tup [.str "set", .str x, e.d], stD d told, .obj l] S κ
    conv => whnf
    refine lworth e k ok.2 (by omega) S d (told.map D.int) kvs m.σ ht' w1 w2 F.inr _ (fun v hv => ?_) (fun hn => ?_)
    · rw [List.length_map] at hv
      conv => whnf
      rw [dSet_dct w1 (w2.fit x) (by have := F.n; rw [sizeLine_eq]; omega)]
      have P3 := hP.vs_ w1 w2 w3 x v
      have K3 : Keep S (S.set d (.dct (dPut kvs (.inl (.inr x)) (.int v)))) d l r := Keep.set1
      generalize S.set d (.dct (dPut kvs (.inl (.inr x)) (.int v))) = S3 at P3 K3 ⊢
      conv => whnf
      cases hR with
      | set h => rw [hv] at h; cases h; exact hκ _ P3 K3
      | set0 h => rw [hv] at h; cases h
    · rw [List.length_map] at hn
      conv => whnf
      cases hR with
      | set h => rw [hn] at h; cases h
      | set0 h => exact hκ _ (hP.more (by omega)) Keep.refl
  | give e =>
    have hk' : e.deep + 7 ≤ k := hk
    obtain ⟨k, rfl⟩ := lev 1 (show 1 ≤ k by omega)
    show callAtP T (k + 1) "_law_statement_done" [.tup [.str "give", e.d], stD d told, .obj l] S κ
    conv => whnf
    refine lworth e k ok (by omega) S d (told.map D.int) kvs m.σ ht' w1 w2 F.inr _ (fun v hv => ?_) (fun hn => ?_)
    · rw [List.length_map] at hv
      conv => whnf
      rw [dSet_lst hP.lg (j := 2) (by rfl)]
      have es : ([D.int m.n, D.obj r, gD m.given] : List D).set 2 (.int v) = [D.int m.n, D.obj r, gD (some v)] := rfl
      rw [es]
      have P3 : LAt (S.set l (.lst [D.int m.n, D.obj r, gD (some v)])) d l r { m with given := some v } 4 := hP.lg_ m.n (some v) (by omega)
      have K3 : Keep S (S.set l (.lst [D.int m.n, D.obj r, gD (some v)])) d l r := Keep.set2
      generalize S.set l (.lst [D.int m.n, D.obj r, gD (some v)]) = S3 at P3 K3 ⊢
      conv => whnf
      cases hR with
      | give h => rw [hv] at h; cases h; exact hκ _ P3 K3
      | give0 h => rw [hv] at h; cases h
    · rw [List.length_map] at hn
      conv => whnf
      cases hR with
      | give h => rw [hn] at h; cases h
      | give0 h => exact hκ _ (hP.more (by omega)) Keep.refl
  | emit a b =>
    have hk' : max a.deep b.deep + 7 ≤ k := hk
    obtain ⟨k, rfl⟩ := lev 1 (show 1 ≤ k by omega)
    show callAtP T (k + 1) "_law_statement_done" [.tup [.str "emit", a.d, b.d], stD d told, .obj l] S κ
    conv => whnf
    refine lworth a k ok.1 (by omega) S d (told.map D.int) kvs m.σ ht' w1 w2 F.inr _ (fun v hv => ?_) (fun hn => ?_)
    · rw [List.length_map] at hv
      conv => whnf
      refine lworth b k ok.2 (by omega) S d (told.map D.int) kvs m.σ ht' w1 w2 F.inr _ (fun w hw => ?_) (fun hn => ?_)
      · rw [List.length_map] at hw
        conv => whnf
        rw [dIx_lst hP.lg (at1 _ _ _)]
        conv => whnf
        rw [len_lst hP.rs]
        conv => whnf
        refine br_ (fun e => ?_) (fun e => ?_)
        · have e' : m.recs.length = 6 := by have := of_decide_eq_true e; rw [List.length_map] at this; omega
          conv => whnf
          cases hR with
          | emit h h2 h3 => omega
          | much h h2 h3 => exact hκ _ (hP.more (by omega)) Keep.refl
          | emit0 h => rw [hv, hw] at h; rcases h with h | h <;> cases h
        · have e' : m.recs.length < 6 := by have := of_decide_eq_false e; rw [List.length_map] at this; have := F.few; omega
          conv => whnf
          rw [dIx_lst hP.lg (at1 _ _ _)]
          conv => whnf
          rw [hP.rs]
          conv => whnf
          rw [bTag_lst hP.rs]
          conv => whnf
          rw [append_lst hP.rs (by rw [List.length_map, sizeLine_eq]; omega)]
          have er : m.recs.map recD ++ [D.tup [D.int v, D.int w]] = (m.recs ++ [(v, w)]).map recD := by rw [List.map_append]; rfl
          rw [er]
          have P3 := (hP.more (show 3 ≤ 4 by omega)).rs_ (m.recs ++ [(v, w)])
          have K3 : Keep S (S.set r (.lst ((m.recs ++ [(v, w)]).map recD))) d l r := Keep.set3
          generalize S.set r (.lst ((m.recs ++ [(v, w)]).map recD)) = S3 at P3 K3 ⊢
          conv => whnf
          cases hR with
          | emit h h2 h3 => rw [hv] at h; rw [hw] at h2; cases h; cases h2; exact hκ _ P3 K3
          | much h h2 h3 => omega
          | emit0 h => rw [hv, hw] at h; rcases h with h | h <;> cases h
      · rw [List.length_map] at hn
        conv => whnf
        cases hR with
        | emit h h2 h3 => rw [hn] at h2; cases h2
        | much h h2 h3 => rw [hn] at h2; cases h2
        | emit0 h => exact hκ _ (hP.more (by omega)) Keep.refl
    · rw [List.length_map] at hn
      conv => whnf
      cases hR with
      | emit h h2 h3 => rw [hn] at h; cases h
      | much h h2 h3 => rw [hn] at h; cases h
      | emit0 h => exact hκ _ (hP.more (by omega)) Keep.refl
  | ite e a b =>
    have hk' : max e.deep (max (bdeep a) (bdeep b)) + 3 + 7 ≤ k := hk
    obtain ⟨k, rfl⟩ := lev 1 (show 1 ≤ k by omega)
    show callAtP T (k + 1) "_law_statement_done" [.tup [.str "if", e.d, .tup (bd a), .tup (bd b)], stD d told, .obj l] S κ
    conv => whnf
    refine lworth e k ok.1 (by omega) S d (told.map D.int) kvs m.σ ht' w1 w2 F.inr _ (fun v hv => ?_) (fun hn => ?_)
    · rw [List.length_map] at hv
      conv => whnf
      cases hR with
      | ite h h1 =>
        rw [hv] at h
        cases h
        refine br_ (fun h0 => ?_) (fun h0 => ?_)
        · have hv0 : v ≠ 0 := by simpa using h0
          rw [if_neg hv0] at h1
          conv => whnf
          refine sub.1 _ _ _ h1 F hg k (by omega) S d l r (hP.more (by omega)) _ fun S' P' K' => ?_
          conv => whnf
          exact hκ _ P' K'
        · have hv0 : v = 0 := by simpa using h0
          rw [if_pos hv0] at h1
          conv => whnf
          refine sub.2 _ _ _ h1 F hg k (by omega) S d l r (hP.more (by omega)) _ fun S' P' K' => ?_
          conv => whnf
          exact hκ _ P' K'
      | ite0 h => rw [hv] at h; cases h
    · rw [List.length_map] at hn
      conv => whnf
      cases hR with
      | ite h h1 => rw [hn] at h; cases h
      | ite0 h => exact hκ _ (hP.more (by omega)) Keep.refl
  | loop e b =>
    have hk' : max e.deep (bdeep b) + 3 + 7 ≤ k := hk
    obtain ⟨k, rfl⟩ := lev 1 (show 1 ≤ k by omega)
    show callAtP T (k + 1) "_law_statement_done" [.tup [.str "while", e.d, .tup (bd b)], stD d told, .obj l] S κ
    conv => whnf
    refine lworth e k ok.1 (by omega) S d (told.map D.int) kvs m.σ ht' w1 w2 F.inr _ (fun v hv => ?_) (fun hn => ?_)
    · rw [List.length_map] at hv
      conv => whnf
      cases hR with
      | loop h h1 =>
        rw [hv] at h
        cases h
        refine lwhile_of told hl ht e ok.1 b ok.2 sub v _ _ _ h1 F hg k (by omega) S d l r (hP.more (by omega)) _ fun S' P' K' => ?_
        conv => whnf
        exact hκ _ P' K'
      | loop0 h => rw [hv] at h; cases h
    · rw [List.length_map] at hn
      conv => whnf
      cases hR with
      | loop h h1 => rw [hn] at h; cases h
      | loop0 h => exact hκ _ (hP.more (by omega)) Keep.refl
mutual
theorem loneP (told : List Int) (hl : told.length ≤ 1000) (ht : ∀ v ∈ told, InR v) : ∀ s : S1, s.ok → LOneP told s
  | .set x e, ok => lone_of told hl ht _ ok trivial
  | .emit a b, ok => lone_of told hl ht _ ok trivial
  | .give e, ok => lone_of told hl ht _ ok trivial
  | .fail, ok => lone_of told hl ht _ ok trivial
  | .crash, ok => lone_of told hl ht _ ok trivial
  | .each x b, ok => lone_of told hl ht _ ok (lblock_of told hl ht b ok.2 (lonesP told hl ht b ok.2))
  | .ite e a b, ok => lone_of told hl ht _ ok ⟨lblock_of told hl ht a ok.2.1 (lonesP told hl ht a ok.2.1), lblock_of told hl ht b ok.2.2 (lonesP told hl ht b ok.2.2)⟩
  | .loop e b, ok => lone_of told hl ht _ ok (lblock_of told hl ht b ok.2 (lonesP told hl ht b ok.2))
theorem lonesP (told : List Int) (hl : told.length ≤ 1000) (ht : ∀ v ∈ told, InR v) : ∀ b : List S1, bok b → ∀ s ∈ b, LOneP told s
  | [], ok, s, h => by cases h
  | t :: r, ok, s, h => by
    have h1 := loneP told hl ht t ok.1
    have h2 := lonesP told hl ht r ok.2
    rcases List.mem_cons.mp h with e | h
    · rw [e]; exact h1
    · exact h2 s h
end
theorem lblockP (told : List Int) (hl : told.length ≤ 1000) (ht : ∀ v ∈ told, InR v) (b : List S1) (ok : bok b) : LBlockP told b := lblock_of told hl ht b ok (lonesP told hl ht b ok)
def Runs (told : List Int) (cf : Cf) : Prop := ∀ m, Fine m → ∃ f m', Run told cf m f m'
theorem runs_wh (told : List Int) (hl : told.length ≤ 1000) (ht : ∀ v ∈ told, InR v) (e : Ex) (b : List S1) (he : e.ok) (ok : bok b) (hb : Runs told (.blk b)) : ∀ (j : Nat) (v : Int) (m : Ms), 101 - m.n ≤ j → Fine m → ∃ f m', Run told (.wh e b v) m f m' := by
  intro j
  induction j with
  | zero => intro v m h F; have := F.n; omega
  | succ j ih =>
    intro v m h F
    by_cases hv : v = 0
    · subst hv; exact ⟨_, _, .wh0⟩
    · obtain ⟨f1, m1, h1⟩ := hb m F
      obtain ⟨F1, P1⟩ := run_post hl ht h1 ok F
      by_cases hf : f1 = .ok
      · subst hf
        by_cases hn : m1.n = 100
        · exact ⟨_, _, .whT hv h1 hn⟩
        · have hn' : m1.n < 100 := by have := F1.n; omega
          cases hw : worth m1.σ told.length e with
          | none => exact ⟨_, _, .whZ hv h1 hn' hw⟩
          | some v2 =>
            obtain ⟨f2, m2, h2⟩ := ih v2 { m1 with n := m1.n + 1 } (by have := P1.1; show 101 - (m1.n + 1) ≤ j; omega) (F1.up (by omega))
            exact ⟨_, _, .whM hv h1 hn' hw h2⟩
      · exact ⟨_, _, .whE hv h1 hf⟩
theorem runs_ea (told : List Int) (hl : told.length ≤ 1000) (ht : ∀ v ∈ told, InR v) (x : Str) (hx : x ∈ letters) (b : List S1) (ok : bok b) (hb : Runs told (.blk b)) : ∀ (vs : List Int), (∀ v ∈ vs, InR v) → Runs told (.ea x b vs)
  | [], _ => fun m F => ⟨_, _, .ea0⟩
  | v :: vs, hv => fun m F => by
    by_cases hn : m.n = 100
    · exact ⟨_, _, .eaT hn⟩
    · have hn' : m.n < 100 := by have := F.n; omega
      have F' : Fine { m with n := m.n + 1, σ := upS m.σ x v } := (F.var (hv v (List.mem_cons_self ..))).up (by omega)
      obtain ⟨f1, m1, h1⟩ := hb _ F'
      obtain ⟨F1, P1⟩ := run_post hl ht h1 ok F'
      by_cases hf : f1 = .ok
      · subst hf
        obtain ⟨f2, m2, h2⟩ := runs_ea told hl ht x hx b ok hb vs (fun w hw => hv w (List.mem_cons_of_mem _ hw)) m1 F1
        exact ⟨_, _, .eaM hn' h1 h2⟩
      · exact ⟨_, _, .eaE hn' h1 hf⟩
theorem runs_blk (told : List Int) (hl : told.length ≤ 1000) (ht : ∀ v ∈ told, InR v) : ∀ (b : List S1), bok b → (∀ s ∈ b, Runs told (.one s)) → Runs told (.blk b)
  | [], _, _ => fun m F => ⟨_, _, .nil⟩
  | s :: r, ok, hs => fun m F => by
    by_cases hn : m.n = 100
    · exact ⟨_, _, .tired hn⟩
    · have hn' : m.n < 100 := by have := F.n; omega
      have F' : Fine { m with n := m.n + 1 } := F.up (by omega)
      obtain ⟨f1, m1, h1⟩ := hs s (List.mem_cons_self ..) _ F'
      obtain ⟨F1, P1⟩ := run_post hl ht h1 ok.1 F'
      by_cases hf : f1 = .ok
      · subst hf
        obtain ⟨f2, m2, h2⟩ := runs_blk told hl ht r ok.2 (fun t h => hs t (List.mem_cons_of_mem _ h)) m1 F1
        exact ⟨_, _, .more hn' h1 h2⟩
      · exact ⟨_, _, .ends hn' h1 hf⟩
mutual
theorem runs_one (told : List Int) (hl : told.length ≤ 1000) (ht : ∀ v ∈ told, InR v) : ∀ s : S1, s.ok → Runs told (.one s)
  | .set x e, ok => fun m F => by
    cases h : worth m.σ told.length e with
    | none => exact ⟨_, _, .set0 h⟩
    | some v => exact ⟨_, _, .set h⟩
  | .emit a b, ok => fun m F => by
    cases h : worth m.σ told.length a with
    | none => exact ⟨_, _, .emit0 (.inl h)⟩
    | some v =>
      cases h2 : worth m.σ told.length b with
      | none => exact ⟨_, _, .emit0 (.inr h2)⟩
      | some w =>
        by_cases h6 : m.recs.length = 6
        · exact ⟨_, _, .much h h2 h6⟩
        · exact ⟨_, _, .emit h h2 (by have := F.few; omega)⟩
  | .give e, ok => fun m F => by
    cases h : worth m.σ told.length e with
    | none => exact ⟨_, _, .give0 h⟩
    | some v => exact ⟨_, _, .give h⟩
  | .fail, ok => fun m F => ⟨_, _, .fail⟩
  | .crash, ok => fun m F => ⟨_, _, .crash⟩
  | .each x b, ok => fun m F => by
    obtain ⟨f, m', h⟩ := runs_ea told hl ht x ok.1 b ok.2 (runs_blk told hl ht b ok.2 (runs_ones told hl ht b ok.2)) told ht m F
    exact ⟨_, _, .each h⟩
  | .ite e a b, ok => fun m F => by
    cases h : worth m.σ told.length e with
    | none => exact ⟨_, _, .ite0 h⟩
    | some v =>
      by_cases hv : v = 0
      · obtain ⟨f, m', h1⟩ := runs_blk told hl ht b ok.2.2 (runs_ones told hl ht b ok.2.2) m F
        exact ⟨_, _, .ite h (by rw [if_pos hv]; exact h1)⟩
      · obtain ⟨f, m', h1⟩ := runs_blk told hl ht a ok.2.1 (runs_ones told hl ht a ok.2.1) m F
        exact ⟨_, _, .ite h (by rw [if_neg hv]; exact h1)⟩
  | .loop e b, ok => fun m F => by
    cases h : worth m.σ told.length e with
    | none => exact ⟨_, _, .loop0 h⟩
    | some v =>
      obtain ⟨f, m', h1⟩ := runs_wh told hl ht e b ok.1 ok.2 (runs_blk told hl ht b ok.2 (runs_ones told hl ht b ok.2)) _ v m (Nat.le_refl _) F
      exact ⟨_, _, .loop h h1⟩
theorem runs_ones (told : List Int) (hl : told.length ≤ 1000) (ht : ∀ v ∈ told, InR v) : ∀ b : List S1, bok b → ∀ s ∈ b, Runs told (.one s)
  | [], ok, s, h => by cases h
  | t :: r, ok, s, h => by
    have h1 := runs_one told hl ht t ok.1
    have h2 := runs_ones told hl ht r ok.2
    rcases List.mem_cons.mp h with e | h
    · rw [e]; exact h1
    · exact h2 s h
end
theorem runs_all (told : List Int) (hl : told.length ≤ 1000) (ht : ∀ v ∈ told, InR v) (b : List S1) (ok : bok b) : Runs told (.blk b) := runs_blk told hl ht b ok (runs_ones told hl ht b ok)
end

section
open PySem L2 DL DLL
set_option maxHeartbeats 0
set_option linter.unusedVariables false
/-- the variables given -/
def bindS (σ : Str → Int) : List (Str × Int) → Str → Int
  | [] => σ
  | (x, v) :: r => bindS (upS σ x v) r
theorem bindS_in : ∀ (l : List (Str × Int)) {σ : Str → Int}, (∀ x, InR (σ x)) → (∀ p ∈ l, InR p.2) → ∀ x, InR (bindS σ l x)
  | [], σ, h, _ => h
  | (y, v) :: r, σ, h, hl => bindS_in r (fun z => by
      show InR (if z = y then v else σ z)
      split
      · exact hl (y, v) (List.mem_cons_self ..)
      · exact h z) fun p hp => hl p (List.mem_cons_of_mem _ hp)
theorem bindS_app : ∀ (l : List (Str × Int)) (σ : Str → Int) (x : Str) (v : Int), bindS σ (l ++ [(x, v)]) = upS (bindS σ l) x v
  | [], σ, x, v => rfl
  | (y, w) :: r, σ, x, v => bindS_app r (upS σ y w) x v
def zeroS : Str → Int := fun _ => 0
theorem letters_dict : (charsOf "abcdefghijklmnopqrstuvwxyz").foldl (fun acc d => dPut acc (match d with | .str z => .inl (.inr z) | _ => .inl (.inl 0)) (.int 0)) [] = kvsOf zeroS := by kernel_rfl
theorem forN {nx : Nx} {xs : List D} (hnx : ∀ S i, nx S i = some xs[i]?) {fu : Nat} (hf : fu = xs.length + 1) {body : D → SMP} {κ : Out → Store → Prop} {η : En} {S : Store} (Inv : Nat → En → Store → Prop) (h0 : Inv 0 η S)
    (step : ∀ i d η S (K : Out → Store → Prop), xs[i]? = some d → Inv i η S → (∀ η' S', Inv (i + 1) η' S' → K (.nx η') S') → body d η S K)
    (fin : ∀ η S, Inv xs.length η S → κ (.nx η) S) : Lp (forLoopP nx body fu 0 η S κ) := by
  have e : nx = (Src.items xs).nx := by funext S i; exact hnx S i
  rw [e, hf]
  exact forP Inv h0 step fin
def Up (S S' : Store) (p : Nat) : Prop := ∀ i, i < S.length → i ≠ p → S'[i]? = S[i]?
theorem init_ (k : Nat) (hk : 2 ≤ k) (S : Store) (p : Nat) (hp : S[p]? = some (.ins "Call" [])) (ns : List Str) (gs : List Int) (hn : ∀ x ∈ ns, x ∈ letters) (told : List D) (κ : R D → Store → Prop)
    (h : ∀ S', PAt S' p S.length (S.length + 1) told ⟨bindS zeroS (ns.zip gs), 0, [], none⟩ "" → S'.length = S.length + 2 → Up S S' p → κ (.v .non) S') :
    callAtP T k "Call.__init__" [.obj p, .tup (ns.map D.str), .tup (gs.map D.int), .tup told] S κ := by
  obtain ⟨k, rfl⟩ := lev 1 (show 1 ≤ k by omega)
  have hpl : p < S.length := (List.getElem?_eq_some_iff.mp hp).1
  conv => whnf
  refine dc_fold (xs := charsOf "abcdefghijklmnopqrstuvwxyz") (fun d => match d with | .str z => .inl (.inr z) | _ => .inl (.inl 0)) (fun _ => .int 0) (fun i => rfl) rfl (by rw [sizeLine_eq]; decide) (fun d K hd hK => ?_) ?_
  · obtain ⟨c, hc, rfl⟩ := List.mem_map.mp hd
    conv => whnf
    exact hK (.str ⟨#[c]⟩, .int 0) rfl
  rw [letters_dict]
  conv => whnf
  have e1 : (S ++ [Ob.dct (kvsOf zeroS)])[p]? = some (.ins "Call" []) := by rw [app_lt hpl]; exact hp
  rw [putF_at e1 (by rfl)]
  have i1 := set_get (p := .ins "Call" (fPut "variables" (.obj S.length) [])) e1
  have i2 : ((S ++ [Ob.dct (kvsOf zeroS)]).set p (.ins "Call" (fPut "variables" (.obj S.length) [])))[S.length]? = some (.dct (kvsOf zeroS)) := by rw [set_ne (by omega)]; exact app_at rfl
  have i3 : ((S ++ [Ob.dct (kvsOf zeroS)]).set p (.ins "Call" (fPut "variables" (.obj S.length) []))).length = S.length + 1 := by simp
  have i4 : Up S ((S ++ [Ob.dct (kvsOf zeroS)]).set p (.ins "Call" (fPut "variables" (.obj S.length) []))) p := fun i hi hne => by rw [set_ne (Ne.symm hne), app_lt hi]
  generalize (S ++ [Ob.dct (kvsOf zeroS)]).set p (.ins "Call" (fPut "variables" (.obj S.length) [])) = Z1 at i1 i2 i3 i4 ⊢
  conv => whnf
  refine forN (xs := ((ns.map D.str).zip (gs.map D.int)).map fun p => D.tup [p.1, p.2]) (fun S i => zip_tup _ _ S i) (by show min (ns.map D.str).length (gs.map D.int).length + 1 = _; simp) (fun i η Z => ∃ t u : Option D, η = [some (.obj p), some (.tup (ns.map D.str)), some (.tup (gs.map D.int)), some (.tup told), t, u, none] ∧ Z[p]? = some (.ins "Call" (fPut "variables" (.obj S.length) [])) ∧ Z[S.length]? = some (.dct (kvsOf (bindS zeroS ((ns.zip gs).take i)))) ∧ Z.length = S.length + 1 ∧ Up S Z p)
    ⟨none, none, rfl, i1, i2, i3, i4⟩ (fun i d η Z K hd hI hK => ?_) (fun η Z hI => ?_)
  · obtain ⟨t, u, rfl, j1, j2, j3, j4⟩ := hI
    have ez : ((ns.map D.str).zip (gs.map D.int)).map (fun p => D.tup [p.1, p.2]) = (ns.zip gs).map fun p => D.tup [.str p.1, .int p.2] := by
      rw [List.zip_map, List.map_map]
      rfl
    rw [ez, List.getElem?_map] at hd
    obtain ⟨⟨x, v⟩, hs, rfl⟩ : ∃ q, (ns.zip gs)[i]? = some q ∧ D.tup [.str q.1, .int q.2] = d := by
      cases q : (ns.zip gs)[i]? with
      | none => rw [q] at hd; cases hd
      | some s => rw [q] at hd; exact ⟨s, rfl, by cases hd; rfl⟩
    have hx : x ∈ letters := hn x (List.of_mem_zip (List.mem_of_getElem? hs)).1
    conv => whnf
    rw [getF_at j1 (by rfl) (by rfl)]
    conv => whnf
    rw [dSet_dct j2 ((kvs_vars _).fit x) (by rw [kvs_len, sizeLine_eq]; decide), kvs_put _ hx]
    conv => whnf
    refine hK _ _ ⟨_, _, rfl, by rw [set_ne (by omega)]; exact j1, ?_, by simp [j3], fun i hi hne => by rw [set_ne (by omega)]; exact j4 i hi hne⟩
    rw [set_get j2, List.take_add_one, hs]
    exact congrArg (fun z => some (Ob.dct (kvsOf z))) (bindS_app _ _ _ _).symm
  · obtain ⟨t, u, rfl, j1, j2, j3, j4⟩ := hI
    have et : (ns.zip gs).take (((ns.map D.str).zip (gs.map D.int)).map fun p => D.tup [p.1, p.2]).length = ns.zip gs := by
      apply List.take_of_length_le
      simp
    rw [et] at j2
    conv => whnf
    rw [putF_at j1 (by rfl)]
    have a1 := set_get (p := .ins "Call" (fPut "told" (.tup told) (fPut "variables" (.obj S.length) []))) j1
    have a2 : (Z.set p (.ins "Call" (fPut "told" (.tup told) (fPut "variables" (.obj S.length) []))))[S.length]? = some (.dct (kvsOf (bindS zeroS (ns.zip gs)))) := by rw [set_ne (by omega)]; exact j2
    have a3 : (Z.set p (.ins "Call" (fPut "told" (.tup told) (fPut "variables" (.obj S.length) [])))).length = S.length + 1 := by simp [j3]
    have a4 : Up S (Z.set p (.ins "Call" (fPut "told" (.tup told) (fPut "variables" (.obj S.length) [])))) p := fun i hi hne => by rw [set_ne (Ne.symm hne)]; exact j4 i hi hne
    generalize Z.set p (.ins "Call" (fPut "told" (.tup told) (fPut "variables" (.obj S.length) []))) = Z2 at a1 a2 a3 a4 ⊢
    conv => whnf
    rw [putF_at a1 (by rfl)]
    have b1 := set_get (p := .ins "Call" (fPut "steps" (.int 0) (fPut "told" (.tup told) (fPut "variables" (.obj S.length) [])))) a1
    have b2 : (Z2.set p (.ins "Call" (fPut "steps" (.int 0) (fPut "told" (.tup told) (fPut "variables" (.obj S.length) [])))))[S.length]? = some (.dct (kvsOf (bindS zeroS (ns.zip gs)))) := by rw [set_ne (by omega)]; exact a2
    have b3 : (Z2.set p (.ins "Call" (fPut "steps" (.int 0) (fPut "told" (.tup told) (fPut "variables" (.obj S.length) []))))).length = S.length + 1 := by simp [a3]
    have b4 : Up S (Z2.set p (.ins "Call" (fPut "steps" (.int 0) (fPut "told" (.tup told) (fPut "variables" (.obj S.length) []))))) p := fun i hi hne => by rw [set_ne (Ne.symm hne)]; exact a4 i hi hne
    generalize Z2.set p (.ins "Call" (fPut "steps" (.int 0) (fPut "told" (.tup told) (fPut "variables" (.obj S.length) [])))) = Z3 at b1 b2 b3 b4 ⊢
    conv => whnf
    have c1 : (Z3 ++ [Ob.lst []])[p]? = some (.ins "Call" (fPut "steps" (.int 0) (fPut "told" (.tup told) (fPut "variables" (.obj S.length) [])))) := by rw [app_lt (by omega)]; exact b1
    have c2 : (Z3 ++ [Ob.lst []])[S.length]? = some (.dct (kvsOf (bindS zeroS (ns.zip gs)))) := by rw [app_lt (by omega)]; exact b2
    have c3 : (Z3 ++ [Ob.lst []])[S.length + 1]? = some (.lst []) := app_at (by omega)
    have c4 : (Z3 ++ [Ob.lst []]).length = S.length + 2 := by simp [b3]
    have c5 : Up S (Z3 ++ [Ob.lst []]) p := fun i hi hne => by rw [app_lt (by omega)]; exact b4 i hi hne
    have eo : Z3.length = S.length + 1 := b3
    rw [eo]
    generalize Z3 ++ [Ob.lst []] = Z4 at c1 c2 c3 c4 c5 ⊢
    rw [putF_at c1 (by rfl)]
    conv => whnf
    rw [putF_at (set_get c1) (by rfl)]
    conv => whnf
    rw [putF_at (set_get (set_get c1)) (by rfl)]
    conv => whnf
    refine h _ ⟨set_get (set_get (set_get c1)), ?_, ?_, by omega, by omega, by omega⟩ (by simp [c4]) (fun i hi hne => ?_)
    · rw [set_ne (by omega), set_ne (by omega), set_ne (by omega)]; exact c2
    · rw [set_ne (by omega), set_ne (by omega), set_ne (by omega)]; exact c3
    · rw [set_ne (Ne.symm hne), set_ne (Ne.symm hne), set_ne (Ne.symm hne)]; exact c5 i hi hne
theorem called_ (k : Nat) (S : Store) (ns : List Str) (gs : List Int) (hn : ∀ x ∈ ns, x ∈ letters) (hg : ∀ v ∈ gs, InR v) (told : List Int) (hl : told.length ≤ 1000) (ht : ∀ v ∈ told, InR v) (b : List S1) (ok : bok b) (hk : bdeep b + 12 ≤ k)
    {f : Fi} {m' : Ms} (hR : Run told (.blk b) ⟨bindS zeroS (ns.zip gs), 0, [], none⟩ f m') (κ : R D → Store → Prop)
    (h : ∀ S', PAt S' S.length (S.length + 1) (S.length + 2) (told.map D.int) m' f.s → (∀ i, i < S.length → S'[i]? = S[i]?) → κ (.v (.obj S.length)) S') :
    callAtP T k "called" [.tup (ns.map D.str ++ [.tup (bd b)]), .tup (gs.map D.int), .tup (told.map D.int)] S κ := by
  obtain ⟨k, rfl⟩ := lev 1 (show 1 ≤ k by omega)
  have F0 : Fine ⟨bindS zeroS (ns.zip gs), 0, [], none⟩ := ⟨bindS_in _ (fun x => by unfold zeroS InR; omega) fun p hp => hg p.2 (List.of_mem_zip hp).2, Nat.zero_le _, Nat.zero_le _⟩
  have cut : cutD (ns.map D.str ++ [D.tup (bd b)]) none (some (-1)) = ns.map D.str := by
    unfold cutD HT.sIx
    simp only [List.drop_zero, Nat.sub_zero]
    have : (if (-1 : Int) < 0 then ((-1 : Int) + ((ns.map D.str ++ [D.tup (bd b)]).length : Int)).toNat else min (-1 : Int).toNat (ns.map D.str ++ [D.tup (bd b)]).length) = (ns.map D.str).length := by
      rw [if_pos (by decide)]
      simp
      omega
    rw [this]
    simp
  have last : atI (ns.map D.str ++ [D.tup (bd b)]) (-1) = some (.tup (bd b)) := by
    unfold atI ixN
    have hlen : (ns.map D.str ++ [D.tup (bd b)]).length = ns.length + 1 := by simp
    rw [hlen, if_neg (by decide), if_pos (by omega)]
    show (ns.map D.str ++ [D.tup (bd b)])[((-1 : Int) + ((ns.length + 1 : Nat) : Int)).toNat]? = _
    have : ((-1 : Int) + ((ns.length + 1 : Nat) : Int)).toNat = (ns.map D.str).length := by simp; omega
    rw [this]
    simp
  conv => whnf
  rw [cut]
  refine init_ k (by omega) _ S.length (app_at rfl) ns gs hn _ _ fun S1 P1 L1 U1 => ?_
  have el : (S ++ [Ob.ins "Call" []]).length = S.length + 1 := by simp
  rw [el] at P1
  have U1' : ∀ i, i < S.length → S1[i]? = S[i]? := fun i hi => by rw [U1 i (by omega) (by omega), app_lt hi]
  conv => whnf
  rw [P1.ob]
  conv => whnf
  rw [show ∀ Z : Store, dIx (.tup (ns.map D.str ++ [D.tup (bd b)])) (.int (-1)) Z = some (.v (.tup (bd b)), Z) from fun Z => by show M.of (atI _ _) Z = _; rw [last]; rfl]
  conv => whnf
  refine blockP told hl ht b ok _ _ _ hR F0 rfl k (by omega) S1 _ _ _ P1 _ fun S2 P2 K2 => ?_
  conv => whnf
  exact h _ P2 fun i hi => by rw [K2.2 i (by omega) (by omega) (by omega)]; exact U1' i hi
theorem tup_lst {q : Nat} {xs : List D} {st : Bool} {S : Store} (h : S[q]? = some (.lst xs)) : callB st "tuple" [.obj q] S = some (.v (.tup xs), S) := by
  have e : callB st "tuple" [.obj q] = M.bind (M.bind (getO q) fun o => match o with | .lst xs => M.pure xs | _ => M.fail) fun xs => M.pure (.tup xs) := rfl
  have e2 : (M.bind (getO q) fun o => match o with | .lst xs => M.pure xs | _ => M.fail) S = some (.v xs, S) := by
    rw [bindK (getO_at h)]
    rfl
  rw [e, bindK e2]
  rfl
def outD (m : Ms) (f : Fi) : D := match f with
  | .fell w => .tup [.str "fell", .str w]
  | _ => .tup [.str "well", .tup (m.recs.map recD), gD m.given]
theorem outcome_ (k : Nat) (hk : 1 ≤ k) {S : Store} {p q r : Nat} {told : List D} {m0 m : Ms} {f : Fi} (P : PAt S p q r told m f.s) (Po : Post f m0 m) (hf : m.recs.length ≤ 6) (κ : R D → Store → Prop) (h : κ (.v (outD m f)) S) : callAtP T k "Call.outcome" [.obj p] S κ := by
  obtain ⟨k, rfl⟩ := lev 1 hk
  conv => whnf
  rw [getF_at P.ob (by rfl) (by rfl)]
  conv => whnf
  cases f with
  | fell w =>
    refine br_t (by have : w ≠ "" := Po.2.2; show (!decide (w = "")) = true; simp [this]) ?_
    conv => whnf
    rw [getF_at P.ob (by rfl) (by rfl)]
    conv => whnf
    exact h
  | ok =>
    conv => whnf
    rw [getF_at P.ob (by rfl) (by rfl)]
    conv => whnf
    rw [tup_lst P.rs]
    conv => whnf
    rw [getF_at P.ob (by rfl) (by rfl)]
    conv => whnf
    exact h
  | gave =>
    conv => whnf
    rw [getF_at P.ob (by rfl) (by rfl)]
    conv => whnf
    rw [tup_lst P.rs]
    conv => whnf
    rw [getF_at P.ob (by rfl) (by rfl)]
    conv => whnf
    exact h
def endF (isJ : Bool) (f : Fi) : Fi := if isJ = true then (match f with | .ok => .fell "nothing" | f => f) else f
theorem joined_ (k : Nat) (S : Store) (name : D) (mp rd : D) (ns : List Str) (a b c : Int) (hn : ∀ x ∈ ns, x ∈ letters) (hg : InR a ∧ InR b ∧ InR c) (bl : List S1) (ok : bok bl) (hk : bdeep bl + 14 ≤ k)
    {f : Fi} {m' : Ms} (hR : Run [] (.blk bl) ⟨bindS zeroS (ns.zip [a, b, c]), 0, [], none⟩ f m') (Po : Post f ⟨bindS zeroS (ns.zip [a, b, c]), 0, [], none⟩ m') (κ : R D → Store → Prop)
    (h : ∀ S', PAt S' S.length (S.length + 1) (S.length + 2) [] m' (endF true f).s → (∀ i, i < S.length → S'[i]? = S[i]?) → κ (.v (.obj S.length)) S') :
    callAtP T k "call_joined" [.tup [name, mp, .tup (ns.map D.str ++ [.tup (bd bl)]), rd], .int a, .int b, .int c] S κ := by
  obtain ⟨k, rfl⟩ := lev 1 (show 1 ≤ k by omega)
  have hgs : ∀ v ∈ [a, b, c], InR v := fun v hv => by
    simp only [List.mem_cons, List.not_mem_nil, or_false] at hv
    rcases hv with rfl | rfl | rfl
    · exact hg.1
    · exact hg.2.1
    · exact hg.2.2
  conv => whnf
  refine called_ k S ns [a, b, c] hn hgs [] (by simp) (fun v hv => by cases hv) bl ok (by omega) hR _ fun S1 P1 U1 => ?_
  conv => whnf
  rw [P1.ob]
  conv => whnf
  cases f with
  | ok =>
    refine is_over_no k (by omega) P1 (by have := Po.2; exact this) _ ?_
    conv => whnf
    rw [putF_at P1.ob (by rfl)]
    conv => whnf
    refine h _ (P1.fell "nothing") fun i hi => ?_
    rw [set_ne (by omega)]
    exact U1 i hi
  | gave =>
    refine is_over_yes k (by omega) P1 (.inr Po.2) _ ?_
    conv => whnf
    exact h _ P1 U1
  | fell w =>
    refine is_over_yes k (by omega) P1 (.inl Po.2.2) _ ?_
    conv => whnf
    exact h _ P1 U1
theorem Post.endF {f : Fi} {m m' : Ms} {b : Bool} (P : Post f m m') (hg : m.given = none) : Post (endF b f) m m' := by
  cases b with
  | false => exact P
  | true =>
    cases f with
    | ok => exact ⟨P.1, P.2, by decide⟩
    | gave => exact P
    | fell w => exact P
/-- the three told: the outcome, the steps -/
theorem out_joined (k : Nat) (S : Store) (name : D) (mp rd : D) (ns : List Str) (a b c : Int) (hn : ∀ x ∈ ns, x ∈ letters) (hg : InR a ∧ InR b ∧ InR c) (bl : List S1) (ok : bok bl) (hk : bdeep bl + 16 ≤ k)
    {f : Fi} {m' : Ms} (hR : Run [] (.blk bl) ⟨bindS zeroS (ns.zip [a, b, c]), 0, [], none⟩ f m') (Po : Post f ⟨bindS zeroS (ns.zip [a, b, c]), 0, [], none⟩ m') (F : Fine m') (κ : R D → Store → Prop)
    (h : ∀ S', (∀ i, i < S.length → S'[i]? = S[i]?) → S.length ≤ S'.length → κ (.v (outD m' (endF true f))) S') :
    callAtP T k "joined" [.tup [name, mp, .tup (ns.map D.str ++ [.tup (bd bl)]), rd], .int a, .int b, .int c] S κ := by
  obtain ⟨k, rfl⟩ := lev 1 (show 1 ≤ k by omega)
  conv => whnf
  refine joined_ k S name mp rd ns a b c hn hg bl ok (by omega) hR Po _ fun S1 P1 U1 => ?_
  conv => whnf
  rw [P1.ob]
  conv => whnf
  refine outcome_ k (by omega) P1 (Po.endF rfl) F.few _ ?_
  conv => whnf
  exact h _ U1 (by have := (List.getElem?_eq_some_iff.mp P1.ob).1; omega)
theorem steps_joined (k : Nat) (S : Store) (name : D) (mp rd : D) (ns : List Str) (a b c : Int) (hn : ∀ x ∈ ns, x ∈ letters) (hg : InR a ∧ InR b ∧ InR c) (bl : List S1) (ok : bok bl) (hk : bdeep bl + 16 ≤ k)
    {f : Fi} {m' : Ms} (hR : Run [] (.blk bl) ⟨bindS zeroS (ns.zip [a, b, c]), 0, [], none⟩ f m') (Po : Post f ⟨bindS zeroS (ns.zip [a, b, c]), 0, [], none⟩ m') (F : Fine m') (κ : R D → Store → Prop)
    (h : ∀ S', (∀ i, i < S.length → S'[i]? = S[i]?) → S.length ≤ S'.length → κ (.v (.int m'.n)) S') :
    callAtP T k "join_steps" [.tup [name, mp, .tup (ns.map D.str ++ [.tup (bd bl)]), rd], .int a, .int b, .int c] S κ := by
  obtain ⟨k, rfl⟩ := lev 1 (show 1 ≤ k by omega)
  conv => whnf
  refine joined_ k S name mp rd ns a b c hn hg bl ok (by omega) hR Po _ fun S1 P1 U1 => ?_
  conv => whnf
  rw [getF_at P1.ob (by rfl) (by rfl)]
  conv => whnf
  exact h _ U1 (by have := (List.getElem?_eq_some_iff.mp P1.ob).1; omega)
end

section
open PySem L2 DL DLL
set_option maxHeartbeats 0
set_option linter.unusedVariables false
theorem two_in {a b : Int} (h : InR a ∧ InR b) : ∀ v ∈ [a, b], InR v := fun v hv => by
  simp only [List.mem_cons, List.not_mem_nil, or_false] at hv
  rcases hv with rfl | rfl
  · exact h.1
  · exact h.2
theorem one_in {a : Int} (h : InR a) : ∀ v ∈ [a], InR v := fun v hv => by
  rw [List.mem_singleton.mp hv]
  exact h
theorem out_mapped (k : Nat) (S : Store) (name : D) (jn rd : D) (ns : List Str) (a b : Int) (hn : ∀ x ∈ ns, x ∈ letters) (hg : InR a ∧ InR b) (bl : List S1) (ok : bok bl) (hk : bdeep bl + 16 ≤ k)
    {f : Fi} {m' : Ms} (hR : Run [] (.blk bl) ⟨bindS zeroS (ns.zip [a, b]), 0, [], none⟩ f m') (Po : Post f ⟨bindS zeroS (ns.zip [a, b]), 0, [], none⟩ m') (F : Fine m') (κ : R D → Store → Prop)
    (h : ∀ S', (∀ i, i < S.length → S'[i]? = S[i]?) → S.length ≤ S'.length → κ (.v (outD m' f)) S') :
    callAtP T k "mapped" [.tup [name, .tup (ns.map D.str ++ [.tup (bd bl)]), jn, rd], .int a, .int b] S κ := by
  obtain ⟨k, rfl⟩ := lev 1 (show 1 ≤ k by omega)
  conv => whnf
  refine called_ k S ns [a, b] hn (two_in hg) [] (by simp) (fun v hv => by cases hv) bl ok (by omega) hR _ fun S1 P1 U1 => ?_
  conv => whnf
  rw [P1.ob]
  conv => whnf
  refine outcome_ k (by omega) P1 Po F.few _ ?_
  conv => whnf
  exact h _ U1 (by have := (List.getElem?_eq_some_iff.mp P1.ob).1; omega)
theorem steps_mapped (k : Nat) (S : Store) (name : D) (jn rd : D) (ns : List Str) (a b : Int) (hn : ∀ x ∈ ns, x ∈ letters) (hg : InR a ∧ InR b) (bl : List S1) (ok : bok bl) (hk : bdeep bl + 16 ≤ k)
    {f : Fi} {m' : Ms} (hR : Run [] (.blk bl) ⟨bindS zeroS (ns.zip [a, b]), 0, [], none⟩ f m') (κ : R D → Store → Prop)
    (h : ∀ S', (∀ i, i < S.length → S'[i]? = S[i]?) → S.length ≤ S'.length → κ (.v (.int m'.n)) S') :
    callAtP T k "map_steps" [.tup [name, .tup (ns.map D.str ++ [.tup (bd bl)]), jn, rd], .int a, .int b] S κ := by
  obtain ⟨k, rfl⟩ := lev 1 (show 1 ≤ k by omega)
  conv => whnf
  refine called_ k S ns [a, b] hn (two_in hg) [] (by simp) (fun v hv => by cases hv) bl ok (by omega) hR _ fun S1 P1 U1 => ?_
  conv => whnf
  rw [getF_at P1.ob (by rfl) (by rfl)]
  conv => whnf
  exact h _ U1 (by have := (List.getElem?_eq_some_iff.mp P1.ob).1; omega)
theorem out_reduced (k : Nat) (S : Store) (name : D) (mp jn : D) (ns : List Str) (a : Int) (told : List Int) (hl : told.length ≤ 1000) (ht : ∀ v ∈ told, InR v) (hn : ∀ x ∈ ns, x ∈ letters) (hg : InR a) (bl : List S1) (ok : bok bl) (hk : bdeep bl + 16 ≤ k)
    {f : Fi} {m' : Ms} (hR : Run told (.blk bl) ⟨bindS zeroS (ns.zip [a]), 0, [], none⟩ f m') (Po : Post f ⟨bindS zeroS (ns.zip [a]), 0, [], none⟩ m') (F : Fine m') (κ : R D → Store → Prop)
    (h : ∀ S', (∀ i, i < S.length → S'[i]? = S[i]?) → S.length ≤ S'.length → κ (.v (outD m' f)) S') :
    callAtP T k "reduced" [.tup [name, mp, jn, .tup (ns.map D.str ++ [.tup (bd bl)])], .int a, .tup (told.map D.int)] S κ := by
  obtain ⟨k, rfl⟩ := lev 1 (show 1 ≤ k by omega)
  conv => whnf
  refine called_ k S ns [a] hn (one_in hg) told hl ht bl ok (by omega) hR _ fun S1 P1 U1 => ?_
  conv => whnf
  rw [P1.ob]
  conv => whnf
  refine outcome_ k (by omega) P1 Po F.few _ ?_
  conv => whnf
  exact h _ U1 (by have := (List.getElem?_eq_some_iff.mp P1.ob).1; omega)
theorem steps_reduced (k : Nat) (S : Store) (name : D) (mp jn : D) (ns : List Str) (a : Int) (told : List Int) (hl : told.length ≤ 1000) (ht : ∀ v ∈ told, InR v) (hn : ∀ x ∈ ns, x ∈ letters) (hg : InR a) (bl : List S1) (ok : bok bl) (hk : bdeep bl + 16 ≤ k)
    {f : Fi} {m' : Ms} (hR : Run told (.blk bl) ⟨bindS zeroS (ns.zip [a]), 0, [], none⟩ f m') (κ : R D → Store → Prop)
    (h : ∀ S', (∀ i, i < S.length → S'[i]? = S[i]?) → S.length ≤ S'.length → κ (.v (.int m'.n)) S') :
    callAtP T k "reduce_steps" [.tup [name, mp, jn, .tup (ns.map D.str ++ [.tup (bd bl)])], .int a, .tup (told.map D.int)] S κ := by
  obtain ⟨k, rfl⟩ := lev 1 (show 1 ≤ k by omega)
  conv => whnf
  refine called_ k S ns [a] hn (one_in hg) told hl ht bl ok (by omega) hR _ fun S1 P1 U1 => ?_
  conv => whnf
  rw [getF_at P1.ob (by rfl) (by rfl)]
  conv => whnf
  exact h _ U1 (by have := (List.getElem?_eq_some_iff.mp P1.ob).1; omega)
def fallW : List Str := ["failed", "crashed", "zero", "much", "tired"]
theorem run_word {told : List Int} {cf : Cf} {m : Ms} {f : Fi} {m' : Ms} (h : Run told cf m f m') : ∀ w, f = .fell w → w ∈ fallW := by
  induction h with
  | nil => intro w e; cases e
  | tired h => intro w e; cases e; decide
  | more h h1 h2 ih1 ih2 => exact ih2
  | ends h h1 hf ih1 => exact ih1
  | fail => intro w e; cases e; decide
  | crash => intro w e; cases e; decide
  | set h => intro w e; cases e
  | set0 h => intro w e; cases e; decide
  | give h => intro w e; cases e
  | give0 h => intro w e; cases e; decide
  | emit h h2 h3 => intro w e; cases e
  | much h h2 h3 => intro w e; cases e; decide
  | emit0 h => intro w e; cases e; decide
  | ite h h1 ih => exact ih
  | ite0 h => intro w e; cases e; decide
  | loop h h1 ih => exact ih
  | loop0 h => intro w e; cases e; decide
  | each h1 ih => exact ih
  | wh0 => intro w e; cases e
  | whE hv h1 hf ih => exact ih
  | whT hv h1 h ih => intro w e; cases e; decide
  | whZ hv h1 h h2 ih => intro w e; cases e; decide
  | whM hv h1 h h2 h3 ih1 ih3 => exact ih3
  | ea0 => intro w e; cases e
  | eaT h => intro w e; cases e; decide
  | eaE h h1 hf ih => exact ih
  | eaM h h1 h2 ih1 ih2 => exact ih2
theorem lcall_ (k : Nat) (S : Store) (ns : List Str) (gs : List Int) (hns : ns.length ≤ 3) (hn : ∀ x ∈ ns, x ∈ letters) (hg : ∀ v ∈ gs, InR v) (told : List Int) (hl : told.length ≤ 1000) (ht : ∀ v ∈ told, InR v) (b : List S1) (ok : bok b) (hk : bdeep b + 12 ≤ k) (isJ : Bool)
    {f : Fi} {m' : Ms} (hR : Run told (.blk b) ⟨bindS zeroS (ns.zip gs), 0, [], none⟩ f m') (Po : Post f ⟨bindS zeroS (ns.zip gs), 0, [], none⟩ m') (κ : R D → Store → Prop)
    (h : ∀ S', (∀ i, i < S.length → S'[i]? = S[i]?) → S.length ≤ S'.length → κ (.v (.tup [outD m' (endF isJ f), .int m'.n])) S') :
    callAtP T k "_law_call" [.tup (ns.map D.str ++ [.tup (bd b)]), .tup (gs.map D.int), .tup (told.map D.int), .bl isJ] S κ := by
  obtain ⟨k, rfl⟩ := lev 1 (show 1 ≤ k by omega)
  have F0 : Fine ⟨bindS zeroS (ns.zip gs), 0, [], none⟩ := ⟨bindS_in _ (fun x => by unfold zeroS InR; omega) fun p hp => hg p.2 (List.of_mem_zip hp).2, Nat.zero_le _, Nat.zero_le _⟩
  have cut : cutD (ns.map D.str ++ [D.tup (bd b)]) none (some (-1)) = ns.map D.str := by
    unfold cutD HT.sIx
    simp only [List.drop_zero, Nat.sub_zero]
    have : (if (-1 : Int) < 0 then ((-1 : Int) + ((ns.map D.str ++ [D.tup (bd b)]).length : Int)).toNat else min (-1 : Int).toNat (ns.map D.str ++ [D.tup (bd b)]).length) = (ns.map D.str).length := by
      rw [if_pos (by decide)]
      simp
      omega
    rw [this]
    simp
  have last : atI (ns.map D.str ++ [D.tup (bd b)]) (-1) = some (.tup (bd b)) := by
    unfold atI ixN
    have hlen : (ns.map D.str ++ [D.tup (bd b)]).length = ns.length + 1 := by simp
    rw [hlen, if_neg (by decide), if_pos (by omega)]
    show (ns.map D.str ++ [D.tup (bd b)])[((-1 : Int) + ((ns.length + 1 : Nat) : Int)).toNat]? = _
    have : ((-1 : Int) + ((ns.length + 1 : Nat) : Int)).toNat = (ns.map D.str).length := by simp; omega
    rw [this]
    simp
  conv => whnf
  have e2 : (S ++ [Ob.dct []]).length = S.length + 1 := by simp
  have e1 : (S ++ [Ob.dct []] ++ [Ob.lst []]).length = S.length + 2 := by simp
  rw [cut, e1, e2]
  have z1 : (S ++ [Ob.dct []] ++ [Ob.lst []] ++ [Ob.lst [.int 0, .obj (S.length + 1), .non]])[S.length]? = some (.dct []) := by rw [app_lt (by omega), app_lt (by omega)]; exact app_at rfl
  have z2 : (S ++ [Ob.dct []] ++ [Ob.lst []] ++ [Ob.lst [.int 0, .obj (S.length + 1), .non]])[S.length + 1]? = some (.lst []) := by rw [app_lt (by omega)]; exact app_at (by omega)
  have z3 : (S ++ [Ob.dct []] ++ [Ob.lst []] ++ [Ob.lst [.int 0, .obj (S.length + 1), .non]])[S.length + 2]? = some (.lst [.int 0, .obj (S.length + 1), .non]) := app_at (by omega)
  have z4 : ∀ i, i < S.length → (S ++ [Ob.dct []] ++ [Ob.lst []] ++ [Ob.lst [.int 0, .obj (S.length + 1), .non]])[i]? = S[i]? := fun i hi => by rw [app_lt (by omega), app_lt (by omega), app_lt hi]
  generalize S ++ [Ob.dct []] ++ [Ob.lst []] ++ [Ob.lst [.int 0, .obj (S.length + 1), .non]] = Z0 at z1 z2 z3 z4 ⊢
  refine forN (xs := ((ns.map D.str).zip (gs.map D.int)).map fun p => D.tup [p.1, p.2]) (fun S i => zip_tup _ _ S i) (by show min (ns.map D.str).length (gs.map D.int).length + 1 = _; simp) (fun i η Z => ∃ t u v : Option D, η = [some (.tup (ns.map D.str ++ [.tup (bd b)])), some (.tup (gs.map D.int)), some (.tup (told.map D.int)), some (.bl isJ), v, some (stD S.length told), some (.obj (S.length + 2)), t, u] ∧ (∃ kvs, Z[S.length]? = some (.dct kvs) ∧ Vars kvs (bindS zeroS ((ns.zip gs).take i)) false ∧ kvs.length ≤ i) ∧ Z[S.length + 1]? = some (.lst []) ∧ Z[S.length + 2]? = some (.lst [.int 0, .obj (S.length + 1), .non]) ∧ ∀ i, i < S.length → Z[i]? = S[i]?)
    ⟨none, none, none, rfl, ⟨[], z1, ⟨fun x => rfl, fun x hx => .inr ⟨rfl, rfl, rfl⟩⟩, Nat.le_refl _⟩, z2, z3, z4⟩ (fun i d η Z K hd hI hK => ?_) (fun η Z hI => ?_)
  · obtain ⟨t, u, v, rfl, ⟨kvs, j1, j1', j1''⟩, j2, j3, j4⟩ := hI
    have ez : ((ns.map D.str).zip (gs.map D.int)).map (fun p => D.tup [p.1, p.2]) = (ns.zip gs).map fun p => D.tup [.str p.1, .int p.2] := by
      rw [List.zip_map, List.map_map]
      rfl
    rw [ez, List.getElem?_map] at hd
    obtain ⟨⟨x, v⟩, hs, rfl⟩ : ∃ q, (ns.zip gs)[i]? = some q ∧ D.tup [.str q.1, .int q.2] = d := by
      cases q : (ns.zip gs)[i]? with
      | none => rw [q] at hd; cases hd
      | some s => rw [q] at hd; exact ⟨s, rfl, by cases hd; rfl⟩
    have hi3 : i < 3 := by
      have := (List.getElem?_eq_some_iff.mp hs).1
      rw [List.length_zip] at this
      omega
    conv => whnf
    rw [dSet_dct j1 (j1'.fit x) (by rw [sizeLine_eq]; omega)]
    conv => whnf
    refine hK _ _ ⟨_, _, _, rfl, ⟨_, set_get j1, ?_, Nat.le_trans (put_len kvs _ _) (by omega)⟩, by rw [set_ne (by omega)]; exact j2, by rw [set_ne (by omega)]; exact j3, fun i hi => by rw [set_ne (by omega)]; exact j4 i hi⟩
    have := j1'.put x v
    rw [List.take_add_one, hs]
    show Vars _ (bindS zeroS ((ns.zip gs).take i ++ [(x, v)])) false
    rw [bindS_app]
    exact this
  · obtain ⟨t, u, v, rfl, ⟨kvs, j1, j1', j1''⟩, j2, j3, j4⟩ := hI
    have et : (ns.zip gs).take (((ns.map D.str).zip (gs.map D.int)).map fun p => D.tup [p.1, p.2]).length = ns.zip gs := by
      apply List.take_of_length_le
      simp
    rw [et] at j1'
    have hle : kvs.length ≤ 0 + 4 := by
      have : (((ns.map D.str).zip (gs.map D.int)).map fun p => D.tup [p.1, p.2]).length ≤ 3 := by simp; omega
      omega
    have P0 : LAt Z S.length (S.length + 2) (S.length + 1) ⟨bindS zeroS (ns.zip gs), 0, [], none⟩ 4 := ⟨⟨kvs, j1, j1', hle⟩, j3, j2, by omega, by omega, by omega⟩
    conv => whnf
    rw [show ∀ Y : Store, dIx (.tup (ns.map D.str ++ [D.tup (bd b)])) (.int (-1)) Y = some (.v (.tup (bd b)), Y) from fun Y => by show M.of (atI _ _) Y = _; rw [last]; rfl]
    conv => whnf
    refine lblockP told hl ht b ok _ _ _ hR F0 rfl k (by omega) Z _ _ _ P0 _ fun S2 P2 K2 => ?_
    have U2 : ∀ i, i < S.length → S2[i]? = S[i]? := fun i hi => by rw [K2.2 i (by omega) (by omega) (by omega)]; exact j4 i hi
    have L2 : S.length ≤ S2.length := by have := (List.getElem?_eq_some_iff.mp P2.lg).1; omega
    cases f with
    | ok =>
      cases isJ with
      | true =>
        conv => whnf
        rw [dIx_lst P2.lg (by rfl)]
        conv => whnf
        exact h _ U2 L2
      | false =>
        conv => whnf
        rw [dIx_lst P2.lg (by rfl)]
        conv => whnf
        rw [tup_lst P2.rs]
        conv => whnf
        rw [dIx_lst P2.lg (by rfl)]
        conv => whnf
        rw [dIx_lst P2.lg (by rfl)]
        conv => whnf
        exact h _ U2 L2
    | gave =>
      cases isJ
      all_goals
        conv => whnf
        rw [dIx_lst P2.lg (by rfl)]
        conv => whnf
        rw [tup_lst P2.rs]
        conv => whnf
        rw [dIx_lst P2.lg (by rfl)]
        conv => whnf
        rw [dIx_lst P2.lg (by rfl)]
        conv => whnf
        exact h _ U2 L2
    | fell w =>
      have hw := run_word hR w rfl
      simp only [fallW, List.mem_cons, List.not_mem_nil, or_false] at hw
      rcases hw with rfl | rfl | rfl | rfl | rfl <;> cases isJ
      all_goals
        conv => whnf
        rw [dIx_lst P2.lg (by rfl)]
        conv => whnf
        exact h _ U2 L2
end

section
open PySem L2 DL DLL
set_option maxHeartbeats 0
set_option linter.unusedVariables false
mutual
def Bz : PyData → Nat
  | .none => 4
  | .bool _ => 5
  | .int _ => 1921
  | .str x => (reprText x).length
  | .list xs => Bzs xs + 4
  | .tuple xs => Bzs xs + 4
  | .dict _ => 0
def Bzs : List PyData → Nat
  | [] => 0
  | x :: r => Bz x + 2 + Bzs r
end
theorem textFrom_le : ∀ (ts : List Str) (k : Nat) (acc : Str), (textFrom k acc ts).length ≤ acc.length + (ts.map fun t : Str => t.length + 2).sum
  | [], k, acc => Nat.le_add_right _ _
  | t :: r, k, acc => by
    have h := textFrom_le r (k + 1) (acc ++ (if k > 0 then ", " else "" : String) ++ t)
    have e : (acc ++ (if k > 0 then ", " else "" : String) ++ t).length ≤ acc.length + 2 + t.length := by
      rw [strLen_append, strLen_append]
      have : ((if k > 0 then ", " else "" : String) : Str).length ≤ 2 := by split <;> decide
      omega
    rw [List.map_cons, List.sum_cons]
    exact Nat.le_trans h (by omega)
theorem tuple_le (ts : List Str) : (tupleText ts).length ≤ (ts.map fun t : Str => t.length + 2).sum + 4 := by
  unfold tupleText
  rw [strLen_append, strLen_append]
  have h1 := StrLaws.join_length_le ", " ts
  have h2 : ((if ts.length == 1 then ",)" else ")" : String) : Str).length ≤ 2 := by split <;> decide
  have h3 : (("(" : String) : Str).length = 1 := rfl
  have h4 : ((", " : String) : Str).length = 2 := rfl
  rw [h4] at h1
  have h5 : ∀ l : List Str, (l.map fun t : Str => t.length + 2).sum = (l.map fun t : Str => t.length).sum + l.length * 2 := fun l => by
    induction l with
    | nil => rfl
    | cons a r ih => rw [List.map_cons, List.sum_cons, ih, List.map_cons, List.sum_cons, List.length_cons]; omega
  rw [h5]
  omega
mutual
theorem shown_le : ∀ p : PyData, p.showable = true → p.hasDict = false → p.shown.length ≤ Bz p
  | .none, _, _ => by show (4 : Nat) ≤ 4; omega
  | .bool b, _, _ => by cases b <;> decide
  | .int i, h, _ => PyProof.Rows.int_text_len_1921 (of_decide_eq_true h)
  | .str x, _, _ => Nat.le_refl _
  | .list xs, h, d => by
    have := shownAll_le xs h d
    show (textFrom 0 "[" (PyData.shownAll xs) ++ "]").length ≤ _
    rw [strLen_append]
    have h1 := textFrom_le (PyData.shownAll xs) 0 "["
    have h2 : (("[" : String) : Str).length = 1 := rfl
    have h3 : (("]" : String) : Str).length = 1 := rfl
    show _ ≤ Bzs xs + 4
    omega
  | .tuple xs, h, d => by
    have := shownAll_le xs h d
    have h1 := tuple_le (PyData.shownAll xs)
    show _ ≤ Bzs xs + 4
    exact Nat.le_trans h1 (by omega)
  | .dict _, _, d => by cases d
theorem shownAll_le : ∀ xs : List PyData, PyData.showableAll xs = true → PyData.hasDictAll xs = false → ((PyData.shownAll xs).map fun t : Str => t.length + 2).sum ≤ Bzs xs
  | [], _, _ => Nat.le_refl _
  | x :: r, h, d => by
    have h' : (x.showable && PyData.showableAll r) = true := h
    have d' : (x.hasDict || PyData.hasDictAll r) = false := d
    rw [Bool.and_eq_true] at h'
    rw [Bool.or_eq_false_iff] at d'
    have h1 := shown_le x h'.1 d'.1
    have h2 := shownAll_le r h'.2 d'.2
    show ((PyData.shown x :: PyData.shownAll r).map fun t : Str => t.length + 2).sum ≤ Bz x + 2 + Bzs r
    rw [List.map_cons, List.sum_cons]
    omega
end
/-- a row of data that is told alike -/
structure Told (S : Store) (d : D) (p : PyData) : Prop where
  box : isBox d = true
  py : toPy S depthF d = some p
  sh : p.showable = true
  nd : p.hasDict = false
  dp : p.depth ≤ 64
  sz : Bz p ≤ 16777216
theorem repr_ok {S : Store} {d : D} {p : PyData} (h : Told S d p) (st : Bool) : callB st "repr" [d] S = some (.v (.str p.shown), S) := by
  have e : callB st "repr" [d] = if isBox d = true then M.bind (pyOf d) fun p => if (p.showable && !p.hasDict && decide (p.depth ≤ 64) && decide (p.shown.length ≤ sizeLine)) = true then M.pure (.str p.shown) else M.fail else M.fail := rfl
  rw [e, if_pos h.box, bindK (pyOf_of h.py)]
  have hs : p.shown.length ≤ sizeLine := Nat.le_trans (shown_le p h.sh h.nd) (by rw [sizeLine_eq]; exact h.sz)
  rw [if_pos (by rw [h.sh, h.nd, decide_eq_true h.dp, decide_eq_true hs]; rfl)]
  rfl
theorem like_ (k : Nat) (hk : 1 ≤ k) {S : Store} {d : D} {p : PyData} (h : Told S d p) (κ : R D → Store → Prop) (hκ : κ (.v (.bl true)) S) : callAtP T k "_law_like" [d, d] S κ := by
  obtain ⟨k, rfl⟩ := lev 1 hk
  conv => whnf
  rw [repr_ok h]
  conv => whnf
  rw [repr_ok h]
  conv => whnf
  refine br_t (by simp) ?_
  conv => whnf
  exact hκ
def outP (m : Ms) (f : Fi) : PyData := match f with
  | .fell w => .tuple [.str "fell", .str w]
  | _ => .tuple [.str "well", .tuple (m.recs.map fun p => .tuple [.int p.1, .int p.2]), (match m.given with | none => .none | some v => .int v)]
theorem recs_py (S : Store) (l : List (Int × Int)) (n : Nat) : (l.map recD).mapM (toPy S (n + 1)) = some (l.map fun p => PyData.tuple [.int p.1, .int p.2]) := by
  have := mapM_of (f := fun p : Int × Int => toPy S (n + 1) (recD p)) (g := fun p => PyData.tuple [.int p.1, .int p.2]) (xs := l) (fun p _ => by cases n <;> rfl)
  rw [List.mapM_map]
  exact this
theorem log_in {i : Int} (h : InR i) : i.natAbs.log2 < 1920 := by
  by_cases h0 : i.natAbs = 0
  · rw [h0]; decide
  · have : i.natAbs.log2 < 64 := (Nat.log2_lt h0).mpr (by unfold InR at h; omega)
    omega
theorem recs_sh : ∀ (l : List (Int × Int)), (∀ p ∈ l, InR p.1 ∧ InR p.2) → PyData.showableAll (l.map fun p => PyData.tuple [.int p.1, .int p.2]) = true
  | [], _ => rfl
  | p :: r, h => by
    have h1 := h p (List.mem_cons_self ..)
    show ((PyData.tuple [.int p.1, .int p.2]).showable && PyData.showableAll (r.map fun p => PyData.tuple [.int p.1, .int p.2])) = true
    rw [recs_sh r fun q hq => h q (List.mem_cons_of_mem _ hq)]
    show ((decide (p.1.natAbs.log2 < 1920) && (decide (p.2.natAbs.log2 < 1920) && true)) && true) = true
    rw [decide_eq_true (log_in h1.1), decide_eq_true (log_in h1.2)]
    rfl
theorem recs_nd : ∀ (l : List (Int × Int)), PyData.hasDictAll (l.map fun p => PyData.tuple [.int p.1, .int p.2]) = false
  | [] => rfl
  | p :: r => recs_nd r
theorem recs_dp : ∀ (l : List (Int × Int)), PyData.depthAll (l.map fun p => PyData.tuple [.int p.1, .int p.2]) ≤ 1
  | [] => Nat.zero_le _
  | p :: r => Nat.max_le.mpr ⟨Nat.le_refl _, recs_dp r⟩
theorem recs_bz : ∀ (l : List (Int × Int)), Bzs (l.map fun p => PyData.tuple [.int p.1, .int p.2]) = l.length * 3852
  | [] => rfl
  | p :: r => by
    show Bz (PyData.tuple [.int p.1, .int p.2]) + 2 + Bzs (r.map fun p => PyData.tuple [.int p.1, .int p.2]) = _
    rw [recs_bz r, List.length_cons]
    show (1921 + 2 + (1921 + 2 + 0)) + 4 + 2 + _ = _
    omega
structure Nums (m : Ms) : Prop where
  rs : ∀ p ∈ m.recs, InR p.1 ∧ InR p.2
  gv : ∀ v, m.given = some v → InR v
theorem outD_py (S : Store) (m : Ms) (f : Fi) (n : Nat) : toPy S (n + 3) (outD m f) = some (outP m f) := by
  have well : toPy S (n + 3) (.tup [.str "well", .tup (m.recs.map recD), gD m.given]) = some (.tuple [.str "well", .tuple (m.recs.map fun p => .tuple [.int p.1, .int p.2]), (match m.given with | none => .none | some v => .int v)]) := by
    have e1 : toPy S (n + 2) (.tup (m.recs.map recD)) = some (.tuple (m.recs.map fun p => .tuple [.int p.1, .int p.2])) := by
      show ((m.recs.map recD).mapM (toPy S (n + 1))).map PyData.tuple = _
      rw [recs_py]
      rfl
    have e2 : toPy S (n + 2) (gD m.given) = some (match m.given with | none => .none | some v => .int v) := by cases m.given <;> rfl
    show ([D.str "well", D.tup (m.recs.map recD), gD m.given].mapM (toPy S (n + 2))).map PyData.tuple = _
    rw [List.mapM_cons, List.mapM_cons, List.mapM_cons, e1, e2]
    rfl
  cases f with
  | fell w => rfl
  | ok => exact well
  | gave => exact well
theorem word_bz : ∀ w ∈ (("nothing" : Str) :: fallW), (reprText w).length ≤ 20 := by decide +kernel
theorem outP_ok {m : Ms} {f : Fi} (F : Fine m) (N : Nums m) (hw : ∀ w, f = .fell w → w ∈ (("nothing" : Str) :: fallW)) : (outP m f).showable = true ∧ (outP m f).hasDict = false ∧ (outP m f).depth ≤ 3 ∧ Bz (outP m f) ≤ 30000 := by
  have well : ∀ g : Option Int, (∀ v, g = some v → InR v) → (PyData.tuple [.str "well", .tuple (m.recs.map fun p => .tuple [.int p.1, .int p.2]), (match g with | none => .none | some v => .int v)]).showable = true ∧ (PyData.tuple [.str "well", .tuple (m.recs.map fun p => .tuple [.int p.1, .int p.2]), (match g with | none => .none | some v => .int v)]).hasDict = false ∧ (PyData.tuple [.str "well", .tuple (m.recs.map fun p => .tuple [.int p.1, .int p.2]), (match g with | none => .none | some v => .int v)]).depth ≤ 3 ∧ Bz (PyData.tuple [.str "well", .tuple (m.recs.map fun p => .tuple [.int p.1, .int p.2]), (match g with | none => .none | some v => .int v)]) ≤ 30000 := fun g hg => by
    have hb : (reprText "well").length ≤ 20 := by decide +kernel
    have h6 := F.few
    have hz := recs_bz m.recs
    have hd := recs_dp m.recs
    cases g with
    | none =>
      refine ⟨?_, ?_, ?_, ?_⟩
      · show (true && (PyData.showableAll (m.recs.map fun p => PyData.tuple [.int p.1, .int p.2]) && (true && true))) = true
        rw [recs_sh _ N.rs]
        rfl
      · show (false || (PyData.hasDictAll (m.recs.map fun p => PyData.tuple [.int p.1, .int p.2]) || (false || false))) = false
        rw [recs_nd]
        rfl
      · show max 0 (max (PyData.depthAll (m.recs.map fun p => PyData.tuple [.int p.1, .int p.2]) + 1) (max 0 0)) + 1 ≤ 3
        omega
      · show ((reprText "well").length + 2 + ((Bzs (m.recs.map fun p => PyData.tuple [.int p.1, .int p.2]) + 4) + 2 + (4 + 2 + 0))) + 4 ≤ 30000
        omega
    | some v =>
      have hv := log_in (hg v rfl)
      refine ⟨?_, ?_, ?_, ?_⟩
      · show (true && (PyData.showableAll (m.recs.map fun p => PyData.tuple [.int p.1, .int p.2]) && (decide (v.natAbs.log2 < 1920) && true))) = true
        rw [recs_sh _ N.rs, decide_eq_true hv]
        rfl
      · show (false || (PyData.hasDictAll (m.recs.map fun p => PyData.tuple [.int p.1, .int p.2]) || (false || false))) = false
        rw [recs_nd]
        rfl
      · show max 0 (max (PyData.depthAll (m.recs.map fun p => PyData.tuple [.int p.1, .int p.2]) + 1) (max 0 0)) + 1 ≤ 3
        omega
      · show ((reprText "well").length + 2 + ((Bzs (m.recs.map fun p => PyData.tuple [.int p.1, .int p.2]) + 4) + 2 + (1921 + 2 + 0))) + 4 ≤ 30000
        omega
  cases f with
  | fell w =>
    have h1 := word_bz w (hw w rfl)
    have hb : (reprText "fell").length ≤ 20 := by decide +kernel
    refine ⟨rfl, rfl, ?_, ?_⟩
    · show max 0 (max 0 0) + 1 ≤ 3
      omega
    · show ((reprText "fell").length + 2 + ((reprText w).length + 2 + 0)) + 4 ≤ 30000
      omega
  | ok => exact well m.given N.gv
  | gave => exact well m.given N.gv
theorem run_nums {told : List Int} (hl : told.length ≤ 1000) (ht : ∀ v ∈ told, InR v) {cf : Cf} {m : Ms} {f : Fi} {m' : Ms} (h : Run told cf m f m') : CfOk told cf → Fine m → Nums m → Nums m' := by
  induction h with
  | nil => exact fun ok F N => N
  | tired h => exact fun ok F N => N
  | more h h1 h2 ih1 ih2 => exact fun ok F N => ih2 ok.2 (run_post hl ht h1 ok.1 (F.up (by omega))).1 (ih1 ok.1 (F.up (by omega)) ⟨N.rs, N.gv⟩)
  | ends h h1 hf ih1 => exact fun ok F N => ih1 ok.1 (F.up (by omega)) ⟨N.rs, N.gv⟩
  | fail => exact fun ok F N => N
  | crash => exact fun ok F N => N
  | set h => exact fun ok F N => ⟨N.rs, N.gv⟩
  | set0 h => exact fun ok F N => N
  | give h => exact fun ok F N => ⟨N.rs, fun v e => by cases e; exact worth_in F.inr hl _ ok h⟩
  | give0 h => exact fun ok F N => N
  | emit h h2 h3 => exact fun ok F N => ⟨fun p hp => by
      rcases List.mem_append.mp hp with hp | hp
      · exact N.rs p hp
      · rw [List.mem_singleton.mp hp]; exact ⟨worth_in F.inr hl _ ok.1 h, worth_in F.inr hl _ ok.2 h2⟩, N.gv⟩
  | much h h2 h3 => exact fun ok F N => N
  | emit0 h => exact fun ok F N => N
  | @ite e a b m v f m1 h h1 ih => exact fun ok F N => ih (by show bok _; split; exact ok.2.2; exact ok.2.1) F N
  | ite0 h => exact fun ok F N => N
  | loop h h1 ih => exact fun ok F N => ih ok F N
  | loop0 h => exact fun ok F N => N
  | each h1 ih => exact fun ok F N => ih ⟨ok.1, ok.2, ht⟩ F N
  | wh0 => exact fun ok F N => N
  | whE hv h1 hf ih => exact fun ok F N => ih ok.2 F N
  | whT hv h1 h ih => exact fun ok F N => ih ok.2 F N
  | whZ hv h1 h h2 ih => exact fun ok F N => ⟨(ih ok.2 F N).rs, (ih ok.2 F N).gv⟩
  | whM hv h1 h h2 h3 ih1 ih3 => exact fun ok F N => ih3 ok ((run_post hl ht h1 ok.2 F).1.up (by omega)) ⟨(ih1 ok.2 F N).rs, (ih1 ok.2 F N).gv⟩
  | ea0 => exact fun ok F N => N
  | eaT h => exact fun ok F N => N
  | eaE h h1 hf ih => exact fun ok F N => ih ok.2.1 ((F.var (ok.2.2 _ (List.mem_cons_self ..))).up (by omega)) ⟨N.rs, N.gv⟩
  | eaM h h1 h2 ih1 ih2 => exact fun ok F N => ih2 ⟨ok.1, ok.2.1, fun v hv => ok.2.2 v (List.mem_cons_of_mem _ hv)⟩ (run_post hl ht h1 ok.2.1 ((F.var (ok.2.2 _ (List.mem_cons_self ..))).up (by omega))).1 (ih1 ok.2.1 ((F.var (ok.2.2 _ (List.mem_cons_self ..))).up (by omega)) ⟨N.rs, N.gv⟩)
theorem told_ok {S : Store} {m : Ms} {f : Fi} (F : Fine m) (N : Nums m) (hw : ∀ w, f = .fell w → w ∈ (("nothing" : Str) :: fallW)) : Told S (.tup [outD m f, .int m.n]) (.tuple [outP m f, .int m.n]) := by
  obtain ⟨h1, h2, h3, h4⟩ := outP_ok F N hw
  refine ⟨rfl, ?_, ?_, ?_, ?_, ?_⟩
  · show ([outD m f, D.int m.n].mapM (toPy S 59)).map PyData.tuple = _
    rw [List.mapM_cons, outD_py S m f 56]
    rfl
  · show ((outP m f).showable && (decide ((m.n : Int).natAbs.log2 < 1920) && true)) = true
    rw [h1, decide_eq_true (log_in (by unfold InR; have := F.n; omega))]
    rfl
  · show ((outP m f).hasDict || (false || false)) = false
    rw [h2]
    rfl
  · show max (outP m f).depth (max 0 0) + 1 ≤ 64
    omega
  · show (Bz (outP m f) + 2 + (1921 + 2 + 0)) + 4 ≤ 16777216
    omega
end

section
open PySem L2 DL DLL
set_option maxHeartbeats 0
set_option linter.unusedVariables false
def menu : List Str := ["a", "b", "c", "x", "v", "z"]
def Ex.okM : Ex → Prop
  | .int n => InR n
  | .var x => x ∈ menu
  | .cnt => True
  | .neg e => e.okM
  | .bin _ a b => a.okM ∧ b.okM
mutual
def S1.okM : S1 → Prop
  | .set x e => x ∈ menu ∧ e.okM
  | .emit a b => a.okM ∧ b.okM
  | .give e => e.okM
  | .fail => True
  | .crash => True
  | .each x b => x ∈ menu ∧ bokM b
  | .ite e a b => e.okM ∧ bokM a ∧ bokM b
  | .loop e b => e.okM ∧ bokM b
def bokM : List S1 → Prop
  | [] => True
  | s :: r => s.okM ∧ r.length ≤ 100 ∧ bokM r
end
theorem menu_letters : ∀ x ∈ menu, x ∈ letters := by decide +kernel
theorem Ex.okM_ok : ∀ e : Ex, e.okM → e.ok
  | .int n, h => h
  | .var x, h => menu_letters x h
  | .cnt, h => h
  | .neg e, h => Ex.okM_ok e h
  | .bin o a b, h => ⟨Ex.okM_ok a h.1, Ex.okM_ok b h.2⟩
mutual
theorem S1.okM_ok : ∀ s : S1, s.okM → s.ok
  | .set x e, h => ⟨menu_letters x h.1, Ex.okM_ok e h.2⟩
  | .emit a b, h => ⟨Ex.okM_ok a h.1, Ex.okM_ok b h.2⟩
  | .give e, h => Ex.okM_ok e h
  | .fail, h => h
  | .crash, h => h
  | .each x b, h => ⟨menu_letters x h.1, bokM_ok b h.2⟩
  | .ite e a b, h => ⟨Ex.okM_ok e h.1, bokM_ok a h.2.1, bokM_ok b h.2.2⟩
  | .loop e b, h => ⟨Ex.okM_ok e h.1, bokM_ok b h.2⟩
theorem bokM_ok : ∀ b : List S1, bokM b → bok b
  | [], h => h
  | s :: r, h => ⟨S1.okM_ok s h.1, bokM_ok r h.2.2⟩
end
end

section
open PySem L2 DL DLL
set_option maxHeartbeats 0
set_option linter.unusedVariables false
def Cup (S : Store) : Prop := ∃ a b : Int, 0 ≤ a ∧ 0 ≤ b ∧ S[0]? = some (.lst [.int a, .int b])
def Oth (S S' : Store) : Prop := S'.length = S.length ∧ ∀ i, i ≠ 0 → S'[i]? = S[i]?
theorem Oth.refl {S : Store} : Oth S S := ⟨rfl, fun _ _ => rfl⟩
theorem Oth.trans {S S1 S2 : Store} (h1 : Oth S S1) (h2 : Oth S1 S2) : Oth S S2 := ⟨h2.1.trans h1.1, fun i hi => (h2.2 i hi).trans (h1.2 i hi)⟩
theorem Oth.set {S : Store} {o : Ob} : Oth S (S.set 0 o) := ⟨by simp, fun i hi => set_ne (Ne.symm hi)⟩
theorem rollS (k : Nat) (hk : 1 ≤ k) (S : Store) (hS : Cup S) (m : Int) (hm : 0 < m) (hm2 : m < 18446744073709551616) (κ : R D → Store → Prop)
    (h : ∀ r S', 0 ≤ r → r < m → Cup S' → Oth S S' → κ (.v (.int r)) S') : callAtP T k "_law_roll" [.obj 0, .int m] S κ := by
  obtain ⟨k, rfl⟩ := lev 1 hk
  obtain ⟨a, b, ha, hb, hS⟩ := hS
  have hne : decide (m ≠ 0) = true := by simp; omega
  have i0 : atI [D.int a, D.int b] 0 = some (.int a) := rfl
  have i1 : atI [D.int a, D.int b] 1 = some (.int b) := rfl
  conv => whnf
  rw [dIx_lst hS i0]
  conv => whnf
  refine br_ (fun h1 => ?_) (fun h1 => ?_)
  · conv => whnf
    rw [dIx_lst hS i0]
    conv => whnf
    refine grd_ hne ?_
    conv => whnf
    rw [dIx_lst hS i0]
    conv => whnf
    refine grd_ (divOk_small hm hm2) ?_
    conv => whnf
    rw [dSet_lst hS (j := 0) (by rfl)]
    conv => whnf
    exact h _ _ (Int.fmod_nonneg_of_pos _ hm) (Int.fmod_lt_of_pos _ hm) ⟨_, _, Int.fdiv_nonneg ha (by omega), hb, set_get hS⟩ Oth.set
  · have p1 := Int.fmod_nonneg_of_pos (b * 31051 + 7993) (b := 2147483543) (by decide)
    have p2 := Int.fmod_lt_of_pos (b * 31051 + 7993) (b := 2147483543) (by decide)
    conv => whnf
    rw [dIx_lst hS i1]
    conv => whnf
    refine grd_ (mulOk_right (by decide) (by decide)) ?_
    conv => whnf
    rw [dSet_lst hS (j := 1) (by rfl)]
    have es : ([D.int a, D.int b] : List D).set 1 (.int ((b * 31051 + 7993).fmod 2147483543)) = [.int a, .int ((b * 31051 + 7993).fmod 2147483543)] := rfl
    rw [es]
    have hS2 := set_get (p := .lst [.int a, .int ((b * 31051 + 7993).fmod 2147483543)]) hS
    have j1 : atI [D.int a, D.int ((b * 31051 + 7993).fmod 2147483543)] 1 = some (.int ((b * 31051 + 7993).fmod 2147483543)) := rfl
    have o2 : Oth S (S.set 0 (.lst [.int a, .int ((b * 31051 + 7993).fmod 2147483543)])) := Oth.set
    generalize S.set 0 (.lst [.int a, .int ((b * 31051 + 7993).fmod 2147483543)]) = S2 at hS2 o2 ⊢
    conv => whnf
    rw [dIx_lst hS2 j1]
    conv => whnf
    rw [dIx_lst hS2 j1]
    conv => whnf
    refine grd_ (mulOk_left p1 (by omega)) ?_
    conv => whnf
    refine grd_ hne ?_
    conv => whnf
    exact h _ _ (Int.fmod_nonneg_of_pos _ hm) (Int.fmod_lt_of_pos _ hm) ⟨_, _, ha, p1, hS2⟩ o2
theorem someS (k : Nat) (hk : 2 ≤ k) (S : Store) (hS : Cup S) (xs : List D) (hx : 0 < xs.length) (hx2 : xs.length < 18446744073709551616) (κ : R D → Store → Prop)
    (h : ∀ x S', x ∈ xs → Cup S' → Oth S S' → κ (.v x) S') : callAtP T k "_law_some" [.obj 0, .lst xs] S κ := by
  obtain ⟨k, rfl⟩ := lev 1 (show 1 ≤ k by omega)
  conv => whnf
  refine rollS k (by omega) S hS _ (by omega) (by omega) _ fun r S' h0 h1 hS' ho => ?_
  obtain ⟨x, e, hm⟩ := atI_mem h0 h1
  conv => whnf
  rw [show ∀ S : Store, dIx (.lst xs) (.int r) S = some (.v x, S) from fun S => by show M.of (atI xs r) S = _; rw [e]; rfl]
  exact h x S' hm hS' ho
theorem letterS (k : Nat) (hk : 3 ≤ k) (S : Store) (hS : Cup S) (κ : R D → Store → Prop) (h : ∀ x S', x ∈ menu → Cup S' → Oth S S' → κ (.v (.str x)) S') : callAtP T k "_law_letter" [.obj 0] S κ := by
  obtain ⟨k, rfl⟩ := lev 1 (show 1 ≤ k by omega)
  conv => whnf
  refine someS k (by omega) S hS _ (by simp) (by simp) _ fun x S' hx hS' ho => ?_
  obtain ⟨z, rfl, hz⟩ : ∃ z : Str, x = .str z ∧ z ∈ menu := by
    simp only [List.mem_cons, List.not_mem_nil, or_false] at hx
    rcases hx with rfl | rfl | rfl | rfl | rfl | rfl <;> exact ⟨_, rfl, by decide⟩
  conv => whnf
  exact h z S' hz hS' ho
def isFn (fn : Str) : Prop := fn = "map" ∨ fn = "join" ∨ fn = "reduce"
theorem exprS (fn : Str) (hfn : isFn fn) : ∀ (n : Nat) (parts : Int), 1 ≤ parts → parts ≤ n → n ≤ 1000 → ∀ (k : Nat), n + 4 ≤ k → ∀ (S : Store), Cup S → ∀ κ : R D → Store → Prop, (∀ e S', Ex.okM e → Ex.deep e + 1 ≤ n → Cup S' → Oth S S' → κ (.v e.d) S') → callAtP T k "_law_expr" [.obj 0, .str fn, .int parts] S κ := by
  intro n
  induction n with
  | zero => intro parts h1 h2; omega
  | succ n ih =>
    intro parts h1 h2 hn k hk S hS κ h
    obtain ⟨k, rfl⟩ := lev 1 (show 1 ≤ k by omega)
    have leaf : ∀ (S : Store), Cup S → ∀ κ : R D → Store → Prop, (∀ e S', Ex.okM e → Ex.deep e = 0 → Cup S' → Oth S S' → κ (.v e.d) S') → True := fun _ _ _ _ => trivial
    conv => whnf
    refine br_ (fun p1 => ?_) (fun p1 => ?_)
    · have p1' : 1 < parts := of_decide_eq_true p1
      conv => whnf
      refine rollS k (by omega) S hS _ (by decide) (by decide) _ fun way S1 w0 w1 hS1 o1 => ?_
      conv => whnf
      refine br_ (fun q1 => ?_) (fun q1 => ?_)
      · conv => whnf
        refine ih (parts - 1) (by omega) (by omega) (by omega) k (by omega) S1 hS1 _ fun e S2 he hd hS2 o2 => ?_
        conv => whnf
        exact h (.neg e) S2 he (by show e.deep + 1 + 1 ≤ n + 1; omega) hS2 (o1.trans o2)
      · conv => whnf
        refine br_ (fun q2 => ?_) (fun q2 => ?_)
        · conv => whnf
          refine br_ (fun q3 => ?_) (fun q3 => ?_)
          · have q3' : 2 < parts := of_decide_eq_true q3
            conv => whnf
            refine rollS k (by omega) S1 hS1 _ (by omega) (by omega) _ fun one S2 w2 w3 hS2 o2 => ?_
            conv => whnf
            refine someS k (by omega) S2 hS2 _ (by simp) (by simp) _ fun c S3 hc hS3 o3 => ?_
            obtain ⟨o, rfl⟩ : ∃ o : Op, c = .str o.s := by
              simp only [List.mem_cons, List.not_mem_nil, or_false] at hc
              rcases hc with rfl | rfl | rfl | rfl | rfl | rfl | rfl | rfl
              · exact ⟨.plus, rfl⟩
              · exact ⟨.less, rfl⟩
              · exact ⟨.times, rfl⟩
              · exact ⟨.over, rfl⟩
              · exact ⟨.rest, rfl⟩
              · exact ⟨.below, rfl⟩
              · exact ⟨.above, rfl⟩
              · exact ⟨.same, rfl⟩
            conv => whnf
            refine ih (1 + one) (by omega) (by omega) (by omega) k (by omega) S3 hS3 _ fun e S4 he hd hS4 o4 => ?_
            conv => whnf
            refine ih (parts - 1 - (1 + one)) (by omega) (by omega) (by omega) k (by omega) S4 hS4 _ fun e2 S5 he2 hd2 hS5 o5 => ?_
            conv => whnf
            exact h (.bin o e e2) S5 ⟨he, he2⟩ (by show max e.deep e2.deep + 1 + 1 ≤ n + 1; omega) hS5 ((((o1.trans o2).trans o3).trans o4).trans o5)
          · skip
            conv => whnf
            refine someS k (by omega) S1 hS1 _ (by simp) (by simp) _ fun c S2 hc hS2 o2 => ?_
            obtain ⟨g, rfl, hg⟩ : ∃ g : Int, c = .int g ∧ InR g := by
              simp only [List.mem_cons, List.not_mem_nil, or_false] at hc
              rcases hc with rfl | rfl | rfl | rfl | rfl | rfl <;> exact ⟨_, rfl, by unfold InR; omega⟩
            conv => whnf
            refine letterS k (by omega) S2 hS2 _ fun x S3 hx hS3 o3 => ?_
            conv => whnf
            refine letterS k (by omega) S3 hS3 _ fun y S4 hy hS4 o4 => ?_
            rcases hfn with rfl | rfl | rfl
            all_goals
              conv => whnf
              refine someS k (by omega) S4 hS4 _ (by simp) (by simp) _ fun z S5 hz hS5 o5 => ?_
              obtain ⟨e, rfl, he, hd⟩ : ∃ e : Ex, z = e.d ∧ e.okM ∧ e.deep = 0 := by
                simp only [List.cons_append, List.nil_append, List.append_nil, List.mem_cons, List.not_mem_nil, or_false] at hz
                first
                  | (rcases hz with rfl | rfl | rfl
                     · exact ⟨.int g, rfl, hg, rfl⟩
                     · exact ⟨.var x, rfl, hx, rfl⟩
                     · exact ⟨.var y, rfl, hy, rfl⟩)
                  | (rcases hz with rfl | rfl | rfl | rfl
                     · exact ⟨.int g, rfl, hg, rfl⟩
                     · exact ⟨.var x, rfl, hx, rfl⟩
                     · exact ⟨.var y, rfl, hy, rfl⟩
                     · exact ⟨.cnt, rfl, trivial, rfl⟩)
              conv => whnf
              exact h e S5 he (by omega) hS5 (o1.trans (((o2.trans o3).trans o4).trans o5))
        · skip
          conv => whnf
          refine someS k (by omega) S1 hS1 _ (by simp) (by simp) _ fun c S2 hc hS2 o2 => ?_
          obtain ⟨g, rfl, hg⟩ : ∃ g : Int, c = .int g ∧ InR g := by
            simp only [List.mem_cons, List.not_mem_nil, or_false] at hc
            rcases hc with rfl | rfl | rfl | rfl | rfl | rfl <;> exact ⟨_, rfl, by unfold InR; omega⟩
          conv => whnf
          refine letterS k (by omega) S2 hS2 _ fun x S3 hx hS3 o3 => ?_
          conv => whnf
          refine letterS k (by omega) S3 hS3 _ fun y S4 hy hS4 o4 => ?_
          rcases hfn with rfl | rfl | rfl
          all_goals
            conv => whnf
            refine someS k (by omega) S4 hS4 _ (by simp) (by simp) _ fun z S5 hz hS5 o5 => ?_
            obtain ⟨e, rfl, he, hd⟩ : ∃ e : Ex, z = e.d ∧ e.okM ∧ e.deep = 0 := by
              simp only [List.cons_append, List.nil_append, List.append_nil, List.mem_cons, List.not_mem_nil, or_false] at hz
              first
                | (rcases hz with rfl | rfl | rfl
                   · exact ⟨.int g, rfl, hg, rfl⟩
                   · exact ⟨.var x, rfl, hx, rfl⟩
                   · exact ⟨.var y, rfl, hy, rfl⟩)
                | (rcases hz with rfl | rfl | rfl | rfl
                   · exact ⟨.int g, rfl, hg, rfl⟩
                   · exact ⟨.var x, rfl, hx, rfl⟩
                   · exact ⟨.var y, rfl, hy, rfl⟩
                   · exact ⟨.cnt, rfl, trivial, rfl⟩)
            conv => whnf
            exact h e S5 he (by omega) hS5 (o1.trans (((o2.trans o3).trans o4).trans o5))
    · skip
      conv => whnf
      refine someS k (by omega) S hS _ (by simp) (by simp) _ fun c S2 hc hS2 o2 => ?_
      obtain ⟨g, rfl, hg⟩ : ∃ g : Int, c = .int g ∧ InR g := by
        simp only [List.mem_cons, List.not_mem_nil, or_false] at hc
        rcases hc with rfl | rfl | rfl | rfl | rfl | rfl <;> exact ⟨_, rfl, by unfold InR; omega⟩
      conv => whnf
      refine letterS k (by omega) S2 hS2 _ fun x S3 hx hS3 o3 => ?_
      conv => whnf
      refine letterS k (by omega) S3 hS3 _ fun y S4 hy hS4 o4 => ?_
      rcases hfn with rfl | rfl | rfl
      all_goals
        conv => whnf
        refine someS k (by omega) S4 hS4 _ (by simp) (by simp) _ fun z S5 hz hS5 o5 => ?_
        obtain ⟨e, rfl, he, hd⟩ : ∃ e : Ex, z = e.d ∧ e.okM ∧ e.deep = 0 := by
          simp only [List.cons_append, List.nil_append, List.append_nil, List.mem_cons, List.not_mem_nil, or_false] at hz
          first
            | (rcases hz with rfl | rfl | rfl
               · exact ⟨.int g, rfl, hg, rfl⟩
               · exact ⟨.var x, rfl, hx, rfl⟩
               · exact ⟨.var y, rfl, hy, rfl⟩)
            | (rcases hz with rfl | rfl | rfl | rfl
               · exact ⟨.int g, rfl, hg, rfl⟩
               · exact ⟨.var x, rfl, hx, rfl⟩
               · exact ⟨.var y, rfl, hy, rfl⟩
               · exact ⟨.cnt, rfl, trivial, rfl⟩)
        conv => whnf
        exact h e S5 he (by omega) hS5 (((o2.trans o3).trans o4).trans o5)
end

section
open PySem L2 DL DLL
set_option maxHeartbeats 0
set_option linter.unusedVariables false
theorem comp_inv {nx : Nx} {xs : List D} {turn : D → MP (Option D)} {κ : R (List D) → Store → Prop} {S : Store} {fu : Nat} (Inv : Nat → List D → Store → Prop) (h0 : Inv 0 [] S) (hnx : ∀ S i, nx S i = some xs[i]?) (hf : fu = xs.length + 1)
    (step : ∀ i d acc S (K : R (Option D) → Store → Prop), xs[i]? = some d → Inv i acc S → (∀ y S', Inv (i + 1) (acc ++ [y]) S' → acc.length < sizeLine → K (.v (some y)) S') → (∀ S', Inv (i + 1) acc S' → K (.v none) S') → turn d S K)
    (fin : ∀ acc S, Inv xs.length acc S → κ (.v acc) S) : Lp (compLoopP nx turn fu 0 [] S κ) := by
  subst hf
  exact .go (comp_items Inv (fun i acc S _ => hnx S i) step fin xs.length 0 [] S (by omega) (by omega) h0)
theorem range_ok {n : Int} (h0 : 0 ≤ n) (h1 : n < 4611686018427387904) : (decide (-(2 ^ 62) ≤ (0 : Int)) && decide ((0 : Int) < 2 ^ 62) && decide (-(2 ^ 62) ≤ n) && decide (n < 2 ^ 62)) = true := by
  simp; omega
theorem anyS (fn : Str) (hfn : isFn fn) (k : Nat) (hk : 26 ≤ k) (S : Store) (hS : Cup S) (κ : R D → Store → Prop) (h : ∀ e S', Ex.okM e → Ex.deep e ≤ 20 → Cup S' → Oth S S' → κ (.v e.d) S') : callAtP T k "_law_any" [.obj 0, .str fn] S κ := by
  obtain ⟨k, rfl⟩ := lev 1 (show 1 ≤ k by omega)
  conv => whnf
  refine someS k (by omega) S hS _ (by simp) (by simp) _ fun c S2 hc hS2 o2 => ?_
  obtain ⟨g, rfl, hg⟩ : ∃ g : Int, c = .int g ∧ 1 ≤ g ∧ g ≤ 20 := by
    simp only [List.mem_cons, List.not_mem_nil, or_false] at hc
    rcases hc with rfl | rfl | rfl | rfl | rfl | rfl <;> exact ⟨_, rfl, by decide⟩
  conv => whnf
  refine exprS fn hfn 20 g hg.1 hg.2 (by decide) k (by omega) S2 hS2 _ fun e S3 he hd hS3 o3 => ?_
  conv => whnf
  exact h e S3 he (by omega) hS3 (o2.trans o3)
theorem numberS (k : Nat) (hk : 3 ≤ k) (S : Store) (hS : Cup S) (κ : R D → Store → Prop) (h : ∀ n S', InR n → Cup S' → Oth S S' → κ (.v (.int n)) S') : callAtP T k "_law_number" [.obj 0] S κ := by
  obtain ⟨k, rfl⟩ := lev 1 (show 1 ≤ k by omega)
  conv => whnf
  refine rollS k (by omega) S hS _ (by decide) (by decide) _ fun r S1 h0 h1 hS1 o1 => ?_
  conv => whnf
  refine someS k (by omega) S1 hS1 _ (by simp) (by simp) _ fun c S2 hc hS2 o2 => ?_
  obtain ⟨g, rfl, hg⟩ : ∃ g : Int, c = .int g ∧ InR g := by
    simp only [List.mem_cons, List.not_mem_nil, or_false] at hc
    have e32 : (2 : Int) ^ Int.toNat 32 = 4294967296 := by decide
    rcases hc with rfl | rfl | rfl | rfl | rfl | rfl | rfl | rfl | rfl | rfl | rfl
    all_goals refine ⟨_, rfl, ?_⟩
    all_goals first
      | (unfold InR; omega)
      | (rw [p63]; unfold InR; omega)
      | (rw [e32]; unfold InR; omega)
  conv => whnf
  exact h g S2 hg hS2 (o1.trans o2)
/-- a row of numbers -/
theorem givenS (fn : Str) (hfn : isFn fn) (k : Nat) (hk : 5 ≤ k) (S : Store) (hS : Cup S) (κ : R D → Store → Prop)
    (h : ∀ (gs told : List Int) S', (fn = "reduce" ∨ told = []) → gs.length = (if fn = "map" then 2 else if fn = "join" then 3 else 1) → told.length ≤ 10 → (∀ v ∈ gs, InR v) → (∀ v ∈ told, InR v) → Cup S' → Oth S S' → κ (.v (if fn = "reduce" then .tup (gs.map D.int ++ [.tup (told.map D.int)]) else .tup (gs.map D.int))) S') : callAtP T k "_law_given" [.obj 0, .str fn] S κ := by
  obtain ⟨k, rfl⟩ := lev 1 (show 1 ≤ k by omega)
  have row : ∀ (n : Nat) (S : Store), n ≤ 10 → Cup S → ∀ κ : R D → Store → Prop, (∀ (gs : List Int) S', gs.length = n → (∀ v ∈ gs, InR v) → Cup S' → Oth S S' → κ (.v (.lst (gs.map D.int))) S') → True := fun _ _ _ _ _ _ => trivial
  rcases hfn with rfl | rfl | rfl
  · conv => whnf
    refine comp_inv (xs := (List.range 2).map fun i => D.int (0 + (i : Nat) * 1)) (fun i acc S1 => ∃ gs : List Int, acc = gs.map D.int ∧ gs.length = i ∧ (∀ v ∈ gs, InR v) ∧ Cup S1 ∧ Oth S S1) ⟨[], rfl, rfl, (fun v hv => by cases hv), hS, Oth.refl⟩ (fun S i => rfl) rfl (fun i d acc S1 K hd hI hK _ => ?_) (fun acc S1 hI => ?_)
    · obtain ⟨gs, rfl, hl, hg, hS1, o1⟩ := hI
      have hi : i < 2 := by have := (List.getElem?_eq_some_iff.mp hd).1; simpa using this
      conv => whnf
      refine numberS k (by omega) S1 hS1 _ fun v S2 hv hS2 o2 => ?_
      conv => whnf
      refine hK _ _ ⟨gs ++ [v], by simp, by simp [hl], fun w hw => ?_, hS2, o1.trans o2⟩ (by simp [sizeLine_eq]; omega)
      rcases List.mem_append.mp hw with hw | hw
      · exact hg w hw
      · rw [List.mem_singleton.mp hw]; exact hv
    · obtain ⟨gs, rfl, hl, hg, hS1, o1⟩ := hI
      conv => whnf
      exact h gs [] S1 (.inr rfl) (by rw [hl]; rfl) (by simp) hg (fun v hv => by cases hv) hS1 o1
  · conv => whnf
    refine comp_inv (xs := (List.range 3).map fun i => D.int (0 + (i : Nat) * 1)) (fun i acc S1 => ∃ gs : List Int, acc = gs.map D.int ∧ gs.length = i ∧ (∀ v ∈ gs, InR v) ∧ Cup S1 ∧ Oth S S1) ⟨[], rfl, rfl, (fun v hv => by cases hv), hS, Oth.refl⟩ (fun S i => rfl) rfl (fun i d acc S1 K hd hI hK _ => ?_) (fun acc S1 hI => ?_)
    · obtain ⟨gs, rfl, hl, hg, hS1, o1⟩ := hI
      have hi : i < 3 := by have := (List.getElem?_eq_some_iff.mp hd).1; simpa using this
      conv => whnf
      refine numberS k (by omega) S1 hS1 _ fun v S2 hv hS2 o2 => ?_
      conv => whnf
      refine hK _ _ ⟨gs ++ [v], by simp, by simp [hl], fun w hw => ?_, hS2, o1.trans o2⟩ (by simp [sizeLine_eq]; omega)
      rcases List.mem_append.mp hw with hw | hw
      · exact hg w hw
      · rw [List.mem_singleton.mp hw]; exact hv
    · obtain ⟨gs, rfl, hl, hg, hS1, o1⟩ := hI
      conv => whnf
      exact h gs [] S1 (.inr rfl) (by rw [hl]; rfl) (by simp) hg (fun v hv => by cases hv) hS1 o1
  · conv => whnf
    refine numberS k (by omega) S hS _ fun v0 S0 hv0 hS0 o0 => ?_
    conv => whnf
    refine someS k (by omega) S0 hS0 _ (by simp) (by simp) _ fun c S2 hc hS2 o2 => ?_
    obtain ⟨n, rfl, hn0, hn⟩ : ∃ n : Int, c = .int n ∧ 0 ≤ n ∧ n ≤ 5 := by
      simp only [List.mem_cons, List.not_mem_nil, or_false] at hc
      rcases hc with rfl | rfl | rfl | rfl | rfl <;> exact ⟨_, rfl, by decide⟩
    conv => whnf
    refine grd_ (range_ok (by omega) (by omega)) ?_
    conv => whnf
    refine comp_inv (xs := (List.range (n - 0).toNat).map fun i => D.int (0 + (i : Nat) * 1)) (fun i acc S1 => ∃ gs : List Int, acc = gs.map D.int ∧ gs.length = i ∧ (∀ v ∈ gs, InR v) ∧ Cup S1 ∧ Oth S S1) ⟨[], rfl, rfl, (fun v hv => by cases hv), hS2, o0.trans o2⟩ (fun S i => rfl) rfl (fun i d acc S1 K hd hI hK _ => ?_) (fun acc S1 hI => ?_)
    · obtain ⟨gs, rfl, hl, hg, hS1, o1⟩ := hI
      have hi : i < 5 := by
        have h2 := (List.getElem?_eq_some_iff.mp hd).1
        simp at h2
        omega
      conv => whnf
      refine numberS k (by omega) S1 hS1 _ fun v S2 hv hS2 o2 => ?_
      conv => whnf
      refine hK _ _ ⟨gs ++ [v], by simp, by simp [hl], fun w hw => ?_, hS2, o1.trans o2⟩ (by simp [sizeLine_eq]; omega)
      rcases List.mem_append.mp hw with hw | hw
      · exact hg w hw
      · rw [List.mem_singleton.mp hw]; exact hv
    · obtain ⟨gs, rfl, hl, hg, hS1, o1⟩ := hI
      conv => whnf
      exact h [v0] gs S1 (.inl rfl) rfl (by rw [hl]; simp; omega) (fun v hv => by rw [List.mem_singleton.mp hv]; exact hv0) hg hS1 o1
def jobD (fn : Str) (b : List S1) : D := .tup [.str "jobx", (if fn = "map" then .tup [.str "k", .str "v", .tup (bd b)] else .tup [.str "k", .str "v", .tup []]),
  (if fn = "join" then .tup [.str "k", .str "a", .str "b", .tup (bd b)] else .tup [.str "k", .str "a", .str "b", .tup [.tup [.str "give", .tup [.str "var", .str "a"]]]]), (if fn = "reduce" then .tup [.str "k", .tup (bd b)] else .tup [.str "k", .tup []])]
theorem jobS (fn : Str) (hfn : isFn fn) (b : List S1) (k : Nat) (hk : 2 ≤ k) (S : Store) (κ : R D → Store → Prop) (h : ∀ S', (∀ i, i < S.length → S'[i]? = S[i]?) → S.length ≤ S'.length → κ (.v (jobD fn b)) S') : callAtP T k "_law_job_of" [.str fn, .tup (bd b)] S κ := by
  obtain ⟨k, rfl⟩ := lev 1 (show 1 ≤ k by omega)
  rcases hfn with rfl | rfl | rfl
  all_goals
    conv => whnf
    rw [dIx_dct (app_at rfl) (by rfl) (by rfl)]
    conv => whnf
    rw [dSet_dct (app_at rfl) (by rfl) (by rw [sizeLine_eq]; decide)]
    conv => whnf
    rw [dIx_dct (set_get (app_at rfl)) (by rfl) (by rfl)]
    conv => whnf
    rw [dIx_dct (set_get (app_at rfl)) (by rfl) (by rfl)]
    conv => whnf
    rw [dIx_dct (set_get (app_at rfl)) (by rfl) (by rfl)]
    conv => whnf
    exact h _ (fun i hi => by rw [set_ne (by omega), app_lt hi]) (by simp)
end

section
open PySem L2 DL DLL
set_option maxHeartbeats 0
set_option linter.unusedVariables false
theorem Cup.up {S S' : Store} (h : Cup S) (u : ∀ i, i < S.length → S'[i]? = S[i]?) : Cup S' := by
  obtain ⟨a, b, ha, hb, e⟩ := h
  have : 0 < S.length := (List.getElem?_eq_some_iff.mp e).1
  exact ⟨a, b, ha, hb, by rw [u 0 this]; exact e⟩
theorem in_letters : ∀ x ∈ (["k", "v", "a", "b"] : List Str), x ∈ letters := by decide
theorem ns_map : ∀ x ∈ (["k", "v"] : List Str), x ∈ letters := by decide
theorem ns_join : ∀ x ∈ (["k", "a", "b"] : List Str), x ∈ letters := by decide
theorem ns_red : ∀ x ∈ (["k"] : List Str), x ∈ letters := by decide
theorem start_fine {ns : List Str} {gs : List Int} (hg : ∀ v ∈ gs, InR v) : Fine ⟨bindS zeroS (ns.zip gs), 0, [], none⟩ := ⟨bindS_in _ (fun x => by unfold zeroS InR; omega) fun p hp => hg p.2 (List.of_mem_zip hp).2, Nat.zero_le _, Nat.zero_le _⟩
theorem start_nums {σ : Str → Int} {n : Nat} : Nums ⟨σ, n, [], none⟩ := ⟨fun p hp => (by cases hp), fun v e => (by cases e)⟩
theorem endF_word {f : Fi} {j : Bool} (h : ∀ w, f = .fell w → w ∈ fallW) : ∀ w, endF j f = .fell w → w ∈ (("nothing" : Str) :: fallW) := fun w e => by
  cases j with
  | false => exact List.mem_cons_of_mem _ (h w e)
  | true =>
    cases f with
    | ok => cases e; exact List.mem_cons_self ..
    | gave => cases e
    | fell z => cases e; exact List.mem_cons_of_mem _ (h _ rfl)
theorem dueMap (k : Nat) (S : Store) (b : List S1) (ok : bok b) (hk : bdeep b + 16 ≤ k) (x y : Int) (hg : ∀ v ∈ [x, y], InR v) {f : Fi} {m' : Ms} (hR : Run [] (.blk b) ⟨bindS zeroS ((["k", "v"] : List Str).zip [x, y]), 0, [], none⟩ f m') (Po : Post f ⟨bindS zeroS ((["k", "v"] : List Str).zip [x, y]), 0, [], none⟩ m') (κ : R D → Store → Prop)
    (h : ∀ S', (∀ i, i < S.length → S'[i]? = S[i]?) → S.length ≤ S'.length → κ (.v (.tup [outD m' f, .int m'.n])) S') : callAtP T k "_law_due" [jobD "map" b, .str "map", .tup [.int x, .int y]] S κ := by
  obtain ⟨k, rfl⟩ := lev 1 (show 1 ≤ k by omega)
  conv => whnf
  refine lcall_ k S ["k", "v"] [x, y] (by decide) ns_map hg [] (by simp) (fun v hv => by cases hv) b ok (by omega) false hR Po _ fun S' u l => ?_
  conv => whnf
  exact h S' u l
theorem rightS (fn : Str) (hfn : isFn fn) (b : List S1) (ok : bok b) (k : Nat) (hk : bdeep b + 24 ≤ k) (S : Store) (hS : Cup S) (κ : R D → Store → Prop) (h : ∀ S', Cup S' → κ (.v (.bl true)) S') : callAtP T k "_law_is_right" [.obj 0, jobD fn b, .str fn] S κ := by
  obtain ⟨k, rfl⟩ := lev 1 (show 1 ≤ k by omega)
  conv => whnf
  refine givenS fn hfn k (by omega) S hS _ fun gs told S1 ht hlen hl hg htd hS1 o1 => ?_
  obtain ⟨k, rfl⟩ := lev 1 (show 1 ≤ k by omega)
  rcases hfn with rfl | rfl | rfl
  · obtain ⟨x, y, rfl⟩ : ∃ x y, gs = [x, y] := by
      match gs, hlen with
      | [x, y], _ => exact ⟨x, y, rfl⟩
    obtain ⟨f, m', hR⟩ := runs_all [] (by simp) (fun v hv => by cases hv) b ok _ (start_fine (ns := ["k", "v"]) hg)
    obtain ⟨F, Po⟩ := run_post (by simp) (fun v hv => by cases hv) hR ok (start_fine hg)
    have N := run_nums (by simp) (fun v hv => by cases hv) hR ok (start_fine hg) start_nums
    have hw := endF_word (j := false) (run_word hR)
    have g2 : InR x ∧ InR y := ⟨hg x (by simp), hg y (by simp)⟩
    conv => whnf
    refine out_mapped k S1 _ _ _ ["k", "v"] x y ns_map g2 b ok (by omega) hR Po F _ fun S2 u2 l2 => ?_
    conv => whnf
    refine steps_mapped k S2 _ _ _ ["k", "v"] x y ns_map g2 b ok (by omega) hR _ fun S3 u3 l3 => ?_
    conv => whnf
    refine dueMap (k + 1) S3 b ok (by omega) x y hg hR Po _ fun S4 u4 l4 => ?_
    conv => whnf
    refine like_ (k + 1) (by omega) (told_ok F N hw) _ ?_
    conv => whnf
    exact h S4 (((hS1.up u2).up u3).up u4)
  · obtain ⟨x, y, z, rfl⟩ : ∃ x y z, gs = [x, y, z] := by
      match gs, hlen with
      | [x, y, z], _ => exact ⟨x, y, z, rfl⟩
    obtain ⟨f, m', hR⟩ := runs_all [] (by simp) (fun v hv => by cases hv) b ok _ (start_fine (ns := ["k", "a", "b"]) hg)
    obtain ⟨F, Po⟩ := run_post (by simp) (fun v hv => by cases hv) hR ok (start_fine hg)
    have N := run_nums (by simp) (fun v hv => by cases hv) hR ok (start_fine hg) start_nums
    have hw := endF_word (j := true) (run_word hR)
    have g2 : InR x ∧ InR y ∧ InR z := ⟨hg x (by simp), hg y (by simp), hg z (by simp)⟩
    conv => whnf
    refine out_joined k S1 _ _ _ ["k", "a", "b"] x y z ns_join g2 b ok (by omega) hR Po F _ fun S2 u2 l2 => ?_
    conv => whnf
    refine steps_joined k S2 _ _ _ ["k", "a", "b"] x y z ns_join g2 b ok (by omega) hR Po F _ fun S3 u3 l3 => ?_
    conv => whnf
    refine lcall_ k S3 ["k", "a", "b"] [x, y, z] (by decide) ns_join hg [] (by simp) (fun v hv => by cases hv) b ok (by omega) true hR Po _ fun S4 u4 l4 => ?_
    conv => whnf
    refine like_ (k + 1) (by omega) (told_ok F N hw) _ ?_
    conv => whnf
    exact h S4 (((hS1.up u2).up u3).up u4)
  · obtain ⟨x, rfl⟩ : ∃ x, gs = [x] := by
      match gs, hlen with
      | [x], _ => exact ⟨x, rfl⟩
    have hl' : told.length ≤ 1000 := by omega
    obtain ⟨f, m', hR⟩ := runs_all told hl' htd b ok _ (start_fine (ns := ["k"]) hg)
    obtain ⟨F, Po⟩ := run_post hl' htd hR ok (start_fine hg)
    have N := run_nums hl' htd hR ok (start_fine hg) start_nums
    have hw := endF_word (j := false) (run_word hR)
    have g2 : InR x := hg x (by simp)
    conv => whnf
    refine out_reduced k S1 _ _ _ ["k"] x told hl' htd ns_red g2 b ok (by omega) hR Po F _ fun S2 u2 l2 => ?_
    conv => whnf
    refine steps_reduced k S2 _ _ _ ["k"] x told hl' htd ns_red g2 b ok (by omega) hR _ fun S3 u3 l3 => ?_
    conv => whnf
    refine lcall_ k S3 ["k"] [x] (by decide) ns_red hg told hl' htd b ok (by omega) false hR Po _ fun S4 u4 l4 => ?_
    conv => whnf
    refine like_ (k + 1) (by omega) (told_ok F N hw) _ ?_
    conv => whnf
    exact h S4 (((hS1.up u2).up u3).up u4)
theorem told_out {S : Store} {m : Ms} {f : Fi} (F : Fine m) (N : Nums m) (hw : ∀ w, f = .fell w → w ∈ (("nothing" : Str) :: fallW)) : Told S (outD m f) (outP m f) := by
  obtain ⟨h1, h2, h3, h4⟩ := outP_ok F N hw
  exact ⟨by cases f <;> rfl, outD_py S m f 57, h1, h2, by omega, by omega⟩
def isNum (d : D) : Prop := ∃ n : Int, d = .int n ∧ InR n
end

section
open PySem L2 DL DLL
set_option maxHeartbeats 0
set_option linter.unusedVariables false
def Left (S : Store) (l : Nat) : Prop := l ≠ 0 ∧ ∃ n : Int, S[l]? = some (.lst [.int n])
theorem Left.oth {S S' : Store} {l : Nat} (h : Left S l) (o : Oth S S') : Left S' l := ⟨h.1, let ⟨n, e⟩ := h.2; ⟨n, by rw [o.2 l h.1]; exact e⟩⟩
def OthL (l : Nat) (A B : Store) : Prop := A.length = B.length ∧ ∀ i, i ≠ 0 → i ≠ l → A[i]? = B[i]?
theorem OthL.trans {l : Nat} {A B C : Store} (h1 : OthL l A B) (h2 : OthL l B C) : OthL l A C := ⟨h1.1.trans h2.1, fun i a b => (h1.2 i a b).trans (h2.2 i a b)⟩
theorem Oth.L {S S' : Store} (h : Oth S S') (l : Nat) : OthL l S' S := ⟨h.1, fun i a _ => h.2 i a⟩
theorem bdeep_app : ∀ (a b : List S1), bdeep (a ++ b) = max (bdeep a) (bdeep b)
  | [], b => by show bdeep b = max 0 (bdeep b); omega
  | s :: r, b => by
    show max s.deep (bdeep (r ++ b)) = max (max s.deep (bdeep r)) (bdeep b)
    rw [bdeep_app r b]
    omega
theorem bokM_app : ∀ {a b : List S1}, bokM a → bokM b → (a ++ b).length ≤ 101 → bokM (a ++ b)
  | [], b, _, h, _ => h
  | s :: r, b, ha, h, hl => by
    have hl' : (r ++ b).length + 1 ≤ 101 := hl
    exact ⟨ha.1, by show (r ++ b).length ≤ 100; omega, bokM_app ha.2.2 h (by omega)⟩
theorem bd_app (a b : List S1) : bd (a ++ b) = bd a ++ bd b := by rw [bd_map, bd_map, bd_map, List.map_append]
def BlockS (fn : Str) (deep : Nat) : Prop := ∀ (k : Nat), 2 * deep + 34 ≤ k → ∀ (S : Store) (l : Nat) (ie : Bool), Cup S → Left S l → ∀ κ : R D → Store → Prop, (∀ b S', bokM b → bdeep b ≤ 20 + 3 * deep → Cup S' → Left S' l → OthL l S' S → κ (.v (.tup (bd b))) S') → callAtP T k "_law_block" [.obj 0, .str fn, .int deep, .obj l, .bl ie] S κ
def StateS (fn : Str) (deep : Nat) : Prop := ∀ (k : Nat), 2 * deep + 35 ≤ k → ∀ (S : Store) (l : Nat) (ie : Bool), Cup S → Left S l → ∀ κ : R D → Store → Prop, (∀ s S', S1.okM s → S1.deep s ≤ 20 + 3 * deep → Cup S' → Left S' l → OthL l S' S → κ (.v s.d) S') → callAtP T k "_law_statement" [.obj 0, .str fn, .int deep, .obj l, .bl ie] S κ
theorem block_drawn (fn : Str) (deep : Nat) (st : StateS fn deep) : ∀ (k : Nat), 2 * deep + 36 ≤ k → ∀ (S : Store) (l : Nat) (ie : Bool), Cup S → Left S l → ∀ κ : R D → Store → Prop, (∀ b S', bokM b → bdeep b ≤ 20 + 3 * deep → b.length ≤ 4 → Cup S' → Left S' l → OthL l S' S → κ (.v (.tup (bd b))) S') → callAtP T k "_law_block" [.obj 0, .str fn, .int (deep + 1 : Int), .obj l, .bl ie] S κ := by
  intro k hk S l ie hS hL κ h
  obtain ⟨k, rfl⟩ := lev 1 (show 1 ≤ k by omega)
  conv => whnf
  refine rollS k (by omega) S hS _ (by decide) (by decide) _ fun r S0 h0 h1 hS0 o0 => ?_
  conv => whnf
  refine grd_ (range_ok h0 (by omega)) ?_
  conv => whnf
  refine forP (fun i η Z => ∃ (b : List S1) (t : Option D), η = [some (.obj 0), some (.str fn), some (.int (deep + 1 : Int)), some (.obj l), some (.bl ie), some (.tup (bd b)), t] ∧ bokM b ∧ bdeep b ≤ 20 + 3 * deep ∧ b.length ≤ i ∧ Cup Z ∧ Left Z l ∧ OthL l Z S) ⟨[], none, rfl, trivial, Nat.zero_le _, Nat.le_refl _, hS0, hL.oth o0, (o0.L l)⟩ (fun i d η Z K hd hI hK => ?_) (fun η Z hI => ?_)
  · obtain ⟨b, t, rfl, ok, dp, hl, hZ, hLZ, eZ⟩ := hI
    have hi : i < 4 := by
      have h2 := (List.getElem?_eq_some_iff.mp hd).1
      simp at h2
      omega
    obtain ⟨hl0, n, en⟩ := hLZ
    have i0 : atI [D.int n] 0 = some (.int n) := rfl
    conv => whnf
    rw [dIx_lst en i0]
    conv => whnf
    refine br_ (fun q => ?_) (fun q => ?_)
    · conv => whnf
      rw [dIx_lst en i0]
      conv => whnf
      rw [dSet_lst en (j := 0) (by rfl)]
      have hZ2 : Cup (Z.set l (.lst [.int (n - 1)])) := by
        obtain ⟨a, c, ha, hc, e⟩ := hZ
        exact ⟨a, c, ha, hc, by rw [set_ne hl0]; exact e⟩
      have hL2 : Left (Z.set l (.lst [.int (n - 1)])) l := ⟨hl0, n - 1, set_get en⟩
      have eZ2 : OthL l (Z.set l (.lst [.int (n - 1)])) S := ⟨by simp [eZ.1], fun i h1 h2 => by rw [set_ne (Ne.symm h2)]; exact eZ.2 i h1 h2⟩
      have es : ([D.int n] : List D).set 0 (.int (n - 1)) = [.int (n - 1)] := rfl
      rw [es]
      generalize Z.set l (.lst [.int (n - 1)]) = Z2 at hZ2 hL2 eZ2 ⊢
      conv => whnf
      rw [show ((deep : Int) + 1 - 1) = (deep : Int) by omega]
      refine st k (by omega) Z2 l ie hZ2 hL2 _ fun s Z3 hs ds hZ3 hL3 e3 => ?_
      conv => whnf
      refine grd_ (by simp [bd_map, sizeLine_eq]; omega) ?_
      have ea : bd b ++ [s.d] = bd (b ++ [s]) := by rw [bd_app]; rfl
      conv => whnf
      rw [ea]
      exact hK _ _ ⟨b ++ [s], _, rfl, bokM_app ok (b := [s]) ⟨hs, Nat.zero_le _, trivial⟩ (by rw [List.length_append]; show _ + 1 ≤ 101; omega), by rw [bdeep_app]; show max (bdeep b) (max s.deep 0) ≤ _; omega, by simp; omega, hZ3, hL3, e3.trans eZ2⟩
    · conv => whnf
      exact hK _ _ ⟨b, _, rfl, ok, dp, by omega, hZ, ⟨hl0, n, en⟩, eZ⟩
  · obtain ⟨b, t, rfl, ok, dp, hl, hZ, hLZ, eZ⟩ := hI
    conv => whnf
    exact h b Z ok dp (by simp at hl; omega) hZ hLZ eZ
theorem state_join (deep : Nat) (blk : 0 < deep → ∀ (k : Nat), 2 * deep + 34 ≤ k → ∀ (S : Store) (l : Nat) (ie : Bool), Cup S → Left S l → ∀ κ : R D → Store → Prop, (∀ b S', bokM b → bdeep b ≤ 17 + 3 * deep → b.length ≤ 4 → Cup S' → Left S' l → OthL l S' S → κ (.v (.tup (bd b))) S') → callAtP T k "_law_block" [.obj 0, .str "join", .int deep, .obj l, .bl ie] S κ) : StateS "join" deep := by
  intro k hk S l ie hS hL κ h
  obtain ⟨k, rfl⟩ := lev 1 (show 1 ≤ k by omega)
  have fj : isFn "join" := .inr (.inl rfl)
  have simple : ∀ (w : Str), w = "set" ∨ w = "give" ∨ w = "fail" → True := fun _ _ => trivial
  conv => whnf
  refine br_ (fun q => ?_) (fun q => ?_)
  · have q' : 0 < deep := by have := of_decide_eq_true q; omega
    have blk := blk q'
    conv => whnf
    refine someS k (by omega) S hS _ (by simp) (by simp) _ fun w S1 hw hS1 o1 => ?_
    have hL1 := hL.oth o1
    simp only [List.cons_append, List.nil_append, List.append_nil, List.mem_cons, List.not_mem_nil, or_false] at hw
    have hw' : w = .str "set" ∨ w = .str "fail" ∨ w = .str "give" ∨ w = .str "if" ∨ w = .str "while" := by
      rcases hw with rfl | rfl | rfl | rfl | rfl | rfl | rfl | rfl <;> simp
    rcases hw' with rfl | rfl | rfl | rfl | rfl
    · conv => whnf
      refine letterS k (by omega) S1 hS1 _ fun x S2 hx hS2 o2 => ?_
      conv => whnf
      refine anyS "join" fj k (by omega) S2 hS2 _ fun e S3 he hd hS3 o3 => ?_
      conv => whnf
      exact h (.set x e) S3 ⟨hx, he⟩ (by show e.deep ≤ _; omega) hS3 ((hL1.oth o2).oth o3) (((o3.L l).trans (o2.L l)).trans (o1.L l))
    · conv => whnf
      exact h .fail S1 trivial (Nat.zero_le _) hS1 hL1 (o1.L l)
    · conv => whnf
      refine anyS "join" fj k (by omega) S1 hS1 _ fun e S3 he hd hS3 o3 => ?_
      conv => whnf
      exact h (.give e) S3 he (by show e.deep ≤ _; omega) hS3 (hL1.oth o3) ((o3.L l).trans (o1.L l))
    · conv => whnf
      refine anyS "join" fj k (by omega) S1 hS1 _ fun e S3 he hd hS3 o3 => ?_
      conv => whnf
      refine blk k (by omega) S3 l ie hS3 (hL1.oth o3) _ fun b S4 okb db _ hS4 hL4 e4 => ?_
      conv => whnf
      refine blk k (by omega) S4 l ie hS4 hL4 _ fun b2 S5 okb2 db2 _ hS5 hL5 e5 => ?_
      conv => whnf
      refine someS k (by omega) S5 hS5 _ (by simp) (by simp) _ fun c S6 hc hS6 o6 => ?_
      simp only [List.mem_cons, List.not_mem_nil, or_false] at hc
      rcases hc with rfl | rfl
      · conv => whnf
        exact h (.ite e b []) S6 ⟨he, okb, trivial⟩ (by show max e.deep (max (bdeep b) 0) + 3 ≤ _; omega) hS6 (hL5.oth o6) (((((o6.L l).trans e5).trans e4).trans (o3.L l)).trans (o1.L l))
      · conv => whnf
        exact h (.ite e b b2) S6 ⟨he, okb, okb2⟩ (by show max e.deep (max (bdeep b) (bdeep b2)) + 3 ≤ _; omega) hS6 (hL5.oth o6) (((((o6.L l).trans e5).trans e4).trans (o3.L l)).trans (o1.L l))
    · conv => whnf
      refine anyS "join" fj k (by omega) S1 hS1 _ fun e S3 he hd hS3 o3 => ?_
      conv => whnf
      refine blk k (by omega) S3 l ie hS3 (hL1.oth o3) _ fun b S4 okb db _ hS4 hL4 e4 => ?_
      conv => whnf
      exact h (.loop e b) S4 ⟨he, okb⟩ (by show max e.deep (bdeep b) + 3 ≤ _; omega) hS4 hL4 ((e4.trans (o3.L l)).trans (o1.L l))
  · conv => whnf
    refine someS k (by omega) S hS _ (by simp) (by simp) _ fun w S1 hw hS1 o1 => ?_
    have hL1 := hL.oth o1
    simp only [List.cons_append, List.nil_append, List.append_nil, List.mem_cons, List.not_mem_nil, or_false] at hw
    have hw' : w = .str "set" ∨ w = .str "fail" ∨ w = .str "give" := by
      rcases hw with rfl | rfl | rfl | rfl | rfl <;> simp
    rcases hw' with rfl | rfl | rfl
    · conv => whnf
      refine letterS k (by omega) S1 hS1 _ fun x S2 hx hS2 o2 => ?_
      conv => whnf
      refine anyS "join" fj k (by omega) S2 hS2 _ fun e S3 he hd hS3 o3 => ?_
      conv => whnf
      exact h (.set x e) S3 ⟨hx, he⟩ (by show e.deep ≤ _; omega) hS3 ((hL1.oth o2).oth o3) (((o3.L l).trans (o2.L l)).trans (o1.L l))
    · conv => whnf
      exact h .fail S1 trivial (Nat.zero_le _) hS1 hL1 (o1.L l)
    · conv => whnf
      refine anyS "join" fj k (by omega) S1 hS1 _ fun e S3 he hd hS3 o3 => ?_
      conv => whnf
      exact h (.give e) S3 he (by show e.deep ≤ _; omega) hS3 (hL1.oth o3) ((o3.L l).trans (o1.L l))
theorem blocks_join : ∀ (deep : Nat) (k : Nat), 2 * deep + 36 ≤ k → ∀ (S : Store) (l : Nat) (ie : Bool), Cup S → Left S l → ∀ κ : R D → Store → Prop, (∀ b S', bokM b → bdeep b ≤ 20 + 3 * deep → b.length ≤ 4 → Cup S' → Left S' l → OthL l S' S → κ (.v (.tup (bd b))) S') → callAtP T k "_law_block" [.obj 0, .str "join", .int ((deep : Int) + 1), .obj l, .bl ie] S κ
  | 0 => block_drawn "join" 0 (state_join 0 fun h => absurd h (by decide))
  | deep + 1 => block_drawn "join" (deep + 1) (state_join (deep + 1) fun _ k hk S l ie hS hL κ h => by
      have e : (((deep + 1 : Nat) : Int)) = (deep : Int) + 1 := by omega
      rw [e]
      exact blocks_join deep k (by omega) S l ie hS hL κ fun b S' ok d ln c1 c2 c3 => h b S' ok (by omega) ln c1 c2 c3)
end

section
open PySem L2 DL DLL
set_option maxHeartbeats 0
set_option linter.unusedVariables false
theorem state_map (deep : Nat) (blk : 0 < deep → ∀ (k : Nat), 2 * deep + 34 ≤ k → ∀ (S : Store) (l : Nat) (ie : Bool), Cup S → Left S l → ∀ κ : R D → Store → Prop, (∀ b S', bokM b → bdeep b ≤ 17 + 3 * deep → b.length ≤ 4 → Cup S' → Left S' l → OthL l S' S → κ (.v (.tup (bd b))) S') → callAtP T k "_law_block" [.obj 0, .str "map", .int deep, .obj l, .bl ie] S κ) : StateS "map" deep := by
  intro k hk S l ie hS hL κ h
  obtain ⟨k, rfl⟩ := lev 1 (show 1 ≤ k by omega)
  have ff : isFn "map" := by unfold isFn; simp
  conv => whnf
  refine br_ (fun q => ?_) (fun q => ?_)
  · have q' : 0 < deep := by have := of_decide_eq_true q; omega
    have blk := blk q'
    conv => whnf
    refine someS k (by omega) S hS _ (by simp) (by simp) _ fun w S1 hw hS1 o1 => ?_
    have hL1 := hL.oth o1
    simp only [List.cons_append, List.nil_append, List.append_nil, List.mem_cons, List.not_mem_nil, or_false] at hw
    have hw' : w = .str "set" ∨ w = .str "fail" ∨ w = .str "emit" ∨ w = .str "crash" ∨ w = .str "if" ∨ w = .str "while" := by
      rcases hw with rfl | rfl | rfl | rfl | rfl | rfl | rfl | rfl | rfl <;> simp
    rcases hw' with rfl | rfl | rfl | rfl | rfl | rfl
    · conv => whnf
      refine letterS k (by omega) S1 hS1 _ fun x S2 hx hS2 o2 => ?_
      conv => whnf
      refine anyS "map" ff k (by omega) S2 hS2 _ fun e S3 he hd hS3 o3 => ?_
      conv => whnf
      exact h (.set x e) S3 ⟨hx, he⟩ (by show e.deep ≤ _; omega) hS3 ((hL1.oth o2).oth o3) (((o3.L l).trans (o2.L l)).trans (o1.L l))
    · conv => whnf
      exact h .fail S1 trivial (Nat.zero_le _) hS1 hL1 (o1.L l)
    · conv => whnf
      refine anyS "map" ff k (by omega) S1 hS1 _ fun e S2 he hd hS2 o2 => ?_
      conv => whnf
      refine anyS "map" ff k (by omega) S2 hS2 _ fun e2 S3 he2 hd2 hS3 o3 => ?_
      conv => whnf
      exact h (.emit e e2) S3 ⟨he, he2⟩ (by show max e.deep e2.deep ≤ _; omega) hS3 ((hL1.oth o2).oth o3) (((o3.L l).trans (o2.L l)).trans (o1.L l))
    · conv => whnf
      exact h .crash S1 trivial (Nat.zero_le _) hS1 hL1 (o1.L l)
    · conv => whnf
      refine anyS "map" ff k (by omega) S1 hS1 _ fun e S3 he hd hS3 o3 => ?_
      conv => whnf
      refine blk k (by omega) S3 l ie hS3 (hL1.oth o3) _ fun b S4 okb db _ hS4 hL4 e4 => ?_
      conv => whnf
      refine blk k (by omega) S4 l ie hS4 hL4 _ fun b2 S5 okb2 db2 _ hS5 hL5 e5 => ?_
      conv => whnf
      refine someS k (by omega) S5 hS5 _ (by simp) (by simp) _ fun c S6 hc hS6 o6 => ?_
      simp only [List.mem_cons, List.not_mem_nil, or_false] at hc
      rcases hc with rfl | rfl
      · conv => whnf
        exact h (.ite e b []) S6 ⟨he, okb, trivial⟩ (by show max e.deep (max (bdeep b) 0) + 3 ≤ _; omega) hS6 (hL5.oth o6) (((((o6.L l).trans e5).trans e4).trans (o3.L l)).trans (o1.L l))
      · conv => whnf
        exact h (.ite e b b2) S6 ⟨he, okb, okb2⟩ (by show max e.deep (max (bdeep b) (bdeep b2)) + 3 ≤ _; omega) hS6 (hL5.oth o6) (((((o6.L l).trans e5).trans e4).trans (o3.L l)).trans (o1.L l))
    · conv => whnf
      refine anyS "map" ff k (by omega) S1 hS1 _ fun e S3 he hd hS3 o3 => ?_
      conv => whnf
      refine blk k (by omega) S3 l ie hS3 (hL1.oth o3) _ fun b S4 okb db _ hS4 hL4 e4 => ?_
      conv => whnf
      exact h (.loop e b) S4 ⟨he, okb⟩ (by show max e.deep (bdeep b) + 3 ≤ _; omega) hS4 hL4 ((e4.trans (o3.L l)).trans (o1.L l))
  · conv => whnf
    refine someS k (by omega) S hS _ (by simp) (by simp) _ fun w S1 hw hS1 o1 => ?_
    have hL1 := hL.oth o1
    simp only [List.cons_append, List.nil_append, List.append_nil, List.mem_cons, List.not_mem_nil, or_false] at hw
    have hw' : w = .str "set" ∨ w = .str "fail" ∨ w = .str "emit" ∨ w = .str "crash" := by
      rcases hw with rfl | rfl | rfl | rfl | rfl | rfl <;> simp
    rcases hw' with rfl | rfl | rfl | rfl
    · conv => whnf
      refine letterS k (by omega) S1 hS1 _ fun x S2 hx hS2 o2 => ?_
      conv => whnf
      refine anyS "map" ff k (by omega) S2 hS2 _ fun e S3 he hd hS3 o3 => ?_
      conv => whnf
      exact h (.set x e) S3 ⟨hx, he⟩ (by show e.deep ≤ _; omega) hS3 ((hL1.oth o2).oth o3) (((o3.L l).trans (o2.L l)).trans (o1.L l))
    · conv => whnf
      exact h .fail S1 trivial (Nat.zero_le _) hS1 hL1 (o1.L l)
    · conv => whnf
      refine anyS "map" ff k (by omega) S1 hS1 _ fun e S2 he hd hS2 o2 => ?_
      conv => whnf
      refine anyS "map" ff k (by omega) S2 hS2 _ fun e2 S3 he2 hd2 hS3 o3 => ?_
      conv => whnf
      exact h (.emit e e2) S3 ⟨he, he2⟩ (by show max e.deep e2.deep ≤ _; omega) hS3 ((hL1.oth o2).oth o3) (((o3.L l).trans (o2.L l)).trans (o1.L l))
    · conv => whnf
      exact h .crash S1 trivial (Nat.zero_le _) hS1 hL1 (o1.L l)
theorem blocks_map : ∀ (deep : Nat) (k : Nat), 2 * deep + 36 ≤ k → ∀ (S : Store) (l : Nat) (ie : Bool), Cup S → Left S l → ∀ κ : R D → Store → Prop, (∀ b S', bokM b → bdeep b ≤ 20 + 3 * deep → b.length ≤ 4 → Cup S' → Left S' l → OthL l S' S → κ (.v (.tup (bd b))) S') → callAtP T k "_law_block" [.obj 0, .str "map", .int ((deep : Int) + 1), .obj l, .bl ie] S κ
  | 0 => block_drawn "map" 0 (state_map 0 fun h => absurd h (by decide))
  | deep + 1 => block_drawn "map" (deep + 1) (state_map (deep + 1) fun _ k hk S l ie hS hL κ h => by
      have e : (((deep + 1 : Nat) : Int)) = (deep : Int) + 1 := by omega
      rw [e]
      exact blocks_map deep k (by omega) S l ie hS hL κ fun b S' ok d ln c1 c2 c3 => h b S' ok (by omega) ln c1 c2 c3)
end

section
open PySem L2 DL DLL
set_option maxHeartbeats 0
set_option linter.unusedVariables false
theorem state_reduce_true (deep : Nat) (blk : 0 < deep → ∀ (k : Nat), 2 * deep + 34 ≤ k → ∀ (S : Store) (l : Nat) (ie : Bool), Cup S → Left S l → ∀ κ : R D → Store → Prop, (∀ b S', bokM b → bdeep b ≤ 17 + 3 * deep → b.length ≤ 4 → Cup S' → Left S' l → OthL l S' S → κ (.v (.tup (bd b))) S') → callAtP T k "_law_block" [.obj 0, .str "reduce", .int deep, .obj l, .bl ie] S κ) : ∀ (k : Nat), 2 * deep + 35 ≤ k → ∀ (S : Store) (l : Nat), Cup S → Left S l → ∀ κ : R D → Store → Prop, (∀ s S', S1.okM s → S1.deep s ≤ 20 + 3 * deep → Cup S' → Left S' l → OthL l S' S → κ (.v s.d) S') → callAtP T k "_law_statement" [.obj 0, .str "reduce", .int deep, .obj l, .bl true] S κ := by
  intro k hk S l hS hL κ h
  obtain ⟨k, rfl⟩ := lev 1 (show 1 ≤ k by omega)
  have ff : isFn "reduce" := by unfold isFn; simp
  conv => whnf
  refine br_ (fun q => ?_) (fun q => ?_)
  · have q' : 0 < deep := by have := of_decide_eq_true q; omega
    have blk := blk q'
    conv => whnf
    refine someS k (by omega) S hS _ (by simp) (by simp) _ fun w S1 hw hS1 o1 => ?_
    have hL1 := hL.oth o1
    simp only [List.cons_append, List.nil_append, List.append_nil, List.mem_cons, List.not_mem_nil, or_false] at hw
    have hw' : w = .str "set" ∨ w = .str "fail" ∨ w = .str "emit" ∨ w = .str "crash" ∨ w = .str "if" ∨ w = .str "while" := by
      rcases hw with rfl | rfl | rfl | rfl | rfl | rfl | rfl | rfl | rfl <;> simp
    rcases hw' with rfl | rfl | rfl | rfl | rfl | rfl
    · conv => whnf
      refine letterS k (by omega) S1 hS1 _ fun x S2 hx hS2 o2 => ?_
      conv => whnf
      refine anyS "reduce" ff k (by omega) S2 hS2 _ fun e S3 he hd hS3 o3 => ?_
      conv => whnf
      exact h (.set x e) S3 ⟨hx, he⟩ (by show e.deep ≤ _; omega) hS3 ((hL1.oth o2).oth o3) (((o3.L l).trans (o2.L l)).trans (o1.L l))
    · conv => whnf
      exact h .fail S1 trivial (Nat.zero_le _) hS1 hL1 (o1.L l)
    · conv => whnf
      refine anyS "reduce" ff k (by omega) S1 hS1 _ fun e S2 he hd hS2 o2 => ?_
      conv => whnf
      refine anyS "reduce" ff k (by omega) S2 hS2 _ fun e2 S3 he2 hd2 hS3 o3 => ?_
      conv => whnf
      exact h (.emit e e2) S3 ⟨he, he2⟩ (by show max e.deep e2.deep ≤ _; omega) hS3 ((hL1.oth o2).oth o3) (((o3.L l).trans (o2.L l)).trans (o1.L l))
    · conv => whnf
      exact h .crash S1 trivial (Nat.zero_le _) hS1 hL1 (o1.L l)
    · conv => whnf
      refine anyS "reduce" ff k (by omega) S1 hS1 _ fun e S3 he hd hS3 o3 => ?_
      conv => whnf
      refine blk k (by omega) S3 l true hS3 (hL1.oth o3) _ fun b S4 okb db _ hS4 hL4 e4 => ?_
      conv => whnf
      refine blk k (by omega) S4 l true hS4 hL4 _ fun b2 S5 okb2 db2 _ hS5 hL5 e5 => ?_
      conv => whnf
      refine someS k (by omega) S5 hS5 _ (by simp) (by simp) _ fun c S6 hc hS6 o6 => ?_
      simp only [List.mem_cons, List.not_mem_nil, or_false] at hc
      rcases hc with rfl | rfl
      · conv => whnf
        exact h (.ite e b []) S6 ⟨he, okb, trivial⟩ (by show max e.deep (max (bdeep b) 0) + 3 ≤ _; omega) hS6 (hL5.oth o6) (((((o6.L l).trans e5).trans e4).trans (o3.L l)).trans (o1.L l))
      · conv => whnf
        exact h (.ite e b b2) S6 ⟨he, okb, okb2⟩ (by show max e.deep (max (bdeep b) (bdeep b2)) + 3 ≤ _; omega) hS6 (hL5.oth o6) (((((o6.L l).trans e5).trans e4).trans (o3.L l)).trans (o1.L l))
    · conv => whnf
      refine anyS "reduce" ff k (by omega) S1 hS1 _ fun e S3 he hd hS3 o3 => ?_
      conv => whnf
      refine blk k (by omega) S3 l true hS3 (hL1.oth o3) _ fun b S4 okb db _ hS4 hL4 e4 => ?_
      conv => whnf
      exact h (.loop e b) S4 ⟨he, okb⟩ (by show max e.deep (bdeep b) + 3 ≤ _; omega) hS4 hL4 ((e4.trans (o3.L l)).trans (o1.L l))
  · conv => whnf
    refine someS k (by omega) S hS _ (by simp) (by simp) _ fun w S1 hw hS1 o1 => ?_
    have hL1 := hL.oth o1
    simp only [List.cons_append, List.nil_append, List.append_nil, List.mem_cons, List.not_mem_nil, or_false] at hw
    have hw' : w = .str "set" ∨ w = .str "fail" ∨ w = .str "emit" ∨ w = .str "crash" := by
      rcases hw with rfl | rfl | rfl | rfl | rfl | rfl <;> simp
    rcases hw' with rfl | rfl | rfl | rfl
    · conv => whnf
      refine letterS k (by omega) S1 hS1 _ fun x S2 hx hS2 o2 => ?_
      conv => whnf
      refine anyS "reduce" ff k (by omega) S2 hS2 _ fun e S3 he hd hS3 o3 => ?_
      conv => whnf
      exact h (.set x e) S3 ⟨hx, he⟩ (by show e.deep ≤ _; omega) hS3 ((hL1.oth o2).oth o3) (((o3.L l).trans (o2.L l)).trans (o1.L l))
    · conv => whnf
      exact h .fail S1 trivial (Nat.zero_le _) hS1 hL1 (o1.L l)
    · conv => whnf
      refine anyS "reduce" ff k (by omega) S1 hS1 _ fun e S2 he hd hS2 o2 => ?_
      conv => whnf
      refine anyS "reduce" ff k (by omega) S2 hS2 _ fun e2 S3 he2 hd2 hS3 o3 => ?_
      conv => whnf
      exact h (.emit e e2) S3 ⟨he, he2⟩ (by show max e.deep e2.deep ≤ _; omega) hS3 ((hL1.oth o2).oth o3) (((o3.L l).trans (o2.L l)).trans (o1.L l))
    · conv => whnf
      exact h .crash S1 trivial (Nat.zero_le _) hS1 hL1 (o1.L l)
theorem state_reduce_false (deep : Nat) (blk : 0 < deep → ∀ (k : Nat), 2 * deep + 34 ≤ k → ∀ (S : Store) (l : Nat) (ie : Bool), Cup S → Left S l → ∀ κ : R D → Store → Prop, (∀ b S', bokM b → bdeep b ≤ 17 + 3 * deep → b.length ≤ 4 → Cup S' → Left S' l → OthL l S' S → κ (.v (.tup (bd b))) S') → callAtP T k "_law_block" [.obj 0, .str "reduce", .int deep, .obj l, .bl ie] S κ) : ∀ (k : Nat), 2 * deep + 35 ≤ k → ∀ (S : Store) (l : Nat), Cup S → Left S l → ∀ κ : R D → Store → Prop, (∀ s S', S1.okM s → S1.deep s ≤ 20 + 3 * deep → Cup S' → Left S' l → OthL l S' S → κ (.v s.d) S') → callAtP T k "_law_statement" [.obj 0, .str "reduce", .int deep, .obj l, .bl false] S κ := by
  intro k hk S l hS hL κ h
  obtain ⟨k, rfl⟩ := lev 1 (show 1 ≤ k by omega)
  have ff : isFn "reduce" := by unfold isFn; simp
  conv => whnf
  refine br_ (fun q => ?_) (fun q => ?_)
  · have q' : 0 < deep := by have := of_decide_eq_true q; omega
    have blk := blk q'
    conv => whnf
    refine someS k (by omega) S hS _ (by simp) (by simp) _ fun w S1 hw hS1 o1 => ?_
    have hL1 := hL.oth o1
    simp only [List.cons_append, List.nil_append, List.append_nil, List.mem_cons, List.not_mem_nil, or_false] at hw
    have hw' : w = .str "set" ∨ w = .str "fail" ∨ w = .str "emit" ∨ w = .str "crash" ∨ w = .str "if" ∨ w = .str "while" ∨ w = .str "each" := by
      rcases hw with rfl | rfl | rfl | rfl | rfl | rfl | rfl | rfl | rfl | rfl | rfl <;> simp
    rcases hw' with rfl | rfl | rfl | rfl | rfl | rfl | rfl
    · conv => whnf
      refine letterS k (by omega) S1 hS1 _ fun x S2 hx hS2 o2 => ?_
      conv => whnf
      refine anyS "reduce" ff k (by omega) S2 hS2 _ fun e S3 he hd hS3 o3 => ?_
      conv => whnf
      exact h (.set x e) S3 ⟨hx, he⟩ (by show e.deep ≤ _; omega) hS3 ((hL1.oth o2).oth o3) (((o3.L l).trans (o2.L l)).trans (o1.L l))
    · conv => whnf
      exact h .fail S1 trivial (Nat.zero_le _) hS1 hL1 (o1.L l)
    · conv => whnf
      refine anyS "reduce" ff k (by omega) S1 hS1 _ fun e S2 he hd hS2 o2 => ?_
      conv => whnf
      refine anyS "reduce" ff k (by omega) S2 hS2 _ fun e2 S3 he2 hd2 hS3 o3 => ?_
      conv => whnf
      exact h (.emit e e2) S3 ⟨he, he2⟩ (by show max e.deep e2.deep ≤ _; omega) hS3 ((hL1.oth o2).oth o3) (((o3.L l).trans (o2.L l)).trans (o1.L l))
    · conv => whnf
      exact h .crash S1 trivial (Nat.zero_le _) hS1 hL1 (o1.L l)
    · conv => whnf
      refine anyS "reduce" ff k (by omega) S1 hS1 _ fun e S3 he hd hS3 o3 => ?_
      conv => whnf
      refine blk k (by omega) S3 l false hS3 (hL1.oth o3) _ fun b S4 okb db _ hS4 hL4 e4 => ?_
      conv => whnf
      refine blk k (by omega) S4 l false hS4 hL4 _ fun b2 S5 okb2 db2 _ hS5 hL5 e5 => ?_
      conv => whnf
      refine someS k (by omega) S5 hS5 _ (by simp) (by simp) _ fun c S6 hc hS6 o6 => ?_
      simp only [List.mem_cons, List.not_mem_nil, or_false] at hc
      rcases hc with rfl | rfl
      · conv => whnf
        exact h (.ite e b []) S6 ⟨he, okb, trivial⟩ (by show max e.deep (max (bdeep b) 0) + 3 ≤ _; omega) hS6 (hL5.oth o6) (((((o6.L l).trans e5).trans e4).trans (o3.L l)).trans (o1.L l))
      · conv => whnf
        exact h (.ite e b b2) S6 ⟨he, okb, okb2⟩ (by show max e.deep (max (bdeep b) (bdeep b2)) + 3 ≤ _; omega) hS6 (hL5.oth o6) (((((o6.L l).trans e5).trans e4).trans (o3.L l)).trans (o1.L l))
    · conv => whnf
      refine anyS "reduce" ff k (by omega) S1 hS1 _ fun e S3 he hd hS3 o3 => ?_
      conv => whnf
      refine blk k (by omega) S3 l false hS3 (hL1.oth o3) _ fun b S4 okb db _ hS4 hL4 e4 => ?_
      conv => whnf
      exact h (.loop e b) S4 ⟨he, okb⟩ (by show max e.deep (bdeep b) + 3 ≤ _; omega) hS4 hL4 ((e4.trans (o3.L l)).trans (o1.L l))
    · conv => whnf
      refine letterS k (by omega) S1 hS1 _ fun x S3 hx hS3 o3 => ?_
      conv => whnf
      refine blk k (by omega) S3 l true hS3 (hL1.oth o3) _ fun b S4 okb db _ hS4 hL4 e4 => ?_
      conv => whnf
      exact h (.each x b) S4 ⟨hx, okb⟩ (by show bdeep b + 3 ≤ _; omega) hS4 hL4 ((e4.trans (o3.L l)).trans (o1.L l))
  · conv => whnf
    refine someS k (by omega) S hS _ (by simp) (by simp) _ fun w S1 hw hS1 o1 => ?_
    have hL1 := hL.oth o1
    simp only [List.cons_append, List.nil_append, List.append_nil, List.mem_cons, List.not_mem_nil, or_false] at hw
    have hw' : w = .str "set" ∨ w = .str "fail" ∨ w = .str "emit" ∨ w = .str "crash" := by
      rcases hw with rfl | rfl | rfl | rfl | rfl | rfl <;> simp
    rcases hw' with rfl | rfl | rfl | rfl
    · conv => whnf
      refine letterS k (by omega) S1 hS1 _ fun x S2 hx hS2 o2 => ?_
      conv => whnf
      refine anyS "reduce" ff k (by omega) S2 hS2 _ fun e S3 he hd hS3 o3 => ?_
      conv => whnf
      exact h (.set x e) S3 ⟨hx, he⟩ (by show e.deep ≤ _; omega) hS3 ((hL1.oth o2).oth o3) (((o3.L l).trans (o2.L l)).trans (o1.L l))
    · conv => whnf
      exact h .fail S1 trivial (Nat.zero_le _) hS1 hL1 (o1.L l)
    · conv => whnf
      refine anyS "reduce" ff k (by omega) S1 hS1 _ fun e S2 he hd hS2 o2 => ?_
      conv => whnf
      refine anyS "reduce" ff k (by omega) S2 hS2 _ fun e2 S3 he2 hd2 hS3 o3 => ?_
      conv => whnf
      exact h (.emit e e2) S3 ⟨he, he2⟩ (by show max e.deep e2.deep ≤ _; omega) hS3 ((hL1.oth o2).oth o3) (((o3.L l).trans (o2.L l)).trans (o1.L l))
    · conv => whnf
      exact h .crash S1 trivial (Nat.zero_le _) hS1 hL1 (o1.L l)
theorem state_reduce (deep : Nat) (blk : 0 < deep → ∀ (k : Nat), 2 * deep + 34 ≤ k → ∀ (S : Store) (l : Nat) (ie : Bool), Cup S → Left S l → ∀ κ : R D → Store → Prop, (∀ b S', bokM b → bdeep b ≤ 17 + 3 * deep → b.length ≤ 4 → Cup S' → Left S' l → OthL l S' S → κ (.v (.tup (bd b))) S') → callAtP T k "_law_block" [.obj 0, .str "reduce", .int deep, .obj l, .bl ie] S κ) : StateS "reduce" deep := fun k hk S l ie hS hL κ h => match ie with
  | true => state_reduce_true deep blk k hk S l hS hL κ h
  | false => state_reduce_false deep blk k hk S l hS hL κ h
theorem blocks_reduce : ∀ (deep : Nat) (k : Nat), 2 * deep + 36 ≤ k → ∀ (S : Store) (l : Nat) (ie : Bool), Cup S → Left S l → ∀ κ : R D → Store → Prop, (∀ b S', bokM b → bdeep b ≤ 20 + 3 * deep → b.length ≤ 4 → Cup S' → Left S' l → OthL l S' S → κ (.v (.tup (bd b))) S') → callAtP T k "_law_block" [.obj 0, .str "reduce", .int ((deep : Int) + 1), .obj l, .bl ie] S κ
  | 0 => block_drawn "reduce" 0 (state_reduce 0 fun h => absurd h (by decide))
  | deep + 1 => block_drawn "reduce" (deep + 1) (state_reduce (deep + 1) fun _ k hk S l ie hS hL κ h => by
      have e : (((deep + 1 : Nat) : Int)) = (deep : Int) + 1 := by omega
      rw [e]
      exact blocks_reduce deep k (by omega) S l ie hS hL κ fun b S' ok d ln c1 c2 c3 => h b S' ok (by omega) ln c1 c2 c3)
end

section
open PySem L2 DL DLL
set_option maxHeartbeats 0
set_option linter.unusedVariables false
def exc1 (told : List Int) : Nat → Cf → Ms → Option (Fi × Ms)
  | 0, _, _ => none
  | k + 1, .blk [], m => some (.ok, m)
  | k + 1, .blk (s :: r), m =>
    if m.n < 100 then
      match exc1 told k (.one s) { m with n := m.n + 1 } with
      | some (.ok, m1) => exc1 told k (.blk r) m1
      | some (.gave, m1) => some (.gave, m1)
      | some (.fell w, m1) => some (.fell w, m1)
      | none => none
    else if m.n = 100 then some (.fell "tired", m) else none
  | k + 1, .one .fail, m => some (.fell "failed", m)
  | k + 1, .one .crash, m => some (.fell "crashed", m)
  | k + 1, .one (.set x e), m =>
    match worth m.σ told.length e with
    | some v => some (.ok, { m with σ := upS m.σ x v })
    | none => some (.fell "zero", m)
  | k + 1, .one (.give e), m =>
    match worth m.σ told.length e with
    | some v => some (.gave, { m with given := some v })
    | none => some (.fell "zero", m)
  | k + 1, .one (.emit a b), m =>
    match worth m.σ told.length a, worth m.σ told.length b with
    | some v, some w => if m.recs.length < 6 then some (.ok, { m with recs := m.recs ++ [(v, w)] }) else if m.recs.length = 6 then some (.fell "much", m) else none
    | none, _ => some (.fell "zero", m)
    | some _, none => some (.fell "zero", m)
  | k + 1, .one (.ite e a b), m =>
    match worth m.σ told.length e with
    | some v => if v = 0 then exc1 told k (.blk b) m else exc1 told k (.blk a) m
    | none => some (.fell "zero", m)
  | k + 1, .one (.loop e b), m =>
    match worth m.σ told.length e with
    | some v => exc1 told k (.wh e b v) m
    | none => some (.fell "zero", m)
  | k + 1, .one (.each x b), m => exc1 told k (.ea x b told) m
  | k + 1, .wh e b v, m =>
    if v = 0 then some (.ok, m) else
      match exc1 told k (.blk b) m with
      | some (.ok, m1) =>
        if m1.n < 100 then
          match worth m1.σ told.length e with
          | some v2 => exc1 told k (.wh e b v2) { m1 with n := m1.n + 1 }
          | none => some (.fell "zero", { m1 with n := m1.n + 1 })
        else if m1.n = 100 then some (.fell "tired", m1) else none
      | some (.gave, m1) => some (.gave, m1)
      | some (.fell w, m1) => some (.fell w, m1)
      | none => none
  | k + 1, .ea x b [], m => some (.ok, m)
  | k + 1, .ea x b (v :: vs), m =>
    if m.n < 100 then
      match exc1 told k (.blk b) { m with n := m.n + 1, σ := upS m.σ x v } with
      | some (.ok, m1) => exc1 told k (.ea x b vs) m1
      | some (.gave, m1) => some (.gave, m1)
      | some (.fell w, m1) => some (.fell w, m1)
      | none => none
    else if m.n = 100 then some (.fell "tired", m) else none
theorem exc_run (told : List Int) : ∀ (k : Nat) (cf : Cf) (m : Ms) (f : Fi) (m' : Ms), exc1 told k cf m = some (f, m') → Run told cf m f m' := by
  intro k
  induction k with
  | zero => intro cf m f m' h; cases h
  | succ k ih =>
    intro cf m f m' h
    match cf with
    | .blk [] => cases h; exact .nil
    | .blk (s :: r) =>
      unfold exc1 at h
      split at h
      · rename_i hn
        split at h
        · rename_i m1 e
          exact .more hn (ih _ _ _ _ e) (ih _ _ _ _ h)
        · rename_i m1 e
          cases h
          exact .ends hn (ih _ _ _ _ e) (by intro h; cases h)
        · rename_i w m1 e
          cases h
          exact .ends hn (ih _ _ _ _ e) (by intro h; cases h)
        · cases h
      · split at h
        · rename_i hn
          cases h
          exact .tired hn
        · cases h
    | .one .fail => cases h; exact .fail
    | .one .crash => cases h; exact .crash
    | .one (.set x e) =>
      unfold exc1 at h
      split at h
      · rename_i v q; cases h; exact .set q
      · rename_i q; cases h; exact .set0 q
    | .one (.give e) =>
      unfold exc1 at h
      split at h
      · rename_i v q; cases h; exact .give q
      · rename_i q; cases h; exact .give0 q
    | .one (.emit a b) =>
      unfold exc1 at h
      split at h
      · rename_i v w q1 q2
        split at h
        · rename_i hn; cases h; exact .emit q1 q2 hn
        · split at h
          · rename_i hn; cases h; exact .much q1 q2 hn
          · cases h
      · rename_i q; cases h; exact .emit0 (.inl q)
      · rename_i q1 q; cases h; exact .emit0 (.inr q)
    | .one (.ite e a b) =>
      unfold exc1 at h
      split at h
      · rename_i v q
        split at h
        · rename_i hv
          exact .ite q (by rw [if_pos hv]; exact ih _ _ _ _ h)
        · rename_i hv
          exact .ite q (by rw [if_neg hv]; exact ih _ _ _ _ h)
      · rename_i q; cases h; exact .ite0 q
    | .one (.loop e b) =>
      unfold exc1 at h
      split at h
      · rename_i v q; exact .loop q (ih _ _ _ _ h)
      · rename_i q; cases h; exact .loop0 q
    | .one (.each x b) => exact .each (ih _ _ _ _ h)
    | .wh e b v =>
      unfold exc1 at h
      split at h
      · rename_i hv; cases h; subst hv; exact .wh0
      · rename_i hv
        split at h
        · rename_i m1 q
          split at h
          · rename_i hn
            split at h
            · rename_i v2 q2; exact .whM hv (ih _ _ _ _ q) hn q2 (ih _ _ _ _ h)
            · rename_i q2; cases h; exact .whZ hv (ih _ _ _ _ q) hn q2
          · split at h
            · rename_i hn; cases h; exact .whT hv (ih _ _ _ _ q) hn
            · cases h
        · rename_i m1 q; cases h; exact .whE hv (ih _ _ _ _ q) (by intro h; cases h)
        · rename_i w m1 q; cases h; exact .whE hv (ih _ _ _ _ q) (by intro h; cases h)
        · cases h
    | .ea x b [] => cases h; exact .ea0
    | .ea x b (v :: vs) =>
      unfold exc1 at h
      split at h
      · rename_i hn
        split at h
        · rename_i m1 q; exact .eaM hn (ih _ _ _ _ q) (ih _ _ _ _ h)
        · rename_i m1 q; cases h; exact .eaE hn (ih _ _ _ _ q) (by intro h; cases h)
        · rename_i w m1 q; cases h; exact .eaE hn (ih _ _ _ _ q) (by intro h; cases h)
        · cases h
      · split at h
        · rename_i hn; cases h; exact .eaT hn
        · cases h
def Fi.tag : Fi → Str
  | .ok => "ok"
  | .gave => "gave"
  | .fell w => w
def seen (told : List Int) (b : List S1) (m : Ms) : Option (Str × Nat × List (Int × Int) × Option Int) :=
  match exc1 told 400 (.blk b) m with
  | some (f, m') => some (f.tag, m'.n, m'.recs, m'.given)
  | none => none
theorem seen_run {told : List Int} {b : List S1} {m : Ms} {t : Str} {n : Nat} {rs : List (Int × Int)} {g : Option Int} (h : seen told b m = some (t, n, rs, g)) : ∃ f m', Run told (.blk b) m f m' ∧ f.tag = t ∧ m'.n = n ∧ m'.recs = rs ∧ m'.given = g := by
  unfold seen at h
  split at h
  · rename_i f m' e
    cases h
    exact ⟨f, m', exc_run _ _ _ _ _ _ e, rfl, rfl, rfl, rfl⟩
  · cases h
/-- what a call tells, by its worths -/
theorem outD_seen {f : Fi} {m : Ms} {t : Str} {rs : List (Int × Int)} {g : Option Int} (h : f.tag = t) (h1 : t ≠ "ok") (h2 : t ≠ "gave") : outD m f = .tup [.str "fell", .str t] := by
  cases f with
  | ok => exact absurd h.symm h1
  | gave => exact absurd h.symm h2
  | fell w => cases h; rfl
theorem outD_well {f : Fi} {m : Ms} {rs : List (Int × Int)} {g : Option Int} (h : f.tag = "ok" ∨ f.tag = "gave") (hw : ∀ w, f = .fell w → w ∈ fallW) (h2 : m.recs = rs) (h3 : m.given = g) : outD m f = .tup [.str "well", .tup (rs.map recD), gD g] := by
  cases f with
  | ok => cases h2; cases h3; rfl
  | gave => cases h2; cases h3; rfl
  | fell w =>
    have := hw w rfl
    have q : ∀ w ∈ fallW, w ≠ "ok" ∧ w ≠ "gave" := by decide
    have := q w this
    rcases h with e | e
    · exact absurd e this.1
    · exact absurd e this.2
end

section
open PySem L2 DL DLL
set_option maxHeartbeats 0
set_option linter.unusedVariables false
def rotK : List (DK × D) := (letters.zip (letters.drop 7 ++ letters.take 7)).map fun p => (.inl (.inr p.1), .str p.2)
def ren (x : Str) : Str := match dGet rotK (.inl (.inr x)) with
  | some (.str y) => y
  | _ => x
theorem ren_inj : ∀ x ∈ letters, ∀ y ∈ letters, ren x = ren y → x = y := by decide +kernel
theorem ren_in : ∀ x ∈ letters, ren x ∈ letters := by decide +kernel
def renE : Ex → Ex
  | .int n => .int n
  | .var x => .var (ren x)
  | .cnt => .cnt
  | .neg e => .neg (renE e)
  | .bin o a b => .bin o (renE a) (renE b)
mutual
def renS : S1 → S1
  | .set x e => .set (ren x) (renE e)
  | .emit a b => .emit (renE a) (renE b)
  | .give e => .give (renE e)
  | .fail => .fail
  | .crash => .crash
  | .each x b => .each (ren x) (renB b)
  | .ite e a b => .ite (renE e) (renB a) (renB b)
  | .loop e b => .loop (renE e) (renB b)
def renB : List S1 → List S1
  | [] => []
  | s :: r => renS s :: renB r
end
theorem renE_ok : ∀ e : Ex, e.ok → (renE e).ok
  | .int n, h => h
  | .var x, h => ren_in x h
  | .cnt, h => h
  | .neg e, h => renE_ok e h
  | .bin o a b, h => ⟨renE_ok a h.1, renE_ok b h.2⟩
mutual
theorem renS_ok : ∀ s : S1, s.ok → (renS s).ok
  | .set x e, h => ⟨ren_in x h.1, renE_ok e h.2⟩
  | .emit a b, h => ⟨renE_ok a h.1, renE_ok b h.2⟩
  | .give e, h => renE_ok e h
  | .fail, h => h
  | .crash, h => h
  | .each x b, h => ⟨ren_in x h.1, renB_ok b h.2⟩
  | .ite e a b, h => ⟨renE_ok e h.1, renB_ok a h.2.1, renB_ok b h.2.2⟩
  | .loop e b, h => ⟨renE_ok e h.1, renB_ok b h.2⟩
theorem renB_ok : ∀ b : List S1, bok b → bok (renB b)
  | [], h => h
  | s :: r, h => ⟨renS_ok s h.1, renB_ok r h.2⟩
end
theorem renE_deep : ∀ e : Ex, (renE e).deep = e.deep
  | .int n => rfl
  | .var x => rfl
  | .cnt => rfl
  | .neg e => by show (renE e).deep + 1 = _; rw [renE_deep e]; rfl
  | .bin o a b => by show max (renE a).deep (renE b).deep + 1 = _; rw [renE_deep a, renE_deep b]; rfl
mutual
theorem renS_deep : ∀ s : S1, (renS s).deep = s.deep
  | .set x e => renE_deep e
  | .emit a b => by show max (renE a).deep (renE b).deep = _; rw [renE_deep a, renE_deep b]; rfl
  | .give e => renE_deep e
  | .fail => rfl
  | .crash => rfl
  | .each x b => by show bdeep (renB b) + 3 = _; rw [renB_deep b]; rfl
  | .ite e a b => by show max (renE e).deep (max (bdeep (renB a)) (bdeep (renB b))) + 3 = _; rw [renE_deep e, renB_deep a, renB_deep b]; rfl
  | .loop e b => by show max (renE e).deep (bdeep (renB b)) + 3 = _; rw [renE_deep e, renB_deep b]; rfl
theorem renB_deep : ∀ b : List S1, bdeep (renB b) = bdeep b
  | [] => rfl
  | s :: r => by show max (renS s).deep (bdeep (renB r)) = _; rw [renS_deep s, renB_deep r]; rfl
end
def renC : Cf → Cf
  | .blk b => .blk (renB b)
  | .one s => .one (renS s)
  | .wh e b v => .wh (renE e) (renB b) v
  | .ea x b vs => .ea (ren x) (renB b) vs
def SimS (σ σ' : Str → Int) : Prop := ∀ x ∈ letters, σ' (ren x) = σ x
structure SimM (m m2 : Ms) : Prop where
  s : SimS m.σ m2.σ
  n : m2.n = m.n
  r : m2.recs = m.recs
  g : m2.given = m.given
theorem worth_ren {σ σ' : Str → Int} (h : SimS σ σ') (n : Nat) : ∀ e : Ex, e.ok → worth σ' n (renE e) = worth σ n e
  | .int i, _ => rfl
  | .var x, hx => congrArg some (h x hx)
  | .cnt, _ => rfl
  | .neg e, ok => by
    show (worth σ' n (renE e)).map _ = (worth σ n e).map _
    rw [worth_ren h n e ok]
  | .bin o a b, ok => by
    show ((worth σ' n (renE a)).bind fun x => (worth σ' n (renE b)).bind fun y => opV o x y) = (worth σ n a).bind fun x => (worth σ n b).bind fun y => opV o x y
    rw [worth_ren h n a ok.1, worth_ren h n b ok.2]
theorem SimS.up {σ σ' : Str → Int} (h : SimS σ σ') {x : Str} (hx : x ∈ letters) (v : Int) : SimS (upS σ x v) (upS σ' (ren x) v) := fun y hy => by
  show (if ren y = ren x then v else σ' (ren y)) = if y = x then v else σ y
  by_cases e : y = x
  · rw [if_pos e, if_pos (by rw [e])]
  · rw [if_neg e, if_neg (fun q => e (ren_inj y hy x hx q)), h y hy]
theorem SimM.up {m m2 : Ms} (h : SimM m m2) : SimM { m with n := m.n + 1 } { m2 with n := m2.n + 1 } := ⟨h.s, by show m2.n + 1 = m.n + 1; rw [h.n], h.r, h.g⟩
theorem run_ren {told : List Int} (ht : ∀ v ∈ told, InR v) {cf : Cf} {m : Ms} {f : Fi} {m' : Ms} (h : Run told cf m f m') : CfOk told cf → ∀ m2, SimM m m2 → ∃ m2', Run told (renC cf) m2 f m2' ∧ SimM m' m2' := by
  induction h with
  | nil => exact fun ok m2 q => ⟨m2, .nil, q⟩
  | tired h => exact fun ok m2 q => ⟨m2, .tired (by rw [q.n]; exact h), q⟩
  | more h h1 h2 ih1 ih2 =>
    intro ok m2 q
    obtain ⟨a, r1, q1⟩ := ih1 ok.1 _ q.up
    obtain ⟨b, r2, q2⟩ := ih2 ok.2 _ q1
    exact ⟨b, .more (by rw [q.n]; exact h) r1 r2, q2⟩
  | ends h h1 hf ih1 =>
    intro ok m2 q
    obtain ⟨a, r1, q1⟩ := ih1 ok.1 _ q.up
    exact ⟨a, .ends (by rw [q.n]; exact h) r1 hf, q1⟩
  | fail => exact fun ok m2 q => ⟨m2, .fail, q⟩
  | crash => exact fun ok m2 q => ⟨m2, .crash, q⟩
  | set h => exact fun ok m2 q => ⟨_, .set (by rw [worth_ren q.s _ _ ok.2]; exact h), ⟨q.s.up ok.1 _, q.n, q.r, q.g⟩⟩
  | set0 h => exact fun ok m2 q => ⟨m2, .set0 (by rw [worth_ren q.s _ _ ok.2]; exact h), q⟩
  | give h => exact fun ok m2 q => ⟨_, .give (by rw [worth_ren q.s _ _ ok]; exact h), ⟨q.s, q.n, q.r, rfl⟩⟩
  | give0 h => exact fun ok m2 q => ⟨m2, .give0 (by rw [worth_ren q.s _ _ ok]; exact h), q⟩
  | emit h h2 h3 => exact fun ok m2 q => ⟨_, .emit (by rw [worth_ren q.s _ _ ok.1]; exact h) (by rw [worth_ren q.s _ _ ok.2]; exact h2) (by rw [q.r]; exact h3), ⟨q.s, q.n, by show m2.recs ++ _ = _ ++ _; rw [q.r], q.g⟩⟩
  | much h h2 h3 => exact fun ok m2 q => ⟨m2, .much (by rw [worth_ren q.s _ _ ok.1]; exact h) (by rw [worth_ren q.s _ _ ok.2]; exact h2) (by rw [q.r]; exact h3), q⟩
  | emit0 h => exact fun ok m2 q => ⟨m2, .emit0 (by rw [worth_ren q.s _ _ ok.1, worth_ren q.s _ _ ok.2]; exact h), q⟩
  | @ite e a b m v f m1 h h1 ih =>
    intro ok m2 q
    obtain ⟨c, r1, q1⟩ := ih (by show bok _; split; exact ok.2.2; exact ok.2.1) _ q
    refine ⟨c, .ite (by rw [worth_ren q.s _ _ ok.1]; exact h) ?_, q1⟩
    have : renC (.blk (if v = 0 then b else a)) = .blk (if v = 0 then renB b else renB a) := by split <;> rfl
    rw [this] at r1
    exact r1
  | ite0 h => exact fun ok m2 q => ⟨m2, .ite0 (by rw [worth_ren q.s _ _ ok.1]; exact h), q⟩
  | loop h h1 ih =>
    intro ok m2 q
    obtain ⟨c, r1, q1⟩ := ih ok _ q
    exact ⟨c, .loop (by rw [worth_ren q.s _ _ ok.1]; exact h) r1, q1⟩
  | loop0 h => exact fun ok m2 q => ⟨m2, .loop0 (by rw [worth_ren q.s _ _ ok.1]; exact h), q⟩
  | each h1 ih =>
    intro ok m2 q
    obtain ⟨c, r1, q1⟩ := ih ⟨ok.1, ok.2, ht⟩ _ q
    exact ⟨c, .each r1, q1⟩
  | wh0 => exact fun ok m2 q => ⟨m2, .wh0, q⟩
  | whE hv h1 hf ih =>
    intro ok m2 q
    obtain ⟨c, r1, q1⟩ := ih ok.2 _ q
    exact ⟨c, .whE hv r1 hf, q1⟩
  | whT hv h1 h ih =>
    intro ok m2 q
    obtain ⟨c, r1, q1⟩ := ih ok.2 _ q
    exact ⟨c, .whT hv r1 (by rw [q1.n]; exact h), q1⟩
  | whZ hv h1 h h2 ih =>
    intro ok m2 q
    obtain ⟨c, r1, q1⟩ := ih ok.2 _ q
    exact ⟨_, .whZ hv r1 (by rw [q1.n]; exact h) (by rw [worth_ren q1.s _ _ ok.1]; exact h2), q1.up⟩
  | whM hv h1 h h2 h3 ih1 ih3 =>
    intro ok m2 q
    obtain ⟨c, r1, q1⟩ := ih1 ok.2 _ q
    obtain ⟨d, r3, q3⟩ := ih3 ok _ q1.up
    exact ⟨d, .whM hv r1 (by rw [q1.n]; exact h) (by rw [worth_ren q1.s _ _ ok.1]; exact h2) r3, q3⟩
  | ea0 => exact fun ok m2 q => ⟨m2, .ea0, q⟩
  | eaT h => exact fun ok m2 q => ⟨m2, .eaT (by rw [q.n]; exact h), q⟩
  | @eaE x b m v vs f m1 h h1 hf ih =>
    intro ok m2 q
    obtain ⟨c, r1, q1⟩ := ih ok.2.1 { m2 with n := m2.n + 1, σ := upS m2.σ (ren x) v } ⟨q.s.up ok.1 _, by show m2.n + 1 = m.n + 1; rw [q.n], q.r, q.g⟩
    exact ⟨c, .eaE (by rw [q.n]; exact h) r1 hf, q1⟩
  | @eaM x b m v vs m1 f m4 h h1 h2 ih1 ih2 =>
    intro ok m2 q
    obtain ⟨c, r1, q1⟩ := ih1 ok.2.1 { m2 with n := m2.n + 1, σ := upS m2.σ (ren x) v } ⟨q.s.up ok.1 _, by show m2.n + 1 = m.n + 1; rw [q.n], q.r, q.g⟩
    obtain ⟨d, r2, q2⟩ := ih2 ⟨ok.1, ok.2.1, fun v hv => ok.2.2 v (List.mem_cons_of_mem _ hv)⟩ _ q1
    exact ⟨d, .eaM (by rw [q.n]; exact h) r1 r2, q2⟩
theorem sim_start {ns : List Str} {gs : List Int} : ∀ (σ σ' : Str → Int), SimS σ σ' → (∀ x ∈ ns, x ∈ letters) → SimS (bindS σ (ns.zip gs)) (bindS σ' ((ns.map ren).zip gs)) := by
  induction ns generalizing gs with
  | nil => exact fun σ σ' h hn => h
  | cons x r ih =>
    intro σ σ' h hn
    cases gs with
    | nil => exact h
    | cons g gs => exact ih _ _ (h.up (hn x (by simp)) g) fun y hy => hn y (List.mem_cons_of_mem _ hy)
abbrev Nq (x : Str) : Prop := x ≠ "q"
def nqE : Ex → Prop
  | .int _ => True
  | .var x => Nq x
  | .cnt => True
  | .neg e => nqE e
  | .bin _ a b => nqE a ∧ nqE b
mutual
def nqS : S1 → Prop
  | .set x e => Nq x ∧ nqE e
  | .emit a b => nqE a ∧ nqE b
  | .give e => nqE e
  | .fail => True
  | .crash => True
  | .each x b => Nq x ∧ nqB b
  | .ite e a b => nqE e ∧ nqB a ∧ nqB b
  | .loop e b => nqE e ∧ nqB b
def nqB : List S1 → Prop
  | [] => True
  | s :: r => nqS s ∧ nqB r
end
def nqC : Cf → Prop
  | .blk b => nqB b
  | .one s => nqS s
  | .wh e b _ => nqE e ∧ nqB b
  | .ea x b _ => Nq x ∧ nqB b
structure Mor (m m2 : Ms) : Prop where
  s : ∀ x, Nq x → m2.σ x = m.σ x
  n : m2.n = m.n + 1
  r : m2.recs = m.recs
  g : m2.given = m.given
theorem worth_nq {σ σ' : Str → Int} (h : ∀ x, Nq x → σ' x = σ x) (n : Nat) : ∀ e : Ex, nqE e → worth σ' n e = worth σ n e
  | .int i, _ => rfl
  | .var x, hx => congrArg some (h x hx)
  | .cnt, _ => rfl
  | .neg e, ok => by
    show (worth σ' n e).map _ = (worth σ n e).map _
    rw [worth_nq h n e ok]
  | .bin o a b, ok => by
    show ((worth σ' n a).bind fun x => (worth σ' n b).bind fun y => opV o x y) = (worth σ n a).bind fun x => (worth σ n b).bind fun y => opV o x y
    rw [worth_nq h n a ok.1, worth_nq h n b ok.2]
theorem Mor.up {m m2 : Ms} (h : Mor m m2) : Mor { m with n := m.n + 1 } { m2 with n := m2.n + 1 } := ⟨h.s, by show m2.n + 1 = m.n + 1 + 1; rw [h.n], h.r, h.g⟩
theorem Mor.var {m m2 : Ms} (h : Mor m m2) (x : Str) (v : Int) : ∀ y, Nq y → upS m2.σ x v y = upS m.σ x v y := fun y hy => by
  show (if y = x then v else m2.σ y) = if y = x then v else m.σ y
  rw [h.s y hy]
theorem run_mono {told : List Int} {cf : Cf} {m : Ms} {f : Fi} {m' : Ms} (h : Run told cf m f m') : m.n ≤ 100 → m.n ≤ m'.n ∧ m'.n ≤ 100 := by
  induction h with
  | more h h1 h2 ih1 ih2 =>
    intro hn
    have a := ih1 (by show _ + 1 ≤ 100; omega)
    have b := ih2 a.2
    exact ⟨Nat.le_trans (Nat.le_trans (Nat.le_succ _) a.1) b.1, b.2⟩
  | ends h h1 hf ih1 =>
    intro hn
    have a := ih1 (by show _ + 1 ≤ 100; omega)
    exact ⟨Nat.le_trans (Nat.le_succ _) a.1, a.2⟩
  | ite h h1 ih => exact ih
  | loop h h1 ih => exact ih
  | each h1 ih => exact ih
  | whE hv h1 hf ih => exact ih
  | whT hv h1 h ih => exact ih
  | whZ hv h1 h h2 ih =>
    intro hn
    have a := ih hn
    exact ⟨by show _ ≤ _ + 1; omega, by show _ + 1 ≤ 100; omega⟩
  | whM hv h1 h h2 h3 ih1 ih3 =>
    intro hn
    have a := ih1 hn
    have b := ih3 (by show _ + 1 ≤ 100; omega)
    exact ⟨Nat.le_trans (Nat.le_trans a.1 (Nat.le_succ _)) b.1, b.2⟩
  | eaE h h1 hf ih =>
    intro hn
    have a := ih (by show _ + 1 ≤ 100; omega)
    exact ⟨Nat.le_trans (Nat.le_succ _) a.1, a.2⟩
  | eaM h h1 h2 ih1 ih2 =>
    intro hn
    have a := ih1 (by show _ + 1 ≤ 100; omega)
    have b := ih2 a.2
    exact ⟨Nat.le_trans (Nat.le_trans (Nat.le_succ _) a.1) b.1, b.2⟩
  | _ => exact fun hn => ⟨Nat.le_refl _, hn⟩
def Later (told : List Int) (cf : Cf) (m2 : Ms) (f : Fi) (m' : Ms) : Prop := (m'.n ≤ 99 → ∃ m3, Run told cf m2 f m3 ∧ Mor m' m3) ∧ (m'.n = 100 → ∃ m3, Run told cf m2 (.fell "tired") m3 ∧ m3.n = 100)
theorem Later.now {told : List Int} {cf : Cf} {m2 m3 : Ms} {f : Fi} {m' : Ms} (h : m'.n ≤ 99) (r : Run told cf m2 f m3) (q : Mor m' m3) : Later told cf m2 f m' := ⟨fun _ => ⟨m3, r, q⟩, fun e => by omega⟩
theorem notok : Fi.fell ("tired" : Str) ≠ .ok := by intro h; cases h
theorem run_more {told : List Int} {cf : Cf} {m : Ms} {f : Fi} {m' : Ms} (h : Run told cf m f m') : nqC cf → ∀ m2, Mor m m2 → m.n ≤ 99 → Later told cf m2 f m' := by
  induction h with
  | nil => exact fun ok m2 q hn => .now hn .nil q
  | tired h => exact fun ok m2 q hn => by omega
  | @more s r m m1 m2' f h h1 h2 ih1 ih2 =>
    intro ok m2 q hn
    have b1 := run_mono h1 (by show m.n + 1 ≤ 100; omega)
    have b2 := run_mono h2 b1.2
    have c1 : m.n + 1 ≤ m1.n := b1.1
    by_cases top : m.n = 99
    · exact ⟨fun e => by omega, fun _ => ⟨m2, .tired (by rw [q.n, top]), by rw [q.n, top]⟩⟩
    · have L1 := ih1 ok.1 _ q.up (by show m.n + 1 ≤ 99; omega)
      have lt : m2.n < 100 := by rw [q.n]; omega
      by_cases e1 : m1.n = 100
      · obtain ⟨m3, r3, n3⟩ := L1.2 e1
        exact ⟨fun e => by omega, fun _ => ⟨m3, .ends lt r3 notok, n3⟩⟩
      · obtain ⟨m3, r3, q3⟩ := L1.1 (by omega)
        have L2 := ih2 ok.2 _ q3 (by omega)
        exact ⟨fun e => let ⟨m4, r4, q4⟩ := L2.1 e; ⟨m4, .more lt r3 r4, q4⟩, fun e => let ⟨m4, r4, n4⟩ := L2.2 e; ⟨m4, .more lt r3 r4, n4⟩⟩
  | @ends s r m m1 f h h1 hf ih1 =>
    intro ok m2 q hn
    have b1 := run_mono h1 (by show m.n + 1 ≤ 100; omega)
    have c1 : m.n + 1 ≤ m1.n := b1.1
    by_cases top : m.n = 99
    · exact ⟨fun e => by omega, fun _ => ⟨m2, .tired (by rw [q.n, top]), by rw [q.n, top]⟩⟩
    · have L1 := ih1 ok.1 _ q.up (by show m.n + 1 ≤ 99; omega)
      have lt : m2.n < 100 := by rw [q.n]; omega
      exact ⟨fun e => let ⟨m4, r4, q4⟩ := L1.1 e; ⟨m4, .ends lt r4 hf, q4⟩, fun e => let ⟨m4, r4, n4⟩ := L1.2 e; ⟨m4, .ends lt r4 notok, n4⟩⟩
  | fail => exact fun ok m2 q hn => .now hn .fail q
  | crash => exact fun ok m2 q hn => .now hn .crash q
  | set h => exact fun ok m2 q hn => .now hn (.set (by rw [worth_nq q.s _ _ ok.2]; exact h)) ⟨q.var _ _, q.n, q.r, q.g⟩
  | set0 h => exact fun ok m2 q hn => .now hn (.set0 (by rw [worth_nq q.s _ _ ok.2]; exact h)) q
  | give h => exact fun ok m2 q hn => .now hn (.give (by rw [worth_nq q.s _ _ ok]; exact h)) ⟨q.s, q.n, q.r, rfl⟩
  | give0 h => exact fun ok m2 q hn => .now hn (.give0 (by rw [worth_nq q.s _ _ ok]; exact h)) q
  | emit h h2 h3 => exact fun ok m2 q hn => .now hn (.emit (by rw [worth_nq q.s _ _ ok.1]; exact h) (by rw [worth_nq q.s _ _ ok.2]; exact h2) (by rw [q.r]; exact h3)) ⟨q.s, q.n, by show m2.recs ++ _ = _ ++ _; rw [q.r], q.g⟩
  | much h h2 h3 => exact fun ok m2 q hn => .now hn (.much (by rw [worth_nq q.s _ _ ok.1]; exact h) (by rw [worth_nq q.s _ _ ok.2]; exact h2) (by rw [q.r]; exact h3)) q
  | emit0 h => exact fun ok m2 q hn => .now hn (.emit0 (by rw [worth_nq q.s _ _ ok.1, worth_nq q.s _ _ ok.2]; exact h)) q
  | @ite e a b m v f m1 h h1 ih =>
    intro ok m2 q hn
    have L := ih (by show nqB _; split; exact ok.2.2; exact ok.2.1) _ q hn
    have w : worth m2.σ told.length e = some v := by rw [worth_nq q.s _ _ ok.1]; exact h
    exact ⟨fun e => let ⟨m4, r4, q4⟩ := L.1 e; ⟨m4, .ite w r4, q4⟩, fun e => let ⟨m4, r4, n4⟩ := L.2 e; ⟨m4, .ite w r4, n4⟩⟩
  | ite0 h => exact fun ok m2 q hn => .now hn (.ite0 (by rw [worth_nq q.s _ _ ok.1]; exact h)) q
  | @loop e b m v f m1 h h1 ih =>
    intro ok m2 q hn
    have L := ih ok _ q hn
    have w : worth m2.σ told.length e = some v := by rw [worth_nq q.s _ _ ok.1]; exact h
    exact ⟨fun e => let ⟨m4, r4, q4⟩ := L.1 e; ⟨m4, .loop w r4, q4⟩, fun e => let ⟨m4, r4, n4⟩ := L.2 e; ⟨m4, .loop w r4, n4⟩⟩
  | loop0 h => exact fun ok m2 q hn => .now hn (.loop0 (by rw [worth_nq q.s _ _ ok.1]; exact h)) q
  | each h1 ih =>
    intro ok m2 q hn
    have L := ih ok _ q hn
    exact ⟨fun e => let ⟨m4, r4, q4⟩ := L.1 e; ⟨m4, .each r4, q4⟩, fun e => let ⟨m4, r4, n4⟩ := L.2 e; ⟨m4, .each r4, n4⟩⟩
  | wh0 => exact fun ok m2 q hn => .now hn .wh0 q
  | whE hv h1 hf ih =>
    intro ok m2 q hn
    have L := ih ok.2 _ q hn
    exact ⟨fun e => let ⟨m4, r4, q4⟩ := L.1 e; ⟨m4, .whE hv r4 hf, q4⟩, fun e => let ⟨m4, r4, n4⟩ := L.2 e; ⟨m4, .whE hv r4 notok, n4⟩⟩
  | whT hv h1 h ih =>
    intro ok m2 q hn
    have L := ih ok.2 _ q hn
    exact ⟨fun e => by omega, fun e => let ⟨m4, r4, n4⟩ := L.2 e; ⟨m4, .whE hv r4 notok, n4⟩⟩
  | @whZ e b m v m1 hv h1 h h2 ih =>
    intro ok m2 q hn
    have L := ih ok.2 _ q hn
    obtain ⟨m3, r3, q3⟩ := L.1 (by omega)
    by_cases top : m1.n = 99
    · exact ⟨fun e => by
        have : m1.n + 1 ≤ 99 := e
        omega, fun _ => ⟨m3, .whT hv r3 (by rw [q3.n, top]), by rw [q3.n, top]⟩⟩
    · exact .now (by show m1.n + 1 ≤ 99; omega) (.whZ hv r3 (by rw [q3.n]; omega) (by rw [worth_nq q3.s _ _ ok.1]; exact h2)) q3.up
  | @whM e b m v m1 v2 f m4 hv h1 h h2 h3 ih1 ih3 =>
    intro ok m2 q hn
    have L := ih1 ok.2 _ q hn
    have b3 := run_mono h3 (by show m1.n + 1 ≤ 100; omega)
    have c3 : m1.n + 1 ≤ m4.n := b3.1
    obtain ⟨m3, r3, q3⟩ := L.1 (by omega)
    by_cases top : m1.n = 99
    · exact ⟨fun e => by omega, fun _ => ⟨m3, .whT hv r3 (by rw [q3.n, top]), by rw [q3.n, top]⟩⟩
    · have L2 := ih3 ok _ q3.up (by show m1.n + 1 ≤ 99; omega)
      have w : worth m3.σ told.length e = some v2 := by rw [worth_nq q3.s _ _ ok.1]; exact h2
      exact ⟨fun e => let ⟨m5, r5, q5⟩ := L2.1 e; ⟨m5, .whM hv r3 (by rw [q3.n]; omega) w r5, q5⟩, fun e => let ⟨m5, r5, n5⟩ := L2.2 e; ⟨m5, .whM hv r3 (by rw [q3.n]; omega) w r5, n5⟩⟩
  | ea0 => exact fun ok m2 q hn => .now hn .ea0 q
  | eaT h => exact fun ok m2 q hn => by omega
  | @eaE x b m v vs f m1 h h1 hf ih =>
    intro ok m2 q hn
    have b1 := run_mono h1 (by show m.n + 1 ≤ 100; omega)
    have c1 : m.n + 1 ≤ m1.n := b1.1
    by_cases top : m.n = 99
    · exact ⟨fun e => by omega, fun _ => ⟨m2, .eaT (by rw [q.n, top]), by rw [q.n, top]⟩⟩
    · have L := ih ok.2 { m2 with n := m2.n + 1, σ := upS m2.σ x v } ⟨q.var _ _, by show m2.n + 1 = m.n + 1 + 1; rw [q.n], q.r, q.g⟩ (by show m.n + 1 ≤ 99; omega)
      have lt : m2.n < 100 := by rw [q.n]; omega
      exact ⟨fun e => let ⟨m4, r4, q4⟩ := L.1 e; ⟨m4, .eaE lt r4 hf, q4⟩, fun e => let ⟨m4, r4, n4⟩ := L.2 e; ⟨m4, .eaE lt r4 notok, n4⟩⟩
  | @eaM x b m v vs m1 f m4 h h1 h2 ih1 ih2 =>
    intro ok m2 q hn
    have b1 := run_mono h1 (by show m.n + 1 ≤ 100; omega)
    have b2 := run_mono h2 b1.2
    have c1 : m.n + 1 ≤ m1.n := b1.1
    by_cases top : m.n = 99
    · exact ⟨fun e => by omega, fun _ => ⟨m2, .eaT (by rw [q.n, top]), by rw [q.n, top]⟩⟩
    · have L1 := ih1 ok.2 { m2 with n := m2.n + 1, σ := upS m2.σ x v } ⟨q.var _ _, by show m2.n + 1 = m.n + 1 + 1; rw [q.n], q.r, q.g⟩ (by show m.n + 1 ≤ 99; omega)
      have lt : m2.n < 100 := by rw [q.n]; omega
      by_cases e1 : m1.n = 100
      · obtain ⟨m3, r3, n3⟩ := L1.2 e1
        exact ⟨fun e => by omega, fun _ => ⟨m3, .eaE lt r3 notok, n3⟩⟩
      · obtain ⟨m3, r3, q3⟩ := L1.1 (by omega)
        have L2 := ih2 ok _ q3 (by omega)
        exact ⟨fun e => let ⟨m5, r5, q5⟩ := L2.1 e; ⟨m5, .eaM lt r3 r5, q5⟩, fun e => let ⟨m5, r5, n5⟩ := L2.2 e; ⟨m5, .eaM lt r3 r5, n5⟩⟩
/-- a call of the block with one more statement -/
theorem more_call {told : List Int} {b : List S1} {σ : Str → Int} {f : Fi} {m' : Ms} (h : Run told (.blk b) ⟨σ, 0, [], none⟩ f m') (nq : nqB b) :
    (m'.n ≤ 99 → ∃ m3, Run told (.blk (.set "q" (.int 7) :: b)) ⟨σ, 0, [], none⟩ f m3 ∧ m3.n = m'.n + 1 ∧ m3.recs = m'.recs ∧ m3.given = m'.given) ∧ (m'.n = 100 → ∃ m3, Run told (.blk (.set "q" (.int 7) :: b)) ⟨σ, 0, [], none⟩ (.fell "tired") m3 ∧ m3.n = 100) := by
  have L := run_more h nq ⟨upS σ "q" 7, 1, [], none⟩ ⟨fun x hx => if_neg hx, rfl, rfl, rfl⟩ (by show 0 ≤ 99; omega)
  have st : Run told (.one (.set "q" (.int 7))) ⟨σ, 0 + 1, [], none⟩ .ok ⟨upS σ "q" 7, 1, [], none⟩ := .set rfl
  exact ⟨fun e => let ⟨m3, r, q⟩ := L.1 e; ⟨m3, .more (by show 0 < 100; omega) st r, q.n, q.r, q.g⟩, fun e => let ⟨m3, r, q⟩ := L.2 e; ⟨m3, .more (by show 0 < 100; omega) st r, q⟩⟩
end

section
open PySem L2 DL DLL
set_option maxHeartbeats 0
set_option linter.unusedVariables false
theorem menu_nq : ∀ x ∈ menu, Nq x := by decide +kernel
theorem okM_nqE : ∀ e : Ex, e.okM → nqE e
  | .int n, h => trivial
  | .var x, h => menu_nq x h
  | .cnt, h => h
  | .neg e, h => okM_nqE e h
  | .bin o a b, h => ⟨okM_nqE a h.1, okM_nqE b h.2⟩
mutual
theorem okM_nqS : ∀ s : S1, s.okM → nqS s
  | .set x e, h => ⟨menu_nq x h.1, okM_nqE e h.2⟩
  | .emit a b, h => ⟨okM_nqE a h.1, okM_nqE b h.2⟩
  | .give e, h => okM_nqE e h
  | .fail, h => h
  | .crash, h => h
  | .each x b, h => ⟨menu_nq x h.1, okM_nqB b h.2⟩
  | .ite e a b, h => ⟨okM_nqE e h.1, okM_nqB a h.2.1, okM_nqB b h.2.2⟩
  | .loop e b, h => ⟨okM_nqE e h.1, okM_nqB b h.2⟩
theorem okM_nqB : ∀ b : List S1, bokM b → nqB b
  | [], h => h
  | s :: r, h => ⟨okM_nqS s h.1, okM_nqB r h.2.2⟩
end
mutual
def renD : D → D
  | .str x => .str (ren x)
  | .tup xs => .tup (renDs xs)
  | d => d
def renDs : List D → List D
  | [] => []
  | x :: r => renD x :: renDs r
end
theorem renDs_map : ∀ xs : List D, renDs xs = xs.map renD
  | [] => rfl
  | x :: r => by show renD x :: renDs r = _; rw [renDs_map r]; rfl
inductive Tr : Nat → D → Prop
  | int {n} (i) : Tr n (.int i)
  | str {n} (x) : Tr n (.str x)
  | tup {n xs} : xs.length ≤ 101 → (∀ x ∈ xs, Tr n x) → Tr (n + 1) (.tup xs)
theorem Tr.up {n m : Nat} {d : D} (h : Tr n d) (hm : n ≤ m) : Tr m d := by
  induction h generalizing m with
  | int i => exact .int i
  | str x => exact .str x
  | @tup n xs hl h ih =>
    obtain ⟨m, rfl⟩ : ∃ q, m = q + 1 := ⟨m - 1, by omega⟩
    exact .tup hl fun x hx => ih x hx (by omega)
theorem rot_str : ∀ kv ∈ rotK, ∃ y : Str, kv.2 = .str y := fun kv h => by
  unfold rotK at h
  obtain ⟨p, _, rfl⟩ := List.mem_map.mp h
  exact ⟨p.2, rfl⟩
theorem get_ren (x : Str) : (dGet rotK (.inl (.inr x))).getD (.str x) = .str (ren x) := by
  unfold ren
  cases e : dGet rotK (.inl (.inr x)) with
  | none => rfl
  | some d =>
    unfold dGet at e
    obtain ⟨kv, h1, rfl⟩ := Option.map_eq_some_iff.mp e
    obtain ⟨y, hy⟩ := rot_str kv (List.mem_of_find?_eq_some h1)
    rw [hy]
    rfl
theorem renamed_ (kvs : List (DK × D)) (hnm : kvs = rotK) : ∀ (n : Nat) (d : D), Tr n d → ∀ (k : Nat), n + 1 ≤ k → ∀ (S : Store) (κ : R D → Store → Prop), κ (.v (renD d)) S → callAtP T k "_law_renamed" [d, .dct kvs] S κ := by
  have hget : ∀ x : Str, (dGet kvs (.inl (.inr x))).getD (.str x) = renD (.str x) := fun x => by rw [hnm]; exact get_ren x
  intro n
  induction n with
  | zero =>
    intro d hd k hk S κ h
    obtain ⟨k, rfl⟩ := lev 1 (show 1 ≤ k by omega)
    cases hd
    · conv => whnf
      exact h
    · conv => whnf
      rw [← hget] at h
      exact h
  | succ n ih =>
    intro d hd k hk S κ h
    obtain ⟨k, rfl⟩ := lev 1 (show 1 ≤ k by omega)
    cases hd
    · conv => whnf
      exact h
    · conv => whnf
      rw [← hget] at h
      exact h
    · rename_i xs hl hx
      conv => whnf
      refine comp_map (xs := xs) renD (fun i => rfl) rfl (by rw [sizeLine_eq]; omega) (fun d K hd hK => ?_) ?_
      · conv => whnf
        refine ih d (hx d hd) _ (by omega) _ _ ?_
        conv => whnf
        exact hK
      · conv => whnf
        have e : renD (.tup xs) = .tup (xs.map renD) := by
          show D.tup (renDs xs) = _
          rw [renDs_map]
        rw [e] at h
        exact h
theorem ren_words : ren "set" = "set" ∧ ren "emit" = "emit" ∧ ren "give" = "give" ∧ ren "fail" = "fail" ∧ ren "crash" = "crash" ∧ ren "each" = "each" ∧ ren "if" = "if" ∧ ren "while" = "while" ∧ ren "int" = "int" ∧ ren "var" = "var" ∧ ren "count" = "count" ∧ ren "minus" = "minus" := by decide +kernel
theorem ren_op : ∀ o : Op, ren o.s = o.s := by
  intro o
  cases o <;> decide +kernel
theorem renE_d : ∀ e : Ex, renD e.d = (renE e).d
  | .int n => by show D.tup [.str (ren "int"), .int n] = D.tup [.str "int", .int n]; rw [ren_words.2.2.2.2.2.2.2.2.1]
  | .var x => by show D.tup [.str (ren "var"), .str (ren x)] = D.tup [.str "var", .str (ren x)]; rw [ren_words.2.2.2.2.2.2.2.2.2.1]
  | .cnt => by show D.tup [.str (ren "count")] = D.tup [.str "count"]; rw [ren_words.2.2.2.2.2.2.2.2.2.2.1]
  | .neg e => by show D.tup [.str (ren "minus"), renD e.d] = D.tup [.str "minus", (renE e).d]; rw [ren_words.2.2.2.2.2.2.2.2.2.2.2, renE_d e]
  | .bin o a b => by show D.tup [.str (ren o.s), renD a.d, renD b.d] = D.tup [.str o.s, (renE a).d, (renE b).d]; rw [ren_op, renE_d a, renE_d b]
mutual
theorem renS_d : ∀ s : S1, renD s.d = (renS s).d
  | .set x e => by show D.tup [.str (ren "set"), .str (ren x), renD e.d] = D.tup [.str "set", .str (ren x), (renE e).d]; rw [ren_words.1, renE_d e]
  | .emit a b => by show D.tup [.str (ren "emit"), renD a.d, renD b.d] = D.tup [.str "emit", (renE a).d, (renE b).d]; rw [ren_words.2.1, renE_d a, renE_d b]
  | .give e => by show D.tup [.str (ren "give"), renD e.d] = D.tup [.str "give", (renE e).d]; rw [ren_words.2.2.1, renE_d e]
  | .fail => by show D.tup [.str (ren "fail")] = D.tup [.str "fail"]; rw [ren_words.2.2.2.1]
  | .crash => by show D.tup [.str (ren "crash")] = D.tup [.str "crash"]; rw [ren_words.2.2.2.2.1]
  | .each x b => by show D.tup [.str (ren "each"), .str (ren x), .tup (renDs (bd b))] = D.tup [.str "each", .str (ren x), .tup (bd (renB b))]; rw [ren_words.2.2.2.2.2.1, renB_d b]
  | .ite e a b => by show D.tup [.str (ren "if"), renD e.d, .tup (renDs (bd a)), .tup (renDs (bd b))] = D.tup [.str "if", (renE e).d, .tup (bd (renB a)), .tup (bd (renB b))]; rw [ren_words.2.2.2.2.2.2.1, renE_d e, renB_d a, renB_d b]
  | .loop e b => by show D.tup [.str (ren "while"), renD e.d, .tup (renDs (bd b))] = D.tup [.str "while", (renE e).d, .tup (bd (renB b))]; rw [ren_words.2.2.2.2.2.2.2.1, renE_d e, renB_d b]
theorem renB_d : ∀ b : List S1, renDs (bd b) = bd (renB b)
  | [] => rfl
  | s :: r => by show renD s.d :: renDs (bd r) = (renS s).d :: bd (renB r); rw [renS_d s, renB_d r]
end
theorem bokM_len : ∀ b : List S1, bokM b → b.length ≤ 101
  | [], h => Nat.zero_le _
  | s :: r, h => by have := h.2.1; show r.length + 1 ≤ 101; omega
theorem exTr : ∀ e : Ex, Tr (e.deep + 1) e.d
  | .int n => .tup (by show 2 ≤ 101; omega) fun x hx => by
    simp only [List.mem_cons, List.not_mem_nil, or_false] at hx
    rcases hx with rfl | rfl
    · exact .str _
    · exact .int _
  | .var x => .tup (by show 2 ≤ 101; omega) fun x hx => by
    simp only [List.mem_cons, List.not_mem_nil, or_false] at hx
    rcases hx with rfl | rfl <;> exact .str _
  | .cnt => .tup (by show 1 ≤ 101; omega) fun x hx => by
    simp only [List.mem_cons, List.not_mem_nil, or_false] at hx
    rcases hx with rfl
    exact .str _
  | .neg e => .tup (by show 2 ≤ 101; omega) fun x hx => by
    simp only [List.mem_cons, List.not_mem_nil, or_false] at hx
    rcases hx with rfl | rfl
    · exact .str _
    · exact exTr e
  | .bin o a b => .tup (by show 3 ≤ 101; omega) fun x hx => by
    simp only [List.mem_cons, List.not_mem_nil, or_false] at hx
    rcases hx with rfl | rfl | rfl
    · exact .str _
    · exact (exTr a).up (by show _ ≤ max a.deep b.deep + 1; omega)
    · exact (exTr b).up (by show _ ≤ max a.deep b.deep + 1; omega)
mutual
theorem stTr : ∀ s : S1, s.okM → Tr (s.deep + 2) s.d
  | .set x e, h => .tup (by show 3 ≤ 101; omega) fun d hx => by
    simp only [List.mem_cons, List.not_mem_nil, or_false] at hx
    rcases hx with rfl | rfl | rfl
    · exact .str _
    · exact .str _
    · exact (exTr e).up (by show _ ≤ e.deep + 1; omega)
  | .emit a b, h => .tup (by show 3 ≤ 101; omega) fun d hx => by
    simp only [List.mem_cons, List.not_mem_nil, or_false] at hx
    rcases hx with rfl | rfl | rfl
    · exact .str _
    · exact (exTr a).up (by show _ ≤ max a.deep b.deep + 1; omega)
    · exact (exTr b).up (by show _ ≤ max a.deep b.deep + 1; omega)
  | .give e, h => .tup (by show 2 ≤ 101; omega) fun d hx => by
    simp only [List.mem_cons, List.not_mem_nil, or_false] at hx
    rcases hx with rfl | rfl
    · exact .str _
    · exact (exTr e).up (by show _ ≤ e.deep + 1; omega)
  | .fail, h => .tup (by show 1 ≤ 101; omega) fun d hx => by
    simp only [List.mem_cons, List.not_mem_nil, or_false] at hx
    rcases hx with rfl
    exact .str _
  | .crash, h => .tup (by show 1 ≤ 101; omega) fun d hx => by
    simp only [List.mem_cons, List.not_mem_nil, or_false] at hx
    rcases hx with rfl
    exact .str _
  | .each x b, h => .tup (by show 3 ≤ 101; omega) fun d hx => by
    simp only [List.mem_cons, List.not_mem_nil, or_false] at hx
    rcases hx with rfl | rfl | rfl
    · exact .str _
    · exact .str _
    · exact (blTr b h.2).up (by show _ ≤ bdeep b + 3 + 1; omega)
  | .ite e a b, h => .tup (by show 4 ≤ 101; omega) fun d hx => by
    simp only [List.mem_cons, List.not_mem_nil, or_false] at hx
    rcases hx with rfl | rfl | rfl | rfl
    · exact .str _
    · exact (exTr e).up (by show _ ≤ max e.deep (max (bdeep a) (bdeep b)) + 3 + 1; omega)
    · exact (blTr a h.2.1).up (by show _ ≤ max e.deep (max (bdeep a) (bdeep b)) + 3 + 1; omega)
    · exact (blTr b h.2.2).up (by show _ ≤ max e.deep (max (bdeep a) (bdeep b)) + 3 + 1; omega)
  | .loop e b, h => .tup (by show 3 ≤ 101; omega) fun d hx => by
    simp only [List.mem_cons, List.not_mem_nil, or_false] at hx
    rcases hx with rfl | rfl | rfl
    · exact .str _
    · exact (exTr e).up (by show _ ≤ max e.deep (bdeep b) + 3 + 1; omega)
    · exact (blTr b h.2).up (by show _ ≤ max e.deep (bdeep b) + 3 + 1; omega)
theorem blTr : ∀ b : List S1, bokM b → Tr (bdeep b + 3) (.tup (bd b))
  | b, h => .tup (by rw [bd_map, List.length_map]; exact bokM_len b h) (bsTr b h)
theorem bsTr : ∀ b : List S1, bokM b → ∀ d ∈ bd b, Tr (bdeep b + 2) d
  | [], h, d, hd => by cases hd
  | s :: r, h, d, hd => by
    rcases List.mem_cons.mp hd with e | hd
    · rw [e]
      exact (stTr s h.1).up (by show _ ≤ max s.deep (bdeep r) + 2; omega)
    · exact (bsTr r h.2.2 d hd).up (by show _ ≤ max s.deep (bdeep r) + 2; omega)
end
end

section
open PySem L2 DL DLL
set_option maxHeartbeats 0
set_option linter.unusedVariables false
def rowD (ns : List Str) (b : List S1) : D := .tup (ns.map D.str ++ [.tup (bd b)])
def RowAt (fn : Str) (ns : List Str) (b : List S1) (r1 r2 r3 : D) : Prop := if fn = "map" then r1 = rowD ns b else if fn = "join" then r2 = rowD ns b else r3 = rowD ns b
def arity (fn : Str) : Nat := if fn = "map" then 2 else if fn = "join" then 3 else 1
def givenD (fn : Str) (gs told : List Int) : D := if fn = "reduce" then .tup (gs.map D.int ++ [.tup (told.map D.int)]) else .tup (gs.map D.int)
abbrev m0 (ns : List Str) (gs : List Int) : Ms := ⟨bindS zeroS (ns.zip gs), 0, [], none⟩
def isJ (fn : Str) : Bool := decide (fn = "join")
theorem toldF (fn : Str) (hfn : isFn fn) (nm r1 r2 r3 : D) (ns : List Str) (b : List S1) (hJ : RowAt fn ns b r1 r2 r3) (hns : ns.length = arity fn) (hn : ∀ x ∈ ns, x ∈ letters) (gs told : List Int) (hgl : gs.length = arity fn) (hg : ∀ v ∈ gs, InR v) (hre : fn = "reduce" ∨ told = []) (hl : told.length ≤ 1000) (htd : ∀ v ∈ told, InR v)
    (ok : bok b) (k : Nat) (hk : bdeep b + 20 ≤ k) (S : Store) (O : D) (z : Int) {f : Fi} {m' : Ms} (hR : Run told (.blk b) (m0 ns gs) f m') (hO : O = outD m' (endF (isJ fn) f)) (hz : z = (m'.n : Int)) (κ : R D → Store → Prop)
    (h : ∀ S', (∀ i, i < S.length → S'[i]? = S[i]?) → S.length ≤ S'.length → κ (.v (.tup [O, .int z])) S') : callAtP T k "_law_told" [.tup [nm, r1, r2, r3], .str fn, givenD fn gs told] S κ := by
  obtain ⟨k, rfl⟩ := lev 1 (show 1 ≤ k by omega)
  obtain ⟨F, Po⟩ := run_post hl htd hR ok (start_fine hg)
  subst hO hz
  rcases hfn with rfl | rfl | rfl
  · obtain rfl : r1 = rowD ns b := hJ
    obtain rfl : told = [] := by
      rcases hre with e | e
      · exact absurd e (by decide)
      · exact e
    obtain ⟨x, y, rfl⟩ : ∃ x y, gs = [x, y] := by
      match gs, hgl with
      | [x, y], _ => exact ⟨x, y, rfl⟩
    have g2 : InR x ∧ InR y := ⟨hg x (by simp), hg y (by simp)⟩
    conv => whnf
    refine out_mapped k S _ _ _ ns x y hn g2 b ok (by omega) hR Po F _ fun S2 u2 l2 => ?_
    conv => whnf
    refine steps_mapped k S2 _ _ _ ns x y hn g2 b ok (by omega) hR _ fun S3 u3 l3 => ?_
    conv => whnf
    exact h _ (fun i hi => by rw [u3 i (by omega), u2 i hi]) (by omega)
  · obtain rfl : r2 = rowD ns b := hJ
    obtain rfl : told = [] := by
      rcases hre with e | e
      · exact absurd e (by decide)
      · exact e
    obtain ⟨x, y, w, rfl⟩ : ∃ x y w, gs = [x, y, w] := by
      match gs, hgl with
      | [x, y, w], _ => exact ⟨x, y, w, rfl⟩
    have g2 : InR x ∧ InR y ∧ InR w := ⟨hg x (by simp), hg y (by simp), hg w (by simp)⟩
    conv => whnf
    refine out_joined k S _ _ _ ns x y w hn g2 b ok (by omega) hR Po F _ fun S2 u2 l2 => ?_
    conv => whnf
    refine steps_joined k S2 _ _ _ ns x y w hn g2 b ok (by omega) hR Po F _ fun S3 u3 l3 => ?_
    conv => whnf
    exact h _ (fun i hi => by rw [u3 i (by omega), u2 i hi]) (by omega)
  · obtain rfl : r3 = rowD ns b := hJ
    obtain ⟨x, rfl⟩ : ∃ x, gs = [x] := by
      match gs, hgl with
      | [x], _ => exact ⟨x, rfl⟩
    have g2 : InR x := hg x (by simp)
    conv => whnf
    refine out_reduced k S _ _ _ ns x told hl htd hn g2 b ok (by omega) hR Po F _ fun S2 u2 l2 => ?_
    conv => whnf
    refine steps_reduced k S2 _ _ _ ns x told hl htd hn g2 b ok (by omega) hR _ fun S3 u3 l3 => ?_
    conv => whnf
    exact h _ (fun i hi => by rw [u3 i (by omega), u2 i hi]) (by omega)
theorem dueF (fn : Str) (hfn : isFn fn) (nm r1 r2 r3 : D) (ns : List Str) (b : List S1) (hJ : RowAt fn ns b r1 r2 r3) (hns : ns.length = arity fn) (hn : ∀ x ∈ ns, x ∈ letters) (gs told : List Int) (hgl : gs.length = arity fn) (hg : ∀ v ∈ gs, InR v) (hre : fn = "reduce" ∨ told = []) (hl : told.length ≤ 1000) (htd : ∀ v ∈ told, InR v)
    (ok : bok b) (k : Nat) (hk : bdeep b + 20 ≤ k) (S : Store) (O : D) (z : Int) {f : Fi} {m' : Ms} (hR : Run told (.blk b) (m0 ns gs) f m') (hO : O = outD m' (endF (isJ fn) f)) (hz : z = (m'.n : Int)) (κ : R D → Store → Prop)
    (h : ∀ S', (∀ i, i < S.length → S'[i]? = S[i]?) → S.length ≤ S'.length → κ (.v (.tup [O, .int z])) S') : callAtP T k "_law_due" [.tup [nm, r1, r2, r3], .str fn, givenD fn gs told] S κ := by
  obtain ⟨k, rfl⟩ := lev 1 (show 1 ≤ k by omega)
  obtain ⟨F, Po⟩ := run_post hl htd hR ok (start_fine hg)
  subst hO hz
  rcases hfn with rfl | rfl | rfl
  · obtain rfl : r1 = rowD ns b := hJ
    obtain rfl : told = [] := by
      rcases hre with e | e
      · exact absurd e (by decide)
      · exact e
    have h3 : ns.length ≤ 3 := by rw [hns]; decide
    conv => whnf
    refine lcall_ k S ns gs h3 hn hg [] (by simp) (fun v hv => by cases hv) b ok (by omega) false hR Po _ fun S' u l => ?_
    conv => whnf
    exact h S' u l
  · obtain rfl : r2 = rowD ns b := hJ
    obtain rfl : told = [] := by
      rcases hre with e | e
      · exact absurd e (by decide)
      · exact e
    have h3 : ns.length ≤ 3 := by rw [hns]; decide
    conv => whnf
    refine lcall_ k S ns gs h3 hn hg [] (by simp) (fun v hv => by cases hv) b ok (by omega) true hR Po _ fun S' u l => ?_
    conv => whnf
    exact h S' u l
  · obtain rfl : r3 = rowD ns b := hJ
    obtain ⟨x, rfl⟩ : ∃ x, gs = [x] := by
      match gs, hgl with
      | [x], _ => exact ⟨x, rfl⟩
    have h3 : ns.length ≤ 3 := by rw [hns]; decide
    conv => whnf
    refine lcall_ k S ns [x] h3 hn hg told hl htd b ok (by omega) false hR Po _ fun S' u l => ?_
    conv => whnf
    exact h S' u l
theorem cut_row (ns : List Str) (b : List S1) : cutD (ns.map D.str ++ [D.tup (bd b)]) none (some (-1)) = ns.map D.str := by
  unfold cutD HT.sIx
  simp only [List.drop_zero, Nat.sub_zero]
  have : (if (-1 : Int) < 0 then ((-1 : Int) + ((ns.map D.str ++ [D.tup (bd b)]).length : Int)).toNat else min (-1 : Int).toNat (ns.map D.str ++ [D.tup (bd b)]).length) = (ns.map D.str).length := by
    rw [if_pos (by decide)]
    simp
    omega
  rw [this]
  simp
theorem last_row (ns : List Str) (b : List S1) (Y : Store) : dIx (.tup (ns.map D.str ++ [D.tup (bd b)])) (.int (-1)) Y = some (.v (.tup (bd b)), Y) := by
  have last : atI (ns.map D.str ++ [D.tup (bd b)]) (-1) = some (.tup (bd b)) := by
    unfold atI ixN
    have hlen : (ns.map D.str ++ [D.tup (bd b)]).length = ns.length + 1 := by simp
    rw [hlen, if_neg (by decide), if_pos (by omega)]
    show (ns.map D.str ++ [D.tup (bd b)])[((-1 : Int) + ((ns.length + 1 : Nat) : Int)).toNat]? = _
    have : ((-1 : Int) + ((ns.length + 1 : Nat) : Int)).toNat = (ns.map D.str).length := by simp; omega
    rw [this]
    simp
  show M.of (atI _ _) Y = _
  rw [last]
  rfl
theorem rowTr (ns : List Str) (b : List S1) (h : bokM b) (hn : ns.length ≤ 3) : Tr (bdeep b + 4) (rowD ns b) := by
  refine .tup (by simp; omega) fun x hx => ?_
  rcases List.mem_append.mp hx with hx | hx
  · obtain ⟨y, _, rfl⟩ := List.mem_map.mp hx
    exact .str _
  · rw [List.mem_singleton.mp hx]
    exact blTr b h
theorem renRow (ns : List Str) (b : List S1) : renD (rowD ns b) = rowD (ns.map ren) (renB b) := by
  show D.tup (renDs (ns.map D.str ++ [.tup (bd b)])) = D.tup ((ns.map ren).map D.str ++ [.tup (bd (renB b))])
  rw [renDs_map, List.map_append, List.map_map, List.map_map]
  show D.tup (_ ++ [D.tup (renDs (bd b))]) = _
  rw [renB_d]
  rfl
end

section
open PySem L2 DL DLL
set_option maxHeartbeats 0
set_option linter.unusedVariables false
theorem ends_tired (j : Bool) (m : Ms) : outD m (endF j (.fell "tired")) = .tup [.str "fell", .str "tired"] := by cases j <;> rfl
theorem outD_same {m m2 : Ms} {f : Fi} (h1 : m2.recs = m.recs) (h2 : m2.given = m.given) : outD m2 f = outD m f := by
  cases f with
  | ok => show D.tup [_, .tup (m2.recs.map recD), gD m2.given] = D.tup [_, .tup (m.recs.map recD), gD m.given]; rw [h1, h2]
  | gave => show D.tup [_, .tup (m2.recs.map recD), gD m2.given] = D.tup [_, .tup (m.recs.map recD), gD m.given]; rw [h1, h2]
  | fell w => rfl
def JoOk (jo : D) : Prop := jo = .non ∨ ∃ ns b, jo = rowD ns b ∧ bokM b ∧ ns.length ≤ 3 ∧ bdeep b ≤ 35
theorem last_row' (ns : List Str) (b : List S1) (Y : Store) : dIx (rowD ns b) (.int (-1)) Y = some (.v (.tup (bd b)), Y) := last_row ns b Y
abbrev qD : D := .tup [.str "set", .str "q", .tup [.str "int", .int 7]]
theorem lenA (b : List S1) (h : bokM b) : decide (([qD] ++ bd b).length ≤ sizeLine) = true := decide_eq_true (by
  have := bokM_len b h
  rw [List.length_append, bd_map, List.length_map, sizeLine_eq]
  show 1 + b.length ≤ _
  omega)
theorem lenB (ns : List Str) (b : List S1) (h : ns.length ≤ 3) : decide ((cutD (ns.map D.str ++ [D.tup (bd b)]) none (some (-1)) ++ [D.tup ([qD] ++ bd b)]).length ≤ sizeLine) = true := decide_eq_true (by
  rw [cut_row, List.length_append, List.length_map, sizeLine_eq]
  show ns.length + 1 ≤ _
  omega)
theorem addq (ns : List Str) (b : List S1) : D.tup (cutD (ns.map D.str ++ [D.tup (bd b)]) none (some (-1)) ++ [D.tup ([qD] ++ bd b)]) = rowD ns (.set "q" (.int 7) :: b) := by
  rw [cut_row]
  rfl
theorem row_inj {ns ns2 : List Str} {b b2 : List S1} (h : rowD ns2 b2 = rowD ns b) : ns2.map D.str = ns.map D.str ∧ bd b2 = bd b := by
  unfold rowD at h
  have h := D.tup.inj h
  have := List.append_inj_right' h rfl
  refine ⟨List.append_inj_left' h rfl, ?_⟩
  exact D.tup.inj (List.cons.inj this).1
theorem addq_row {ns ns2 : List Str} {b b2 : List S1} (h : rowD ns2 b2 = rowD ns b) : rowD ns2 (.set "q" (.int 7) :: b2) = rowD ns (.set "q" (.int 7) :: b) := by
  obtain ⟨h1, h2⟩ := row_inj h
  show D.tup (ns2.map D.str ++ [.tup (_ :: bd b2)]) = D.tup (ns.map D.str ++ [.tup (_ :: bd b)])
  rw [h1, h2]
theorem tired_eq (S : Store) : dCmp .Eq (.tup [.tup [.str "fell", .str "tired"], .int 100]) (.tup [.tup [.str "fell", .str "tired"], .int 100]) S = some (.v true, S) := by
  have e : dCmp .Eq (.tup [.tup [.str "fell", .str "tired"], .int 100]) (.tup [.tup [.str "fell", .str "tired"], .int 100]) = dEq (.tup [.tup [.str "fell", .str "tired"], .int 100]) (.tup [.tup [.str "fell", .str "tired"], .int 100]) := rfl
  rw [e, dEq_tup (p := .tuple [.tuple [.str "fell", .str "tired"], .int 100]) (q := .tuple [.tuple [.str "fell", .str "tired"], .int 100]) rfl rfl (by decide +kernel) (by decide +kernel)]
  have : PyData.eqv (.tuple [.tuple [.str "fell", .str "tired"], .int 100]) (.tuple [.tuple [.str "fell", .str "tired"], .int 100]) = true := by decide +kernel
  rw [this]
theorem same_ (fn : Str) (hfn : isFn fn) (nm : Str) (nsM nsR : List Str) (bM bR : List S1) (jo : D) (okM : bokM bM) (okR : bokM bR) (lM : nsM.length ≤ 3) (lR : nsR.length ≤ 3) (dM : bdeep bM ≤ 35) (dR : bdeep bR ≤ 35) (hjo : JoOk jo)
    (ns : List Str) (b : List S1) (hJ : RowAt fn ns b (rowD nsM bM) jo (rowD nsR bR)) (hns : ns.length = arity fn) (hn : ∀ x ∈ ns, x ∈ letters) (gs told : List Int) (hgl : gs.length = arity fn) (hg : ∀ v ∈ gs, InR v) (hre : fn = "reduce" ∨ told = []) (hl : told.length ≤ 1000) (htd : ∀ v ∈ told, InR v)
    (okb : bokM b) (db : bdeep b ≤ 35) (k : Nat) (hk : 65 ≤ k) (S : Store) {f : Fi} {m' : Ms} (hR : Run told (.blk b) (m0 ns gs) f m') (κ : R D → Store → Prop)
    (h : ∀ S', (∀ i, i < S.length → S'[i]? = S[i]?) → S.length ≤ S'.length → κ (.v (.bl true)) S') : callAtP T k "_law_same_renamed" [.tup [.str nm, rowD nsM bM, jo, rowD nsR bR], .str fn, givenD fn gs told] S κ := by
  obtain ⟨k, rfl⟩ := lev 1 (show 1 ≤ k by omega)
  have ok := bokM_ok b okb
  obtain ⟨F, Po⟩ := run_post hl htd hR ok (start_fine hg)
  have N := run_nums hl htd hR ok (start_fine hg) start_nums
  have hw := endF_word (j := isJ fn) (run_word hR)
  obtain ⟨O, hO⟩ : ∃ O, O = outD m' (endF (isJ fn) f) := ⟨_, rfl⟩
  obtain ⟨z, hz⟩ : ∃ z : Int, z = (m'.n : Int) := ⟨_, rfl⟩
  have hT : ∀ S, Told S (.tup [O, .int z]) (.tuple [outP m' (endF (isJ fn) f), .int z]) := fun S => by
    rw [hO, hz]
    exact told_ok F N hw
  have hT1 : z ≤ 99 → ∀ S, Told S (.tup [O, .int (z + 1)]) (.tuple [outP m' (endF (isJ fn) f), .int (z + 1)]) := fun hz1 S => by
    have e : z + 1 = ((m'.n + 1 : Nat) : Int) := by omega
    rw [hO, e]
    exact told_ok (S := S) (f := endF (isJ fn) f) (m := { m' with n := m'.n + 1 }) ⟨F.inr, by show m'.n + 1 ≤ 100; omega, F.few⟩ ⟨N.rs, N.gv⟩ hw
  obtain ⟨m2, hR2, q2⟩ := run_ren htd hR ok (m0 (ns.map ren) gs) ⟨sim_start zeroS zeroS (fun x hx => rfl) hn, rfl, rfl, rfl⟩
  have hR2 : Run told (.blk (renB b)) (m0 (ns.map ren) gs) f m2 := hR2
  have hO2 : O = outD m2 (endF (isJ fn) f) := by rw [hO, outD_same q2.r q2.g]
  have hz2 : z = (m2.n : Int) := by rw [hz, q2.n]
  have hn2 : ∀ x ∈ ns.map ren, x ∈ letters := fun x hx => by
    obtain ⟨y, hy, rfl⟩ := List.mem_map.mp hx
    exact ren_in y (hn y hy)
  have M := more_call hR (okM_nqB b okb)
  have okq : bok (.set "q" (.int 7) :: b) := ⟨⟨by decide, by show InR 7; unfold InR; omega⟩, ok⟩
  have dbq : bdeep (.set "q" (.int 7) :: b) ≤ 35 := by show max 0 (bdeep b) ≤ 35; omega
  have zr : 0 ≤ z ∧ z ≤ 100 := by have := F.n; omega
  rcases hjo with rfl | ⟨nsJ, bJ, rfl, okJ, lJ, dJ⟩
  · conv => whnf
    generalize hq : mergeD _ = kvs
    have hk2 : kvs = rotK := by rw [← hq]; kernel_rfl
    clear hq
    refine renamed_ kvs hk2 _ _ (rowTr nsM bM okM lM) _ (by omega) _ _ ?_
    rw [renRow]
    conv => whnf
    refine renamed_ kvs hk2 _ _ (rowTr nsR bR okR lR) _ (by omega) _ _ ?_
    rw [renRow]
    conv => whnf
    refine toldF fn hfn _ _ _ _ ns b hJ hns hn gs told hgl hg hre hl htd ok k (by omega) S O z hR hO hz _ fun S2 u2 l2 => ?_
    conv => whnf
    refine toldF fn hfn _ _ _ _ (ns.map ren) (renB b) (by
      unfold RowAt at hJ ⊢
      split
      · rename_i e; rw [if_pos e] at hJ; rw [← renRow, hJ, renRow]
      · rename_i e; rw [if_neg e] at hJ
        split
        · rename_i e2; rw [if_pos e2] at hJ; cases hJ
        · rename_i e2; rw [if_neg e2] at hJ; rw [← renRow, hJ, renRow]) (by rw [List.length_map]; exact hns) hn2 gs told hgl hg hre hl htd (renB_ok b ok) k (by rw [renB_deep]; omega) S2 O z hR2 hO2 hz2 _ fun S3 u3 l3 => ?_
    conv => whnf
    refine like_ k (by omega) (hT _) _ ?_
    conv => whnf
    refine .go ?_
    conv => whnf
    rw [last_row' nsM bM]
    conv => whnf
    refine grd_ (lenA bM okM) ?_
    conv => whnf
    refine grd_ (lenB nsM bM lM) ?_
    conv => whnf
    rw [addq nsM bM]
    rw [last_row' nsR bR]
    conv => whnf
    refine grd_ (lenA bR okR) ?_
    conv => whnf
    refine grd_ (lenB nsR bR lR) ?_
    conv => whnf
    rw [addq nsR bR]
    have hJ3 : RowAt fn ns (.set "q" (.int 7) :: b) (rowD nsM (.set "q" (.int 7) :: bM)) .non (rowD nsR (.set "q" (.int 7) :: bR)) := by
      unfold RowAt at hJ ⊢
      split
      · rename_i e; rw [if_pos e] at hJ; exact addq_row hJ
      · rename_i e; rw [if_neg e] at hJ
        split
        · rename_i e2; rw [if_pos e2] at hJ; cases hJ
        · rename_i e2; rw [if_neg e2] at hJ; exact addq_row hJ
    by_cases top : z = 100
    · obtain ⟨m3, hR3, n3⟩ := M.2 (by omega)
      refine toldF fn hfn _ _ _ _ ns _ hJ3 hns hn gs told hgl hg hre hl htd okq k (by omega) S3 (.tup [.str "fell", .str "tired"]) 100 hR3 (ends_tired _ _).symm (by omega) _ fun S4 u4 l4 => ?_
      conv => whnf
      refine br_t (decide_eq_true top) ?_
      conv => whnf
      rw [tired_eq]
      conv => whnf
      exact h _ (fun i hi => by rw [u4 i (by omega), u3 i (by omega), u2 i hi]) (by omega)
    · obtain ⟨m3, hR3, n3, r3, g3⟩ := M.1 (by omega)
      refine toldF fn hfn _ _ _ _ ns _ hJ3 hns hn gs told hgl hg hre hl htd okq k (by omega) S3 O (z + 1) hR3 (by rw [hO, outD_same r3 g3]) (by omega) _ fun S4 u4 l4 => ?_
      conv => whnf
      refine br_f (decide_eq_false top) ?_
      conv => whnf
      refine like_ k (by omega) (hT1 (by omega) _) _ ?_
      conv => whnf
      exact h _ (fun i hi => by rw [u4 i (by omega), u3 i (by omega), u2 i hi]) (by omega)
  · conv => whnf
    generalize hq : mergeD _ = kvs
    have hk2 : kvs = rotK := by rw [← hq]; kernel_rfl
    clear hq
    refine renamed_ kvs hk2 _ _ (rowTr nsM bM okM lM) _ (by omega) _ _ ?_
    rw [renRow]
    conv => whnf
    refine renamed_ kvs hk2 _ _ (rowTr nsJ bJ okJ lJ) _ (by omega) _ _ ?_
    rw [renRow]
    conv => whnf
    refine renamed_ kvs hk2 _ _ (rowTr nsR bR okR lR) _ (by omega) _ _ ?_
    rw [renRow]
    conv => whnf
    refine toldF fn hfn _ _ _ _ ns b hJ hns hn gs told hgl hg hre hl htd ok k (by omega) S O z hR hO hz _ fun S2 u2 l2 => ?_
    conv => whnf
    refine toldF fn hfn _ _ _ _ (ns.map ren) (renB b) (by
      unfold RowAt at hJ ⊢
      split
      · rename_i e; rw [if_pos e] at hJ; rw [← renRow, hJ, renRow]
      · rename_i e; rw [if_neg e] at hJ
        split
        · rename_i e2; rw [if_pos e2] at hJ; rw [← renRow, hJ, renRow]
        · rename_i e2; rw [if_neg e2] at hJ; rw [← renRow, hJ, renRow]) (by rw [List.length_map]; exact hns) hn2 gs told hgl hg hre hl htd (renB_ok b ok) k (by rw [renB_deep]; omega) S2 O z hR2 hO2 hz2 _ fun S3 u3 l3 => ?_
    conv => whnf
    refine like_ k (by omega) (hT _) _ ?_
    conv => whnf
    refine .go ?_
    conv => whnf
    rw [last_row' nsM bM]
    conv => whnf
    refine grd_ (lenA bM okM) ?_
    conv => whnf
    refine grd_ (lenB nsM bM lM) ?_
    conv => whnf
    rw [addq nsM bM]
    rw [last_row' nsJ bJ]
    conv => whnf
    refine grd_ (lenA bJ okJ) ?_
    conv => whnf
    refine grd_ (lenB nsJ bJ lJ) ?_
    conv => whnf
    rw [addq nsJ bJ]
    rw [last_row' nsR bR]
    conv => whnf
    refine grd_ (lenA bR okR) ?_
    conv => whnf
    refine grd_ (lenB nsR bR lR) ?_
    conv => whnf
    rw [addq nsR bR]
    have hJ3 : RowAt fn ns (.set "q" (.int 7) :: b) (rowD nsM (.set "q" (.int 7) :: bM)) (rowD nsJ (.set "q" (.int 7) :: bJ)) (rowD nsR (.set "q" (.int 7) :: bR)) := by
      unfold RowAt at hJ ⊢
      split
      · rename_i e; rw [if_pos e] at hJ; exact addq_row hJ
      · rename_i e; rw [if_neg e] at hJ
        split
        · rename_i e2; rw [if_pos e2] at hJ; exact addq_row hJ
        · rename_i e2; rw [if_neg e2] at hJ; exact addq_row hJ
    by_cases top : z = 100
    · obtain ⟨m3, hR3, n3⟩ := M.2 (by omega)
      refine toldF fn hfn _ _ _ _ ns _ hJ3 hns hn gs told hgl hg hre hl htd okq k (by omega) S3 (.tup [.str "fell", .str "tired"]) 100 hR3 (ends_tired _ _).symm (by omega) _ fun S4 u4 l4 => ?_
      conv => whnf
      refine br_t (decide_eq_true top) ?_
      conv => whnf
      rw [tired_eq]
      conv => whnf
      exact h _ (fun i hi => by rw [u4 i (by omega), u3 i (by omega), u2 i hi]) (by omega)
    · obtain ⟨m3, hR3, n3, r3, g3⟩ := M.1 (by omega)
      refine toldF fn hfn _ _ _ _ ns _ hJ3 hns hn gs told hgl hg hre hl htd okq k (by omega) S3 O (z + 1) hR3 (by rw [hO, outD_same r3 g3]) (by omega) _ fun S4 u4 l4 => ?_
      conv => whnf
      refine br_f (decide_eq_false top) ?_
      conv => whnf
      refine like_ k (by omega) (hT1 (by omega) _) _ ?_
      conv => whnf
      exact h _ (fun i hi => by rw [u4 i (by omega), u3 i (by omega), u2 i hi]) (by omega)
end

section
open PySem L2 DL DLL
set_option maxHeartbeats 0
set_option linter.unusedVariables false
theorem cupS (k : Nat) (hk : 1 ≤ k) (ns : List Int) (hn : ns.length ≤ 63) (κ : R D → Store → Prop)
    (h : ∀ S, Cup S → κ (.v (.obj 0)) S) : callAtP T k "_law_cup" [.frz (ns.map D.int)] [] κ := by
  obtain ⟨k, rfl⟩ := lev 1 hk
  exact cup k ns hn κ fun a b ha hb => h _ ⟨a, b, ha, hb, rfl⟩
theorem left_new {Z : Store} (h : Cup Z) (n : Int) : Cup (Z ++ [Ob.lst [.int n]]) ∧ Left (Z ++ [Ob.lst [.int n]]) Z.length := by
  refine ⟨h.up fun i hi => app_lt hi, ?_, n, app_at rfl⟩
  obtain ⟨a, b, _, _, e⟩ := h
  have := (List.getElem?_eq_some_iff.mp e).1
  omega
def BlkF (fn : Str) : Prop := ∀ (k : Nat), 50 ≤ k → ∀ (S : Store) (l : Nat) (d : D), (d = .int 1 ∨ d = .int 3 ∨ d = .int 6) → Cup S → Left S l → ∀ κ : R D → Store → Prop, (∀ b S', bokM b → bdeep b ≤ 35 → Cup S' → Left S' l → OthL l S' S → κ (.v (.tup (bd b))) S') → callAtP T k "_law_block" [.obj 0, .str fn, d, .obj l, .bl false] S κ
theorem blkF_map : BlkF "map" := by
  intro k hk S l d hd hS hL κ h
  rcases hd with rfl | rfl | rfl
  · exact blocks_map 0 k (by omega) S l false hS hL κ fun b S' ok d ln c1 c2 c3 => h b S' ok (by omega) c1 c2 c3
  · exact blocks_map 2 k (by omega) S l false hS hL κ fun b S' ok d ln c1 c2 c3 => h b S' ok (by omega) c1 c2 c3
  · exact blocks_map 5 k (by omega) S l false hS hL κ fun b S' ok d ln c1 c2 c3 => h b S' ok (by omega) c1 c2 c3
theorem blkF_join : BlkF "join" := by
  intro k hk S l d hd hS hL κ h
  rcases hd with rfl | rfl | rfl
  · exact blocks_join 0 k (by omega) S l false hS hL κ fun b S' ok d ln c1 c2 c3 => h b S' ok (by omega) c1 c2 c3
  · exact blocks_join 2 k (by omega) S l false hS hL κ fun b S' ok d ln c1 c2 c3 => h b S' ok (by omega) c1 c2 c3
  · exact blocks_join 5 k (by omega) S l false hS hL κ fun b S' ok d ln c1 c2 c3 => h b S' ok (by omega) c1 c2 c3
theorem blkF_red : BlkF "reduce" := by
  intro k hk S l d hd hS hL κ h
  rcases hd with rfl | rfl | rfl
  · exact blocks_reduce 0 k (by omega) S l false hS hL κ fun b S' ok d ln c1 c2 c3 => h b S' ok (by omega) c1 c2 c3
  · exact blocks_reduce 2 k (by omega) S l false hS hL κ fun b S' ok d ln c1 c2 c3 => h b S' ok (by omega) c1 c2 c3
  · exact blocks_reduce 5 k (by omega) S l false hS hL κ fun b S' ok d ln c1 c2 c3 => h b S' ok (by omega) c1 c2 c3
theorem Cup.put {S : Store} (h : Cup S) {r : Nat} (hr : r ≠ 0) (o : Ob) : Cup (S.set r o) := by
  obtain ⟨a, b, ha, hb, e⟩ := h
  exact ⟨a, b, ha, hb, by rw [set_ne hr]; exact e⟩
theorem Left.put {S : Store} {l : Nat} (h : Left S l) {r : Nat} (hr : r ≠ l) (o : Ob) : Left (S.set r o) l := ⟨h.1, let ⟨n, e⟩ := h.2; ⟨n, by rw [set_ne hr]; exact e⟩⟩
abbrev L1 : Ob := .lst [.str "k", .str "v", .str "a"]
abbrev L2 : Ob := .lst [.str "x", .str "a", .str "z"]
abbrev L3 : Ob := .lst [.str "b", .str "c", .str "k"]
theorem names_at (Z : Store) (h0 : 0 < Z.length) : ∀ c ∈ [D.obj Z.length, D.obj (Z ++ [L1]).length, D.obj (Z ++ [L1] ++ [L2]).length], ∃ (p : Nat) (x y w : Str), c = .obj p ∧ (Z ++ [L1] ++ [L2] ++ [L3])[p]? = some (.lst [.str x, .str y, .str w]) ∧ Z.length ≤ p ∧ x ∈ letters ∧ y ∈ letters ∧ w ∈ letters := by
  intro c hc
  have e1 : (Z ++ [L1]).length = Z.length + 1 := by simp
  have e2 : (Z ++ [L1] ++ [L2]).length = Z.length + 2 := by simp
  simp only [List.mem_cons, List.not_mem_nil, or_false] at hc
  rcases hc with rfl | rfl | rfl
  · exact ⟨_, _, _, _, rfl, by rw [app_lt (by omega), app_lt (by omega)]; exact app_at rfl, Nat.le_refl _, by decide, by decide, by decide⟩
  · exact ⟨_, _, _, _, rfl, by rw [app_lt (by omega)]; exact app_at rfl, by omega, by decide, by decide, by decide⟩
  · exact ⟨_, _, _, _, rfl, app_at rfl, by omega, by decide, by decide, by decide⟩
theorem cut_obj {p : Nat} {xs : List D} {S : Store} (h : S[p]? = some (.lst xs)) (st : Bool) (lo hi : Option Int) : dCut st (.obj p) lo hi S = mkL st (cutD xs lo hi) S := by
  have e : dCut st (.obj p) lo hi = M.bind (lstOf (.obj p)) fun xs => mkL st (cutD xs lo hi) := rfl
  have e2 : lstOf (.obj p) = M.bind (getO p) fun o => match o with | .lst xs => M.pure xs | _ => M.fail := rfl
  have e3 : lstOf (.obj p) S = some (.v xs, S) := by rw [e2, bindK (getO_at h)]; rfl
  rw [e, bindK e3]
theorem names_keep (Z : Store) : ∀ i, i < Z.length → (Z ++ [L1] ++ [L2] ++ [L3])[i]? = Z[i]? := fun i hi => by
  rw [app_lt (by simp; omega), app_lt (by simp; omega), app_lt hi]
theorem job_ (k : Nat) (hk : 60 ≤ k) (S : Store) (hS : Cup S) (κ : R D → Store → Prop)
    (h : ∀ (nm x y u v w p : Str) (bM bJ bR : List S1) (jo : D) S', (jo = .non ∨ jo = rowD [u, v, w] bJ) → x ∈ letters → y ∈ letters → u ∈ letters → v ∈ letters → w ∈ letters → p ∈ letters → bokM bM → bokM bJ → bokM bR → bdeep bM ≤ 35 → bdeep bJ ≤ 35 → bdeep bR ≤ 35 → Cup S' → κ (.v (.tup [.str nm, rowD [x, y] bM, jo, rowD [p] bR])) S') : callAtP T k "_law_job" [.obj 0] S κ := by
  obtain ⟨k, rfl⟩ := lev 1 (show 1 ≤ k by omega)
  conv => whnf
  refine someS k (by omega) S hS _ (by decide) (by decide) _ fun c0 Z1 hc0 hZ1 o1 => ?_
  obtain ⟨n0, rfl⟩ : ∃ n : Int, c0 = .int n := by
    simp only [List.mem_cons, List.not_mem_nil, or_false] at hc0
    rcases hc0 with rfl | rfl | rfl <;> exact ⟨_, rfl⟩
  obtain ⟨c1, l1⟩ := left_new hZ1 n0
  conv => whnf
  have hl0 : Z1.length ≠ 0 := l1.1
  have e1 : (Z1 ++ [Ob.lst [.int n0]]).length = Z1.length + 1 := by simp
  have c2 : Cup (Z1 ++ [Ob.lst [.int n0]] ++ [Ob.lst []]) := c1.up fun i hi => app_lt hi
  have l2 : Left (Z1 ++ [Ob.lst [.int n0]] ++ [Ob.lst []]) Z1.length := ⟨hl0, n0, by rw [app_lt (by rw [e1]; omega)]; exact app_at rfl⟩
  have r2 : (Z1 ++ [Ob.lst [.int n0]] ++ [Ob.lst []])[Z1.length + 1]? = some (.lst []) := app_at (by omega)
  rw [e1]
  generalize hl : Z1.length = l at *
  generalize Z1 ++ [Ob.lst [.int n0]] ++ [Ob.lst []] = Z2 at c2 l2 r2 ⊢
  have z2 : 0 < Z2.length := by have := (List.getElem?_eq_some_iff.mp r2).1; omega
  refine .go ?_
  conv => whnf
  have kkt0 := names_keep Z2
  have rlt0 := (List.getElem?_eq_some_iff.mp r2).1
  refine someS k (by omega) _ (c2.up kkt0) _ (by simp) (by simp) _ fun ct0 At0 hct0 cAt0 oAt0 => ?_
  obtain ⟨pt0, x, y, w1, rfl, ept0, lpt0, hx, hy, hw1⟩ := names_at Z2 (by omega) ct0 hct0
  have ept0 : At0[pt0]? = _ := (oAt0.2 pt0 (by omega)).trans ept0
  have rAt0 : At0[l + 1]? = some (.lst []) := by rw [oAt0.2 _ (by omega), kkt0 _ rlt0]; exact r2
  have lAt0 : Left At0 l := ⟨hl0, by obtain ⟨n, e⟩ := l2.2; exact ⟨n, by rw [oAt0.2 _ hl0, kkt0 _ (by omega)]; exact e⟩⟩
  conv => whnf
  rw [rAt0]
  conv => whnf
  rw [bTag_lst rAt0]
  conv => whnf
  rw [cut_obj ept0]
  conv => whnf
  refine someS k (by omega) At0 cAt0 _ (by decide) (by decide) _ fun dt0 Bt0 hdt0 cBt0 oBt0 => ?_
  have hdt0 : dt0 = .int 1 ∨ dt0 = .int 3 ∨ dt0 = .int 6 := by simpa only [List.mem_cons, List.not_mem_nil, or_false] using hdt0
  have rBt0 : Bt0[l + 1]? = some (.lst []) := by rw [oBt0.2 _ (by omega)]; exact rAt0
  conv => whnf
  refine blkF_map k (by omega) Bt0 l dt0 hdt0 cBt0 (lAt0.oth oBt0) _ fun bt0 Ct0 okbt0 dbt0 cCt0 lCt0 oCt0 => ?_
  have rCt0 : Ct0[l + 1]? = some (.lst []) := by rw [oCt0.2 _ (by omega) (by omega)]; exact rBt0
  conv => whnf
  rw [append_lst rCt0 (by simp [sizeLine_eq])]
  generalize hDt0 : List.set Ct0 (l + 1) _ = Dt0
  have rDt0 : Dt0[l + 1]? = some (.lst [rowD [x, y] bt0]) := by rw [← hDt0]; exact set_get rCt0
  have cDt0 : Cup Dt0 := by rw [← hDt0]; exact cCt0.put (by omega) _
  have lDt0 : Left Dt0 l := by rw [← hDt0]; exact lCt0.put (by omega) _
  have zDt0 : l + 1 < Dt0.length := (List.getElem?_eq_some_iff.mp rDt0).1
  conv => whnf
  have kkt1 := names_keep Dt0
  have rlt1 := (List.getElem?_eq_some_iff.mp rDt0).1
  refine someS k (by omega) _ (cDt0.up kkt1) _ (by simp) (by simp) _ fun ct1 At1 hct1 cAt1 oAt1 => ?_
  obtain ⟨pt1, u, v, w, rfl, ept1, lpt1, hu, hv, hw⟩ := names_at Dt0 (by omega) ct1 hct1
  have ept1 : At1[pt1]? = _ := (oAt1.2 pt1 (by omega)).trans ept1
  have rAt1 : At1[l + 1]? = some (.lst [rowD [x, y] bt0]) := by rw [oAt1.2 _ (by omega), kkt1 _ rlt1]; exact rDt0
  have lAt1 : Left At1 l := ⟨hl0, by obtain ⟨n, e⟩ := lDt0.2; exact ⟨n, by rw [oAt1.2 _ hl0, kkt1 _ (by omega)]; exact e⟩⟩
  conv => whnf
  rw [rAt1]
  conv => whnf
  rw [bTag_lst rAt1]
  conv => whnf
  rw [cut_obj ept1]
  conv => whnf
  refine someS k (by omega) At1 cAt1 _ (by decide) (by decide) _ fun dt1 Bt1 hdt1 cBt1 oBt1 => ?_
  have hdt1 : dt1 = .int 1 ∨ dt1 = .int 3 ∨ dt1 = .int 6 := by simpa only [List.mem_cons, List.not_mem_nil, or_false] using hdt1
  have rBt1 : Bt1[l + 1]? = some (.lst [rowD [x, y] bt0]) := by rw [oBt1.2 _ (by omega)]; exact rAt1
  conv => whnf
  refine blkF_join k (by omega) Bt1 l dt1 hdt1 cBt1 (lAt1.oth oBt1) _ fun bt1 Ct1 okbt1 dbt1 cCt1 lCt1 oCt1 => ?_
  have rCt1 : Ct1[l + 1]? = some (.lst [rowD [x, y] bt0]) := by rw [oCt1.2 _ (by omega) (by omega)]; exact rBt1
  conv => whnf
  rw [append_lst rCt1 (by simp [sizeLine_eq])]
  generalize hDt1 : List.set Ct1 (l + 1) _ = Dt1
  have rDt1 : Dt1[l + 1]? = some (.lst [rowD [x, y] bt0, rowD [u, v, w] bt1]) := by rw [← hDt1]; exact set_get rCt1
  have cDt1 : Cup Dt1 := by rw [← hDt1]; exact cCt1.put (by omega) _
  have lDt1 : Left Dt1 l := by rw [← hDt1]; exact lCt1.put (by omega) _
  have zDt1 : l + 1 < Dt1.length := (List.getElem?_eq_some_iff.mp rDt1).1
  conv => whnf
  have kkt2 := names_keep Dt1
  have rlt2 := (List.getElem?_eq_some_iff.mp rDt1).1
  refine someS k (by omega) _ (cDt1.up kkt2) _ (by simp) (by simp) _ fun ct2 At2 hct2 cAt2 oAt2 => ?_
  obtain ⟨pt2, p, q2, q3, rfl, ept2, lpt2, hp, hq2, hq3⟩ := names_at Dt1 (by omega) ct2 hct2
  have ept2 : At2[pt2]? = _ := (oAt2.2 pt2 (by omega)).trans ept2
  have rAt2 : At2[l + 1]? = some (.lst [rowD [x, y] bt0, rowD [u, v, w] bt1]) := by rw [oAt2.2 _ (by omega), kkt2 _ rlt2]; exact rDt1
  have lAt2 : Left At2 l := ⟨hl0, by obtain ⟨n, e⟩ := lDt1.2; exact ⟨n, by rw [oAt2.2 _ hl0, kkt2 _ (by omega)]; exact e⟩⟩
  conv => whnf
  rw [rAt2]
  conv => whnf
  rw [bTag_lst rAt2]
  conv => whnf
  rw [cut_obj ept2]
  conv => whnf
  refine someS k (by omega) At2 cAt2 _ (by decide) (by decide) _ fun dt2 Bt2 hdt2 cBt2 oBt2 => ?_
  have hdt2 : dt2 = .int 1 ∨ dt2 = .int 3 ∨ dt2 = .int 6 := by simpa only [List.mem_cons, List.not_mem_nil, or_false] using hdt2
  have rBt2 : Bt2[l + 1]? = some (.lst [rowD [x, y] bt0, rowD [u, v, w] bt1]) := by rw [oBt2.2 _ (by omega)]; exact rAt2
  conv => whnf
  refine blkF_red k (by omega) Bt2 l dt2 hdt2 cBt2 (lAt2.oth oBt2) _ fun bt2 Ct2 okbt2 dbt2 cCt2 lCt2 oCt2 => ?_
  have rCt2 : Ct2[l + 1]? = some (.lst [rowD [x, y] bt0, rowD [u, v, w] bt1]) := by rw [oCt2.2 _ (by omega) (by omega)]; exact rBt2
  conv => whnf
  rw [append_lst rCt2 (by simp [sizeLine_eq])]
  generalize hDt2 : List.set Ct2 (l + 1) _ = Dt2
  have rDt2 : Dt2[l + 1]? = some (.lst [rowD [x, y] bt0, rowD [u, v, w] bt1, rowD [p] bt2]) := by rw [← hDt2]; exact set_get rCt2
  have cDt2 : Cup Dt2 := by rw [← hDt2]; exact cCt2.put (by omega) _
  have lDt2 : Left Dt2 l := by rw [← hDt2]; exact lCt2.put (by omega) _
  have zDt2 : l + 1 < Dt2.length := (List.getElem?_eq_some_iff.mp rDt2).1
  conv => whnf
  refine someS k (by omega) Dt2 cDt2 _ (by decide) (by decide) _ fun cn E0 hcn cE0 oE0 => ?_
  obtain ⟨nm, rfl⟩ : ∃ nm : Str, cn = .str nm := by
    simp only [List.mem_cons, List.not_mem_nil, or_false] at hcn
    rcases hcn with rfl | rfl | rfl | rfl | rfl | rfl <;> exact ⟨_, rfl⟩
  have rE0 : E0[l + 1]? = some (.lst [rowD [x, y] bt0, rowD [u, v, w] bt1, rowD [p] bt2]) := by rw [oE0.2 _ (by omega)]; exact rDt2
  conv => whnf
  rw [dIx_lst rE0 (by rfl)]
  conv => whnf
  refine rollS k (by omega) E0 cE0 _ (by decide) (by decide) _ fun rr E1 a1 b1 cE1 oE1 => ?_
  have rE1 : E1[l + 1]? = some (.lst [rowD [x, y] bt0, rowD [u, v, w] bt1, rowD [p] bt2]) := by rw [oE1.2 _ (by omega)]; exact rE0
  conv => whnf
  refine br_ (fun q => ?_) (fun q => ?_)
  · conv => whnf
    rw [dIx_lst rE1 (by rfl)]
    conv => whnf
    rw [dIx_lst rE1 (by rfl)]
    conv => whnf
    exact h nm x y u v w p bt0 bt1 bt2 _ E1 (.inr rfl) hx hy hu hv hw hp okbt0 okbt1 okbt2 dbt0 dbt1 dbt2 cE1
  · conv => whnf
    rw [dIx_lst rE1 (by rfl)]
    conv => whnf
    exact h nm x y u v w p bt0 bt1 bt2 _ E1 (.inl rfl) hx hy hu hv hw hp okbt0 okbt1 okbt2 dbt0 dbt1 dbt2 cE1
end

section
open PySem L2 DL DLL
set_option maxHeartbeats 0
set_option linter.unusedVariables false
theorem one {x : Str} (h : x ∈ letters) : ∀ y ∈ [x], y ∈ letters := fun y hy => by rw [List.mem_singleton.mp hy]; exact h
theorem two {x y : Str} (h : x ∈ letters) (h2 : y ∈ letters) : ∀ z ∈ [x, y], z ∈ letters := fun z hz => by
  simp only [List.mem_cons, List.not_mem_nil, or_false] at hz
  rcases hz with rfl | rfl
  · exact h
  · exact h2
theorem three {x y w : Str} (h : x ∈ letters) (h2 : y ∈ letters) (h3 : w ∈ letters) : ∀ z ∈ [x, y, w], z ∈ letters := fun z hz => by
  simp only [List.mem_cons, List.not_mem_nil, or_false] at hz
  rcases hz with rfl | rfl | rfl
  · exact h
  · exact h2
  · exact h3
theorem out_form (m : Ms) (f : Fi) (h6 : m.recs.length ≤ 6) : (∃ w, outD m f = .tup [.str "fell", .str w]) ∨ ∃ dr g, outD m f = .tup [.str "well", dr, g] ∧ ∃ L : Int, L ≤ 6 ∧ ∀ st S, callB st "len" [dr] S = some (.v (.int L), S) := by
  have well : ∃ dr g, D.tup [.str "well", .tup (m.recs.map recD), gD m.given] = .tup [.str "well", dr, g] ∧ ∃ L : Int, L ≤ 6 ∧ ∀ st S, callB st "len" [dr] S = some (.v (.int L), S) :=
    ⟨_, _, rfl, ((m.recs.map recD).length : Nat), by rw [List.length_map]; omega, fun st S => rfl⟩
  cases f with
  | fell w => exact .inl ⟨w, rfl⟩
  | ok => exact .inr well
  | gave => exact .inr well
def bodyB : List S1 := [.loop (.var "v") [.ite (.bin .same (.bin .rest (.var "v") (.int 2)) (.int 1)) [.emit (.bin .over (.var "v") (.int 10)) (.var "k")] [], .set "v" (.bin .over (.var "v") (.int 3))]]
def giveB : List S1 := [.give (.bin .plus (.var "a") (.var "b"))]
def redB : List S1 := [.each "v" [.ite (.bin .below (.var "v") (.int 0)) [.crash] [.set "s" (.bin .plus (.var "s") (.var "v"))]], .emit (.var "k") (.var "s")]
theorem ik : ("k" : Str) ∈ letters := by decide
theorem iv : ("v" : Str) ∈ letters := by decide
theorem ia : ("a" : Str) ∈ letters := by decide
theorem ib : ("b" : Str) ∈ letters := by decide
theorem is' : ("s" : Str) ∈ letters := by decide
theorem j0 : InR 0 := by unfold InR; omega
theorem j1 : InR 1 := by unfold InR; omega
theorem j2 : InR 2 := by unfold InR; omega
theorem j3 : InR 3 := by unfold InR; omega
theorem j10 : InR 10 := by unfold InR; omega
theorem bodyOk : bok bodyB := ⟨⟨iv, ⟨⟨⟨iv, j2⟩, j1⟩, ⟨⟨⟨iv, j10⟩, ik⟩, trivial⟩, trivial⟩, ⟨iv, iv, j3⟩, trivial⟩, trivial⟩
theorem giveOk : bok giveB := ⟨⟨ia, ib⟩, trivial⟩
theorem redOk : bok redB := ⟨⟨iv, ⟨⟨iv, j0⟩, ⟨trivial, trivial⟩, ⟨is', is', iv⟩, trivial⟩, trivial⟩, ⟨ik, is'⟩, trivial⟩
theorem bodyDp : bdeep bodyB ≤ 20 := by decide
theorem giveDp : bdeep giveB ≤ 20 := by decide
theorem redDp : bdeep redB ≤ 20 := by decide
theorem s1 : seen [] bodyB (m0 ["k", "v"] [4, 101]) = some (("ok" : Str), 21, [(10, 4), (3, 4), (1, 4), (0, 4), (0, 4)], none) := by decide +kernel
theorem s2 : seen [] giveB (m0 ["k", "a", "b"] [1, 9223372036854775807, 1]) = some (("gave" : Str), 1, [], some (-9223372036854775808)) := by decide +kernel
theorem s3 : seen [5, 6, 7] redB (m0 ["k"] [2]) = some (("ok" : Str), 11, [(2, 18)], none) := by decide +kernel
theorem s4 : seen [5, -6, 7] redB (m0 ["k"] [2]) = some (("crashed" : Str), 7, [], none) := by decide +kernel
theorem ints3 (a b c : Int) (h : InR a ∧ InR b ∧ InR c) : ∀ v ∈ [a, b, c], InR v := fun v hv => by
  simp only [List.mem_cons, List.not_mem_nil, or_false] at hv
  rcases hv with rfl | rfl | rfl
  · exact h.1
  · exact h.2.1
  · exact h.2.2
def outS (t : Str) (rs : List (Int × Int)) (g : Option Int) : D := if t = "ok" ∨ t = "gave" then .tup [.str "well", .tup (rs.map recD), gD g] else .tup [.str "fell", .str t]
theorem out_seen {told : List Int} {b : List S1} {m m' : Ms} {f : Fi} {t : Str} {rs : List (Int × Int)} {g : Option Int} (hR : Run told (.blk b) m f m') (hf : f.tag = t) (hr : m'.recs = rs) (hg : m'.given = g) : outD m' f = outS t rs g := by
  unfold outS
  split
  · rename_i q
    exact outD_well (by rw [hf]; exact q) (run_word hR) hr hg
  · rename_i q
    exact outD_seen (rs := rs) (g := g) hf (fun e => q (.inl e)) (fun e => q (.inr e))
theorem mapped_hand (k : Nat) (S : Store) (name jn rd : D) (ns : List Str) (x y : Int) (hn : ∀ x ∈ ns, x ∈ letters) (hg : InR x ∧ InR y) (b : List S1) (ok : bok b) (hk : bdeep b + 16 ≤ k) {t : Str} {n : Nat} {rs : List (Int × Int)} {g : Option Int} (h0 : seen [] b (m0 ns [x, y]) = some (t, n, rs, g)) (O : D) (hO : outS t rs g = O) (κ : R D → Store → Prop)
    (h : ∀ S', (∀ i, i < S.length → S'[i]? = S[i]?) → κ (.v O) S') : callAtP T k "mapped" [.tup [name, .tup (ns.map D.str ++ [.tup (bd b)]), jn, rd], .int x, .int y] S κ := by
  obtain ⟨f, m', hR, hf, hn', hr, hg'⟩ := seen_run h0
  obtain ⟨F, P⟩ := run_post (by simp) (fun v hv => by cases hv) hR ok (start_fine (two_in hg))
  refine out_mapped k _ _ _ _ ns x y hn hg b ok hk hR P F _ fun S3 u3 l3 => ?_
  rw [out_seen hR hf hr hg', hO]
  exact h _ u3
theorem msteps_hand (k : Nat) (S : Store) (name jn rd : D) (ns : List Str) (x y : Int) (hn : ∀ x ∈ ns, x ∈ letters) (hg : InR x ∧ InR y) (b : List S1) (ok : bok b) (hk : bdeep b + 16 ≤ k) {t : Str} {n : Nat} {rs : List (Int × Int)} {g : Option Int} (h0 : seen [] b (m0 ns [x, y]) = some (t, n, rs, g)) (z : Int) (hz : (n : Int) = z) (κ : R D → Store → Prop)
    (h : ∀ S', (∀ i, i < S.length → S'[i]? = S[i]?) → κ (.v (.int z)) S') : callAtP T k "map_steps" [.tup [name, .tup (ns.map D.str ++ [.tup (bd b)]), jn, rd], .int x, .int y] S κ := by
  obtain ⟨f, m', hR, hf, hn', hr, hg'⟩ := seen_run h0
  refine steps_mapped k _ _ _ _ ns x y hn hg b ok hk hR _ fun S3 u3 l3 => ?_
  rw [hn', hz]
  exact h _ u3
theorem joined_hand (k : Nat) (S : Store) (name mp rd : D) (ns : List Str) (x y w : Int) (hn : ∀ x ∈ ns, x ∈ letters) (hg : InR x ∧ InR y ∧ InR w) (b : List S1) (ok : bok b) (hk : bdeep b + 16 ≤ k) {n : Nat} {rs : List (Int × Int)} {v : Int} (h0 : seen [] b (m0 ns [x, y, w]) = some (("gave" : Str), n, rs, some v)) (κ : R D → Store → Prop)
    (h : ∀ S', (∀ i, i < S.length → S'[i]? = S[i]?) → κ (.v (.tup [.str "well", .tup (rs.map recD), .int v])) S') : callAtP T k "joined" [.tup [name, mp, .tup (ns.map D.str ++ [.tup (bd b)]), rd], .int x, .int y, .int w] S κ := by
  obtain ⟨f, m', hR, hf, hn', hr, hg'⟩ := seen_run h0
  obtain ⟨F, P⟩ := run_post (by simp) (fun v hv => by cases hv) hR ok (start_fine (ints3 _ _ _ hg))
  have eo : outD m' (endF true f) = .tup [.str "well", .tup (rs.map recD), .int v] := by
    cases f with
    | ok => exact absurd (show ("ok" : Str) = "gave" from hf) (by decide)
    | gave => cases hr; show D.tup [_, _, gD m'.given] = _; rw [hg']; rfl
    | fell w0 =>
      have e : w0 = "gave" := hf
      have := run_word hR w0 rfl
      subst e
      exact absurd this (by decide)
  refine out_joined k _ _ _ _ ns x y w hn hg b ok hk hR P F _ fun S3 u3 l3 => ?_
  rw [eo]
  exact h _ u3
theorem reduced_hand (k : Nat) (S : Store) (name mp jn : D) (ns : List Str) (x : Int) (told : List Int) (hn : ∀ x ∈ ns, x ∈ letters) (hl : told.length ≤ 1000) (hg : InR x) (htd : ∀ v ∈ told, InR v) (b : List S1) (ok : bok b) (hk : bdeep b + 16 ≤ k) {t : Str} {n : Nat} {rs : List (Int × Int)} {g : Option Int} (h0 : seen told b (m0 ns [x]) = some (t, n, rs, g)) (O : D) (hO : outS t rs g = O) (κ : R D → Store → Prop)
    (h : ∀ S', (∀ i, i < S.length → S'[i]? = S[i]?) → κ (.v O) S') : callAtP T k "reduced" [.tup [name, mp, jn, .tup (ns.map D.str ++ [.tup (bd b)])], .int x, .tup (told.map D.int)] S κ := by
  obtain ⟨f, m', hR, hf, hn', hr, hg'⟩ := seen_run h0
  obtain ⟨F, P⟩ := run_post hl htd hR ok (start_fine (one_in hg))
  refine out_reduced k _ _ _ _ ns x told hl htd hn hg b ok hk hR P F _ fun S3 u3 l3 => ?_
  rw [out_seen hR hf hr hg', hO]
  exact h _ u3
theorem rsteps_hand (k : Nat) (S : Store) (name mp jn : D) (ns : List Str) (x : Int) (told : List Int) (hn : ∀ x ∈ ns, x ∈ letters) (hl : told.length ≤ 1000) (hg : InR x) (htd : ∀ v ∈ told, InR v) (b : List S1) (ok : bok b) (hk : bdeep b + 16 ≤ k) {t : Str} {n : Nat} {rs : List (Int × Int)} {g : Option Int} (h0 : seen told b (m0 ns [x]) = some (t, n, rs, g)) (z : Int) (hz : (n : Int) = z) (κ : R D → Store → Prop)
    (h : ∀ S', (∀ i, i < S.length → S'[i]? = S[i]?) → κ (.v (.int z)) S') : callAtP T k "reduce_steps" [.tup [name, mp, jn, .tup (ns.map D.str ++ [.tup (bd b)])], .int x, .tup (told.map D.int)] S κ := by
  obtain ⟨f, m', hR, hf, hn', hr, hg'⟩ := seen_run h0
  refine steps_reduced k _ _ _ _ ns x told hl htd hn hg b ok hk hR _ fun S3 u3 l3 => ?_
  rw [hn', hz]
  exact h _ u3
theorem law_ (k : Nat) (hk : 80 ≤ k) (ns0 : List Int) (hn0 : ns0.length ≤ 63) (κ : R D → Store → Prop)
    (h : ∀ S, κ (.v (.bl true)) S) : callAtP T k "law" [.frz (ns0.map D.int)] [] κ := by
  obtain ⟨k, rfl⟩ := lev 1 (show 1 ≤ k by omega)
  conv => whnf
  refine cupS k (by omega) ns0 hn0 _ fun S hS => ?_
  conv => whnf
  refine forP (fun i η Z => ∃ (t j a b c : Option D), Cup Z ∧ η = [some (.frz (ns0.map D.int)), some (.obj 0), t, none, none, none, none, j, a, none, b, none, none, c]) ⟨none, none, none, none, none, hS, rfl⟩ (fun i0 d0 η Z2 K0 hd0 hI0 hK0 => ?_) (fun η Z2 hI0 => ?_)
  · obtain ⟨t0, j0, a0, b0, c0, hZ2, rfl⟩ := hI0
    conv => whnf
    refine job_ k (by omega) Z2 hZ2 _ fun nm x y u v w p bM bJ bR jo Z3 hjo hx hy hu hv hw1 hp okM okJ okR dM dJ dR hZ3 => ?_
    obtain ⟨tt, htt⟩ : ∃ tt : Option D, tt = some d0 := ⟨_, rfl⟩
    rcases hjo with rfl | rfl
    all_goals conv => whnf
    all_goals rw [← htt]
    rotate_left
    refine forP (fun i η Z => ∃ (a b c : Option D), Cup Z ∧ η = [some (.frz (ns0.map D.int)), some (.obj 0), tt, none, none, none, none, some (.tup [.str nm, rowD [x, y] bM, rowD [u, v, w] bJ, rowD [p] bR]), a, none, b, none, none, c]) ⟨_, _, _, hZ3, rfl⟩ (fun i d η Z K hd hI hK => ?_) (fun η Z hI => ?_)
    · obtain ⟨a, bq, c, hZ, rfl⟩ := hI
      obtain ⟨fn, rfl, hfn, ns, b, hJ, hns, hn, okb, db⟩ : ∃ (fn : Str), d = .str fn ∧ isFn fn ∧ ∃ (ns : List Str) (b : List S1), RowAt fn ns b (rowD [x, y] bM) (rowD [u, v, w] bJ) (rowD [p] bR) ∧ ns.length = arity fn ∧ (∀ x ∈ ns, x ∈ letters) ∧ bokM b ∧ bdeep b ≤ 35 := by
        have := List.mem_of_getElem? hd
        simp only [List.cons_append, List.nil_append, List.append_nil, List.mem_cons, List.not_mem_nil, or_false] at this
        rcases this with rfl | rfl | rfl
        · exact ⟨"map", rfl, .inl rfl, [x, y], bM, rfl, rfl, two hx hy, okM, dM⟩
        · exact ⟨"reduce", rfl, .inr (.inr rfl), [p], bR, rfl, rfl, one hp, okR, dR⟩
        · exact ⟨"join", rfl, .inr (.inl rfl), [u, v, w], bJ, rfl, rfl, three hu hv hw1, okJ, dJ⟩
      have ok := bokM_ok b okb
      conv => whnf
      refine givenS fn hfn k (by omega) Z hZ _ fun gs told Z4 hre hgl htl hg htd hZ4 o4 => ?_
      have hl : told.length ≤ 1000 := by omega
      have hgl : gs.length = arity fn := hgl
      have hre : fn = "reduce" ∨ told = [] := hre
      obtain ⟨f, m', hR⟩ := runs_all told hl htd b ok _ (start_fine (ns := ns) hg)
      obtain ⟨F, Po⟩ := run_post hl htd hR ok (start_fine hg)
      have N := run_nums hl htd hR ok (start_fine hg) start_nums
      have hw := endF_word (j := isJ fn) (run_word hR)
      obtain ⟨O, hO⟩ : ∃ O, O = outD m' (endF (isJ fn) f) := ⟨_, rfl⟩
      obtain ⟨z, hz⟩ : ∃ z : Int, z = (m'.n : Int) := ⟨_, rfl⟩
      have hT : ∀ S, Told S (.tup [O, .int z]) (.tuple [outP m' (endF (isJ fn) f), .int z]) := fun S => by
        rw [hO, hz]
        exact told_ok F N hw
      have zr : 0 ≤ z ∧ z ≤ 100 := by have := F.n; omega
      have hO3 := out_form m' (endF (isJ fn) f) F.few
      rw [← hO] at hO3
      have gD' : (if fn = "reduce" then D.tup (gs.map D.int ++ [.tup (told.map D.int)]) else .tup (gs.map D.int)) = givenD fn gs told := rfl
      rw [gD']
      conv => whnf
      refine toldF fn hfn _ _ _ _ ns b hJ hns hn gs told hgl hg hre hl htd ok k (by omega) Z4 O z hR hO hz _ fun Z5 u5 l5 => ?_
      conv => whnf
      refine dueF fn hfn _ _ _ _ ns b hJ hns hn gs told hgl hg hre hl htd ok k (by omega) Z5 O z hR hO hz _ fun Z6 u6 l6 => ?_
      conv => whnf
      refine like_ k (by omega) (hT _) _ ?_
      conv => whnf
      refine toldF fn hfn _ _ _ _ ns b hJ hns hn gs told hgl hg hre hl htd ok k (by omega) Z6 O z hR hO hz _ fun Z7 u7 l7 => ?_
      conv => whnf
      refine like_ k (by omega) (hT _) _ ?_
      conv => whnf
      refine br_t (decide_eq_true zr.1) ?_
      conv => whnf
      refine br_t (decide_eq_true zr.2) ?_
      conv => whnf
      have hZ7 : Cup Z7 := ((hZ4.up u5).up u6).up u7
      rcases hO3 with ⟨w0, e0⟩ | ⟨dr, g0, e0, hlen⟩
      · subst e0
        conv => whnf
        refine same_ fn hfn nm [x, y] [p] bM bR _ okM okR (by simp) (by simp) dM dR (.inr ⟨[u, v, w], bJ, rfl, okJ, by simp, dJ⟩) ns b hJ hns hn gs told hgl hg hre hl htd okb db k (by omega) Z7 hR _ fun Z8 u8 l8 => ?_
        conv => whnf
        exact hK _ _ ⟨_, _, _, hZ7.up u8, rfl⟩
      · subst e0
        obtain ⟨L, hL, hlen⟩ := hlen
        conv => whnf
        rw [hlen]
        conv => whnf
        refine br_f (decide_eq_false (by omega)) ?_
        conv => whnf
        refine same_ fn hfn nm [x, y] [p] bM bR _ okM okR (by simp) (by simp) dM dR (.inr ⟨[u, v, w], bJ, rfl, okJ, by simp, dJ⟩) ns b hJ hns hn gs told hgl hg hre hl htd okb db k (by omega) Z7 hR _ fun Z8 u8 l8 => ?_
        conv => whnf
        exact hK _ _ ⟨_, _, _, hZ7.up u8, rfl⟩
    · obtain ⟨a, bq, c, hZ, rfl⟩ := hI
      conv => whnf
      exact hK0 _ _ ⟨_, _, _, _, _, hZ, rfl⟩
    refine forP (fun i η Z => ∃ (a b c : Option D), Cup Z ∧ η = [some (.frz (ns0.map D.int)), some (.obj 0), tt, none, none, none, none, some (.tup [.str nm, rowD [x, y] bM, .non, rowD [p] bR]), a, none, b, none, none, c]) ⟨_, _, _, hZ3, rfl⟩ (fun i d η Z K hd hI hK => ?_) (fun η Z hI => ?_)
    · obtain ⟨a, bq, c, hZ, rfl⟩ := hI
      obtain ⟨fn, rfl, hfn, ns, b, hJ, hns, hn, okb, db⟩ : ∃ (fn : Str), d = .str fn ∧ isFn fn ∧ ∃ (ns : List Str) (b : List S1), RowAt fn ns b (rowD [x, y] bM) .non (rowD [p] bR) ∧ ns.length = arity fn ∧ (∀ x ∈ ns, x ∈ letters) ∧ bokM b ∧ bdeep b ≤ 35 := by
        have := List.mem_of_getElem? hd
        simp only [List.cons_append, List.nil_append, List.append_nil, List.mem_cons, List.not_mem_nil, or_false] at this
        rcases this with rfl | rfl
        · exact ⟨"map", rfl, .inl rfl, [x, y], bM, rfl, rfl, two hx hy, okM, dM⟩
        · exact ⟨"reduce", rfl, .inr (.inr rfl), [p], bR, rfl, rfl, one hp, okR, dR⟩
      have ok := bokM_ok b okb
      conv => whnf
      refine givenS fn hfn k (by omega) Z hZ _ fun gs told Z4 hre hgl htl hg htd hZ4 o4 => ?_
      have hl : told.length ≤ 1000 := by omega
      have hgl : gs.length = arity fn := hgl
      have hre : fn = "reduce" ∨ told = [] := hre
      obtain ⟨f, m', hR⟩ := runs_all told hl htd b ok _ (start_fine (ns := ns) hg)
      obtain ⟨F, Po⟩ := run_post hl htd hR ok (start_fine hg)
      have N := run_nums hl htd hR ok (start_fine hg) start_nums
      have hw := endF_word (j := isJ fn) (run_word hR)
      obtain ⟨O, hO⟩ : ∃ O, O = outD m' (endF (isJ fn) f) := ⟨_, rfl⟩
      obtain ⟨z, hz⟩ : ∃ z : Int, z = (m'.n : Int) := ⟨_, rfl⟩
      have hT : ∀ S, Told S (.tup [O, .int z]) (.tuple [outP m' (endF (isJ fn) f), .int z]) := fun S => by
        rw [hO, hz]
        exact told_ok F N hw
      have zr : 0 ≤ z ∧ z ≤ 100 := by have := F.n; omega
      have hO3 := out_form m' (endF (isJ fn) f) F.few
      rw [← hO] at hO3
      have gD' : (if fn = "reduce" then D.tup (gs.map D.int ++ [.tup (told.map D.int)]) else .tup (gs.map D.int)) = givenD fn gs told := rfl
      rw [gD']
      conv => whnf
      refine toldF fn hfn _ _ _ _ ns b hJ hns hn gs told hgl hg hre hl htd ok k (by omega) Z4 O z hR hO hz _ fun Z5 u5 l5 => ?_
      conv => whnf
      refine dueF fn hfn _ _ _ _ ns b hJ hns hn gs told hgl hg hre hl htd ok k (by omega) Z5 O z hR hO hz _ fun Z6 u6 l6 => ?_
      conv => whnf
      refine like_ k (by omega) (hT _) _ ?_
      conv => whnf
      refine toldF fn hfn _ _ _ _ ns b hJ hns hn gs told hgl hg hre hl htd ok k (by omega) Z6 O z hR hO hz _ fun Z7 u7 l7 => ?_
      conv => whnf
      refine like_ k (by omega) (hT _) _ ?_
      conv => whnf
      refine br_t (decide_eq_true zr.1) ?_
      conv => whnf
      refine br_t (decide_eq_true zr.2) ?_
      conv => whnf
      have hZ7 : Cup Z7 := ((hZ4.up u5).up u6).up u7
      rcases hO3 with ⟨w0, e0⟩ | ⟨dr, g0, e0, hlen⟩
      · subst e0
        conv => whnf
        refine same_ fn hfn nm [x, y] [p] bM bR _ okM okR (by simp) (by simp) dM dR (.inl rfl) ns b hJ hns hn gs told hgl hg hre hl htd okb db k (by omega) Z7 hR _ fun Z8 u8 l8 => ?_
        conv => whnf
        exact hK _ _ ⟨_, _, _, hZ7.up u8, rfl⟩
      · subst e0
        obtain ⟨L, hL, hlen⟩ := hlen
        conv => whnf
        rw [hlen]
        conv => whnf
        refine br_f (decide_eq_false (by omega)) ?_
        conv => whnf
        refine same_ fn hfn nm [x, y] [p] bM bR _ okM okR (by simp) (by simp) dM dR (.inl rfl) ns b hJ hns hn gs told hgl hg hre hl htd okb db k (by omega) Z7 hR _ fun Z8 u8 l8 => ?_
        conv => whnf
        exact hK _ _ ⟨_, _, _, hZ7.up u8, rfl⟩
    · obtain ⟨a, bq, c, hZ, rfl⟩ := hI
      conv => whnf
      exact hK0 _ _ ⟨_, _, _, _, _, hZ, rfl⟩
  · obtain ⟨t0, j0, a0, b0, c0, hZ2, rfl⟩ := hI0
    conv => whnf
    refine mapped_hand k Z2 (.str "odd") _ _ ["k", "v"] 4 101 (by decide) (by unfold InR; omega) bodyB bodyOk (by have := bodyDp; omega) s1 _ (by rfl) _ fun Z3 u3 => ?_
    conv => whnf
    refine msteps_hand k Z3 (.str "odd") _ _ ["k", "v"] 4 101 (by decide) (by unfold InR; omega) bodyB bodyOk (by have := bodyDp; omega) s1 21 rfl _ fun Z4 u4 => ?_
    conv => whnf
    refine joined_hand k Z4 (.str "odd") _ _ ["k", "a", "b"] 1 9223372036854775807 1 (by decide) (by unfold InR; omega) giveB giveOk (by have := giveDp; omega) s2 _ fun Z5 u5 => ?_
    conv => whnf
    refine reduced_hand k Z5 (.str "odd") _ _ ["k"] 2 [5, 6, 7] (by decide) (by decide) (by unfold InR; omega) (ints3 _ _ _ (by unfold InR; omega)) redB redOk (by have := redDp; omega) s3 _ (by rfl) _ fun Z6 u6 => ?_
    conv => whnf
    refine reduced_hand k Z6 (.str "odd") _ _ ["k"] 2 [5, -6, 7] (by decide) (by decide) (by unfold InR; omega) (ints3 _ _ _ (by unfold InR; omega)) redB redOk (by have := redDp; omega) s4 _ (by rfl) _ fun Z7 u7 => ?_
    conv => whnf
    refine rsteps_hand k Z7 (.str "odd") _ _ ["k"] 2 [5, -6, 7] (by decide) (by decide) (by unfold InR; omega) (ints3 _ _ _ (by unfold InR; omega)) redB redOk (by have := redDp; omega) s4 7 rfl _ fun Z8 u8 => ?_
    conv => whnf
    refine like_ k (by omega) (p := .list [.tuple [.str "well", .tuple [.tuple [.int 10, .int 4], .tuple [.int 3, .int 4], .tuple [.int 1, .int 4], .tuple [.int 0, .int 4], .tuple [.int 0, .int 4]], .none], .int 21, .tuple [.str "well", .tuple [], .int (-9223372036854775808)], .tuple [.str "well", .tuple [.tuple [.int 2, .int 18]], .none], .tuple [.str "fell", .str "crashed"], .int 7]) ⟨rfl, rfl, by decide, by decide, by decide, by decide +kernel⟩ _ ?_
    conv => whnf
    exact h _
theorem pure_ (ns : List Int) (hn : ns.length ≤ 63) : ∃ S', callAt T (90 + 1) "law" [.frz (ns.map D.int)] [] = some (.v (.bl true), S') := by
  obtain ⟨r, S', e, q⟩ := sim_call (T := T) 91 "law" [.frz (ns.map D.int)] [] (fun r _ => r = .v (.bl true)) (law_ 91 (by decide) ns hn _ fun S => rfl)
  exact ⟨S', by rw [e, q]⟩
end

theorem PySem.Challenge.cw_reducehouse_k18_whole_calls_holds : PySem.Challenge.rw_reducehouse_k18_whole_calls.Holds := by
  exact DLL.holds pure_
