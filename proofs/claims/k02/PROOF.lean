import PyProof.Rows.All
import Wide.All
import OpenK.AllK
import Wide.FinOn
import PySem.Value
import PyProof.ReprReads
import PyProof.P3Statements
import PyProof.EqLayable
import HandS.Base
import HandS.Call
import HandS.List
import HandS.Words
import HandS.Exc
import HandS.Iter
import HandS.Lambda
import HandS.TupAny
import HandS.TupMul
import HandS.Wide
import HandS.Gcd
import HandS.Style
import HandS.Deep
import HandS.Flow
import HandS.Dict
import HandS.More
import HandS.IsInst
import HandS.WideBits
import HandS.RaiseMore
import PyProof.ReprRoads
import HandS.WordsDict
import HandS.Walk
import HandS.Zip
import HandS.Comp
import HandS.CallSlots
import HandS.Defaults
import HandS.ExcInit
import HandS.TryMany
import HandS.ExcField
import HandS.CallRecv
import HandS.HeadHook2
import HandS.EndTab
import HandS.EndBits
import PyProof.Rows.ReprOcc
import PyProof.Rows.RegStrFacts
import HandS.Head0
import HandS.Head1
import HandS.Head2
import HandS.Head3
import PySem.Challenge.RW_beampapers_k02_ratios
set_option Elab.async false
section
set_option autoImplicit false
/-! KCore: a small language for the programs of this claim and what its texts do, as a total function.
Tuples, told lists and plain objects are values; what changes stands in a store. -/
namespace KP
open PySem

abbrev Ky := Sum Int Str

/-- values -/
inductive D where
  | non
  | bl (b : Bool)
  | int (i : Int)
  | str (x : Str)
  /-- a built-in type by its number -/
  | ty (n : Nat)
  | tup (xs : List D)
  /-- a list that no one changes any more -/
  | lst (xs : List D)
  /-- a thing of the store -/
  | ref (n : Nat)
  /-- a def, a class of the module, by their numbers -/
  | fn (f : Nat)
  | cls (c : Nat)
  /-- a lambda by its number, and the cells that it holds -/
  | clo (k : Nat) (cs : List Nat)
  /-- an instance that no one changes any more -/
  | ins (c : Nat) (fs : List D)
  /-- a dict that no one changes any more: texts for keys -/
  | dct (ks : List Str) (xs : List D)
  deriving Inhabited

/-- things of the store -/
inductive Ob where
  | lst (xs : List D)
  | dic (kvs : List (Ky × D))
  | ins (c : Nat) (fs : List (Nat × D))
  | cel (v : Option D)
  deriving Inhabited

/-- a place of a frame -/
inductive Sl where
  | no
  | v (d : D)
  /-- a list that this place alone holds -/
  | own (xs : List D)
  /-- a variable that lambdas hold too: its cell in the store -/
  | cel (n : Nat)
  deriving Inhabited

/-- an error of an own class: the class's number, its fields -/
structure Xn where
  c : Nat
  fs : List D
  deriving Inhabited

abbrev En := List Sl
abbrev So := List Ob

inductive R (α : Type) where
  | ok (a : α) (e : En) (s : So)
  | exc (x : Xn) (e : En) (s : So)
  | stuck

def R.bind {α β : Type} (r : R α) (f : α → En → So → R β) : R β := match r with
  | .ok a e s => f a e s
  | .exc x e s => .exc x e s
  | .stuck => .stuck
@[simp] theorem R.bind_ok {α β : Type} (a : α) (e : En) (s : So) (f : α → En → So → R β) : (R.ok a e s).bind f = f a e s := rfl
@[simp] theorem R.bind_exc {α β : Type} (x : Xn) (e : En) (s : So) (f : α → En → So → R β) : (R.exc x e s).bind f = .exc x e s := rfl
@[simp] theorem R.bind_stuck {α β : Type} (f : α → En → So → R β) : (R.stuck : R α).bind f = .stuck := rfl
/-- a plain answer or none -/
def R.of {α : Type} (o : Option α) (e : En) (s : So) : R α := match o with
  | some a => .ok a e s
  | none => .stuck
@[simp] theorem R.of_some {α : Type} (a : α) (e : En) (s : So) : R.of (some a) e s = .ok a e s := rfl
@[simp] theorem R.of_none {α : Type} (e : En) (s : So) : (R.of none e s : R α) = .stuck := rfl

/-- what a call gives -/
inductive Rc where
  | ok (d : D) (s : So)
  | exc (x : Xn) (s : So)
  | stuck
  deriving Inhabited

/-! ### data -/
mutual
/-- plain data of a value (what == and repr go over) -/
def D.py : D → Option PyData
  | .non => some .none
  | .bl b => some (.bool b)
  | .int i => some (.int i)
  | .str x => some (.str x)
  | .tup xs => (pyAll xs).map .tuple
  | .lst xs => (pyAll xs).map .list
  | .dct ks xs => if ks.length = xs.length then (pyAll xs).map fun ps => .dict ((ks.map PyData.str).zip ps) else none
  | _ => none
def pyAll : List D → Option (List PyData)
  | [] => some []
  | x :: xs => match x.py, pyAll xs with
    | some p, some ps => some (p :: ps)
    | _, _ => none
end

theorem pyAll_len : ∀ {xs : List D} {ps : List PyData}, pyAll xs = some ps → xs.length = ps.length
  | [], _, h => by cases h; rfl
  | x :: xs, _, h => by
    rw [pyAll] at h
    cases q : x.py with
    | none => rw [q] at h; cases h
    | some p =>
      cases q2 : pyAll xs with
      | none => rw [q, q2] at h; cases h
      | some ps =>
        rw [q, q2] at h
        cases h
        rw [List.length_cons, List.length_cons, pyAll_len q2]
/-- how great an int may be in a product, a quotient -/
def small (i : Int) : Bool := decide (i.natAbs.log2 < 8000)

inductive Bo where | add | sub | mul | fdiv | mod | pow
  deriving DecidableEq
inductive Co where | eq | ne | lt | le | gt | ge | is | isnot | isin | notin
  deriving DecidableEq

def dataEq (x y : D) : Option Bool := match x.py, y.py with
  | some p, some q => if SeqAt.shaped p && SeqAt.shaped q then some (PyData.eqv p q) else none
  | _, _ => none

/-- the numbers that bools stand for are not taken here: a + b of ints, texts, tuples, lists -/
def bo : Bo → D → D → Option D
  | .add, .int i, .int j => some (.int (i + j))
  | .add, .str x, .str y => if x.length + y.length ≤ sizeLine then some (.str (x ++ y)) else none
  | .add, .tup xs, .tup ys => if xs.length + ys.length ≤ sizeLine then some (.tup (xs ++ ys)) else none
  | .add, .lst xs, .lst ys => if xs.length + ys.length ≤ sizeLine then some (.lst (xs ++ ys)) else none
  | .sub, .int i, .int j => some (.int (i - j))
  | .mul, .int i, .int j => if small i && small j then some (.int (i * j)) else none
  | .mul, .tup xs, .int k => if 0 ≤ k ∧ k < 2 ^ 62 ∧ xs.length * k.toNat ≤ sizeLine then some (.tup (List.replicate k.toNat xs).flatten) else none
  | .mul, .lst xs, .int k => if 0 ≤ k ∧ k < 2 ^ 62 ∧ xs.length * k.toNat ≤ sizeLine then some (.lst (List.replicate k.toNat xs).flatten) else none
  | .fdiv, .int i, .int j => if j ≠ 0 ∧ small j then some (.int (i.fdiv j)) else none
  | .mod, .int i, .int j => if j ≠ 0 then some (.int (i.fmod j)) else none
  | .pow, .int i, .int j => if 0 ≤ j ∧ j ≤ 1000 ∧ i.natAbs < 2 ^ 64 then some (.int (i ^ j.toNat)) else none
  | _, _, _ => none

def isNone : D → Bool
  | .non => true
  | _ => false

def inData (x : D) (ys : List D) : Option Bool := match x.py, pyAll ys with
  | some d, some ds => if SeqAt.shaped d && SeqAt.shaped (.list ds) then some (ds.any fun z => PyData.eqv z d) else none
  | _, _ => none

def co : Co → D → D → Option Bool
  | .lt, .int i, .int j => some (decide (i < j))
  | .le, .int i, .int j => some (decide (i ≤ j))
  | .gt, .int i, .int j => some (decide (j < i))
  | .ge, .int i, .int j => some (decide (j ≤ i))
  | .eq, x, y => dataEq x y
  | .ne, x, y => (dataEq x y).map (!·)
  | .is, x, .non => some (isNone x)
  | .isnot, x, .non => some (!isNone x)
  | .is, .bl a, .bl b => some (a == b)
  | .isnot, .bl a, .bl b => some (!(a == b))
  | .isin, x, .lst ys => inData x ys
  | .isin, x, .tup ys => inData x ys
  | .notin, x, .lst ys => (inData x ys).map (!·)
  | .notin, x, .tup ys => (inData x ys).map (!·)
  | _, _, _ => none

/-- truth -/
def tru : D → Option Bool
  | .non => some false
  | .bl b => some b
  | .int i => some (i != 0)
  | .str x => if x.length ≤ sizeLine then some (x.length != 0) else none
  | .tup xs => some (!xs.isEmpty)
  | .lst xs => some (!xs.isEmpty)
  | _ => none

/-- the place of an index -/
def ixAt (n : Nat) (i : Int) : Option Nat :=
  if 0 ≤ i then (if i < n then some i.toNat else none)
  else (if 0 ≤ i + n then some (i + n).toNat else none)
def itemAt (xs : List D) (i : Int) : Option D := match ixAt xs.length i with
  | some k => xs[k]?
  | none => none

/-- a bound of a slice -/
def cutAt (n : Nat) (d : Nat) : Option Int → Nat
  | none => d
  | some i => if 0 ≤ i then min i.toNat n else (i + n).toNat
def cut {α : Type} (xs : List α) (lo hi : Option Int) : List α :=
  (xs.take (cutAt xs.length xs.length hi)).drop (cutAt xs.length 0 lo)

def lookK (kvs : List (Ky × D)) (k : Ky) : Option D := match kvs with
  | [] => none
  | (g, x) :: r => if g = k then some x else lookK r k
def putK (kvs : List (Ky × D)) (k : Ky) (d : D) : List (Ky × D) :=
  if (kvs.any fun kv => decide (kv.1 = k)) = true then kvs.map (fun kv => if kv.1 = k then (kv.1, d) else kv) else kvs ++ [(k, d)]
def keyOf : D → Option Ky
  | .int i => some (.inl i)
  | .str x => some (.inr x)
  | _ => none

/-- o[i] -/
def ix (s : So) (x i : D) : Option D := match x, i with
  | .tup xs, .int i => itemAt xs i
  | .lst xs, .int i => itemAt xs i
  | .ref n, i => match s[n]? with
    | some (.lst xs) => (match i with
      | .int i => itemAt xs i
      | _ => none)
    | some (.dic kvs) => (match keyOf i with
      | some k => lookK kvs k
      | none => none)
    | _ => none
  | _, _ => none

/-- the bounds of a slice, as ints -/
def bnd : Option D → Option (Option Int)
  | none => some none
  | some (.int i) => some (some i)
  | some .non => some none
  | some _ => none
def slc (x : D) (a b : Option Int) : Option D := match x with
  | .tup xs => some (.tup (cut xs a b))
  | .lst xs => some (.lst (cut xs a b))
  | _ => none

/-! ### types, for isinstance -/
/-- the number of a value's built-in type: 0 int, 1 bool, 2 str, 3 list, 4 tuple, 5 dict, 6 NoneType -/
def tyOf (s : So) : D → Option Nat
  | .int _ => some 0
  | .bl _ => some 1
  | .str _ => some 2
  | .lst _ => some 3
  | .tup _ => some 4
  | .non => some 6
  | .dct _ _ => some 5
  | .ref n => match s[n]? with
    | some (.lst _) => some 3
    | some (.dic _) => some 5
    | _ => none
  | _ => none
/-- is a thing of the first type one of the second -/
def subTy (t u : Nat) : Bool := t == u || (t == 1 && u == 0)

/-! ### texts -/
inductive Bi where
  | len | abs | all | any | max2 | min2 | gcd | repr
  | int | list | tuple | dict | str | isinst | bits
  deriving DecidableEq

def bools : List D → Option (List Bool)
  | [] => some []
  | .bl b :: r => (bools r).map (b :: ·)
  | _ => none

def isAny (t : Nat) : List D → Option Bool
  | [] => some false
  | .ty u :: r => if u ≤ 6 then (if subTy t u then some true else isAny t r) else none
  | _ => none

def reprD (d : D) : Option Str := match d.py with
  | some p => if p.showable && decide (p.shown.length ≤ sizeLine) && decide (p.depth ≤ 64) then some p.shown else none
  | none => none

/-- a built-in function's answer -/
def bi (s : So) : Bi → List D → Option D
  | .len, [.tup xs] => some (.int xs.length)
  | .len, [.lst xs] => some (.int xs.length)
  | .len, [.str x] => if x.length ≤ sizeLine then some (.int x.length) else none
  | .len, [.ref n] => (match s[n]? with
    | some (.lst xs) => some (.int xs.length)
    | some (.dic kvs) => some (.int kvs.length)
    | _ => none)
  | .abs, [.int i] => some (.int i.natAbs)
  | .all, [.lst xs] => (bools xs).map fun bs => .bl (bs.all id)
  | .any, [.lst xs] => (bools xs).map fun bs => .bl (bs.any id)
  | .max2, [.int i, .int j] => some (.int (if j > i then j else i))
  | .min2, [.int i, .int j] => some (.int (if j < i then j else i))
  | .gcd, [.int i, .int j] => some (.int (Nat.gcd i.natAbs j.natAbs : Nat))
  | .repr, [d] => (reprD d).map .str
  | .int, [.int i] => some (.int i)
  | .int, [.bl b] => some (.int (if b then 1 else 0))
  | .list, [.lst xs] => some (.lst xs)
  | .list, [.tup xs] => some (.lst xs)
  | .tuple, [.lst xs] => some (.tup xs)
  | .tuple, [.tup xs] => some (.tup xs)
  | .bits, [.int i] => some (.int (Builtin.Int.intBits i : Nat))
  | .isinst, [d, .ty u] => (match tyOf s d with
    | some t => if u ≤ 6 then some (.bl (subTy t u)) else none
    | none => none)
  | .isinst, [d, .tup us] => (match tyOf s d with
    | some t => (isAny t us).map .bl
    | none => none)
  | _, _ => none

/-- what a loop walks -/
inductive Wk where | val | rng1 | rng2 | zip2 | enum | rev
  deriving DecidableEq

def listOf : D → Option (List D)
  | .tup xs => some xs
  | .lst xs => some xs
  | _ => none
def rng (i j : Int) : List D := (List.range (j - i).toNat).map fun k => .int (i + (k : Nat))
def smallR (i : Int) : Bool := decide (-(2 ^ 62) ≤ i ∧ i < 2 ^ 62)
def walk : Wk → List D → Option (List D)
  | .val, [x] => listOf x
  | .rng1, [.int j] => if smallR j && decide (j ≤ 1000000) then some (rng 0 j) else none
  | .rng2, [.int i, .int j] => if smallR i && smallR j && decide (j - i ≤ 1000000) then some (rng i j) else none
  | .zip2, [x, y] => (match listOf x, listOf y with
    | some xs, some ys => some (List.zipWith (fun a b => .tup [a, b]) xs ys)
    | _, _ => none)
  | .enum, [x] => (match listOf x with
    | some xs => some (List.zipWith (fun a b => .tup [.int (a : Nat), b]) (List.range xs.length) xs)
    | _ => none)
  | .rev, [x] => (match x with
    | .lst xs => some xs.reverse
    | _ => none)
  | _, _ => none

/-- targets -/
inductive Tg where
  | nm (i : Nat)
  | tup (ts : List Tg)

mutual
inductive Ex where
  | c (d : D)
  | v (i : Nat)
  | neg (a : Ex)
  | not (a : Ex)
  | bin (o : Bo) (a b : Ex)
  | cmp (o : Co) (a b : Ex)
  | cmp2 (o p : Co) (a b c : Ex)
  | and (a b : Ex)
  | or (a b : Ex)
  | ite (t a b : Ex)
  | tup (es : Exs)
  | lst (es : Exs)
  | dic (ks : List Ky) (es : Exs)
  /-- a dict that no one changes -/
  | dct (ks : List Str) (es : Exs)
  | ix (a b : Ex)
  /-- an item of the thing at a place, which stays where it is -/
  | ixv (i : Nat) (b : Ex)
  | slc (a : Ex) (lo hi : Exo)
  /-- [::-1] -/
  | back (a : Ex)
  | lenv (i : Nat)
  | inv (o : Co) (a : Ex) (i : Nat)
  | call (f : Nat) (es : Exs)
  | app (a : Ex) (es : Exs)
  | bi (b : Bi) (es : Exs)
  | comp (own : List Nat) (t : Tg) (w : Wk) (es : Exs) (ifs : Exo) (a : Ex)
  | lam (k : Nat) (cs : List Nat)
inductive Exs where
  | nil
  | cons (a : Ex) (r : Exs)
inductive Exo where
  | no
  | so (a : Ex)
end

/-- what makes a new list -/
def Ex.fresh : Ex → Bool
  | .lst _ => true
  | .bi .list _ => true
  | .bin .add _ _ => true
  | .bin .mul _ _ => true
  | .comp .. => true
  | .slc .. => true
  | .back _ => true
  | _ => false
inductive Fl where
  | nx | bk | ct
  | rt (d : D)
  deriving Inhabited

mutual
inductive St where
  | pass
  | ex (a : Ex)
  | set (t : Tg) (a : Ex)
  /-- names take values, name by name -/
  | par (is : List Nat) (es : Exs)
  /-- a place takes a list of its own -/
  | own (i : Nat) (a : Ex)
  | setix (a b c : Ex)
  | setixv (i : Nat) (b c : Ex)
  | aug (i : Nat) (o : Bo) (a : Ex)
  | app (i : Nat) (a : Ex)
  | ins (i : Nat) (a b : Ex)
  | ite (t : Ex) (a b : Sts)
  | loop (t : Tg) (w : Wk) (es : Exs) (b : Sts)
  | whl (t : Ex) (b : Sts)
  | ret (a : Ex)
  | brk
  | cont
  | rais (c : Nat) (es : Exs)
  | tri (b : Sts) (hs : List (Nat × List (Sum D Nat)))
inductive Sts where
  | nil
  | cons (a : St) (r : Sts)
end

/-! ### what they do -/
structure Cc where
  call : Nat → List D → So → Rc
  app : Nat → List Nat → List D → So → Rc
  fuel : Nat

def rd (i : Nat) (e : En) (s : So) : R D := match e[i]? with
  | some (.v d) => .ok d e s
  | some (.own xs) => .ok (.lst xs) (e.set i (.v (.lst xs))) s
  | some (.cel n) => (match s[n]? with
    | some (.cel (some d)) => .ok d e s
    | _ => .stuck)
  | _ => .stuck
/-- what stands at a place, left as it is -/
def pk (i : Nat) (e : En) (s : So) : Option D := match e[i]? with
  | some (.v d) => some d
  | some (.own xs) => some (.lst xs)
  | some (.cel n) => (match s[n]? with
    | some (.cel (some d)) => some d
    | _ => none)
  | _ => none
def wr (i : Nat) (d : D) (e : En) (s : So) : Option (En × So) := match e[i]? with
  | some (.cel n) => (match s[n]? with
    | some (.cel _) => some (e, s.set n (.cel (some d)))
    | _ => none)
  | some _ => some (e.set i (.v d), s)
  | none => none
mutual
def asgT : Tg → D → En → So → Option (En × So)
  | .nm i, d, e, s => wr i d e s
  | .tup ts, .tup xs, e, s => asgTs ts xs e s
  | .tup _, _, _, _ => none
def asgTs : List Tg → List D → En → So → Option (En × So)
  | [], [], e, s => some (e, s)
  | t :: ts, x :: xs, e, s => (match asgT t x e s with
    | some (e, s) => asgTs ts xs e s
    | none => none)
  | [], _ :: _, _, _ => none
  | _ :: _, [], _, _ => none
end
def parN : List Nat → List D → En → Option En
  | [], [], e => some e
  | i :: is, d :: ds, e => (match e[i]? with
    | some (.cel _) => none
    | none => none
    | some _ => parN is ds (e.set i (.v d)))
  | _, _, _ => none
def wipeE (e : En) : List Nat → En
  | [] => e
  | v :: vs => (wipeE e vs).set v .no
def backE (e0 e : En) : List Nat → En
  | [] => e
  | v :: vs => (backE e0 e vs).set v (e0[v]?.getD .no)
/-- a comprehension's turns -/
def compGo (step : D → En → So → R (Option D)) : List D → En → So → R (List D)
  | [], e, s => .ok [] e s
  | x :: r, e, s => (step x e s).bind fun o e s => (compGo step r e s).bind fun ds e s => .ok (match o with
    | some d => d :: ds
    | none => ds) e s
/-- a loop's turns -/
def forGo (step : D → En → So → R Fl) : List D → En → So → R Fl
  | [], e, s => .ok .nx e s
  | x :: r, e, s => (step x e s).bind fun f e s => match f with
    | .nx => forGo step r e s
    | .ct => forGo step r e s
    | .bk => .ok .nx e s
    | .rt d => .ok (.rt d) e s
def whlGo (t : En → So → R Bool) (b : En → So → R Fl) : Nat → En → So → R Fl
  | 0, _, _ => .stuck
  | n + 1, e, s => (t e s).bind fun c e s => match c with
    | false => .ok .nx e s
    | true => (b e s).bind fun f e s => match f with
      | .nx => whlGo t b n e s
      | .ct => whlGo t b n e s
      | .bk => .ok .nx e s
      | .rt d => .ok (.rt d) e s
def ownAt (e : En) (i : Nat) : Option (List D) := match e[i]? with
  | some (.own xs) => some xs
  | _ => none
/-- within a comprehension: what the lambdas' cells hold can be read, the cells are out of reach -/
def shutSl (s : So) : Sl → Sl
  | .cel n => (match s[n]? with
    | some (.cel (some d)) => .v d
    | _ => .no)
  | sl => sl
def shutE (s : So) (e : En) : En := e.map (shutSl s)
def shut1 (s : So) : Sl → So
  | .cel n => s.set n (.cel none)
  | _ => s
def shutS (e : En) (s : So) : So := e.foldl shut1 s
def openSl : Sl → Sl → Sl
  | .cel n, _ => .cel n
  | _, b => b
def openE (e e' : En) : En := e.zipWith openSl e'
def open1 (s : So) (s' : So) : Sl → So
  | .cel n => s'.set n (s[n]?.getD (.cel none))
  | _ => s'
def openS (e : En) (s s' : So) : So := e.foldl (open1 s) s'
/-- the frame's cells are told as before -/
def cel1 (s s' : So) : Sl → Bool
  | .cel n => (match s[n]? with
    | some (.cel (some _)) => (match s'[n]? with
      | some (.cel (some _)) => true
      | _ => false)
    | _ => true)
  | _ => true
def cellsOn (e : En) (s s' : So) : Bool := e.all (cel1 s s')
/-- the answer of a call, in a frame -/
def R.back (e : En) (s : So) : Rc → R D
  | .ok d s' => if cellsOn e s s' then .ok d e (openS e s s') else .stuck
  | .exc x s' => if cellsOn e s s' then .exc x e (openS e s s') else .stuck
  | .stuck => .stuck
def truR (d : D) (e : En) (s : So) : R Bool := R.of (tru d) e s
/-- nothing may be raised within -/
def R.calm {α : Type} : R α → R α
  | .ok a e s => .ok a e s
  | _ => .stuck
def cellAt (e : En) (i : Nat) : Option Nat := match e[i]? with
  | some (Sl.cel n) => some n
  | _ => none
def cellsOf (e : En) : List Nat → Option (List Nat)
  | [] => some []
  | i :: r => match cellAt e i, cellsOf e r with
    | some n, some ns => some (n :: ns)
    | _, _ => none

/-- a[y] = z, a dict of the store -/
def putAt (s : So) (x y z : D) : Option So := match x with
  | .ref n => (match s[n]?, keyOf y with
    | some (.dic kvs), some k => if kvs.length < sizeLine then some (s.set n (.dic (putK kvs k z))) else none
    | _, _ => none)
  | _ => none
section
variable (cx : Cc)
mutual
def E : Ex → En → So → R D
  | .c d, e, s => .ok d e s
  | .v i, e, s => rd i e s
  | .neg a, e, s => (E a e s).bind fun x e s => (match x with
    | .int i => .ok (.int (-i)) e s
    | _ => .stuck)
  | .not a, e, s => (E a e s).bind fun x e s => (truR x e s).bind fun b e s => .ok (.bl (!b)) e s
  | .bin o a b, e, s => (E a e s).bind fun x e s => (E b e s).bind fun y e s => R.of (bo o x y) e s
  | .cmp o a b, e, s => (E a e s).bind fun x e s => (E b e s).bind fun y e s => R.of ((co o x y).map .bl) e s
  | .cmp2 o p a b c, e, s => (E a e s).bind fun x e s => (E b e s).bind fun y e s => (R.of (co o x y) e s).bind fun k e s =>
    (match k with
      | true => (E c e s).bind fun z e s => R.of ((co p y z).map .bl) e s
      | false => .ok (.bl false) e s)
  | .and a b, e, s => (E a e s).bind fun x e s => (truR x e s).bind fun k e s => (match k with
    | true => E b e s
    | false => .ok x e s)
  | .or a b, e, s => (E a e s).bind fun x e s => (truR x e s).bind fun k e s => (match k with
    | true => .ok x e s
    | false => E b e s)
  | .ite t a b, e, s => (E t e s).bind fun x e s => (truR x e s).bind fun k e s => (match k with
    | true => E a e s
    | false => E b e s)
  | .tup es, e, s => (Es es e s).bind fun xs e s => .ok (.tup xs) e s
  | .lst es, e, s => (Es es e s).bind fun xs e s => .ok (.lst xs) e s
  | .dic ks es, e, s => (Es es e s).bind fun xs e s => if ks.length = xs.length ∧ ks.Nodup then .ok (.ref s.length) e (s ++ [.dic (ks.zip xs)]) else .stuck
  | .ix a b, e, s => (E a e s).bind fun x e s => (E b e s).bind fun y e s => R.of (ix s x y) e s
  | .dct ks es, e, s => (Es es e s).bind fun xs e s => if ks.length = xs.length ∧ ks.Nodup then .ok (.dct ks xs) e s else .stuck
  | .ixv i b, e, s => (R.of (pk i e s) e s).bind fun _ e s => (E b e s).bind fun y e s => R.of ((pk i e s).bind fun x => ix s x y) e s
  | .slc a lo hi, e, s => (E a e s).bind fun x e s => (Eo lo e s).bind fun l e s => (R.of (bnd l) e s).bind fun l e s => (Eo hi e s).bind fun h e s => (R.of (bnd h) e s).bind fun h e s => R.of (slc x l h) e s
  | .back a, e, s => (E a e s).bind fun x e s => (match x with
    | .lst xs => .ok (.lst xs.reverse) e s
    | _ => .stuck)
  | .lenv i, e, s => R.of ((pk i e s).bind fun x => bi s .len [x]) e s
  | .inv o a i, e, s => (E a e s).bind fun x e s => R.of ((pk i e s).bind fun y => (co o x y).map .bl) e s
  | .call f es, e, s => (Es es e s).bind fun xs e s => R.back e s (cx.call f xs s)
  | .app a es, e, s => (E a e s).bind fun g e s => (match g with
    | .fn f => (Es es e s).bind fun xs e s => R.back e s (cx.call f xs s)
    | .clo k cs => (Es es e s).bind fun xs e s => R.back e s (cx.app k cs xs s)
    | _ => .stuck)
  | .bi b es, e, s => (Es es e s).bind fun xs e s => R.of (bi s b xs) e s
  | .comp own t w es ifs a, e, s => (Es es e s).bind fun ws e s => (R.of (walk w ws) e s).bind fun items e s =>
    (compGo (fun x e s => (R.of (asgT t x e s) e s).bind fun q _ _ => (Eo ifs q.1 q.2).bind fun c e s => match c with
      | none => (E a e s).bind fun d e s => .ok (some d) (wipeE e own) s
      | some c => (truR c e s).bind fun k e s => (match k with
        | true => (E a e s).bind fun d e s => .ok (some d) (wipeE e own) s
        | false => .ok none (wipeE e own) s)) items (wipeE (shutE s e) own) (shutS e s)).calm.bind fun ds e' s' => if ds.length ≤ sizeLine then .ok (.lst ds) (openE e (backE e e' own)) (openS e s s') else .stuck
  | .lam k cs, e, s => (R.of (cellsOf e cs) e s).bind fun ns e s => .ok (.clo k ns) e s
def Es : Exs → En → So → R (List D)
  | .nil, e, s => .ok [] e s
  | .cons a r, e, s => (E a e s).bind fun x e s => (Es r e s).bind fun xs e s => .ok (x :: xs) e s
def Eo : Exo → En → So → R (Option D)
  | .no, e, s => .ok none e s
  | .so a, e, s => (E a e s).bind fun x e s => .ok (some x) e s
end
def T (a : Ex) (e : En) (s : So) : R Bool := (E cx a e s).bind truR

def hdl (hs : List (Nat × List (Sum D Nat))) (x : Xn) : Option D := match hs with
  | [] => none
  | (c, its) :: r => if c = x.c then (its.mapM fun (q : Sum D Nat) => match q with
      | .inl d => some d
      | .inr n => x.fs[n]?).map .tup
    else hdl r x
def caught (hs : List (Nat × List (Sum D Nat))) (x : Xn) : Bool := hs.any fun h => h.1 == x.c

mutual
def S : St → En → So → R Fl
  | .pass, e, s => .ok .nx e s
  | .ex a, e, s => (E cx a e s).bind fun _ e s => .ok .nx e s
  | .set t a, e, s => (E cx a e s).bind fun x e s => (R.of (asgT t x e s) e s).bind fun q _ _ => .ok .nx q.1 q.2
  | .par is es, e, s => (Es cx es e s).bind fun ds e s => (R.of (parN is ds e) e s).bind fun e' _ _ => .ok .nx e' s
  | .own i a, e, s => if a.fresh then (E cx a e s).bind fun x e s => (match x, e[i]? with
    | .lst _, some (.cel _) => .stuck
    | .lst xs, some _ => .ok .nx (e.set i (.own xs)) s
    | _, _ => .stuck) else .stuck
  | .setix a b c, e, s => (E cx c e s).bind fun z e s => (E cx a e s).bind fun x e s => (E cx b e s).bind fun y e s => (R.of (putAt s x y z) e s).bind fun s' e _ => .ok .nx e s'
  | .setixv i b c, e, s => (E cx c e s).bind fun z e s => (E cx b e s).bind fun y e s => (match e[i]?, y with
    | some (.own xs), .int k => (match ixAt xs.length k with
      | some j => .ok .nx (e.set i (.own (xs.set j z))) s
      | none => .stuck)
    | _, _ => .stuck)
  | .aug i o a, e, s => (R.of (pk i e s) e s).bind fun x e s => (E cx a e s).bind fun y e s => (R.of (bo o x y) e s).bind fun z e s =>
    (R.of (wr i z e s) e s).bind fun q _ _ => .ok .nx q.1 q.2
  | .app i a, e, s => (R.of (ownAt e i) e s).bind fun _ _ _ => (E cx a e s).bind fun z e s => (R.of (ownAt e i) e s).bind fun xs _ _ =>
    if xs.length < sizeLine then .ok .nx (e.set i (.own (xs ++ [z]))) s else .stuck
  | .ins i a b, e, s => (E cx a e s).bind fun y e s => (E cx b e s).bind fun z e s => (match e[i]?, y with
    | some (.own xs), .int k => if 0 ≤ k ∧ k < 2 ^ 62 ∧ xs.length < sizeLine then .ok .nx (e.set i (.own (xs.take k.toNat ++ z :: xs.drop k.toNat))) s else .stuck
    | _, _ => .stuck)
  | .ite t a b, e, s => (T cx t e s).bind fun k e s => (match k with
    | true => Ss a e s
    | false => Ss b e s)
  | .loop t w es b, e, s => (Es cx es e s).bind fun ws e s => (R.of (walk w ws) e s).bind fun items e s =>
    forGo (fun x e s => (R.of (asgT t x e s) e s).bind fun q _ _ => Ss b q.1 q.2) items e s
  | .whl t b, e, s => whlGo (T cx t) (Ss b) cx.fuel e s
  | .ret a, e, s => (E cx a e s).bind fun d e s => .ok (.rt d) e s
  | .brk, e, s => .ok .bk e s
  | .cont, e, s => .ok .ct e s
  | .rais c es, e, s => (Es cx es e s).bind fun xs e s => .exc ⟨c, xs⟩ e s
  | .tri b hs, e, s => (match Ss b e s with
    | .ok f e s => .ok f e s
    | .exc x e s => (match caught hs x with
      | true => (R.of (hdl hs x) e s).bind fun d e s => .ok (.rt d) e s
      | false => .exc x e s)
    | .stuck => .stuck)
def Ss : Sts → En → So → R Fl
  | .nil, e, s => .ok .nx e s
  | .cons a r, e, s => (S a e s).bind fun f e s => (match f with
    | .nx => Ss r e s
    | f => .ok f e s)
end
end

/-! ### defs -/
structure Fd where
  /-- parameters, places, the places that lambdas hold -/
  np : Nat
  ns : Nat
  cells : List Nat := []
  body : Sts
structure Ld where
  np : Nat
  ns : Nat
  body : Ex
structure Prg where
  fns : List Fd
  lams : List Ld := []
/-- cells laid -/
def slVal : Sl → Option D
  | .v d => some d
  | _ => none
def layCells : List Nat → En → So → En × So
  | [], e, s => (e, s)
  | i :: r, e, s => layCells r (e.set i (.cel s.length)) (s ++ [.cel (slVal (e[i]?.getD .no))])
/-- a frame's end: its cells are out of reach -/
def fin : R Fl → Rc
  | .ok (.rt d) e s => .ok d (shutS e s)
  | .ok .nx e s => .ok .non (shutS e s)
  | .exc x e s => .exc x (shutS e s)
  | _ => .stuck
def finE : R D → Rc
  | .ok d _ s => .ok d s
  | .exc x _ s => .exc x s
  | _ => .stuck
@[simp] theorem fin_rt (d : D) (e : En) (s : So) : fin (.ok (.rt d) e s) = .ok d (shutS e s) := rfl
@[simp] theorem fin_nx (e : En) (s : So) : fin (.ok .nx e s) = .ok .non (shutS e s) := rfl
@[simp] theorem fin_exc (x : Xn) (e : En) (s : So) : fin (.exc x e s) = .exc x (shutS e s) := rfl
@[simp] theorem finE_ok (d : D) (e : En) (s : So) : finE (.ok d e s) = .ok d s := rfl
@[simp] theorem finE_exc (x : Xn) (e : En) (s : So) : finE (.exc x e s) = .exc x s := rfl
def env0 (np ns : Nat) (args : List D) : En := args.map .v ++ List.replicate (ns - np) .no
def runF (cx : Cc) (f : Fd) (args : List D) (s : So) : Rc :=
  if args.length = f.np then (let q := layCells f.cells (env0 f.np f.ns args) s
    fin (Ss cx f.body q.1 q.2))
  else .stuck
/-- a cell that has a value -/
def told1 (s : So) (n : Nat) : Bool := match s[n]? with
  | some (.cel (some _)) => true
  | _ => false
def runL (cx : Cc) (l : Ld) (cs : List Nat) (args : List D) (s : So) : Rc :=
  if args.length = l.np ∧ l.np + cs.length = l.ns ∧ cs.Nodup ∧ cs.all (told1 s) = true then finE (E cx l.body (args.map .v ++ cs.map .cel) s) else .stuck
/-- calls that go n deep -/
def cc (P : Prg) (fuel : Nat) : Nat → Cc
  | 0 => ⟨fun _ _ _ => .stuck, fun _ _ _ _ => .stuck, fuel⟩
  | n + 1 => ⟨fun f args s => match P.fns[f]? with
      | some fd => runF (cc P fuel n) fd args s
      | none => .stuck,
    fun k cs args s => match P.lams[k]? with
      | some l => runL (cc P fuel n) l cs args s
      | none => .stuck, fuel⟩
end KP
end
section
set_option autoImplicit false
set_option linter.all false
set_option maxRecDepth 100000
/-! KRel: how the values of KCore stand in the model's heap. -/
namespace KP
open PySem PySem.Spec PyProof.Rows L2

/-- a lambda as it is written: its names: the parameters, then what it holds -/
structure LamD where
  params : Arguments
  body : Expr
  scope : Scope
  qual : Str
  ps : List Str
  caps : List Str
instance : Inhabited LamD := ⟨⟨⟨[], [], none, [], [], none, []⟩, .Constant .none 0 ⟨0, 0, 0, 0⟩, ⟨.function, [], false, false, []⟩, ⟨#[]⟩, [], []⟩⟩
/-- where the defs and the classes stand; the lambdas; the tables of code objects -/
structure Glo where
  fnA : Nat → Addr
  clA : Nat → Addr
  nC : Nat
  lam : Nat → LamD := fun _ => default
  T : List (Addr × Str) := []

def tyN : Nat → String
  | 0 => "int"
  | 1 => "bool"
  | 2 => "str"
  | 3 => "list"
  | 4 => "tuple"
  | 5 => "dict"
  | _ => "NoneType"

/-- a list that no one changes: locked, or of the module -/
def FrL (K : PySem.W.Frag) (H : Hp) (a : Addr) (vs : List V) : Prop :=
  (∃ o, H a = some (.frz o (.lst vs))) ∨
    ∃ (its : List Value) (n : Nat), K.lookup a = some { cls := .type "list", data := .seq its.toArray n } ∧ its.length ≤ sizeLine ∧ Vals vs its
theorem FrL.sq {K : PySem.W.Frag} {H : Hp} {a : Addr} {vs : List V} (h : FrL K H a vs) : SqL K H a vs := by
  rcases h with ⟨o, h⟩ | h
  · exact .inl (.inr ⟨o, h⟩)
  · obtain ⟨its, n, hk, hz, r⟩ := h
    exact .inr ⟨_, its.toArray, n, hk, rfl, rfl, rfl, by simpa using hz, by simpa using r⟩
theorem FrL.obj {X : Cx} {pins : List (Addr × Obj)} {σ : L2.St} {H : Hp} {s : Shared} {a : Addr} {vs : List V} (I : Inv X pins σ H s) (h : FrL X.K H a vs) :
    vs.length ≤ sizeLine ∧ ∃ (its : List Value) (n : Nat), Vals vs its ∧ s.heap.get? a = some { cls := .type "list", data := .seq its.toArray n } := by
  rcases h with ⟨o, h⟩ | ⟨its, n, hk, hz, r⟩
  · exact (I.hok a _ h).2
  · exact ⟨by rw [r.length]; exact hz, its, n, r, I.kIn a _ hk⟩

section
variable (K : PySem.W.Frag) (G : Glo) (H : Hp) (ρ : List Addr)
mutual
inductive Rep : D → V → Prop
  | non : Rep .non .non
  | bl (b : Bool) : Rep (.bl b) (.bl b)
  | int (i : Int) : Rep (.int i) (.int i)
  | str (x : Str) : Rep (.str x) (.str x)
  | ty (n : Nat) : Rep (.ty n) (.ty (tyN n))
  | tup {a : Addr} {vs : List V} {xs : List D} : SqT K H a vs → RepL xs vs → Rep (.tup xs) (.ref a)
  | lst {a : Addr} {vs : List V} {xs : List D} : FrL K H a vs → RepL xs vs → Rep (.lst xs) (.ref a)
  | ref {n : Nat} {a : Addr} : ρ[n]? = some a → Rep (.ref n) (.ref a)
  | fn (f : Nat) : Rep (.fn f) (.ref (G.fnA f))
  | cls (c : Nat) : Rep (.cls c) (.ref (G.clA c))
  | clo {k : Nat} {cs : List Nat} {a c' : Addr} {pm ctv : Value} {clos : List (Str × Addr)} :
    H a = some (.frz (PySem.W.kla_obj "<lambda>" (G.lam k).qual (G.lam k).params (G.lam k).body (G.lam k).scope clos pm c' ctv) (.own a)) → H c' = some (LamX.CodeO c' (G.lam k).qual) → cs.length = (G.lam k).caps.length →
    (∀ (j n : Nat) (x : Str), cs[j]? = some n → (G.lam k).caps[j]? = some x → ∃ b, ρ[n]? = some b ∧ clos.lookup x = some b) →
    (∀ x b, clos.lookup x = some b → x ∈ (G.lam k).caps) → (∀ x y b, clos.lookup x = some b → clos.lookup y = some b → x = y) → Rep (.clo k cs) (.ref a)
  | dct {a : Addr} {ks : List Str} {vs : List V} {xs : List D} : ks.length = vs.length → (∃ o, H a = some (.frz o (.dK ((ks.map Sum.inr).zip vs)))) → RepL xs vs → Rep (.dct ks xs) (.ref a)
inductive RepL : List D → List V → Prop
  | nil : RepL [] []
  | cons {x : D} {v : V} {xs : List D} {vs : List V} : Rep x v → RepL xs vs → RepL (x :: xs) (v :: vs)
end
end

section
variable {K : PySem.W.Frag} {G : Glo} {H H' H1 : Hp} {ρ ρ' : List Addr}
theorem RepL.length : ∀ {xs : List D} {vs : List V}, RepL K G H ρ xs vs → xs.length = vs.length
  | _, _, .nil => rfl
  | _, _, .cons _ t => congrArg Nat.succ t.length
theorem RepL.get : ∀ {xs : List D} {vs : List V} {i : Nat} {x : D}, RepL K G H ρ xs vs → xs[i]? = some x → ∃ v, vs[i]? = some v ∧ Rep K G H ρ x v
  | _, _, _, _, .nil, e => by simp at e
  | _, _, 0, _, .cons r _, e => by
    simp at e
    subst e
    exact ⟨_, rfl, r⟩
  | _, _, i + 1, _, .cons _ t, e => by
    obtain ⟨v, h1, h2⟩ := RepL.get (i := i) t (by simpa using e)
    exact ⟨v, by simpa using h1, h2⟩
theorem RepL.append : ∀ {xs ys : List D} {vs ws : List V}, RepL K G H ρ xs vs → RepL K G H ρ ys ws → RepL K G H ρ (xs ++ ys) (vs ++ ws)
  | _, _, _, _, .nil, s => s
  | _, _, _, _, .cons r t, s => .cons r (RepL.append t s)
theorem RepL.take : ∀ {xs : List D} {vs : List V} (n : Nat), RepL K G H ρ xs vs → RepL K G H ρ (xs.take n) (vs.take n)
  | _, _, 0, _ => .nil
  | _, _, _ + 1, .nil => .nil
  | _, _, n + 1, .cons r t => .cons r (RepL.take n t)
theorem RepL.drop : ∀ {xs : List D} {vs : List V} (n : Nat), RepL K G H ρ xs vs → RepL K G H ρ (xs.drop n) (vs.drop n)
  | _, _, 0, r => r
  | _, _, _ + 1, .nil => .nil
  | _, _, n + 1, .cons _ t => RepL.drop n t
theorem RepL.set {x : D} {v : V} (r : Rep K G H ρ x v) : ∀ {xs : List D} {vs : List V} (i : Nat), RepL K G H ρ xs vs → RepL K G H ρ (xs.set i x) (vs.set i v)
  | _, _, _, .nil => .nil
  | _, _, 0, .cons _ t => .cons r t
  | _, _, i + 1, .cons q t => .cons q (RepL.set r i t)
theorem RepL.reverse : ∀ {xs : List D} {vs : List V}, RepL K G H ρ xs vs → RepL K G H ρ xs.reverse vs.reverse
  | _, _, .nil => .nil
  | _, _, .cons r t => by
    rw [List.reverse_cons, List.reverse_cons]
    exact (RepL.reverse t).append (.cons r .nil)
theorem RepL.rep {xs : List D} {vs : List V} (r : RepL K G H ρ xs vs) : ∀ n : Nat, RepL K G H ρ (List.replicate n xs).flatten (List.replicate n vs).flatten
  | 0 => .nil
  | n + 1 => by
    rw [List.replicate_succ, List.replicate_succ, List.flatten_cons, List.flatten_cons]
    exact r.append (RepL.rep r n)

/-- what stands for good stays -/
structure Keep (H H' : Hp) : Prop where
  tups : ∀ b xs, H b = some (.tup xs) → H' b = some (.tup xs)
  frzs : ∀ b o u, H b = some (.frz o u) → (∀ φ, u ≠ .ext φ) → H' b = some (.frz o u)
  codes : ∀ b q, H b = some (LamX.CodeO b q) → H' b = some (LamX.CodeO b q)
theorem Keep.refl (H : Hp) : Keep H H := ⟨fun _ _ h => h, fun _ _ _ h _ => h, fun _ _ h => h⟩
theorem Keep.trans (a : Keep H H') (b : Keep H' H1) : Keep H H1 := ⟨fun c xs h => b.tups c xs (a.tups c xs h), fun c o u h n => b.frzs c o u (a.frzs c o u h n) n, fun c q h => b.codes c q (a.codes c q h)⟩
theorem Keep.sqT (k : Keep H H') {a : Addr} {vs : List V} (h : SqT K H a vs) : SqT K H' a vs := by
  rcases h with (h | ⟨o, h⟩) | h
  · exact .inl (.inl (k.tups _ _ h))
  · exact .inl (.inr ⟨o, k.frzs _ _ _ h fun φ z => by cases z⟩)
  · exact .inr h
theorem Keep.frL (k : Keep H H') {a : Addr} {vs : List V} (h : FrL K H a vs) : FrL K H' a vs := by
  rcases h with ⟨o, h⟩ | h
  · exact .inl ⟨o, k.frzs _ _ _ h fun φ z => by cases z⟩
  · exact .inr h
theorem Keep.upd {a : Addr} {o : HO} (h : ∀ xs, H a ≠ some (.tup xs)) (h' : ∀ ob u, H a ≠ some (.frz ob u)) (h4 : ∀ φ, H a ≠ some (.ext φ)) : Keep H (upd H a o) where
  tups := fun b xs q => by
    by_cases e : b = a
    · subst e; exact absurd q (h xs)
    · rw [upd_ne e]; exact q
  frzs := fun b ob u q _ => by
    by_cases e : b = a
    · subst e; exact absurd q (h' ob u)
    · rw [upd_ne e]; exact q
  codes := fun b q z => by
    by_cases e : b = a
    · subst e; exact absurd z (h4 _)
    · rw [upd_ne e]; exact z
/-- tables stay good when no table and no code is changed -/
theorem tabK_upd {a : Addr} {o : HO} (h3 : ∀ ps, H a ≠ some (.tbl ps)) (h4 : ∀ φ, H a ≠ some (.ext φ)) {b : Addr} {q : Str} (t : LamX.TabS H b q) : LamX.TabS (upd H a o) b q := by
  obtain ⟨ps, t1, t2, t3⟩ := t
  refine ⟨ps, ?_, t2, fun pos cv hc => ?_⟩
  · by_cases e : b = a
    · subst e; exact absurd t1 (h3 _)
    · rw [upd_ne e]; exact t1
  · obtain ⟨c, e1, e2⟩ := t3 pos cv hc
    refine ⟨c, e1, ?_⟩
    by_cases e : c = a
    · subst e; exact absurd e2 (h4 _)
    · rw [upd_ne e]; exact e2
theorem tabK_lst {a : Addr} {o : HO} {xs : List V} (h : H a = some (.lst xs)) {b : Addr} {q : Str} (t : LamX.TabS H b q) : LamX.TabS (upd H a o) b q := tabK_upd (fun ps e => by rw [h] at e; cases e) (fun φ e => by rw [h] at e; cases e) t
theorem Keep.new {a : Addr} {o : HO} (h : H a = none) : Keep H (L2.upd H a o) := Keep.upd (fun xs e => by rw [h] at e; cases e) (fun ob u e => by rw [h] at e; cases e) fun φ e => by rw [h] at e; cases e
theorem Keep.ofLst {a : Addr} {o : HO} {xs : List V} (h : H a = some (.lst xs)) : Keep H (L2.upd H a o) := Keep.upd (fun xs e => by rw [h] at e; cases e) (fun ob u e => by rw [h] at e; cases e) fun φ e => by rw [h] at e; cases e
theorem pre_get {ρ ρ' : List Addr} (p : ρ <+: ρ') {n : Nat} {a : Addr} (h : ρ[n]? = some a) : ρ'[n]? = some a := by
  obtain ⟨t, rfl⟩ := p
  have hn : n < ρ.length := (List.getElem?_eq_some_iff.mp h).1
  rw [List.getElem?_append_left hn]
  exact h
mutual
theorem Rep.keep (k : Keep H H') (p : ρ <+: ρ') : ∀ {x : D} {v : V}, Rep K G H ρ x v → Rep K G H' ρ' x v
  | _, _, .non => .non
  | _, _, .bl b => .bl b
  | _, _, .int i => .int i
  | _, _, .str x => .str x
  | _, _, .ty n => .ty n
  | _, _, .tup h r => .tup (k.sqT h) (RepL.keep k p r)
  | _, _, .lst h r => .lst (k.frL h) (RepL.keep k p r)
  | _, _, .ref h => .ref (pre_get p h)
  | _, _, .fn f => .fn f
  | _, _, .cls c => .cls c
  | _, _, .clo h c l r i1 i2 => .clo (k.frzs _ _ _ h fun φ z => by cases z) (k.codes _ _ c) l (fun j n x h1 h2 => let ⟨b, e1, e2⟩ := r j n x h1 h2; ⟨b, pre_get p e1, e2⟩) i1 i2
  | _, _, .dct l ⟨o, h⟩ r => .dct l ⟨o, k.frzs _ _ _ h fun φ z => by cases z⟩ (RepL.keep k p r)
theorem RepL.keep (k : Keep H H') (p : ρ <+: ρ') : ∀ {xs : List D} {vs : List V}, RepL K G H ρ xs vs → RepL K G H' ρ' xs vs
  | _, _, .nil => .nil
  | _, _, .cons r t => .cons (Rep.keep k p r) (RepL.keep k p t)
end
mutual
theorem Rep.dp : ∀ {x : D} {v : V} {d : PyData}, Rep K G H ρ x v → x.py = some d → d.hasDict = false → Dp K H v d
  | _, _, _, .non, e, _ => by cases e; exact .non
  | _, _, _, .bl b, e, _ => by cases e; exact .bl b
  | _, _, _, .int i, e, _ => by cases e; exact .int i
  | _, _, _, .str x, e, _ => by cases e; exact .str x
  | _, _, _, .ty n, e, _ => by cases e
  | _, _, _, .tup (xs := xs) h r, e, n => by
    rw [D.py] at e
    cases q : pyAll xs with
    | none => rw [q] at e; cases e
    | some ps => rw [q] at e; cases e; exact .tup h (RepL.dp r q n)
  | _, _, _, .lst (xs := xs) h r, e, n => by
    rw [D.py] at e
    cases q : pyAll xs with
    | none => rw [q] at e; cases e
    | some ps => rw [q] at e; cases e; exact .lst h.sq (RepL.dp r q n)
  | _, _, _, .ref h, e, _ => by cases e
  | _, _, _, .fn f, e, _ => by cases e
  | _, _, _, .cls c, e, _ => by cases e
  | _, _, _, .clo _ _ _ _ _ _, e, _ => by cases e
  | _, _, _, .dct (xs := xs) l h r, e, n => by
    rw [D.py] at e
    split at e
    · obtain ⟨ps, _, rfl⟩ := Option.map_eq_some_iff.mp e
      cases n
    · cases e
theorem RepL.dp : ∀ {xs : List D} {vs : List V} {ds : List PyData}, RepL K G H ρ xs vs → pyAll xs = some ds → PyData.hasDictAll ds = false → DpAll K H vs ds
  | _, _, _, .nil, e, _ => by cases e; exact .nil
  | _, _, _, .cons (x := x) (xs := xs) r t, e, n => by
    rw [pyAll] at e
    cases q : x.py with
    | none => rw [q] at e; cases e
    | some p =>
      cases q2 : pyAll xs with
      | none => rw [q, q2] at e; cases e
      | some ps =>
        rw [q, q2] at e
        cases e
        rw [PyData.hasDictAll, Bool.or_eq_false_iff] at n
        exact .cons (Rep.dp r q n.1) (RepL.dp t q2 n.2)
end
end

/-! ### a list is locked -/
theorem lockL {X : Cx} {pins : List (Addr × Obj)} {σ : L2.St} {H : Hp} {s : Shared} {a : Addr} {vs : List V} (I : Inv X pins σ H s) (h : H a = some (.lst vs)) : ∃ o, Inv X pins σ (upd H a (.frz o (.lst vs))) s := I.lock h True.intro
end KP
end
section
set_option autoImplicit false
set_option linter.all false
set_option maxRecDepth 100000
/-! KPost: a frame's places and the store against the model's state; readings by what KCore does. -/
namespace KP
open PySem PySem.Spec PyProof.Rows L2

/-- a cell of another frame at c, which holds v -/
def CelO (c : Addr) (v : V) : HO := .ext fun h => ∃ u, RelV v u ∧ h.IsCell c (some u)

/-- what stood ahead of a frame stands still -/
structure Grow (H : Hp) (ρ : List Addr) (H' : Hp) (ρ' : List Addr) : Prop where
  keep : ∀ a o, H a = some o → a ∉ ρ → (∀ ps, o ≠ .tbl ps) → H' a = some o
  pre : ρ <+: ρ'
  new : ∀ a, a ∈ ρ' → a ∉ ρ → H a = none
  tbls : ∀ b ps, H b = some (.tbl ps) → ∃ more, H' b = some (.tbl (ps ++ more))
  dom : ∀ a, H' a = none → H a = none
theorem Grow.refl (H : Hp) (ρ : List Addr) : Grow H ρ H ρ := ⟨fun _ _ h _ _ => h, List.prefix_refl _, fun _ h h' => absurd h h', fun b ps h => ⟨#[], by rw [Array.append_empty]; exact h⟩, fun _ h => h⟩
theorem Grow.trans {H H1 H2 : Hp} {ρ ρ1 ρ2 : List Addr} (a : Grow H ρ H1 ρ1) (b : Grow H1 ρ1 H2 ρ2) : Grow H ρ H2 ρ2 where
  keep := fun x o h hn ht => b.keep x o (a.keep x o h hn ht) (fun z => by
    rw [a.new x z hn] at h
    cases h) ht
  pre := a.pre.trans b.pre
  new := fun x h hn => by
    by_cases q : x ∈ ρ1
    · exact a.new x q hn
    · cases e : H x with
      | none => rfl
      | some o =>
        by_cases t : ∃ ps, o = .tbl ps
        · obtain ⟨ps, rfl⟩ := t
          obtain ⟨m, e2⟩ := a.tbls x ps e
          rw [b.new x h q] at e2
          cases e2
        · rw [← b.new x h q, a.keep x o e hn fun ps z => t ⟨ps, z⟩]
  tbls := fun x ps h => by
    obtain ⟨m, e⟩ := a.tbls x ps h
    obtain ⟨m2, e2⟩ := b.tbls x _ e
    exact ⟨m ++ m2, by rw [← Array.append_assoc]; exact e2⟩
  dom := fun x h => a.dom x (b.dom x h)
section
variable (K : PySem.W.Frag) (G : Glo)
/-- a thing of the store at a -/
def ObRep (H : Hp) (ρ : List Addr) (a : Addr) : Ob → Prop
  | .lst xs => ∃ vs, H a = some (.lst vs) ∧ RepL K G H ρ xs vs
  | .dic kvs => ∃ kws, H a = some (.dK kws) ∧ Paired (fun (p : Ky × D) (q : Key × V) => p.1 = q.1 ∧ Rep K G H ρ p.2 q.2) kvs kws
  | .ins _ _ => False
  | .cel none => True
  | .cel (some d) => ∃ oc v, H a = some (.frz oc (CelO a v)) ∧ Rep K G H ρ d v

/-- the base of a frame: the abstract heap and the store's places at its entry; may the frame have cells that lambdas hold -/
structure Bs where
  h : Hp
  r : List Addr
  nc : Bool
  /-- places that no one may change -/
  av : Addr → Prop := fun _ => False

/-- at most cells out of reach stand there -/
def Dead (ρ : List Addr) (st : So) (env : En) (a : Addr) : Prop := ∀ (n : Nat) (ob : Ob), ρ[n]? = some a → st[n]? = some ob → Sl.cel n ∉ env → ob = Ob.cel none
structure Rel (X : Cx) (B : Bs) (σ : L2.St) (H : Hp) (env : En) (st : So) (ρ : List Addr) : Prop where
  gr : Grow B.h B.r H ρ
  nc : B.nc = true → ∀ n, Sl.cel n ∉ env
  tb : ∀ p ∈ G.T, LamX.TabS H p.1 p.2
  pt : ∀ a, B.av a → ∀ ps, B.h a ≠ some (.tbl ps)
  pv : ∀ a, B.av a → ∃ o, B.h a = some o ∧ H a = some o ∧ Dead ρ st env a
  len : ρ.length = st.length
  nd : ∀ (n m : Nat) (a : Addr) (ob ob' : Ob), ρ[n]? = some a → ρ[m]? = some a → n ≠ m → st[n]? = some ob → st[m]? = some ob' → Sl.cel n ∉ env → Sl.cel m ∉ env → ob = Ob.cel none ∨ ob' = Ob.cel none
  so : ∀ (n : Nat) (a : Addr) (ob : Ob), ρ[n]? = some a → st[n]? = some ob → Sl.cel n ∉ env → ObRep K G H ρ a ob
  sc : ∀ (n : Nat) (ob : Ob), st[n]? = some ob → Sl.cel n ∈ env → ∃ v, ob = Ob.cel v
  el : env.length = X.N.length
  ev : ∀ (i : Nat) (d : D), env[i]? = some (Sl.v d) → ∃ v, σ[i]? = some (some v) ∧ Rep K G H ρ d v
  eo : ∀ (i : Nat) (xs : List D), env[i]? = some (Sl.own xs) → ∃ p vs, σ[i]? = some (some (V.ref p)) ∧ H p = some (.lst vs) ∧ RepL K G H ρ xs vs ∧ Dead ρ st env p ∧ B.h p = none
  ed : ∀ (i j : Nat) (xs ys : List D) (p : Addr), env[i]? = some (Sl.own xs) → env[j]? = some (Sl.own ys) → σ[i]? = some (some (V.ref p)) → σ[j]? = some (some (V.ref p)) → i = j
  ec : ∀ (i n : Nat), env[i]? = some (Sl.cel n) → ∃ x a, X.N[i]? = some x ∧ ρ[n]? = some a ∧ (Vis X.env.scope x → X.env.cells.lookup x = some a ∧ X.env.scope.names.lookup x ≠ some .local ∧ X.base.get? a = none ∧ a ∉ frs X.stack) ∧
    ∀ d, st[n]? = some (Ob.cel (some d)) → Vis X.env.scope x ∧ ∃ v, σ[i]? = some (some v) ∧ Rep K G H ρ d v
  ei : ∀ (i j n : Nat), env[i]? = some (Sl.cel n) → env[j]? = some (Sl.cel n) → i = j

/-- an error's class and its dict -/
def XRep (fld : Nat → List Str) (H : Hp) (ρ : List Addr) (x : Xn) (cls : Value) (d : Option Addr) : Prop :=
  cls = .ref (G.clA x.c) ∧ x.c < G.nC ∧ ∃ (dd : Addr) (fs : List (Str × V)), d = some dd ∧ H dd = some (.xd fs) ∧ ∀ (i : Nat) (nm : Str) (q : D), (fld x.c)[i]? = some nm → x.fs[i]? = some q → ∃ v : V, fs.lookup nm = some v ∧ Rep K G H ρ q v
end

section
variable {K : PySem.W.Frag} {G : Glo} {X : Cx} {B : Bs} {σ : L2.St} {H H' : Hp} {env : En} {st : So} {ρ ρ' : List Addr}
theorem _root_.L2.Same.keep (s : Same H H') : Keep H H' := ⟨fun b xs h => s b _ h, fun b o u h _ => s b _ h, fun b q h => s b _ h⟩
theorem same_new {a : Addr} {o : HO} (h : H a = none) : Same H (upd H a o) := fun b u e => by
  rw [upd_ne (ne_of_none e h)]
  exact e
theorem Rep.same {x : D} {v : V} (s : Same H H') (r : Rep K G H ρ x v) : Rep K G H' ρ x v := r.keep s.keep (List.prefix_refl _)
theorem RepL.same {x : List D} {v : List V} (s : Same H H') (r : RepL K G H ρ x v) : RepL K G H' ρ x v := r.keep s.keep (List.prefix_refl _)
theorem Grow.same {H0 : Hp} {ρ0 : List Addr} (g : Grow H0 ρ0 H ρ) (s : Same H H') : Grow H0 ρ0 H' ρ := ⟨fun a o h hn ht => s a o (g.keep a o h hn ht), g.pre, g.new, fun b ps h => let ⟨m, e⟩ := g.tbls b ps h; ⟨m, s _ _ e⟩, fun a h => g.dom a (by
  cases e : H a with
  | none => rfl
  | some o => rw [s _ _ e] at h; cases h)⟩
theorem ObRep.same {a : Addr} {ob : Ob} (s : Same H H') (r : ObRep K G H ρ a ob) : ObRep K G H' ρ a ob := by
  cases ob with
  | lst xs =>
    obtain ⟨vs, h, q⟩ := r
    exact ⟨vs, s _ _ h, q.same s⟩
  | dic kvs =>
    obtain ⟨kws, h, q⟩ := r
    exact ⟨kws, s _ _ h, Paired.mapP q fun p q z => ⟨z.1, z.2.same s⟩⟩
  | ins c fs => exact r
  | cel v =>
    cases v with
    | none => exact r
    | some d =>
      obtain ⟨oc, v, h, q⟩ := r
      exact ⟨oc, v, s _ _ h, q.same s⟩
theorem Rel.same (R : Rel K G X B σ H env st ρ) (s : Same H H') : Rel K G X B σ H' env st ρ where
  gr := R.gr.same s
  nc := R.nc
  tb := fun p hp => (R.tb p hp).ext s
  pt := R.pt
  pv := fun a h => let ⟨o, h1, h2, h3⟩ := R.pv a h; ⟨o, h1, s _ _ h2, h3⟩
  len := R.len
  nd := R.nd
  so := fun n a ob h1 h2 h3 => (R.so n a ob h1 h2 h3).same s
  sc := R.sc
  el := R.el
  ev := fun i d h => let ⟨v, h1, h2⟩ := R.ev i d h; ⟨v, h1, h2.same s⟩
  eo := fun i xs h => let ⟨p, vs, h1, h2, h3, h4⟩ := R.eo i xs h; ⟨p, vs, h1, s _ _ h2, h3.same s, h4⟩
  ed := R.ed
  ec := fun i n h => let ⟨x, a, h1, h2, h3, h4⟩ := R.ec i n h; ⟨x, a, h1, h2, h3, fun d hd => let ⟨q1, v, q2, q3⟩ := h4 d hd; ⟨q1, v, q2, q3.same s⟩⟩
  ei := R.ei

/-! ### what is wanted behind -/
variable (K G X B)
def Post (fld : Nat → List Str) (W : WX) {α : Type} (r : R α) (σ : L2.St) (H : Hp) (ρ : List Addr) (ψ : α → Hp → List Addr → En → So → Prop) : Prop := match r with
  | .ok a e s => ∀ H' ρ', Keep H H' → ρ <+: ρ' → Rel K G X B σ H' e s ρ' → ψ a H' ρ' e s
  | .exc x e s => ∀ cls dd H' ρ', Keep H H' → ρ <+: ρ' → Rel K G X B σ H' e s ρ' → XRep K G fld H' ρ' x cls dd → W cls dd σ H'
  | .stuck => False
/-- the reading of an expression that does m -/
def tOf (fld : Nat → List Str) (W : WX) (m : En → So → R D) : TE := fun σ H Q => ∃ env st ρ, Rel K G X B σ H env st ρ ∧ Post K G X B fld W (m env st) σ H ρ fun d H' ρ' _ _ => ∀ v, Rep K G H' ρ' d v → Q v H'
def tOfT (fld : Nat → List Str) (W : WX) (m : En → So → R Bool) : TT := fun σ H Q => ∃ env st ρ, Rel K G X B σ H env st ρ ∧ Post K G X B fld W (m env st) σ H ρ fun d H' _ _ _ => Q d H'
def tOfA (fld : Nat → List Str) (W : WX) (m : En → So → R (List D)) : TA := fun σ H Q => ∃ env st ρ, Rel K G X B σ H env st ρ ∧ Post K G X B fld W (m env st) σ H ρ fun ds H' ρ' _ _ => ∀ vs, RepL K G H' ρ' ds vs → Q vs H'
variable {K G X B}
variable {fld : Nat → List Str} {W : WX} {α β : Type}
theorem Post.imp {r : R α} {ψ ψ' : α → Hp → List Addr → En → So → Prop} (h : Post K G X B fld W r σ H ρ ψ)
    (f : ∀ a H' ρ' e s, Keep H H' → ρ <+: ρ' → Rel K G X B σ H' e s ρ' → ψ a H' ρ' e s → ψ' a H' ρ' e s) : Post K G X B fld W r σ H ρ ψ' := by
  cases r with
  | ok a e s => exact fun H' ρ' k p R => f _ _ _ _ _ k p R (h H' ρ' k p R)
  | exc x e s => exact h
  | stuck => exact h
theorem Post.from {r : R α} {ψ : α → Hp → List Addr → En → So → Prop} {H1 : Hp} {ρ1 : List Addr} (h : Post K G X B fld W r σ H ρ ψ) (k : Keep H H1) (p : ρ <+: ρ1) : Post K G X B fld W r σ H1 ρ1 ψ := by
  cases r with
  | ok a e s => exact fun H' ρ' k' p' R => h H' ρ' (k.trans k') (p.trans p') R
  | exc x e s => exact fun cls dd H' ρ' k' p' R => h cls dd H' ρ' (k.trans k') (p.trans p') R
  | stuck => exact h
theorem Post.bind {r : R α} {f : α → En → So → R β} {ψ : β → Hp → List Addr → En → So → Prop} (h : Post K G X B fld W (r.bind f) σ H ρ ψ) :
    Post K G X B fld W r σ H ρ fun a H' ρ' e s => Post K G X B fld W (f a e s) σ H' ρ' ψ := by
  cases r with
  | ok a e s => exact fun H' ρ' k p R => Post.from (show Post K G X B fld W (f a e s) σ H ρ ψ from h) k p
  | exc x e s => exact h
  | stuck => exact h
/-- a plain answer -/
theorem Post.of_some {o : Option α} {e : En} {s : So} {ψ : α → Hp → List Addr → En → So → Prop} (h : Post K G X B fld W (R.of o e s) σ H ρ ψ) : ∃ a, o = some a ∧ Post K G X B fld W (.ok a e s) σ H ρ ψ := by
  cases o with
  | none => exact h.elim
  | some a => exact ⟨a, rfl, h⟩
theorem Post.now {a : α} {e : En} {s : So} {ψ : α → Hp → List Addr → En → So → Prop} (h : Post K G X B fld W (.ok a e s) σ H ρ ψ) (R : Rel K G X B σ H e s ρ) : ψ a H ρ e s := h H ρ (Keep.refl H) (List.prefix_refl _) R
theorem Post.nowS {a : α} {e : En} {s : So} {ψ : α → Hp → List Addr → En → So → Prop} (h : Post K G X B fld W (.ok a e s) σ H ρ ψ) (R : Rel K G X B σ H e s ρ) (c : Same H H') : ψ a H' ρ e s := h H' ρ c.keep (List.prefix_refl _) (R.same c)

/-- from a rule's reading to ours -/
theorem pe_of {e : Expr} {t t' : TE} (h : PE X e t) (w : ∀ σ H Q, t' σ H Q → t σ H Q) : PE X e t' := ⟨fun pins s σ H Q I q => h.run pins s σ H Q I (w σ H Q q)⟩
theorem pt_of {e : Expr} {t t' : TT} (h : PT X e t) (w : ∀ σ H Q, t' σ H Q → t σ H Q) : PT X e t' := ⟨fun pins s σ H Q I q => h.run pins s σ H Q I (w σ H Q q)⟩
theorem pa_of {e : List Expr} {t t' : TA} (h : PA X e t) (w : ∀ σ H Q, t' σ H Q → t σ H Q) : PA X e t' := ⟨fun pos pins s σ H Q I q => h.run pos pins s σ H Q I (w σ H Q q)⟩
theorem ps_of {e : Stmt} {t t' : TS} (h : PS X e t) (w : ∀ D σ H, t' D σ H → t D σ H) : PS X e t' := ⟨fun pins s σ H D I q => h.run pins s σ H D I (w D σ H q)⟩
end
end KP
end
section
set_option autoImplicit false
set_option linter.all false
set_option maxRecDepth 100000
set_option maxHeartbeats 1000000
/-! KOps: the operators over values. -/
namespace KP
open PySem PySem.Spec PyProof.Rows L2

/-- an answer of two values -/
def rB (K : PySem.W.Frag) (G : Glo) (f : D → D → Option D) : R2 := fun x y H Q => ∃ (d1 d2 res : D) (ρ : List Addr), Rep K G H ρ d1 x ∧ Rep K G H ρ d2 y ∧ f d1 d2 = some res ∧ ∀ v H', Same H H' → Rep K G H' ρ res v → Q v H'

section
variable {X : Cx} {G : Glo}
theorem EP.mono {pins : List (Addr × Obj)} {σ : L2.St} {Q Q' : VK} {u : Value} {s : Shared} (h : EP X pins σ Q u s) (f : ∀ v H, Q v H → Q' v H) : EP X pins σ Q' u s := by
  obtain ⟨v, H, I, r, q⟩ := h
  exact ⟨v, H, I, r, f v H q⟩
/-- a new list is locked -/
theorem EP.lock {pins : List (Addr × Obj)} {σ : L2.St} {Q : VK} {u : Value} {s : Shared} {H : Hp} {vs : List V} (h : EP X pins σ (fun v H' => ∃ p, v = .ref p ∧ H p = none ∧ H' = upd H p (.lst vs)) u s)
    (f : ∀ p o, H p = none → Q (.ref p) (upd H p (.frz o (.lst vs)))) : EP X pins σ Q u s := by
  obtain ⟨v, H', I, r, p, rfl, hp, rfl⟩ := h
  obtain ⟨o, I'⟩ := lockL I upd_same
  rw [upd_upd] at I'
  exact ⟨.ref p, _, I', r, f p o hp⟩
theorem rep_frz {H : Hp} {p : Addr} {o : Obj} {xs : List D} {vs : List V} {ρ : List Addr} (hp : H p = none) (r : RepL X.K G H ρ xs vs) : Rep X.K G (upd H p (.frz o (.lst vs))) ρ (.lst xs) (.ref p) :=
  .lst (.inl ⟨o, upd_same⟩) (r.same (same_new hp))
theorem rep_tup {H : Hp} {p : Addr} {xs : List D} {vs : List V} {ρ : List Addr} (hp : H p = none) (r : RepL X.K G H ρ xs vs) : Rep X.K G (upd H p (.tup vs)) ρ (.tup xs) (.ref p) :=
  .tup (.inl (.inl upd_same)) (r.same (same_new hp))

theorem ob_add : OpR X (binaryOp .Add) (rB X.K G (bo .add)) := by
  intro pins s σ H x y v u Q I rx ry h
  obtain ⟨d1, d2, res, ρ, r1, r2, hf, q⟩ := h
  cases r1 with
  | int i =>
    cases r2 with
    | int j =>
      cases hf
      exact op_add pins s σ H _ _ v u Q I rx ry ⟨i, j, rfl, rfl, q _ H (Same.refl H) (.int _)⟩
    | _ => cases hf
  | str a =>
    cases r2 with
    | str b =>
      rw [bo] at hf
      split at hf
      · rename_i hz
        cases hf
        exact op_add_str pins s σ H _ _ v u Q I rx ry ⟨a, b, rfl, rfl, hz, q _ H (Same.refl H) (.str _)⟩
      · cases hf
    | _ => cases hf
  | @tup a vs xs h1 t1 =>
    cases r2 with
    | @tup b ws ys h2 t2 =>
      rw [bo] at hf
      split at hf
      · rename_i hz
        cases hf
        refine op_catA pins s σ H _ _ v u Q I rx ry ⟨a, b, vs, ws, rfl, rfl, h1, h2, ?_, fun e => ?_, fun _ e => ?_, fun _ _ p hp => ?_⟩
        · rw [← t1.length, ← t2.length]
          exact hz
        · subst e
          cases t1
          exact q _ H (Same.refl H) (.tup h2 t2)
        · subst e
          cases t2
          rw [List.append_nil] at q
          exact q _ H (Same.refl H) (.tup h1 t1)
        · exact q _ _ (same_new hp) (rep_tup hp (t1.append t2))
      · cases hf
    | _ => cases hf
  | @lst a vs xs h1 t1 =>
    cases r2 with
    | @lst b ws ys h2 t2 =>
      rw [bo] at hf
      split at hf
      · rename_i hz
        cases hf
        cases rx
        cases ry
        obtain ⟨z1, its, n, e1, o1⟩ := h1.obj I
        obtain ⟨z2, its2, n2, e2, o2⟩ := h2.obj I
        have l1 := t1.length
        have l2 := t2.length
        have l3 := e1.length
        have l4 := e2.length
        refine PySem.P.add_list o1 o2 ?_ (by rw [List.size_toArray, List.size_toArray]; omega)
        have ea : its.toArray ++ its2.toArray = (its ++ its2).toArray := by simp
        rw [ea]
        refine EP.lock (H := H) (vs := vs ++ ws) ⟨.ref _, _, I.laid (t' := s.toks) (o := .lst (vs ++ ws)) (fun b ob q => Heap.get?_push_of_some _ q) (Nat.le_refl _) ?_, rfl, _, rfl, I.hok.fresh (Nat.le_refl _), rfl⟩ fun p o hp => q _ _ (same_new hp) (rep_frz hp (t1.append t2))
        exact ⟨by rw [List.length_append]; omega, its ++ its2, _, e1.append e2, Heap.get?_push_size _ rfl⟩
      · cases hf
    | _ => cases hf
  | _ => cases r2 <;> cases hf
theorem ob_sub : OpR X (binaryOp .Sub) (rB X.K G (bo .sub)) := by
  intro pins s σ H x y v u Q I rx ry h
  obtain ⟨d1, d2, res, ρ, r1, r2, hf, q⟩ := h
  cases r1 with
  | int i =>
    cases r2 with
    | int j =>
      cases hf
      exact op_sub pins s σ H _ _ v u Q I rx ry ⟨i, j, rfl, rfl, q _ H (Same.refl H) (.int _)⟩
    | _ => cases hf
  | _ => cases r2 <;> cases hf
end
end KP
end
section
set_option autoImplicit false
set_option linter.all false
set_option maxRecDepth 100000
set_option maxHeartbeats 4000000
/-! KOps2: products, quotients, powers. -/
namespace KP
open PySem PySem.Spec PyProof.Rows L2

theorem tmul_self (l : Addr) (items : Array Value) (n : Nat) (dd : Option Addr) (sl : Array (Option Value)) (x : Int) (u : Tok) (c0 : (decide (x < -(2 ^ 63)) || decide (x ≥ 2 ^ 63)) = false) (c1 : (items.isEmpty || x == 1) = true) :
    Meets (Builtin.«tuple.__mul__» ⟨[.ref l, .int x u], []⟩) (fun _ R s => s.heap.get? l = some { cls := .type "tuple", dict := dd, data := .seq items n, slots := sl } ∧ R (.ok (.ret (Value.ref l))) s) :=
  .of_wp fun prog w A R s h => by
    obtain ⟨hp, g, d, tk, os⟩ := s
    obtain ⟨hl, h⟩ := h
    have f1 := AutoSeq1.idx_int
    wp_walk using wpAny_loadPart' hl
    repeat (first
      | (refine wpAny_ite_false (decide_eq_false (by rw [c0]; exact Bool.false_ne_true)) ?_; wp_walk using wpAny_loadPart' hl)
      | (refine wpAny_ite_true (decide_eq_true c1) ?_; wp_walk using wpAny_loadPart' hl))
    exact ⟨_, rfl, h⟩
theorem tmul_nil (l : Addr) (items : Array Value) (n : Nat) (dd : Option Addr) (sl : Array (Option Value)) (u : Tok) (c1 : (items.isEmpty || (0 : Int) == 1) = false) :
    Meets (Builtin.«tuple.__mul__» ⟨[.ref l, .int 0 u], []⟩) (fun _ R s => s.heap.get? l = some { cls := .type "tuple", dict := dd, data := .seq items n, slots := sl } ∧
      R (.ok (.ret (Value.ref s.heap.objs.size))) { s with heap := s.heap.push { cls := Value.type "tuple", data := Data.seq #[] }, toks := s.toks }) :=
  .of_wp fun prog w A R s h => by
    obtain ⟨hp, g, d, tk, os⟩ := s
    obtain ⟨hl, h⟩ := h
    have f1 := AutoSeq1.idx_int
    wp_walk using wpAny_loadPart' hl
    repeat (first
      | (refine wpAny_ite_false (decide_eq_false (by rw [c1]; exact Bool.false_ne_true)) ?_; wp_walk using wpAny_loadPart' hl)
      | (refine wpAny_ite_true (decide_eq_true (by simp)) ?_; wp_walk using wpAny_loadPart' hl))
    exact ⟨_, rfl, h⟩

theorem small_log {i : Int} (h : small i = true) : i.natAbs.log2 < 8000 := of_decide_eq_true h
theorem rep_flat_len {α : Type} (xs : List α) : ∀ n : Nat, (List.replicate n xs).flatten.length = n * xs.length
  | 0 => by simp
  | n + 1 => by
    rw [List.replicate_succ, List.flatten_cons, List.length_append, rep_flat_len xs n, Nat.succ_mul]
    omega
section
variable {X : Cx} {G : Glo}
theorem mul_ints {pins : List (Addr × Obj)} {s : Shared} {σ : L2.St} {H : Hp} {i j : Int} {v u : Value} {Q : VK} (I : Inv X pins σ H s) (rx : RelV (.int i) v) (ry : RelV (.int j) u) (h1 : small i = true) (h2 : small j = true) (q : Q (.int (i * j)) H) :
    wpAny (model X.prog X.w) X.A (binaryOp .Mult v u) (EP X pins σ Q) X.xe s :=
  op_mulW pins s σ H _ _ v u Q I rx ry ⟨i, j, rfl, rfl, (show i.natAbs.log2 + j.natAbs.log2 < 1000000 by have := small_log h1; have := small_log h2; omega), q⟩
theorem ob_mul : OpR X (binaryOp .Mult) (rB X.K G (bo .mul)) := by
  intro pins s σ H x y v u Q I rx ry h
  obtain ⟨d1, d2, res, ρ, r1, r2, hf, q⟩ := h
  cases r1 with
  | int i =>
    cases r2 with
    | int j =>
      rw [bo] at hf
      split at hf
      · rename_i hz
        cases hf
        rw [Bool.and_eq_true] at hz
        exact mul_ints I rx ry hz.1 hz.2 (q _ H (Same.refl H) (.int _))
      · cases hf
    | _ => cases hf
  | @tup a vs xs h1 t1 =>
    cases r2 with
    | int k =>
      rw [bo] at hf
      split at hf
      · rename_i hz
        cases hf
        obtain ⟨k0, k1, hz⟩ := hz
        cases rx
        obtain ⟨t, rfl⟩ := ry
        obtain ⟨its, r, ⟨⟨cls, dd, data, sl⟩, ho, hc, n, hd⟩, hs⟩ := I.tuple h1
        simp only at hc hd
        subst hc hd
        have le1 := t1.length
        have le2 := r.length
        have go : ∀ {Q' : Value → Shared → Prop}, wpAny (model X.prog X.w) X.A (call (.builtin "tuple.__mul__") [.ref a, .int k t]) Q' X.xe s → wpAny (model X.prog X.w) X.A (binaryOp .Mult (.ref a) (.int k t)) Q' X.xe s := fun {Q'} hq =>
          wpAny_binaryOp_repeat_ref (T := "tuple") (U := "int") (by decide) ⟨_, ho, rfl⟩ (fun s' => typeIs_int s' k t) noFill_tuple_mul F.fills_int_mul F.slot_int_rmul repeat_tuple F.slot_int_index.lookup
            (call_meets F.slot_int_rmul (typeIs_int s k t) F.entry_int_rmul (F.args_int_rmul_2 _ _) (int_rmul_tuple k t a its.toArray n dd sl) ⟨ho, rfl, ⟨_, ho, rfl⟩, hq⟩)
        have c0 : (decide (k < -(2 ^ 63)) || decide (k ≥ 2 ^ 63)) = false := by
          rw [decide_eq_false (by omega), decide_eq_false (by omega)] <;> rfl
        by_cases c1 : (its.toArray.isEmpty || k == 1) = true
        · refine go (call_meets F.slot_tuple_mul ⟨_, ho, rfl⟩ F.entry_tuple_mul (F.args_tuple_mul_2 _ _) (tmul_self a its.toArray n dd sl k t c0 c1) ⟨ho, ?_⟩)
          refine ⟨.ref a, H, I, rfl, q _ H (Same.refl H) ?_⟩
          have e : (List.replicate k.toNat xs).flatten = xs := by
            rw [Bool.or_eq_true] at c1
            rcases c1 with c | c
            · have : xs = [] := by
                cases its with
                | nil => exact List.eq_nil_of_length_eq_zero (by rw [le1, le2]; rfl)
                | cons a b => simp at c
              subst this
              simp
            · have : k = 1 := by simpa using c
              subst this
              simp
          rw [e]
          exact .tup h1 t1
        · have c1 : (its.toArray.isEmpty || k == 1) = false := by simpa using c1
          have hi : its.toArray.isEmpty = false := (Bool.or_eq_false_iff.mp c1).1
          have hk1 : k ≠ 1 := by
            have := (Bool.or_eq_false_iff.mp c1).2
            simpa using this
          by_cases k00 : k = 0
          · subst k00
            refine go (call_meets F.slot_tuple_mul ⟨_, ho, rfl⟩ F.entry_tuple_mul (F.args_tuple_mul_2 _ _) (tmul_nil a its.toArray n dd sl t c1) ⟨ho, ?_⟩)
            refine ⟨.ref s.heap.objs.size, _, I.laid (t' := s.toks) (o := .tup []) (fun b ob q => Heap.get?_push_of_some _ q) (Nat.le_refl _) ⟨Nat.zero_le _, [], .nil, IsTup.new _ _⟩, rfl, q _ _ (same_new (I.hok.fresh (Nat.le_refl _))) ?_⟩
            exact rep_tup (I.hok.fresh (Nat.le_refl _)) .nil
          · have c2 : (decide (k ≤ 0) || its.toArray.isEmpty) = false := by
              rw [hi, Bool.or_false]
              exact decide_eq_false (by omega)
            have e0 : ((its.toArray.size : Nat) : Int) * k = ((xs.length * k.toNat : Nat) : Int) := by
              rw [List.size_toArray, ← le2, ← le1, Int.natCast_mul, Int.toNat_of_nonneg k0]
            have hz' : xs.length * k.toNat ≤ 16777216 := by rw [← sizeLine_eq]; exact hz
            have c4 : Builtin.Tuple.tupleTooMany (((its.toArray.size : Nat) : Int) * k) = false := by
              unfold Builtin.Tuple.tupleTooMany
              rw [sizeLine_eq, e0]
              exact decide_eq_false (by omega)
            have flen : (List.replicate k.toNat its).flatten.length ≤ sizeLine := by
              rw [rep_flat_len, ← le2, ← le1, Nat.mul_comm]
              exact hz
            refine go (call_meets F.slot_tuple_mul ⟨_, ho, rfl⟩ F.entry_tuple_mul (F.args_tuple_mul_2 _ _) (tuple_mulW a its.toArray n dd sl k t c0 c1 c2 (by rw [e0]; omega) c4 (by rw [size_rep, List.size_toArray]; exact flen)) ⟨ho, ?_⟩)
            rw [size_rep]
            refine ⟨.ref s.heap.objs.size, _, I.laid (t' := s.toks) (o := .tup (List.replicate k.toNat vs).flatten) (fun b ob q => Heap.get?_push_of_some _ q) (Nat.le_refl _) ⟨?_, _, r.rep k.toNat, IsTup.new _ _⟩, rfl, q _ _ (same_new (I.hok.fresh (Nat.le_refl _))) ?_⟩
            · rw [rep_flat_len, ← le1, Nat.mul_comm]
              exact hz
            · exact rep_tup (I.hok.fresh (Nat.le_refl _)) (t1.rep k.toNat)
      · cases hf
    | _ => cases hf
  | @lst a vs xs h1 t1 =>
    cases r2 with
    | int k =>
      rw [bo] at hf
      split at hf
      · rename_i hz
        cases hf
        obtain ⟨k0, k1, hz⟩ := hz
        cases rx
        obtain ⟨t, rfl⟩ := ry
        obtain ⟨z, its, n, r, e⟩ := h1.obj I
        have le1 := t1.length
        have le2 := r.length
        have hlen : its.toArray.size * k.toNat ≤ sizeLine := by rw [List.size_toArray, ← le2, ← le1]; exact hz
        have hcap : ¬ its.toArray.size * k.toNat > (2 ^ 63 - 1) / 8 := by
          have : (sizeLine : Nat) ≤ (2 ^ 63 - 1) / 8 := by decide
          omega
        have hfit : ¬ (!Builtin.List.listFitsIndex k) = true := by
          rw [fitsIndex_both (by omega) (by omega)]
          exact Bool.false_ne_true
        have hlong : ¬ Builtin.List.listTooLong (its.toArray.size * k.toNat) = true := by
          rw [notLongL hlen]
          exact Bool.false_ne_true
        have hnew : List.foldl (fun x1 x2 => x1 ++ x2) #[] (List.replicate (if its.toArray.isEmpty = true then 0 else k.toNat) its.toArray) = (List.replicate k.toNat its).flatten.toArray := by
          rw [size_rep]
          cases its with
          | nil => simp
          | cons a r' => rw [if_neg (by simp)]
        refine wpAny_binaryOp_repeat_ref (T := "list") (U := "int") (by decide) ⟨_, e, rfl⟩ (fun s' => typeIs_int s' k t) noFill_list_mul F.fills_int_mul F.slot_int_rmul repeat_list F.slot_int_index.lookup
          (call_meets F.slot_int_rmul (typeIs_int s k t) F.entry_int_rmul (F.args_int_rmul_2 _ _) (int___rmul___int_list k t a its.toArray n)
            ⟨e, rfl, ⟨_, e, rfl⟩, call_meets F.slot_list_mul ⟨_, e, rfl⟩ F.entry_list_mul (F.args_list_mul_2 _ _) (AutoListH.list___mul___list_int_3 a its.toArray n k t hfit hcap hlong) ⟨e, ?_⟩⟩)
        rw [hnew]
        refine EP.lock (H := H) (vs := (List.replicate k.toNat vs).flatten) ⟨.ref _, _, I.laid (t' := s.toks) (o := .lst (List.replicate k.toNat vs).flatten) (fun b ob q => Heap.get?_push_of_some _ q) (Nat.le_refl _) ?_, rfl, _, rfl, I.hok.fresh (Nat.le_refl _), rfl⟩ fun p o hp => q _ _ (same_new hp) (rep_frz hp (t1.rep k.toNat))
        exact ⟨by rw [rep_flat_len, ← le1, Nat.mul_comm]; exact hz, _, _, r.rep k.toNat, Heap.get?_push_size _ rfl⟩
      · cases hf
    | _ => cases hf
  | _ => cases r2 <;> cases hf
theorem ob_fdiv : OpR X (binaryOp .FloorDiv) (rB X.K G (bo .fdiv)) := by
  intro pins s σ H x y v u Q I rx ry h
  obtain ⟨d1, d2, res, ρ, r1, r2, hf, q⟩ := h
  cases r1 with
  | int i =>
    cases r2 with
    | int j =>
      rw [bo] at hf
      split at hf
      · rename_i hz
        cases hf
        obtain ⟨t, rfl⟩ := rx
        obtain ⟨t', rfl⟩ := ry
        exact floordiv_int hz.1 ⟨.int _, H, I.tok _, ⟨_, rfl⟩, q _ H (Same.refl H) (.int _)⟩ (.inl (PyProof.noPylong_of_log2 (by have := small_log hz.2; omega)))
      · cases hf
    | _ => cases hf
  | _ => cases r2 <;> cases hf
theorem ob_mod : OpR X (binaryOp .Mod) (rB X.K G (bo .mod)) := by
  intro pins s σ H x y v u Q I rx ry h
  obtain ⟨d1, d2, res, ρ, r1, r2, hf, q⟩ := h
  cases r1 with
  | int i =>
    cases r2 with
    | int j =>
      rw [bo] at hf
      split at hf
      · rename_i hz
        cases hf
        exact op_modN pins s σ H _ _ v u Q I rx ry ⟨i, j, rfl, rfl, hz, q _ H (Same.refl H) (.int _)⟩
      · cases hf
    | _ => cases hf
  | _ => cases r2 <;> cases hf
theorem ob_pow : OpR X (binaryOp .Pow) (rB X.K G (bo .pow)) := by
  intro pins s σ H x y v u Q I rx ry h
  obtain ⟨d1, d2, res, ρ, r1, r2, hf, q⟩ := h
  cases r1 with
  | int i =>
    cases r2 with
    | int j =>
      rw [bo] at hf
      split at hf
      · rename_i hz
        cases hf
        exact op_pow pins s σ H _ _ v u Q I rx ry ⟨i, j, rfl, rfl, ⟨hz.1, by omega, hz.2.2⟩, q _ H (Same.refl H) (.int _)⟩
      · cases hf
    | _ => cases hf
  | _ => cases r2 <;> cases hf
def opOf : Bo → Operator
  | .add => .Add
  | .sub => .Sub
  | .mul => .Mult
  | .fdiv => .FloorDiv
  | .mod => .Mod
  | .pow => .Pow
theorem ob_all : ∀ o : Bo, OpR X (binaryOp (opOf o)) (rB X.K G (bo o))
  | .add => ob_add
  | .sub => ob_sub
  | .mul => ob_mul
  | .fdiv => ob_fdiv
  | .mod => ob_mod
  | .pow => ob_pow
end
end KP
end
section
set_option autoImplicit false
set_option linter.all false
set_option maxRecDepth 100000
set_option maxHeartbeats 4000000
/-! KOps3: comparisons, truth. -/
namespace KP
open PySem PySem.Spec PyProof.Rows L2

section
variable {X : Cx} {G : Glo}
/-- a comparison's answer -/
def rC (K : PySem.W.Frag) (G : Glo) (f : D → D → Option Bool) : R2 := fun x y H Q => ∃ (d1 d2 : D) (res : Bool) (ρ : List Addr), Rep K G H ρ d1 x ∧ Rep K G H ρ d2 y ∧ f d1 d2 = some res ∧ Q (.bl res) H
def coOf : Co → CmpOp
  | .eq => .Eq
  | .ne => .NotEq
  | .lt => .Lt
  | .le => .LtE
  | .gt => .Gt
  | .ge => .GtE
  | .is => .Is
  | .isnot => .IsNot
  | .isin => .In
  | .notin => .NotIn
theorem noD {p : PyData} (h : SeqAt.shaped p = true) : p.hasDict = false := PyData.hasDict_of_canLay p (SeqAt.canLay_of_shaped h)
theorem dataEq_some {x y : D} {b : Bool} (h : dataEq x y = some b) : ∃ p q, x.py = some p ∧ y.py = some q ∧ SeqAt.shaped p = true ∧ SeqAt.shaped q = true ∧ b = PyData.eqv p q := by
  unfold dataEq at h
  split at h
  · rename_i p q h1 h2
    split at h
    · rename_i hs
      rw [Bool.and_eq_true] at hs
      cases h
      exact ⟨p, q, h1, h2, hs.1, hs.2, rfl⟩
    · cases h
  · cases h
theorem inData_some {x : D} {ys : List D} {b : Bool} (h : inData x ys = some b) : ∃ p qs, x.py = some p ∧ pyAll ys = some qs ∧ SeqAt.shaped p = true ∧ SeqAt.shaped (.list qs) = true ∧ b = qs.any fun z => PyData.eqv z p := by
  unfold inData at h
  split at h
  · rename_i p q h1 h2
    split at h
    · rename_i hs
      rw [Bool.and_eq_true] at hs
      cases h
      exact ⟨p, q, h1, h2, hs.1, hs.2, rfl⟩
    · cases h
  · cases h
theorem rep_none {K : PySem.W.Frag} {H : Hp} {ρ : List Addr} {d : D} {x : V} (r : Rep K G H ρ d x) : isNone d = decide (x = .non) := by
  cases r <;> simp [isNone]
theorem rep_bl {K : PySem.W.Frag} {H : Hp} {ρ : List Addr} {b : Bool} {x : V} (r : Rep K G H ρ (.bl b) x) : x = .bl b := by
  cases r
  rfl
theorem rep_int {K : PySem.W.Frag} {H : Hp} {ρ : List Addr} {b : Int} {x : V} (r : Rep K G H ρ (.int b) x) : x = .int b := by
  cases r
  rfl
theorem rep_str {K : PySem.W.Frag} {H : Hp} {ρ : List Addr} {b : Str} {x : V} (r : Rep K G H ρ (.str b) x) : x = .str b := by
  cases r
  rfl
theorem rep_non {K : PySem.W.Frag} {H : Hp} {ρ : List Addr} {x : V} (r : Rep K G H ρ .non x) : x = .non := by
  cases r
  rfl
theorem oc_int {op : CmpOp} {c : Co} {g : Int → Int → Bool} (h : OpR X (compareOp op) (rI0 fun i j => .bl (g i j))) (hc : ∀ d1 d2 b, co c d1 d2 = some b → ∃ i j, d1 = .int i ∧ d2 = .int j ∧ b = g i j) : OpR X (compareOp op) (rC X.K G (co c)) := by
  intro pins s σ H x y v u Q I rx ry q
  obtain ⟨d1, d2, res, ρ, r1, r2, hf, q⟩ := q
  obtain ⟨i, j, rfl, rfl, rfl⟩ := hc d1 d2 res hf
  rw [rep_int r1] at rx
  rw [rep_int r2] at ry
  exact h pins s σ H _ _ v u Q I rx ry ⟨i, j, rfl, rfl, q⟩
theorem co_ints {d1 d2 : D} {b : Bool} {c : Co} {g : Int → Int → Bool} (h : co c d1 d2 = some b) (hg : ∀ i j, co c (.int i) (.int j) = some (g i j)) (hn : ∀ d1 d2, (∀ i j, ¬ (d1 = .int i ∧ d2 = .int j)) → co c d1 d2 = none) : ∃ i j, d1 = .int i ∧ d2 = .int j ∧ b = g i j := by
  by_cases e : ∃ i j, d1 = .int i ∧ d2 = .int j
  · obtain ⟨i, j, rfl, rfl⟩ := e
    rw [hg] at h
    exact ⟨i, j, rfl, rfl, (Option.some.inj h).symm⟩
  · rw [hn d1 d2 fun i j z => e ⟨i, j, z⟩] at h
    cases h
theorem oc_all (hu : X.A.units + 65 < cLine) : ∀ c : Co, OpR X (compareOp (coOf c)) (rC X.K G (co c))
  | .lt => oc_int op_lt fun d1 d2 b h => co_ints h (fun _ _ => rfl) fun d1 d2 z => by
    cases d1 <;> cases d2 <;> first | rfl | exact absurd ⟨rfl, rfl⟩ (z _ _)
  | .le => oc_int op_le fun d1 d2 b h => co_ints h (fun _ _ => rfl) fun d1 d2 z => by
    cases d1 <;> cases d2 <;> first | rfl | exact absurd ⟨rfl, rfl⟩ (z _ _)
  | .gt => oc_int op_gt fun d1 d2 b h => co_ints h (fun _ _ => rfl) fun d1 d2 z => by
    cases d1 <;> cases d2 <;> first | rfl | exact absurd ⟨rfl, rfl⟩ (z _ _)
  | .ge => oc_int op_ge fun d1 d2 b h => co_ints h (fun _ _ => rfl) fun d1 d2 z => by
    cases d1 <;> cases d2 <;> first | rfl | exact absurd ⟨rfl, rfl⟩ (z _ _)
  | .eq => by
    intro pins s σ H x y v u Q I rx ry q
    obtain ⟨d1, d2, res, ρ, r1, r2, hf, q⟩ := q
    obtain ⟨p, p', h1, h2, s1, s2, rfl⟩ := dataEq_some (show dataEq d1 d2 = some res from hf)
    exact op_eqD (by omega) pins s σ H x y v u Q I rx ry ⟨p, p', r1.dp h1 (noD s1), r2.dp h2 (noD s2), s1, s2, q⟩
  | .ne => by
    intro pins s σ H x y v u Q I rx ry q
    obtain ⟨d1, d2, res, ρ, r1, r2, hf, q⟩ := q
    obtain ⟨b, hb, rfl⟩ := Option.map_eq_some_iff.mp (show (dataEq d1 d2).map (!·) = some res from hf)
    obtain ⟨p, p', h1, h2, s1, s2, rfl⟩ := dataEq_some hb
    exact op_neD (by omega) pins s σ H x y v u Q I rx ry ⟨p, p', r1.dp h1 (noD s1), r2.dp h2 (noD s2), s1, s2, q⟩
  | .is => by
    intro pins s σ H x y v u Q I rx ry q
    obtain ⟨d1, d2, res, ρ, r1, r2, hf, q⟩ := q
    cases d2 with
    | non =>
      have e := rep_non r2
      subst e
      have hf : some (isNone d1) = some res := by cases d1 <;> exact hf
      cases hf
      exact op_isN pins s σ H x _ v u Q I rx ry ⟨rfl, by rw [← rep_none r1]; exact q⟩
    | bl b =>
      have e := rep_bl r2
      subst e
      cases d1 with
      | bl a =>
        have e := rep_bl r1
        subst e
        have hf : some (a == b) = some res := hf
        cases hf
        refine op_isBl pins s σ H _ _ v u Q I rx ry ⟨a, b, rfl, rfl, ?_⟩
        rw [← Bool.beq_eq_decide_eq]
        exact q
      | _ => cases hf
    | _ => cases d1 <;> cases hf
  | .isnot => by
    intro pins s σ H x y v u Q I rx ry q
    obtain ⟨d1, d2, res, ρ, r1, r2, hf, q⟩ := q
    cases d2 with
    | non =>
      have e := rep_non r2
      subst e
      have hf : some (!isNone d1) = some res := by cases d1 <;> exact hf
      cases hf
      exact op_notN pins s σ H x _ v u Q I rx ry ⟨rfl, by rw [← rep_none r1]; exact q⟩
    | bl b =>
      have e := rep_bl r2
      subst e
      cases d1 with
      | bl a =>
        have e := rep_bl r1
        subst e
        have hf : some (!(a == b)) = some res := hf
        cases hf
        refine op_notBl pins s σ H _ _ v u Q I rx ry ⟨a, b, rfl, rfl, ?_⟩
        rw [← Bool.beq_eq_decide_eq]
        exact q
      | _ => cases hf
    | _ => cases d1 <;> cases hf
  | .isin => by
    intro pins s σ H x y v u Q I rx ry q
    obtain ⟨d1, d2, res, ρ, r1, r2, hf, q⟩ := q
    cases d2 with
    | lst ys =>
      obtain ⟨p, qs, h1, h2, s1, s2, rfl⟩ := inData_some (show inData d1 ys = some res by cases d1 <;> exact hf)
      exact op_inD hu pins s σ H x y v u Q I rx ry ⟨p, qs, r1.dp h1 (noD s1), r2.dp (by rw [D.py, h2]; rfl) (noD s2), s1, s2, q⟩
    | tup ys =>
      obtain ⟨p, qs, h1, h2, s1, s2, rfl⟩ := inData_some (show inData d1 ys = some res by cases d1 <;> exact hf)
      obtain ⟨as, e1⟩ := Dp.reads I p x v (r1.dp h1 (noD s1)) rx
      obtain ⟨bs, e2⟩ := Dp.reads I (.tuple qs) y u (r2.dp (by rw [D.py, h2]; rfl) (noD (show SeqAt.shaped (.tuple qs) = true from s2))) ry
      exact SeqAt.in_tuple_reads e2 e1 (SeqAt.canLay_of_shaped s2) (SeqAt.canLay_of_shaped s1) (room_in_shaped s1 hu) ⟨.bl _, H, I, rfl, q⟩
    | _ => cases d1 <;> cases hf
  | .notin => by
    intro pins s σ H x y v u Q I rx ry q
    obtain ⟨d1, d2, res, ρ, r1, r2, hf, q⟩ := q
    cases d2 with
    | lst ys =>
      obtain ⟨b, hb, rfl⟩ := Option.map_eq_some_iff.mp (show (inData d1 ys).map (!·) = some res by cases d1 <;> exact hf)
      obtain ⟨p, qs, h1, h2, s1, s2, rfl⟩ := inData_some hb
      exact op_notInD hu pins s σ H x y v u Q I rx ry ⟨p, qs, r1.dp h1 (noD s1), r2.dp (by rw [D.py, h2]; rfl) (noD s2), s1, s2, q⟩
    | tup ys =>
      obtain ⟨b, hb, rfl⟩ := Option.map_eq_some_iff.mp (show (inData d1 ys).map (!·) = some res by cases d1 <;> exact hf)
      obtain ⟨p, qs, h1, h2, s1, s2, rfl⟩ := inData_some hb
      obtain ⟨as, e1⟩ := Dp.reads I p x v (r1.dp h1 (noD s1)) rx
      obtain ⟨bs, e2⟩ := Dp.reads I (.tuple qs) y u (r2.dp (by rw [D.py, h2]; rfl) (noD (show SeqAt.shaped (.tuple qs) = true from s2))) ry
      exact SeqAt.notIn_tuple_reads e2 e1 (SeqAt.canLay_of_shaped s2) (SeqAt.canLay_of_shaped s1) (room_in_shaped s1 hu) ⟨.bl _, H, I, rfl, q⟩
    | _ => cases d1 <;> cases hf

/-! ### truth -/
theorem tru_rep {K : PySem.W.Frag} {H : Hp} {ρ : List Addr} {d : D} {x : V} {b : Bool} (r : Rep K G H ρ d x) (h : tru d = some b) : TruV K x H b := by
  cases r with
  | non => cases h; exact rfl
  | bl c => cases h; exact rfl
  | int i => cases h; exact rfl
  | str z =>
    rw [tru] at h
    split at h
    · rename_i hz
      cases h
      refine ⟨hz, ?_⟩
      show (z.length != 0) = ((z.length : Int) != 0)
      rw [Bool.eq_iff_iff]
      simp
    · cases h
  | @tup a vs xs h1 t =>
    cases h
    refine .inr (.inl ⟨vs, h1, ?_⟩)
    cases t <;> rfl
  | @lst a vs xs h1 t =>
    cases h
    refine .inl ⟨vs, h1.sq, ?_⟩
    cases t <;> rfl
  | _ => cases h
end
end KP
end
section
set_option autoImplicit false
set_option linter.all false
set_option maxRecDepth 100000
set_option maxHeartbeats 4000000
/-! KExpr: expressions do what KCore says. -/
namespace KP
open PySem PySem.Spec PyProof.Rows L2

section
variable (X : Cx) (G : Glo) (B : Bs) (fld : Nat → List Str) (W : WX) (cx : Cc)
abbrev PEm (e : Expr) (a : Ex) : Prop := PE X e (tOf X.K G X B fld W (E cx a))
abbrev PTm (e : Expr) (a : Ex) : Prop := PT X e (tOfT X.K G X B fld W (T cx a))
abbrev PAm (es : List Expr) (as : Exs) : Prop := PA X es (tOfA X.K G X B fld W (Es cx as))
end

section
variable {X : Cx} {G : Glo} {B : Bs} {fld : Nat → List Str} {W : WX} {cx : Cc} {pos : Pos}
/-- a list that a place alone holds is locked: the place holds its value -/
theorem Rel.lock {σ : L2.St} {H : Hp} {env : En} {st : So} {ρ : List Addr} {i : Nat} {xs : List D} {p : Addr} {vs : List V} {o : Obj} (R : Rel X.K G X B σ H env st ρ) (he : env[i]? = some (Sl.own xs)) (hσ : σ[i]? = some (some (V.ref p))) (hp : H p = some (.lst vs))
    (rl : RepL X.K G H ρ xs vs) (nρ : Dead ρ st env p) (nB : B.h p = none) : Rel X.K G X B σ (upd H p (.frz o (.lst vs))) (env.set i (.v (.lst xs))) st ρ := by
  have k : Keep H (upd H p (.frz o (.lst vs))) := .ofLst hp
  have hi : i < env.length := (List.getElem?_eq_some_iff.mp he).1
  have at_ : ∀ j, j ≠ i → (env.set i (.v (.lst xs)))[j]? = env[j]? := fun j hj => List.getElem?_set_ne (Ne.symm hj)
  have ati : (env.set i (.v (.lst xs)))[i]? = some (.v (.lst xs)) := List.getElem?_set_self hi
  have celm : ∀ n, Sl.cel n ∈ env.set i (.v (.lst xs)) ↔ Sl.cel n ∈ env := fun n => by
    constructor
    · intro h
      obtain ⟨j, hj, e⟩ := List.getElem_of_mem h
      have e' : (env.set i (.v (.lst xs)))[j]? = some (Sl.cel n) := by rw [List.getElem?_eq_getElem hj, e]
      by_cases q : j = i
      · subst q
        rw [ati] at e'
        cases e'
      · rw [at_ j q] at e'
        exact List.mem_of_getElem? e'
    · intro h
      obtain ⟨j, hj, e⟩ := List.getElem_of_mem h
      have e' : env[j]? = some (Sl.cel n) := by rw [List.getElem?_eq_getElem hj, e]
      have q : j ≠ i := fun q => by
        subst q
        rw [he] at e'
        cases e'
      rw [← at_ j q] at e'
      exact List.mem_of_getElem? e'
  have dd : ∀ a, Dead ρ st env a → Dead ρ st (env.set i (.v (.lst xs))) a := fun a h n ob h1 h2 h3 => h n ob h1 h2 fun z => h3 ((celm n).mpr z)
  have upn : ∀ a u, H a = some u → a ≠ p → upd H p (.frz o (.lst vs)) a = some u := fun a u h q => by
    rw [upd_ne q]
    exact h
  have obs : ∀ n a ob, ρ[n]? = some a → st[n]? = some ob → Sl.cel n ∉ env → ObRep X.K G H ρ a ob → ObRep X.K G (upd H p (.frz o (.lst vs))) ρ a ob := fun n a ob ha hs hc r => by
    by_cases na : a = p
    · subst na
      rw [nρ n ob ha hs hc]
      exact True.intro
    cases ob with
    | lst ys =>
      obtain ⟨ws, h, q⟩ := r
      exact ⟨ws, upn _ _ h na, q.keep k (List.prefix_refl _)⟩
    | dic kvs =>
      obtain ⟨ws, h, q⟩ := r
      exact ⟨ws, upn _ _ h na, Paired.mapP q fun p q z => ⟨z.1, z.2.keep k (List.prefix_refl _)⟩⟩
    | ins c fs => exact r
    | cel v =>
      cases v with
      | none => exact r
      | some d =>
        obtain ⟨oc, v, h, q⟩ := r
        exact ⟨oc, v, upn _ _ h na, q.keep k (List.prefix_refl _)⟩
  exact {
    gr := {
      keep := fun a ob h hn ht => upn a ob (R.gr.keep a ob h hn ht) (fun e => by rw [e, nB] at h; cases h)
      pre := R.gr.pre
      new := R.gr.new
      tbls := fun b ps h => by
        obtain ⟨m, e⟩ := R.gr.tbls b ps h
        refine ⟨m, upn b _ e fun z => ?_⟩
        rw [z, nB] at h
        cases h
      dom := fun a h => R.gr.dom a (by
        by_cases q : a = p
        · subst q
          rw [upd_same] at h
          cases h
        · rw [upd_ne q] at h
          exact h) }
    nc := fun z n h => R.nc z n ((celm n).mp h)
    tb := fun p' hp' => tabK_lst hp (R.tb p' hp')
    pt := R.pt
    pv := fun a h => let ⟨o', h1, h2, h3⟩ := R.pv a h; ⟨o', h1, upn _ _ h2 (fun z => by rw [z, nB] at h1; cases h1), dd a h3⟩
    len := R.len
    nd := fun n m a ob ob' h1 h2 h3 h4 h5 h6 h7 => R.nd n m a ob ob' h1 h2 h3 h4 h5 (fun z => h6 ((celm n).mpr z)) (fun z => h7 ((celm m).mpr z))
    so := fun n a ob h1 h2 h3 => obs n a ob h1 h2 (fun z => h3 ((celm n).mpr z)) (R.so n a ob h1 h2 fun z => h3 ((celm n).mpr z))
    sc := fun n ob h1 h2 => R.sc n ob h1 ((celm n).mp h2)
    el := by rw [List.length_set]; exact R.el
    ev := fun j d h => by
      by_cases q : j = i
      · subst q
        rw [ati] at h
        cases h
        exact ⟨.ref p, hσ, .lst (.inl ⟨o, upd_same⟩) (rl.keep k (List.prefix_refl _))⟩
      · rw [at_ j q] at h
        obtain ⟨v, h1, h2⟩ := R.ev j d h
        exact ⟨v, h1, h2.keep k (List.prefix_refl _)⟩
    eo := fun j ys h => by
      by_cases q : j = i
      · subst q
        rw [ati] at h
        cases h
      · rw [at_ j q] at h
        obtain ⟨p', ws, h1, h2, h3, h4⟩ := R.eo j ys h
        have np : p' ≠ p := fun e => by
          subst e
          exact q (R.ed j i ys xs p' h he h1 hσ)
        exact ⟨p', ws, h1, upn _ _ h2 np, h3.keep k (List.prefix_refl _), dd p' h4.1, h4.2⟩
    ed := fun j l ys zs p' h1 h2 => by
      by_cases q : j = i
      · subst q
        rw [ati] at h1
        cases h1
      · by_cases q2 : l = i
        · subst q2
          rw [ati] at h2
          cases h2
        · rw [at_ j q] at h1
          rw [at_ l q2] at h2
          exact R.ed j l ys zs p' h1 h2
    ec := fun j n h => by
      by_cases q : j = i
      · subst q
        rw [ati] at h
        cases h
      · rw [at_ j q] at h
        obtain ⟨x, a, h1, h2, h3, h4⟩ := R.ec j n h
        refine ⟨x, a, h1, h2, h3, fun d hd => ?_⟩
        obtain ⟨q1, v, q2, q3⟩ := h4 d hd
        exact ⟨q1, v, q2, q3.keep k (List.prefix_refl _)⟩
    ei := fun j l n h1 h2 => by
      by_cases q : j = i
      · subst q
        rw [ati] at h1
        cases h1
      · by_cases q2 : l = i
        · subst q2
          rw [ati] at h2
          cases h2
        · rw [at_ j q] at h1
          rw [at_ l q2] at h2
          exact R.ei j l n h1 h2 }

/-! ### names and constants -/
theorem em_int {i : Int} {j : Nat} : PEm X G B fld W cx (.Constant (.int i) j pos) (.c (.int i)) := pe_of pe_int fun σ H Q ⟨env, st, ρ, R, h⟩ => (Post.now h R) _ (.int i)
theorem em_bl {b : Bool} {j : Nat} : PEm X G B fld W cx (.Constant (.bool b) j pos) (.c (.bl b)) := pe_of pe_bl fun σ H Q ⟨env, st, ρ, R, h⟩ => (Post.now h R) _ (.bl b)
theorem em_non {j : Nat} : PEm X G B fld W cx (.Constant .none j pos) (.c .non) := pe_of pe_non fun σ H Q ⟨env, st, ρ, R, h⟩ => (Post.now h R) _ .non
theorem em_str {x : Str} {j : Nat} : PEm X G B fld W cx (.Constant (.str x) j pos) (.c (.str x)) := pe_of pe_str fun σ H Q ⟨env, st, ρ, R, h⟩ => (Post.now h R) _ (.str x)
theorem em_v {i : Nat} {x : Str} (hN : X.N[i]? = some x) (hv : Vis X.env.scope x) (hd : (x == ("__debug__" : Str)) = false) (hcd : (x == ("__classdict__" : Str)) = false) : PEm X G B fld W cx (.Name x pos) (.v i) := by
  refine ⟨fun pins s σ H Q I hq => ?_⟩
  obtain ⟨env, st, ρ, R, h⟩ := hq
  rw [E, rd] at h
  cases e : env[i]? with
  | none => rw [e] at h; exact h.elim
  | some sl =>
    rw [e] at h
    cases sl with
    | no => exact h.elim
    | v d =>
      obtain ⟨v, h1, h2⟩ := R.ev i d e
      exact (pe_var hN hv hd hcd).run pins s σ H Q I ⟨v, h1, Post.now h R v h2⟩
    | own xs =>
      obtain ⟨p, vs, h1, h2, h3, h4, h5⟩ := R.eo i xs e
      refine thn ((pe_var (pos := pos) hN hv hd hcd).run pins s σ H (fun v H' => v = .ref p ∧ H' = H) I ⟨_, h1, rfl, rfl⟩) fun u s1 ⟨v, H1, I1, r1, e1, e2⟩ => ?_
      subst e1 e2
      obtain ⟨o, I2⟩ := lockL I1 h2
      exact ⟨.ref p, _, I2, r1, h _ ρ (.ofLst h2) (List.prefix_refl _) (R.lock e h1 h2 h3 h4 h5) _ (.lst (.inl ⟨o, upd_same⟩) (h3.keep (.ofLst h2) (List.prefix_refl _)))⟩
    | cel n =>
      have h : Post X.K G X B fld W (match st[n]? with
        | some (.cel (some d)) => KP.R.ok d env st
        | _ => KP.R.stuck) σ H ρ fun d H' ρ' _ _ => ∀ v, Rep X.K G H' ρ' d v → Q v H' := h
      cases q : st[n]? with
      | none => rw [q] at h; exact h.elim
      | some ob =>
        rw [q] at h
        cases ob with
        | cel o =>
          cases o with
          | none => exact h.elim
          | some d =>
            obtain ⟨y, a, h1, h2, h3, h4⟩ := R.ec i n e
            obtain ⟨_, v, h5, h6⟩ := h4 d q
            exact (pe_var hN hv hd hcd).run pins s σ H Q I ⟨v, h5, Post.now h R v h6⟩
        | _ => exact h.elim

/-! ### operators -/
theorem em_bin {o : Bo} {l r : Expr} {a b : Ex} (ha : PEm X G B fld W cx l a) (hb : PEm X G B fld W cx r b) : PEm X G B fld W cx (.BinOp l (opOf o) r pos) (.bin o a b) := by
  refine pe_of (pe_op (ob_all (G := G) o) ha hb) fun σ H Q ⟨env, st, ρ, R, h⟩ => ?_
  rw [E] at h
  refine ⟨env, st, ρ, R, (Post.bind h).imp fun x H1 ρ1 e1 s1 k p R1 h1 v1 r1 => ?_⟩
  refine ⟨e1, s1, ρ1, R1, (Post.bind h1).imp fun y H2 ρ2 e2 s2 k2 p2 R2 h2 v2 r2 => ?_⟩
  obtain ⟨res, hres, h3⟩ := Post.of_some h2
  exact ⟨x, y, res, ρ2, r1.keep k2 p2, r2, hres, fun v H' sm hr => h3.nowS R2 sm v hr⟩
theorem em_neg {l : Expr} {a : Ex} (ha : PEm X G B fld W cx l a) : PEm X G B fld W cx (.UnaryOp .USub l pos) (.neg a) := by
  refine pe_of (pe_un un_neg ha) fun σ H Q ⟨env, st, ρ, R, h⟩ => ?_
  rw [E] at h
  refine ⟨env, st, ρ, R, (Post.bind h).imp fun x H1 ρ1 e1 s1 k p R1 h1 v1 r1 => ?_⟩
  cases x with
  | int i =>
    rw [rep_int r1]
    exact ⟨i, rfl, Post.now h1 R1 _ (.int _)⟩
  | _ => exact h1.elim
theorem em_not {l : Expr} {a : Ex} (ha : PEm X G B fld W cx l a) : PEm X G B fld W cx (.UnaryOp .Not l pos) (.not a) := by
  refine pe_of (pe_notT ha) fun σ H Q ⟨env, st, ρ, R, h⟩ => ?_
  rw [E] at h
  refine ⟨env, st, ρ, R, (Post.bind h).imp fun x H1 ρ1 e1 s1 k p R1 h1 v1 r1 => ?_⟩
  obtain ⟨b, hb, h2⟩ := Post.of_some (Post.bind h1)
  exact ⟨b, tru_rep r1 hb, Post.now (Post.now h2 R1) R1 _ (.bl _)⟩
theorem em_cmp {o : Co} {l r : Expr} {a b : Ex} (hu : X.A.units + 65 < cLine) (ha : PEm X G B fld W cx l a) (hb : PEm X G B fld W cx r b) (hm : behindInMarks (coOf o) r = false) : PEm X G B fld W cx (.Compare l [coOf o] [r] pos) (.cmp o a b) := by
  refine pe_of (pe_cmpR (oc_all (G := G) hu o) ha hb hm) fun σ H Q ⟨env, st, ρ, R, h⟩ => ?_
  rw [E] at h
  refine ⟨env, st, ρ, R, (Post.bind h).imp fun x H1 ρ1 e1 s1 k p R1 h1 v1 r1 => ?_⟩
  refine ⟨e1, s1, ρ1, R1, (Post.bind h1).imp fun y H2 ρ2 e2 s2 k2 p2 R2 h2 v2 r2 => ?_⟩
  obtain ⟨res, hres, h3⟩ := Post.of_some h2
  obtain ⟨c, hc, rfl⟩ := Option.map_eq_some_iff.mp hres
  exact ⟨x, y, c, ρ2, r1.keep k2 p2, r2, hc, Post.now h3 R2 _ (.bl _)⟩
theorem em_cmp2 {o o' : Co} {l r t : Expr} {a b c : Ex} (hu : X.A.units + 65 < cLine) (ha : PEm X G B fld W cx l a) (hb : PEm X G B fld W cx r b) (hc : PEm X G B fld W cx t c) (hm : lastMarks [coOf o, coOf o'] [r, t] = false) :
    PEm X G B fld W cx (.Compare l [coOf o, coOf o'] [r, t] pos) (.cmp2 o o' a b c) := by
  refine pe_of (pe_chain (oc_all (G := G) hu o) (oc_all (G := G) hu o') ha hb hc hm) fun σ H Q ⟨env, st, ρ, R, h⟩ => ?_
  rw [E] at h
  refine ⟨env, st, ρ, R, (Post.bind h).imp fun x H1 ρ1 e1 s1 k p R1 h1 v1 r1 => ?_⟩
  refine ⟨e1, s1, ρ1, R1, (Post.bind h1).imp fun y H2 ρ2 e2 s2 k2 p2 R2 h2 v2 r2 => ?_⟩
  obtain ⟨k3, hk, h3⟩ := Post.of_some (Post.bind h2)
  have h3 := Post.now h3 R2
  refine ⟨x, y, k3, ρ2, r1.keep k2 p2, r2, hk, k3, rfl, ?_⟩
  cases k3 with
  | false =>
    rw [if_neg Bool.false_ne_true]
    exact Post.now h3 R2 _ (.bl _)
  | true =>
    rw [if_pos rfl]
    refine ⟨e2, s2, ρ2, R2, (Post.bind h3).imp fun z H3 ρ3 e3 s3 k4 p4 R3 h4 v3 r3 => ?_⟩
    obtain ⟨res, hres, h5⟩ := Post.of_some h4
    obtain ⟨d, hd, rfl⟩ := Option.map_eq_some_iff.mp hres
    exact ⟨y, z, d, ρ3, r2.keep k4 p4, r3, hd, Post.now h5 R3 _ (.bl _)⟩
theorem em_and {l b : Expr} {rest : List Expr} {a c : Ex} (ha : PEm X G B fld W cx l a) (hb : PEm X G B fld W cx (.BoolOp .And (b :: rest) pos) c) : PEm X G B fld W cx (.BoolOp .And (l :: b :: rest) pos) (.and a c) := by
  refine pe_of (pe_andT ha hb) fun σ H Q ⟨env, st, ρ, R, h⟩ => ?_
  rw [E] at h
  refine ⟨env, st, ρ, R, (Post.bind h).imp fun x H1 ρ1 e1 s1 k p R1 h1 v1 r1 => ?_⟩
  obtain ⟨d, hd, h2⟩ := Post.of_some (Post.bind h1)
  have h2 := Post.now h2 R1
  refine ⟨d, tru_rep r1 hd, ?_⟩
  cases d with
  | false =>
    rw [if_neg Bool.false_ne_true]
    exact Post.now h2 R1 _ r1
  | true =>
    rw [if_pos rfl]
    exact ⟨e1, s1, ρ1, R1, h2⟩
theorem em_or {l b : Expr} {rest : List Expr} {a c : Ex} (ha : PEm X G B fld W cx l a) (hb : PEm X G B fld W cx (.BoolOp .Or (b :: rest) pos) c) : PEm X G B fld W cx (.BoolOp .Or (l :: b :: rest) pos) (.or a c) := by
  refine pe_of (pe_orT ha hb) fun σ H Q ⟨env, st, ρ, R, h⟩ => ?_
  rw [E] at h
  refine ⟨env, st, ρ, R, (Post.bind h).imp fun x H1 ρ1 e1 s1 k p R1 h1 v1 r1 => ?_⟩
  obtain ⟨d, hd, h2⟩ := Post.of_some (Post.bind h1)
  have h2 := Post.now h2 R1
  refine ⟨d, tru_rep r1 hd, ?_⟩
  cases d with
  | true =>
    rw [if_pos rfl]
    exact Post.now h2 R1 _ r1
  | false =>
    rw [if_neg Bool.false_ne_true]
    exact ⟨e1, s1, ρ1, R1, h2⟩
theorem em_one {op : BoolOp} {l : Expr} {a : Ex} (ha : PEm X G B fld W cx l a) : PEm X G B fld W cx (.BoolOp op [l] pos) a := pe_one ha
theorem em_ite {t l r : Expr} {c a b : Ex} (ht : PTm X G B fld W cx t c) (ha : PEm X G B fld W cx l a) (hb : PEm X G B fld W cx r b) : PEm X G B fld W cx (.IfExp t l r pos) (.ite c a b) := by
  refine pe_of (pe_ifExp ht ha hb) fun σ H Q ⟨env, st, ρ, R, h⟩ => ?_
  rw [E] at h
  have e : ∀ (f : Bool → En → So → KP.R D), ((E cx c env st).bind fun x e s => (truR x e s).bind f) = ((T cx c env st).bind f) := fun f => by
    rw [T]
    cases E cx c env st <;> rfl
  rw [e] at h
  refine ⟨env, st, ρ, R, (Post.bind h).imp fun d H1 ρ1 e1 s1 k p R1 h1 => ?_⟩
  cases d with
  | true =>
    rw [if_pos rfl]
    exact ⟨e1, s1, ρ1, R1, h1⟩
  | false =>
    rw [if_neg Bool.false_ne_true]
    exact ⟨e1, s1, ρ1, R1, h1⟩

/-! ### tests -/
theorem tm_truth {l : Expr} {a : Ex} (ha : PEm X G B fld W cx l a) (he : ∀ whole, isTrue l X.env whole = (do let v ← whole; standAt l.pos; holding [v] (truthy v))) : PTm X G B fld W cx l a := by
  refine pt_of (pt_truth ha he) fun σ H Q ⟨env, st, ρ, R, h⟩ => ?_
  rw [T] at h
  refine ⟨env, st, ρ, R, (Post.bind h).imp fun x H1 ρ1 e1 s1 k p R1 h1 v1 r1 => ?_⟩
  obtain ⟨b, hb, h2⟩ := Post.of_some h1
  exact ⟨b, tru_rep r1 hb, Post.now h2 R1⟩
theorem tm_cmp {o : Co} {l r : Expr} {a b : Ex} (hu : X.A.units + 65 < cLine) (ha : PEm X G B fld W cx l a) (hb : PEm X G B fld W cx r b) (hm : behindInMarks (coOf o) r = false) : PTm X G B fld W cx (.Compare l [coOf o] [r] pos) (.cmp o a b) := by
  refine pt_of (pt_cmpR (oc_all (G := G) hu o) ha hb hm) fun σ H Q ⟨env, st, ρ, R, h⟩ => ?_
  rw [T, E] at h
  refine ⟨env, st, ρ, R, (Post.bind (Post.bind h)).imp fun x H1 ρ1 e1 s1 k p R1 h1 v1 r1 => ?_⟩
  refine ⟨e1, s1, ρ1, R1, (Post.bind h1).imp fun y H2 ρ2 e2 s2 k2 p2 R2 h2 v2 r2 => ?_⟩
  obtain ⟨res, hres, h3⟩ := Post.of_some h2
  obtain ⟨c, hc, rfl⟩ := Option.map_eq_some_iff.mp hres
  exact ⟨x, y, c, ρ2, r1.keep k2 p2, r2, hc, c, rfl, Post.now (show Post X.K G X B fld W (.ok c e2 s2) σ H2 ρ2 _ from Post.now h3 R2) R2⟩
theorem tm_cmp2 {o o' : Co} {l r t : Expr} {a b c : Ex} (hu : X.A.units + 65 < cLine) (ha : PEm X G B fld W cx l a) (hb : PEm X G B fld W cx r b) (hc : PEm X G B fld W cx t c) (hm : lastMarks [coOf o, coOf o'] [r, t] = false) :
    PTm X G B fld W cx (.Compare l [coOf o, coOf o'] [r, t] pos) (.cmp2 o o' a b c) := by
  refine pt_of (pt_chain (oc_all (G := G) hu o) (oc_all (G := G) hu o') ha hb hc hm) fun σ H Q ⟨env, st, ρ, R, h⟩ => ?_
  rw [T, E] at h
  refine ⟨env, st, ρ, R, (Post.bind (Post.bind h)).imp fun x H1 ρ1 e1 s1 k p R1 h1 v1 r1 => ?_⟩
  refine ⟨e1, s1, ρ1, R1, (Post.bind h1).imp fun y H2 ρ2 e2 s2 k2 p2 R2 h2 v2 r2 => ?_⟩
  obtain ⟨k3, hk, h3⟩ := Post.of_some (Post.bind h2)
  have h3 := Post.now h3 R2
  refine ⟨x, y, k3, ρ2, r1.keep k2 p2, r2, hk, k3, rfl, ?_⟩
  cases k3 with
  | false =>
    rw [if_neg Bool.false_ne_true]
    exact ⟨false, rfl, Post.now (show Post X.K G X B fld W (.ok false e2 s2) σ H2 ρ2 _ from Post.now h3 R2) R2⟩
  | true =>
    rw [if_pos rfl]
    refine ⟨e2, s2, ρ2, R2, (Post.bind h3).imp fun z H3 ρ3 e3 s3 k4 p4 R3 h4 v3 r3 => ?_⟩
    obtain ⟨res, hres, h5⟩ := Post.of_some h4
    obtain ⟨d, hd, rfl⟩ := Option.map_eq_some_iff.mp hres
    exact ⟨y, z, d, ρ3, r2.keep k4 p4, r3, hd, d, rfl, Post.now (show Post X.K G X B fld W (.ok d e3 s3) σ H3 ρ3 _ from Post.now h5 R3) R3⟩
theorem T_not (a : Ex) (e : En) (s : So) : T cx (.not a) e s = (T cx a e s).bind fun b e s => .ok (!b) e s := by
  rw [T, T, E]
  cases E cx a e s with
  | ok x e s =>
    simp only [R.bind_ok]
    cases q : tru x with
    | none => simp [truR, q]
    | some k =>
      have e2 : tru (.bl (!k)) = some (!k) := rfl
      simp [truR, q, e2]
  | exc x e s => rfl
  | stuck => rfl
theorem tm_not {l : Expr} {a : Ex} (ha : PTm X G B fld W cx l a) : PTm X G B fld W cx (.UnaryOp .Not l pos) (.not a) := by
  refine pt_of (pt_not ha) fun σ H Q ⟨env, st, ρ, R, h⟩ => ?_
  rw [T_not] at h
  exact ⟨env, st, ρ, R, (Post.bind h).imp fun b H1 ρ1 e1 s1 k p R1 h1 => Post.now h1 R1⟩
theorem T_and (a b : Ex) (e : En) (s : So) : T cx (.and a b) e s = (T cx a e s).bind fun k e s => match k with
    | true => T cx b e s
    | false => .ok false e s := by
  rw [T, T, E]
  cases E cx a e s with
  | ok x e s =>
    simp only [R.bind_ok]
    cases q : tru x with
    | none => simp [truR, q]
    | some k => cases k <;> simp [truR, q, T] <;> cases E cx b e s <;> rfl
  | exc x e s => rfl
  | stuck => rfl
theorem T_or (a b : Ex) (e : En) (s : So) : T cx (.or a b) e s = (T cx a e s).bind fun k e s => match k with
    | true => .ok true e s
    | false => T cx b e s := by
  rw [T, T, E]
  cases E cx a e s with
  | ok x e s =>
    simp only [R.bind_ok]
    cases q : tru x with
    | none => simp [truR, q]
    | some k => cases k <;> simp [truR, q, T] <;> cases E cx b e s <;> rfl
  | exc x e s => rfl
  | stuck => rfl
abbrev PWm (X : Cx) (G : Glo) (B : Bs) (fld : Nat → List Str) (W : WX) (cx : Cc) (e : Expr) (a : Ex) : Prop := PW X e (tOfT X.K G X B fld W (T cx a))
theorem wm_and1 {l : Expr} {a : Ex} (ha : PTm X G B fld W cx l a) : PWm X G B fld W cx (.BoolOp .And [l] pos) a := pw_and1 ha
theorem wm_or1 {l : Expr} {a : Ex} (ha : PTm X G B fld W cx l a) : PWm X G B fld W cx (.BoolOp .Or [l] pos) a := pw_or1 ha
theorem pw_of {e : Expr} {t t' : TT} (h : PW X e t) (w : ∀ σ H Q, t' σ H Q → t σ H Q) : PW X e t' := ⟨fun wh pins s σ H Q I q => h.run wh pins s σ H Q I (w σ H Q q)⟩
theorem wm_and {l b : Expr} {rest : List Expr} {a c : Ex} (ha : PTm X G B fld W cx l a) (hb : PWm X G B fld W cx (.BoolOp .And (b :: rest) pos) c) : PWm X G B fld W cx (.BoolOp .And (l :: b :: rest) pos) (.and a c) := by
  refine pw_of (pw_and ha hb) fun σ H Q ⟨env, st, ρ, R, h⟩ => ?_
  rw [T_and] at h
  refine ⟨env, st, ρ, R, (Post.bind h).imp fun d H1 ρ1 e1 s1 k p R1 h1 => ?_⟩
  cases d with
  | true =>
    rw [if_pos rfl]
    exact ⟨e1, s1, ρ1, R1, h1⟩
  | false =>
    rw [if_neg Bool.false_ne_true]
    exact Post.now h1 R1
theorem wm_or {l b : Expr} {rest : List Expr} {a c : Ex} (ha : PTm X G B fld W cx l a) (hb : PWm X G B fld W cx (.BoolOp .Or (b :: rest) pos) c) : PWm X G B fld W cx (.BoolOp .Or (l :: b :: rest) pos) (.or a c) := by
  refine pw_of (pw_or ha hb) fun σ H Q ⟨env, st, ρ, R, h⟩ => ?_
  rw [T_or] at h
  refine ⟨env, st, ρ, R, (Post.bind h).imp fun d H1 ρ1 e1 s1 k p R1 h1 => ?_⟩
  cases d with
  | true =>
    rw [if_pos rfl]
    exact Post.now h1 R1
  | false =>
    rw [if_neg Bool.false_ne_true]
    exact ⟨e1, s1, ρ1, R1, h1⟩

/-! ### rows of arguments, tuples, lists -/
theorem am_nil : PAm X G B fld W cx [] .nil := pa_of pa_nil fun σ H Q ⟨env, st, ρ, R, h⟩ => Post.now h R _ .nil
theorem am_cons {l : Expr} {r : List Expr} {a : Ex} {as : Exs} (ha : PEm X G B fld W cx l a) (hr : PAm X G B fld W cx r as) (hs : starEach (l :: r) X.env = (false, eval l X.env) :: starEach r X.env) : PAm X G B fld W cx (l :: r) (.cons a as) := by
  refine pa_of (pa_cons ha hr hs) fun σ H Q ⟨env, st, ρ, R, h⟩ => ?_
  rw [Es] at h
  refine ⟨env, st, ρ, R, (Post.bind h).imp fun x H1 ρ1 e1 s1 k p R1 h1 v1 r1 => ?_⟩
  refine ⟨e1, s1, ρ1, R1, (Post.bind h1).imp fun xs H2 ρ2 e2 s2 k2 p2 R2 h2 vs rs => ?_⟩
  exact Post.now h2 R2 _ (.cons (r1.keep k2 p2) rs)
end
end KP
end
section
set_option autoImplicit false
set_option linter.all false
set_option maxRecDepth 100000
set_option maxHeartbeats 4000000
/-! KExpr2: tuples, lists, subscripts. -/
namespace KP
open PySem PySem.Spec PyProof.Rows L2

section
variable {X : Cx} {G : Glo} {B : Bs} {fld : Nat → List Str} {W : WX} {cx : Cc} {pos : Pos} {σ : L2.St} {H : Hp} {ρ : List Addr}
theorem Post.impE {α : Type} {r : KP.R α} {ψ ψ' : α → Hp → List Addr → En → So → Prop} (h : Post X.K G X B fld W r σ H ρ ψ)
    (f : ∀ a H' ρ' e s, r = .ok a e s → Keep H H' → ρ <+: ρ' → Rel X.K G X B σ H' e s ρ' → ψ a H' ρ' e s → ψ' a H' ρ' e s) : Post X.K G X B fld W r σ H ρ ψ' := by
  cases r with
  | ok a e s => exact fun H' ρ' k p R => f _ _ _ _ _ rfl k p R (h H' ρ' k p R)
  | exc x e s => exact h
  | stuck => exact h
def Exs.len : Exs → Nat
  | .nil => 0
  | .cons _ r => r.len + 1
theorem Es_len : ∀ (as : Exs) (e : En) (s : So) (ds : List D) (e' : En) (s' : So), Es cx as e s = .ok ds e' s' → ds.length = as.len
  | .nil, e, s, ds, e', s', h => by
    rw [Es] at h
    cases h
    rfl
  | .cons a r, e, s, ds, e', s', h => by
    rw [Es] at h
    cases q : E cx a e s with
    | ok x e1 s1 =>
      rw [q, R.bind_ok] at h
      cases q2 : Es cx r e1 s1 with
      | ok xs e2 s2 =>
        rw [q2, R.bind_ok] at h
        cases h
        exact congrArg Nat.succ (Es_len r e1 s1 xs _ _ q2)
      | exc x e s => rw [q2] at h; cases h
      | stuck => rw [q2] at h; cases h
    | exc x e s => rw [q] at h; cases h
    | stuck => rw [q] at h; cases h
theorem em_tup {es : List Expr} {as : Exs} {x1 : Nat} (ha : PAm X G B fld W cx es as) (hl : as.len ≤ sizeLine) : PEm X G B fld W cx (.Tuple es x1 pos) (.tup as) := by
  refine pe_of (pe_tup ha) fun σ H Q ⟨env, st, ρ, R, h⟩ => ?_
  rw [E] at h
  refine ⟨env, st, ρ, R, (Post.bind h).impE fun xs H1 ρ1 e1 s1 eq k p R1 h1 vs rs => ⟨?_, fun q hq => ?_⟩⟩
  · rw [← rs.length, Es_len as env st xs e1 s1 eq]
    exact hl
  · exact Post.nowS h1 R1 (same_new hq) _ (rep_tup hq rs)
/-- a rule whose value is a new list: it is locked -/
theorem pe_lock_of {e : Expr} {t : TE} (h : PE X e t) : PE X e (fun σ H Q => t σ H fun v H' => ∃ p vs H1, v = .ref p ∧ H1 p = none ∧ H' = upd H1 p (.lst vs) ∧ ∀ o, Q (.ref p) (upd H1 p (.frz o (.lst vs)))) := by
  refine ⟨fun pins s σ H Q I q => thn (h.run pins s σ H _ I q) fun u s1 ⟨v, H', I', r, p, vs, H1, e1, e2, e3, q1⟩ => ?_⟩
  subst e1 e3
  obtain ⟨o, I2⟩ := lockL I' upd_same
  rw [upd_upd] at I2
  exact ⟨.ref p, _, I2, r, q1 o⟩
theorem em_lst {es : List Expr} {as : Exs} (ha : PAm X G B fld W cx es as) (hl : as.len ≤ sizeLine) : PEm X G B fld W cx (.List es pos) (.lst as) := by
  refine pe_of (pe_lock_of (pe_lst ha)) fun σ H Q ⟨env, st, ρ, R, h⟩ => ?_
  rw [E] at h
  refine ⟨env, st, ρ, R, (Post.bind h).impE fun xs H1 ρ1 e1 s1 eq k p R1 h1 vs rs => ⟨?_, fun q hq => ⟨q, vs, H1, rfl, hq, rfl, fun o => ?_⟩⟩⟩
  · rw [← rs.length, Es_len as env st xs e1 s1 eq]
    exact hl
  · exact Post.nowS h1 R1 (same_new hq) _ (rep_frz hq rs)

/-! ### subscripts -/
theorem ixAt_eq (n : Nat) (i : Int) : ixAt n i = ixN n i := by
  unfold ixAt ixN
  by_cases h : 0 ≤ i
  · rw [if_pos h, if_pos h]
  · rw [if_neg h, if_neg h]
    by_cases h1 : -(n : Int) ≤ i
    · rw [if_pos h1, if_pos (by omega)]
    · rw [if_neg h1, if_neg (by omega)]
theorem item_rep {xs : List D} {vs : List V} {i : Int} {d : D} (r : RepL X.K G H ρ xs vs) (h : itemAt xs i = some d) : ∃ v, atI vs i = some v ∧ Rep X.K G H ρ d v := by
  unfold itemAt at h
  rw [ixAt_eq] at h
  cases q : ixN xs.length i with
  | none => rw [q] at h; cases h
  | some k =>
    rw [q] at h
    obtain ⟨v, h1, h2⟩ := r.get (i := k) h
    refine ⟨v, ?_, h2⟩
    unfold atI
    rw [← r.length, q]
    exact h1
/-- an item of a thing: a list, a tuple, a list of the store -/
def rI1 (X : Cx) (G : Glo) (B : Bs) : R2 := fun x y H Q => ∃ (σ : L2.St) (env : En) (st : So) (ρ : List Addr) (d1 d2 res : D), Rel X.K G X B σ H env st ρ ∧ Rep X.K G H ρ d1 x ∧ Rep X.K G H ρ d2 y ∧ ix st d1 d2 = some res ∧ (∀ n, d1 = .ref n → ∃ xs, st[n]? = some (.lst xs)) ∧
  ∀ v, Rep X.K G H ρ res v → Q v H
theorem ix_1 : IxR X (rI1 X G B) := by
  intro value slice pins s σ H x y v u Q I rx ry h hs
  obtain ⟨σ', env, st, ρ, d1, d2, res, R, r1, r2, hf, hr, q⟩ := h
  cases r1 with
  | @tup a vs xs h1 t1 =>
    cases d2 with
    | int i =>
      have hf : itemAt xs i = some res := hf
      obtain ⟨w, e1, e2⟩ := item_rep t1 hf
      rw [rep_int r2] at ry
      exact ix_tup value slice pins s σ H _ _ v u Q I rx ry ⟨a, vs, i, w, rfl, rfl, h1, e1, q w e2⟩ hs
    | _ => cases hf
  | @lst a vs xs h1 t1 =>
    cases d2 with
    | int i =>
      have hf : itemAt xs i = some res := hf
      obtain ⟨w, e1, e2⟩ := item_rep t1 hf
      rw [rep_int r2] at ry
      exact ix_list value slice pins s σ H _ _ v u Q I rx ry ⟨a, vs, i, w, rfl, rfl, h1.sq, e1, q w e2⟩ hs
    | _ => cases hf
  | @ref n a ha =>
    obtain ⟨xs, hx⟩ := hr n rfl
    have nc : Sl.cel n ∉ env := fun z => by
      obtain ⟨w, e⟩ := R.sc n _ hx z
      cases e
    obtain ⟨vs, h1, t1⟩ := R.so n a _ ha hx nc
    rw [ix, hx] at hf
    cases d2 with
    | int i =>
      have hf : itemAt xs i = some res := hf
      obtain ⟨w, e1, e2⟩ := item_rep t1 hf
      rw [rep_int r2] at ry
      exact ix_list value slice pins s σ H _ _ v u Q I rx ry ⟨a, vs, i, w, rfl, rfl, SqL.of h1, e1, q w e2⟩ hs
    | _ => cases hf
  | _ => cases d2 <;> cases hf
theorem cut_rep {xs : List D} {vs : List V} (r : RepL X.K G H ρ xs vs) (lo hi : Option Int) : RepL X.K G H ρ (cut xs lo hi) (cutV vs lo hi) := by
  have e : ∀ (n d : Nat) (o : Option Int), cutAt n d o = HT.sIx n d o := fun n d o => by
    cases o with
    | none => rfl
    | some i =>
      show (if 0 ≤ i then min i.toNat n else (i + n).toNat) = (if i < 0 then (i + (n : Int)).toNat else min i.toNat n)
      by_cases h : 0 ≤ i
      · rw [if_pos h, if_neg (by omega)]
      · rw [if_neg h, if_pos (by omega)]
  unfold cut cutV
  rw [e, e, List.drop_take, r.length]
  exact (r.drop _).take _
theorem sIx_le (n d : Nat) (hd : d ≤ n) (o : Option Int) : HT.sIx n d o ≤ n := by
  cases o with
  | none => exact hd
  | some i =>
    show (if i < 0 then (i + (n : Int)).toNat else min i.toNat n) ≤ n
    split <;> omega
theorem cut_whole {xs : List D} {lo hi : Option Int} {n : Nat} (hn : xs.length = n) (h : HT.sIx n 0 lo = 0 ∧ HT.sIx n n hi = n) : cut xs lo hi = xs := by
  have e : ∀ (n d : Nat) (o : Option Int), cutAt n d o = HT.sIx n d o := fun n d o => by
    cases o with
    | none => rfl
    | some i =>
      show (if 0 ≤ i then min i.toNat n else (i + n).toNat) = (if i < 0 then (i + (n : Int)).toNat else min i.toNat n)
      by_cases h : 0 ≤ i
      · rw [if_pos h, if_neg (by omega)]
      · rw [if_neg h, if_pos (by omega)]
  unfold cut
  rw [e, e, hn, h.1, h.2, List.drop_zero, ← hn, List.take_length]
/-- a slice -/
def rSl1 (X : Cx) (G : Glo) : V → Option Int → Option Int → Hp → VK → Prop := fun x lo hi H Q => ∃ (ρ : List Addr) (d : D), Rep X.K G H ρ d x ∧
  ((∃ xs, d = .tup xs ∧ ∀ v H', Same H H' → Rep X.K G H' ρ (.tup (cut xs lo hi)) v → Q v H') ∨ ∃ xs, d = .lst xs ∧ ∀ v H', Same H H' → Rep X.K G H' ρ (.lst (cut xs lo hi)) v → Q v H')
theorem sl_1 : SlR X (rSl1 X G) := by
  intro pins s σ H x v vl vu lo hi sl Q I rx hs pl pu h
  obtain ⟨ρ, d, r, h⟩ := h
  rcases h with ⟨xs, rfl, q⟩ | ⟨xs, rfl, q⟩
  · cases r with
    | @tup a vs xs h1 t1 =>
      refine sl_tupA pins s σ H _ v vl vu lo hi sl Q I rx hs pl pu ⟨a, vs, rfl, h1, fun hw => ?_, fun hw p hp => ?_⟩
      · refine q _ H (Same.refl H) ?_
        rw [cut_whole t1.length hw]
        exact .tup h1 t1
      · exact q _ _ (same_new hp) (rep_tup hp (cut_rep t1 lo hi))
  · cases r with
    | @lst a vs xs h1 t1 =>
      cases rx
      obtain ⟨hz, its, n, rv, ho⟩ := h1.obj I
      have pl' : PlainL s.heap a its.toArray := ⟨_, n, ho, rfl, rfl, rfl⟩
      obtain ⟨T, id, c1, c2, c3⟩ := sl_list pins s σ H (.ref a) (.ref a) vl vu lo hi sl (fun v H' => ∃ p, v = .ref p ∧ H p = none ∧ H' = upd H p (.lst (cutV vs lo hi))) I rfl hs pl pu ⟨a, vs, rfl, h1.sq, fun p hp => ⟨p, rfl, hp, rfl⟩⟩
      exact ⟨T, id, c1, c2, thn c3 fun u s1 z => EP.lock z fun p o hp => q _ _ (same_new hp) (rep_frz hp (cut_rep t1 lo hi))⟩
end
end KP
end
section
set_option autoImplicit false
set_option linter.all false
set_option maxRecDepth 100000
set_option maxHeartbeats 4000000
/-! KExpr3: subscripts. -/
namespace KP
open PySem PySem.Spec PyProof.Rows L2

/-- a value as it stands, a list that a place alone holds too -/
inductive RepP (K : PySem.W.Frag) (G : Glo) (H : Hp) (ρ : List Addr) : D → V → Prop
  | of {d : D} {v : V} : Rep K G H ρ d v → RepP K G H ρ d v
  | own {a : Addr} {vs : List V} {xs : List D} : SqL K H a vs → RepL K G H ρ xs vs → RepP K G H ρ (.lst xs) (.ref a)

section
variable {X : Cx} {G : Glo} {B : Bs} {fld : Nat → List Str} {W : WX} {cx : Cc} {pos : Pos} {σ : L2.St} {H : Hp} {ρ : List Addr}
theorem RepP.lst {xs : List D} {x : V} (r : RepP X.K G H ρ (.lst xs) x) : ∃ a vs, x = .ref a ∧ SqL X.K H a vs ∧ RepL X.K G H ρ xs vs := by
  cases r with
  | of r =>
    cases r with
    | lst h t => exact ⟨_, _, rfl, h.sq, t⟩
  | own h t => exact ⟨_, _, rfl, h, t⟩
theorem Rel.pk {env : En} {st : So} {i : Nat} {d : D} (R : Rel X.K G X B σ H env st ρ) (h : pk i env st = some d) : ∃ v, σ[i]? = some (some v) ∧ RepP X.K G H ρ d v := by
  unfold KP.pk at h
  split at h
  · rename_i d' e
    cases h
    obtain ⟨v, h1, h2⟩ := R.ev i _ e
    exact ⟨v, h1, .of h2⟩
  · rename_i xs e
    cases h
    obtain ⟨p, vs, h1, h2, h3, _⟩ := R.eo i xs e
    exact ⟨_, h1, .own (SqL.of h2) h3⟩
  · rename_i n e
    split at h
    · rename_i d' q
      cases h
      obtain ⟨y, a, h1, h2, h3, h4⟩ := R.ec i n e
      obtain ⟨_, v, h5, h6⟩ := h4 _ q
      exact ⟨v, h5, .of h6⟩
    · cases h
  · cases h

/-! ### dicts of the store -/
def keyD : Ky → D
  | .inl i => .int i
  | .inr x => .str x
theorem keyOf_rep {d : D} {k : Ky} {y : V} (r : Rep X.K G H ρ d y) (h : keyOf d = some k) : y = kV k := by
  cases r <;> cases h <;> rfl
theorem lookK_rep {kvs : List (Ky × D)} {kws : List (Key × V)} {k : Ky} {d : D} (p : Paired (fun (p : Ky × D) (q : Key × V) => p.1 = q.1 ∧ Rep X.K G H ρ p.2 q.2) kvs kws) (h : lookK kvs k = some d) : ∃ v, valV kws k = some v ∧ Rep X.K G H ρ d v := by
  induction p with
  | nil => cases h
  | @cons a b l1 l2 r t ih =>
    obtain ⟨g, x⟩ := a
    rw [lookK] at h
    by_cases e : g = k
    · subst e
      rw [if_pos rfl] at h
      cases h
      exact ⟨b.2, valV_pos r.1.symm, r.2⟩
    · rw [if_neg e] at h
      obtain ⟨v, h1, h2⟩ := ih h
      refine ⟨v, ?_, h2⟩
      rw [valV_neg (fun z => e (r.1.trans z))]
      exact h1

/-- an item of a thing -/
def rI (X : Cx) (G : Glo) (B : Bs) : R2 := fun x y H Q => ∃ (σ : L2.St) (env : En) (st : So) (ρ : List Addr) (d1 d2 res : D), Rel X.K G X B σ H env st ρ ∧ RepP X.K G H ρ d1 x ∧ Rep X.K G H ρ d2 y ∧ ix st d1 d2 = some res ∧
  ∀ v, Rep X.K G H ρ res v → Q v H
theorem Rel.obj {env : En} {st : So} {n : Nat} {a : Addr} {ob : Ob} (R : Rel X.K G X B σ H env st ρ) (ha : ρ[n]? = some a) (hx : st[n]? = some ob) (hc : ∀ v, ob ≠ .cel v) : ObRep X.K G H ρ a ob :=
  R.so n a _ ha hx fun z => by
    obtain ⟨w, e⟩ := R.sc n _ hx z
    exact hc w e
theorem ix_all (hu : X.A.units + 1 < cLine) : IxR X (rI X G B) := by
  intro value slice pins s σ H x y v u Q I rx ry h hs
  obtain ⟨σ', env, st, ρ, d1, d2, res, R, r1, r2, hf, q⟩ := h
  cases d1 with
  | tup xs =>
    cases r1 with
    | of r1 =>
      cases r1 with
      | tup h1 t1 =>
        cases d2 with
        | int i =>
          have hf : itemAt xs i = some res := hf
          obtain ⟨w, e1, e2⟩ := item_rep t1 hf
          rw [rep_int r2] at ry
          exact ix_tup value slice pins s σ H _ _ v u Q I rx ry ⟨_, _, i, w, rfl, rfl, h1, e1, q w e2⟩ hs
        | _ => cases hf
  | lst xs =>
    obtain ⟨a, vs, rfl, h1, t1⟩ := r1.lst
    cases d2 with
    | int i =>
      have hf : itemAt xs i = some res := hf
      obtain ⟨w, e1, e2⟩ := item_rep t1 hf
      rw [rep_int r2] at ry
      exact ix_list value slice pins s σ H _ _ v u Q I rx ry ⟨a, vs, i, w, rfl, rfl, h1, e1, q w e2⟩ hs
    | _ => cases hf
  | ref n =>
    cases r1 with
    | of r1 =>
      cases r1 with
      | @ref _ a ha =>
        rw [ix] at hf
        cases e : st[n]? with
        | none => rw [e] at hf; cases hf
        | some ob =>
          rw [e] at hf
          cases ob with
          | lst xs =>
            obtain ⟨vs, h1, t1⟩ := R.obj ha e (fun _ z => by cases z)
            cases d2 with
            | int i =>
              have hf : itemAt xs i = some res := hf
              obtain ⟨w, e1, e2⟩ := item_rep t1 hf
              rw [rep_int r2] at ry
              exact ix_list value slice pins s σ H _ _ v u Q I rx ry ⟨a, vs, i, w, rfl, rfl, SqL.of h1, e1, q w e2⟩ hs
            | _ => cases hf
          | dic kvs =>
            obtain ⟨kws, h1, t1⟩ := R.obj ha e (fun _ z => by cases z)
            cases ek : keyOf d2 with
            | none => rw [ek] at hf; cases hf
            | some k =>
              rw [ek] at hf
              obtain ⟨w, e1, e2⟩ := lookK_rep t1 hf
              have ey := keyOf_rep r2 ek
              subst ey
              have g : DGet H a (kV k) (some w) := by
                rw [← e1]
                exact DGet.k h1
              cases rx
              exact tail_any (dict_typeIs I g) slot_dict_getitem.lookup (d_getItem hu I g ry fun w' s' I' rw' => ⟨w, H, I', rw', q w e2⟩) hs
          | _ => cases hf
  | _ => cases hf

theorem em_ix {l r : Expr} {a b : Ex} (hu : X.A.units + 1 < cLine) (ha : PEm X G B fld W cx l a) (hb : PEm X G B fld W cx r b) (hp : PlainIx r) : PEm X G B fld W cx (.Subscript l r pos) (.ix a b) := by
  refine pe_of (pe_ix (ix_all (G := G) (B := B) hu) ha hb hp) fun σ H Q ⟨env, st, ρ, R, h⟩ => ?_
  rw [E] at h
  refine ⟨env, st, ρ, R, (Post.bind h).imp fun x H1 ρ1 e1 s1 k p R1 h1 v1 r1 => ?_⟩
  refine ⟨e1, s1, ρ1, R1, (Post.bind h1).imp fun y H2 ρ2 e2 s2 k2 p2 R2 h2 v2 r2 => ?_⟩
  obtain ⟨res, hres, h3⟩ := Post.of_some h2
  exact ⟨σ, e2, s2, ρ2, x, y, res, R2, .of (r1.keep k2 p2), r2, hres, Post.now h3 R2⟩
theorem em_ixv {i : Nat} {x : Str} {r : Expr} {b : Ex} {p0 : Pos} (hu : X.A.units + 1 < cLine) (hN : X.N[i]? = some x) (hv : Vis X.env.scope x) (hd : (x == ("__debug__" : Str)) = false) (hcd : (x == ("__classdict__" : Str)) = false)
    (hb : PEm X G B fld W cx r b) (hp : PlainIx r) : PEm X G B fld W cx (.Subscript (.Name x p0) r pos) (.ixv i b) := by
  refine pe_of (pe_ix (ix_all (G := G) (B := B) hu) (pe_var hN hv hd hcd) hb hp) fun σ H Q ⟨env, st, ρ, R, h⟩ => ?_
  rw [E] at h
  obtain ⟨d0, h0, h⟩ := Post.of_some (Post.bind h)
  have h := Post.now h R
  obtain ⟨v0, e0, _⟩ := R.pk h0
  refine ⟨v0, e0, env, st, ρ, R, (Post.bind h).imp fun y H2 ρ2 e2 s2 k2 p2 R2 h2 v2 r2 => ?_⟩
  obtain ⟨res, hres, h3⟩ := Post.of_some h2
  obtain ⟨d, hd1, hd2⟩ := Option.bind_eq_some_iff.mp hres
  obtain ⟨v1, e1, r1⟩ := R2.pk hd1
  rw [e0] at e1
  cases e1
  exact ⟨σ, e2, s2, ρ2, d, y, res, R2, r1, r2, hd2, Post.now h3 R2⟩

/-! ### slices -/
/-- a bound as it is written -/
def POm (X : Cx) (G : Glo) (B : Bs) (fld : Nat → List Str) (W : WX) (cx : Cc) (e : Option Expr) (o : Exo) : Prop :=
  PO X e fun σ H Q => ∃ env st ρ, Rel X.K G X B σ H env st ρ ∧ Post X.K G X B fld W (Eo cx o env st) σ H ρ fun d H' ρ' _ _ => ∃ i, bnd d = some i ∧ Q i H'
theorem po_no : POm X G B fld W cx none .no := ⟨fun pins s σ H Q I h => by
  obtain ⟨env, st, ρ, R, h⟩ := h
  obtain ⟨i, hi, q⟩ := Post.now (show Post X.K G X B fld W (.ok none env st) σ H ρ _ from h) R
  cases hi
  exact po_none.run pins s σ H Q I q⟩
theorem po_so {e : Expr} {a : Ex} (ha : PEm X G B fld W cx e a) : POm X G B fld W cx (some e) (.so a) := ⟨fun pins s σ H Q I h => by
  obtain ⟨env, st, ρ, R, h⟩ := h
  rw [Eo] at h
  rw [evalPart_some]
  refine thn (ha.run pins s σ H (fun v H' => ∃ i, (v = .non ∧ i = none ∨ ∃ j, v = .int j ∧ i = some j) ∧ Q i H') I ⟨env, st, ρ, R, (Post.bind h).imp fun x H1 ρ1 e1 s1 k p R1 h1 v1 r1 => ?_⟩) fun u s1 ⟨v, H1, I1, r1, i, hi, q⟩ => ?_
  · obtain ⟨i, hi, q⟩ := Post.now h1 R1
    refine ⟨i, ?_, q⟩
    cases r1 <;> cases hi
    · exact .inl ⟨rfl, rfl⟩
    · exact .inr ⟨_, rfl, rfl⟩
  · rcases hi with ⟨rfl, rfl⟩ | ⟨j, rfl, rfl⟩
    · obtain rfl : u = Value.none := r1
      exact ⟨none, H1, I1, .none, q⟩
    · obtain ⟨t, rfl⟩ := r1
      exact ⟨some j, H1, I1, .int j t, q⟩⟩
theorem em_slc {l : Expr} {lo hi : Option Expr} {a : Ex} {ol oh : Exo} {p2 : Pos} (ha : PEm X G B fld W cx l a) (hl : POm X G B fld W cx lo ol) (hh : POm X G B fld W cx hi oh) :
    PEm X G B fld W cx (.Subscript l (.Slice lo hi none p2) pos) (.slc a ol oh) := by
  refine pe_of (pe_slice (sl_1 (G := G)) ha hl hh) fun σ H Q ⟨env, st, ρ, R, h⟩ => ?_
  rw [E] at h
  refine ⟨env, st, ρ, R, (Post.bind h).imp fun x H1 ρ1 e1 s1 k p R1 h1 v1 r1 => ?_⟩
  refine ⟨e1, s1, ρ1, R1, (Post.bind h1).imp fun y H2 ρ2 e2 s2 k2 p2 R2 h2 => ?_⟩
  obtain ⟨i, hi, h2⟩ := Post.of_some (Post.bind h2)
  have h2 := Post.now h2 R2
  refine ⟨i, hi, e2, s2, ρ2, R2, (Post.bind h2).imp fun z H3 ρ3 e3 s3 k3 p3 R3 h3 => ?_⟩
  obtain ⟨j, hj, h3⟩ := Post.of_some (Post.bind h3)
  have h3 := Post.now h3 R3
  obtain ⟨res, hres, h4⟩ := Post.of_some h3
  have r3 := (r1.keep k2 p2).keep k3 p3
  cases x with
  | tup xs =>
    cases hres
    exact ⟨j, hj, ρ3, _, r3, .inl ⟨xs, rfl, fun v H' sm hr => h4.nowS R3 sm v hr⟩⟩
  | lst xs =>
    cases hres
    exact ⟨j, hj, ρ3, _, r3, .inr ⟨xs, rfl, fun v H' sm hr => h4.nowS R3 sm v hr⟩⟩
  | _ => cases hres
theorem em_backL {e : Expr} {a : Ex} {k : Nat} {p1 p2 p3 : Pos} (ha : PEm X G B fld W cx e a) :
    PEm X G B fld W cx (.Subscript e (.Slice none none (some (.UnaryOp .USub (.Constant (.int 1) k p1) p2)) p3) pos) (.back a) := by
  refine pe_of (pe_lock_of (pe_revL ha)) fun σ H Q ⟨env, st, ρ, R, h⟩ => ?_
  rw [E] at h
  refine ⟨env, st, ρ, R, (Post.bind h).imp fun x H1 ρ1 e1 s1 k p R1 h1 v1 r1 => ?_⟩
  cases x with
  | lst xs =>
    cases r1 with
    | lst h2 t2 => exact ⟨_, _, rfl, h2.sq, fun q hq => ⟨q, _, H1, rfl, hq, rfl, fun o => Post.nowS h1 R1 (same_new hq) _ (rep_frz hq t2.reverse)⟩⟩
  | _ => exact h1.elim
end
end KP
end
section
set_option autoImplicit false
set_option linter.all false
set_option maxRecDepth 100000
set_option maxHeartbeats 4000000
/-! KBi: builtins. -/
namespace KP
open PySem PySem.Spec PyProof.Rows L2

/-- what a context is known to have -/
structure Cok (X : Cx) : Prop where
  calm : X.calm = true
  guards : X.A.guards = some []
  units : X.A.units + 100 < cLine
  nd : X.N.Nodup
  sys : ∃ o, X.base.get? sysModules = some o ∧ o.cls = .type "dict"

section
variable {X : Cx} {G : Glo} {B : Bs} {fld : Nat → List Str} {W : WX} {cx : Cc} {pos : Pos} {σ : L2.St} {H : Hp} {ρ : List Addr}

/-! ### repr -/
theorem notSys {pins : List (Addr × Obj)} {s : Shared} (C : Cok X) (I : Inv X pins σ H s) {a : Addr} {o : Obj} (h : s.heap.get? a = some o) (hc : o.cls ≠ .type "dict") : sysModules ≠ a := fun e => by
  subst e
  obtain ⟨o', h1, h2⟩ := C.sys
  rw [I.bk _ _ h1] at h
  cases h
  exact hc h2
theorem pairs_reads {prog : Program} {w : World} {h : Heap} : ∀ {ks : List Str} {vs : List V} {ws : List (Key × Value)} {es : List DictEntry}, ks.length = vs.length → KV ((ks.map Sum.inr).zip vs) ws → Pairs (mixKind prog w) es ws →
    ReadsAll h (es.map (·.key)) (ks.map PyData.str) [] ∧ ∃ us, es.map (·.val) = us ∧ Vals vs us
  | [], [], _, _, _, .nil, .nil => ⟨.nil, [], rfl, .nil⟩
  | k :: ks, v :: vs, _, _, l, .cons (b := b) r t, .cons (e := e) h1 h2 h3 => by
    obtain ⟨q1, us, q2, q3⟩ := pairs_reads (by simpa using l) t h3
    have r1 : (Sum.inr k : Key) = b.1 := r.1
    have h1' : keyIs b.1 e.key = true := h1
    rw [← r1] at h1'
    obtain ⟨tk, hk⟩ : ∃ tk, e.key = .str k tk := by
      rcases keyIs_shape h1' with ⟨i, t, e1, e2⟩ | ⟨x, t, e1, e2⟩
      · cases e1
      · cases e1
        exact ⟨t, e2⟩
    refine ⟨?_, e.val :: us, by rw [List.map_cons, q2], .cons (by rw [h2]; exact r.2) q3⟩
    rw [List.map_cons, List.map_cons, hk]
    exact ReadsAll.cons (as := []) (bs := []) (Reads.str k tk) q1
mutual
theorem Rep.reads {pins : List (Addr × Obj)} {s : Shared} (C : Cok X) (I : Inv X pins σ H s) : ∀ {d : D} {x : V} {p : PyData} {u : Value}, Rep X.K G H ρ d x → d.py = some p → RelV x u → ∃ as, Reads s.heap u p as ∧ sysModules ∉ as
  | _, _, _, _, .non, e, r => by cases e; cases r; exact ⟨_, .none, by simp⟩
  | _, _, _, _, .bl b, e, r => by cases e; cases r; exact ⟨_, .bool b, by simp⟩
  | _, _, _, _, .int i, e, r => by cases e; obtain ⟨t, rfl⟩ := r; exact ⟨_, .int i t, by simp⟩
  | _, _, _, _, .str x, e, r => by cases e; obtain ⟨t, rfl⟩ := r; exact ⟨_, .str x t, by simp⟩
  | _, _, _, _, .ty n, e, r => by cases e
  | _, _, _, _, .ref h, e, r => by cases e
  | _, _, _, _, .fn h, e, r => by cases e
  | _, _, _, _, .cls h, e, r => by cases e
  | _, _, _, _, .clo _ _ _ _ _ _, e, r => by cases e
  | _, _, _, _, .tup (xs := xs) h t, e, r => by
    rw [D.py] at e
    obtain ⟨ps, hp, rfl⟩ := Option.map_eq_some_iff.mp e
    cases r
    obtain ⟨its, rv, ⟨o, h1, h2, n, h3⟩, hz⟩ := I.tuple h
    obtain ⟨as, h4, h5⟩ := RepL.reads C I t hp rv
    exact ⟨as, .tuple h1 h2 h3 (by simpa using h4), h5⟩
  | _, _, _, _, .lst (xs := xs) h t, e, r => by
    rw [D.py] at e
    obtain ⟨ps, hp, rfl⟩ := Option.map_eq_some_iff.mp e
    cases r
    obtain ⟨hz, its, n, rv, h1⟩ := h.obj I
    obtain ⟨as, h4, h5⟩ := RepL.reads C I t hp rv
    refine ⟨_ :: as, .list h1 rfl rfl (by simpa using h4), ?_⟩
    rw [List.mem_cons]
    exact fun z => z.elim (fun e => notSys C I h1 (fun e => by simp at e) e) h5
  | _, _, _, _, .dct (ks := ks) (vs := vs) (xs := xs) l ⟨o, h⟩ t, e, r => by
    rw [D.py] at e
    split at e
    · obtain ⟨ps, hp, rfl⟩ := Option.map_eq_some_iff.mp e
      cases r
      obtain ⟨hz, hs, ws, rw', oo, es, ep, h1, h2, h3, h4, h5, h6⟩ := dk_rd I.hok (.inr ⟨o, h⟩)
      obtain ⟨q1, us, q2, q3⟩ := pairs_reads (h := s.heap) l rw' h5
      obtain ⟨bs, h7, h8⟩ := RepL.reads C I t hp q3
      have lps : ks.length = ps.length := by
        rename_i l2
        rw [l2]
        exact pyAll_len hp
      refine ⟨_ :: [] ++ bs, .dict (as := []) (bs := bs) h1 h2.1 h3 ?_ ?_, ?_⟩
      · rw [List.map_fst_zip (by rw [List.length_map]; omega)]
        exact q1
      · rw [List.map_snd_zip (by rw [List.length_map]; omega), q2]
        exact h7
      · rw [List.cons_append, List.nil_append, List.mem_cons]
        exact fun z => z.elim (fun e => by rw [← e] at hs; simp at hs) h8
    · cases e
theorem RepL.reads {pins : List (Addr × Obj)} {s : Shared} (C : Cok X) (I : Inv X pins σ H s) : ∀ {ds : List D} {xs : List V} {ps : List PyData} {us : List Value}, RepL X.K G H ρ ds xs → pyAll ds = some ps → Vals xs us → ∃ as, ReadsAll s.heap us ps as ∧ sysModules ∉ as
  | _, _, _, _, .nil, e, r => by cases e; cases r; exact ⟨_, .nil, by simp⟩
  | _, _, _, _, .cons (x := x) (xs := xs) h t, e, r => by
    rw [pyAll] at e
    cases q : x.py with
    | none => rw [q] at e; cases e
    | some p =>
      cases q2 : pyAll xs with
      | none => rw [q, q2] at e; cases e
      | some ps =>
        rw [q, q2] at e
        cases e
        cases r with
        | cons r1 r2 =>
          obtain ⟨as, h1, h2⟩ := Rep.reads C I h q r1
          obtain ⟨bs, h3, h4⟩ := RepL.reads C I t q2 r2
          exact ⟨as ++ bs, .cons h1 h3, by rw [List.mem_append]; exact fun z => z.elim h2 h4⟩
end

/-! ### the builtins' answers -/
def rBi (X : Cx) (G : Glo) (B : Bs) (b : Bi) : List V → Hp → VK → Prop := fun vs H Q => ∃ (σ : L2.St) (env : En) (st : So) (ρ : List Addr) (ds : List D) (res : D), Rel X.K G X B σ H env st ρ ∧ RepL X.K G H ρ ds vs ∧ bi st b ds = some res ∧
  ∀ v H', Same H H' → Rep X.K G H' ρ res v → Q v H'
theorem repL1 {K : PySem.W.Frag} {d : D} {vs : List V} (r : RepL K G H ρ [d] vs) : ∃ v, vs = [v] ∧ Rep K G H ρ d v := by
  cases r with
  | cons h t => cases t; exact ⟨_, rfl, h⟩
theorem repL2 {K : PySem.W.Frag} {d d' : D} {vs : List V} (r : RepL K G H ρ [d, d'] vs) : ∃ v w, vs = [v, w] ∧ Rep K G H ρ d v ∧ Rep K G H ρ d' w := by
  cases r with
  | cons h t =>
    obtain ⟨w, rfl, h2⟩ := repL1 t
    exact ⟨_, _, rfl, h, h2⟩
theorem cr_repr (C : Cok X) : CallR X (.builtin "repr") (rBi X G B .repr) := by
  intro pins s σ H xs us Q I r h
  obtain ⟨σ', env, st, ρ, ds, res, R, rs, hf, q⟩ := h
  match ds, hf with
  | [d], hf =>
    obtain ⟨x, rfl, rx⟩ := repL1 rs
    obtain ⟨u, rfl, ru⟩ := vals1 r
    have hf : (reprD d).map .str = some res := hf
    obtain ⟨z, hz, rfl⟩ := Option.map_eq_some_iff.mp hf
    unfold reprD at hz
    cases hp : d.py with
    | none => rw [hp] at hz; cases hz
    | some p =>
      rw [hp] at hz
      simp only at hz
      split at hz
      · rename_i hc
        cases hz
        rw [Bool.and_eq_true, Bool.and_eq_true, decide_eq_true_eq, decide_eq_true_eq] at hc
        obtain ⟨⟨hs, hl⟩, hd⟩ := hc
        obtain ⟨as, rd, hsm⟩ := rx.reads C I hp ru
        have hu := C.units
        have fin : ∀ t s', Inv X pins σ H s' → EP X pins σ Q (.str p.shown t) s' := fun t s' I' => ⟨.str _, H, I', ⟨t, rfl⟩, q _ H (Same.refl H) (.str _)⟩
        have big : ∀ a, u = .ref a → wpAny (model X.prog X.w) X.A (call (.builtin "repr") [u]) (EP X pins σ Q) X.xe s := fun a e => by
          subst e
          refine PySem.repr_of_reads' rd hs (fun _ => hsm) C.guards (by omega) (fun b o e => e) (fun h' u tk hk => fin _ _ ?_) hl
          exact I.un (Un.kept hk) (I.hok.kept hk)
        cases rx with
        | non =>
          cases hp
          cases ru
          exact PySem.P.repr_of_none (fin _ _ (I.tok _))
        | bl b =>
          cases hp
          cases ru
          exact PySem.P.repr_of_bool (fin _ _ (I.tok _))
        | int i =>
          cases hp
          obtain ⟨t, rfl⟩ := ru
          exact PySem.P.repr_of_int (by simpa [PyData.showable] using hs) (fin _ _ (I.tok _))
        | str x =>
          cases hp
          obtain ⟨t, rfl⟩ := ru
          exact PySem.P.repr_of_str (fin _ _ (I.tok _)) hl
        | tup h t => exact big _ ru
        | lst h t => exact big _ ru
        | dct l h t => exact big _ ru
        | ty n => cases hp
        | ref h => cases hp
        | fn f => cases hp
        | cls c => cases hp
        | clo _ _ _ _ _ _ => cases hp
      · cases hz
  | [], hf => cases hf
  | _ :: _ :: _, hf => cases hf
end
end KP
end
section
set_option autoImplicit false
set_option linter.all false
set_option maxRecDepth 100000
set_option maxHeartbeats 4000000
/-! KBi2: the other builtins, their calls. -/
namespace KP
open PySem PySem.Spec PyProof.Rows L2

section
variable {X : Cx} {G : Glo} {B : Bs} {fld : Nat → List Str} {W : WX} {cx : Cc} {pos : Pos} {σ : L2.St} {H : Hp} {ρ : List Addr}

/-- the length of a thing as it stands -/
def rLenP (X : Cx) (G : Glo) (B : Bs) : List V → Hp → VK → Prop := fun vs H Q => ∃ (σ : L2.St) (env : En) (st : So) (ρ : List Addr) (d res : D) (v : V), Rel X.K G X B σ H env st ρ ∧ vs = [v] ∧ RepP X.K G H ρ d v ∧ bi st .len [d] = some res ∧
  ∀ v, Rep X.K G H ρ res v → Q v H
theorem cr_lenP : CallR X (.builtin "len") (rLenP X G B) := by
  intro pins s σ H xs us Q I r h
  obtain ⟨σ', env, st, ρ, d, res, v, R, rfl, rd, hf, q⟩ := h
  cases d with
  | tup ds =>
    cases hf
    cases rd with
    | of rd =>
      cases rd with
      | tup h t => exact call_len pins s σ H _ _ Q I r ⟨_, _, rfl, .inr ⟨_, h, rfl⟩, by rw [← t.length]; exact q _ (.int _)⟩
  | lst ds =>
    cases hf
    obtain ⟨a, ws, rfl, h, t⟩ := rd.lst
    exact call_len pins s σ H _ _ Q I r ⟨_, _, rfl, .inl ⟨_, h, rfl⟩, by rw [← t.length]; exact q _ (.int _)⟩
  | str x =>
    rw [bi] at hf
    split at hf
    · rename_i hz
      cases hf
      cases rd with
      | of rd =>
        cases rd
        exact call_len pins s σ H _ _ Q I r ⟨_, _, rfl, ⟨hz, rfl⟩, q _ (.int _)⟩
    · cases hf
  | ref n =>
    cases rd with
    | of rd =>
      cases rd with
      | @ref _ a ha =>
        rw [bi] at hf
        cases e : st[n]? with
        | none => rw [e] at hf; cases hf
        | some ob =>
          rw [e] at hf
          cases ob with
          | lst ds =>
            cases hf
            obtain ⟨ws, h1, t1⟩ := R.obj ha e (fun _ z => by cases z)
            exact call_len pins s σ H _ _ Q I r ⟨_, _, rfl, .inl ⟨_, SqL.of h1, rfl⟩, by rw [← t1.length]; exact q _ (.int _)⟩
          | dic kvs =>
            cases hf
            obtain ⟨ws, h1, t1⟩ := R.obj ha e (fun _ z => by cases z)
            have l : kvs.length = ws.length := by
              clear q e h1
              induction t1 with
              | nil => rfl
              | cons _ _ ih => exact congrArg Nat.succ ih
            exact call_lenD pins s σ H _ _ Q I r ⟨_, _, rfl, h1, by rw [← l]; exact q _ (.int _)⟩
          | _ => cases hf
  | _ => cases hf
theorem cr_len : CallR X (.builtin "len") (rBi X G B .len) := by
  intro pins s σ H xs us Q I r h
  obtain ⟨σ', env, st, ρ, ds, res, R, rs, hf, q⟩ := h
  match ds, hf with
  | [], hf => cases hf
  | [d], hf =>
    obtain ⟨x, rfl, rx⟩ := repL1 rs
    exact cr_lenP pins s σ H _ _ Q I r ⟨σ', env, st, ρ, d, res, x, R, rfl, .of rx, hf, fun v hv => q v H (Same.refl H) hv⟩
  | a :: b :: l, hf => cases a <;> cases hf
theorem cr_abs : CallR X (.builtin "abs") (rBi X G B .abs) := by
  intro pins s σ H xs us Q I r h
  obtain ⟨σ', env, st, ρ, ds, res, R, rs, hf, q⟩ := h
  match ds, hf with
  | [], hf => cases hf
  | [d], hf =>
    obtain ⟨x, rfl, rx⟩ := repL1 rs
    cases d with
    | int i =>
      cases hf
      rw [rep_int rx] at r
      refine call_abs pins s σ H _ _ Q I r ⟨i, rfl, q _ H (Same.refl H) ?_⟩
      have e : (if i < 0 then -i else i) = ((i.natAbs : Nat) : Int) := by split <;> omega
      rw [e]
      exact .int _
    | _ => cases hf
  | a :: b :: l, hf => cases a <;> cases hf
theorem int2 {K : PySem.W.Frag} {f : Int → Int → D} {ds : List D} {vs : List V} {res : D} {b : Bi} {st : So} (rs : RepL K G H ρ ds vs) (hf : bi st b ds = some res) (h : ∀ ds res, bi st b ds = some res → ∃ i j, ds = [.int i, .int j] ∧ res = f i j) :
    ∃ i j, vs = [.int i, .int j] ∧ res = f i j := by
  obtain ⟨i, j, rfl, rfl⟩ := h ds res hf
  obtain ⟨x, y, rfl, r1, r2⟩ := repL2 rs
  rw [rep_int r1, rep_int r2]
  exact ⟨i, j, rfl, rfl⟩
theorem two_ints {b : Bi} {st : So} {f : Int → Int → D} (h : ∀ i j, bi st b [.int i, .int j] = some (f i j)) (h0 : bi st b [] = none) (h1 : ∀ d, bi st b [d] = none) (h3 : ∀ a c d l, bi st b (a :: c :: d :: l) = none)
    (h2 : ∀ a c, (∀ i j, ¬ (a = .int i ∧ c = .int j)) → bi st b [a, c] = none) : ∀ ds res, bi st b ds = some res → ∃ i j, ds = [.int i, .int j] ∧ res = f i j := by
  intro ds res e
  match ds, e with
  | [], e => rw [h0] at e; cases e
  | [d], e => rw [h1] at e; cases e
  | [a, c], e =>
    by_cases q : ∃ i j, a = .int i ∧ c = .int j
    · obtain ⟨i, j, rfl, rfl⟩ := q
      rw [h] at e
      exact ⟨i, j, rfl, (Option.some.inj e).symm⟩
    · rw [h2 a c fun i j z => q ⟨i, j, z⟩] at e
      cases e
  | a :: c :: d :: l, e => rw [h3] at e; cases e
theorem cr_max2 (C : Cok X) : CallR X (.builtin "max") (rBi X G B .max2) := by
  intro pins s σ H xs us Q I r h
  obtain ⟨σ', env, st, ρ, ds, res, R, rs, hf, q⟩ := h
  obtain ⟨i, j, rfl, rfl⟩ := int2 (f := fun i j => .int (if j > i then j else i)) rs hf (two_ints (fun _ _ => rfl) rfl (fun d => by cases d <;> rfl) (fun a c d l => by cases a <;> cases c <;> rfl) fun a c z => by
    cases a <;> cases c <;> first | rfl | exact absurd ⟨rfl, rfl⟩ (z _ _))
  exact call_max2 C.calm pins s σ H _ _ Q I r ⟨i, j, rfl, q _ H (Same.refl H) (.int _)⟩
theorem cr_min2 (C : Cok X) : CallR X (.builtin "min") (rBi X G B .min2) := by
  intro pins s σ H xs us Q I r h
  obtain ⟨σ', env, st, ρ, ds, res, R, rs, hf, q⟩ := h
  obtain ⟨i, j, rfl, rfl⟩ := int2 (f := fun i j => .int (if j < i then j else i)) rs hf (two_ints (fun _ _ => rfl) rfl (fun d => by cases d <;> rfl) (fun a c d l => by cases a <;> cases c <;> rfl) fun a c z => by
    cases a <;> cases c <;> first | rfl | exact absurd ⟨rfl, rfl⟩ (z _ _))
  exact call_min2 C.calm pins s σ H _ _ Q I r ⟨i, j, rfl, q _ H (Same.refl H) (.int _)⟩
theorem cr_gcdm : CallR X (.builtin "math.gcd") (rBi X G B .gcd) := by
  intro pins s σ H xs us Q I r h
  obtain ⟨σ', env, st, ρ, ds, res, R, rs, hf, q⟩ := h
  obtain ⟨i, j, rfl, rfl⟩ := int2 (f := fun i j => .int (Nat.gcd i.natAbs j.natAbs : Nat)) rs hf (two_ints (fun _ _ => rfl) rfl (fun d => by cases d <;> rfl) (fun a c d l => by cases a <;> cases c <;> rfl) fun a c z => by
    cases a <;> cases c <;> first | rfl | exact absurd ⟨rfl, rfl⟩ (z _ _))
  exact cr_gcd pins s σ H _ _ Q I r ⟨i, j, rfl, q _ H (Same.refl H) (.int _)⟩
theorem bools_rep {K : PySem.W.Frag} : ∀ {ds : List D} {vs : List V} {bs : List Bool}, RepL K G H ρ ds vs → bools ds = some bs → vs = bs.map V.bl
  | _, _, _, .nil, e => by cases e; rfl
  | _, _, _, .cons (x := x) (xs := xs) h t, e => by
    cases h with
    | bl b =>
      rw [bools] at e
      obtain ⟨bs, h1, rfl⟩ := Option.map_eq_some_iff.mp e
      rw [bools_rep t h1]
      rfl
    | _ => cases e
theorem cr_allB (C : Cok X) : CallR X (.builtin "all") (rBi X G B .all) := by
  intro pins s σ H xs us Q I r h
  obtain ⟨σ', env, st, ρ, ds, res, R, rs, hf, q⟩ := h
  match ds, hf with
  | [], hf => cases hf
  | [d], hf =>
    obtain ⟨x, rfl, rx⟩ := repL1 rs
    cases d with
    | lst xs =>
      obtain ⟨bs, h1, rfl⟩ := Option.map_eq_some_iff.mp (show (bools xs).map (fun bs => D.bl (bs.all id)) = some res from hf)
      cases rx with
      | lst h t =>
        have e := bools_rep t h1
        subst e
        exact cr_all C.calm pins s σ H _ _ Q I r ⟨_, bs, rfl, h.sq, q _ H (Same.refl H) (.bl _)⟩
    | _ => cases hf
  | a :: b :: l, hf => cases a <;> cases hf
theorem cr_anyB (C : Cok X) : CallR X (.builtin "any") (rBi X G B .any) := by
  intro pins s σ H xs us Q I r h
  obtain ⟨σ', env, st, ρ, ds, res, R, rs, hf, q⟩ := h
  match ds, hf with
  | [], hf => cases hf
  | [d], hf =>
    obtain ⟨x, rfl, rx⟩ := repL1 rs
    cases d with
    | lst xs =>
      obtain ⟨bs, h1, rfl⟩ := Option.map_eq_some_iff.mp (show (bools xs).map (fun bs => D.bl (bs.any id)) = some res from hf)
      cases rx with
      | lst h t =>
        have e := bools_rep t h1
        subst e
        exact cr_any C.calm pins s σ H _ _ Q I r ⟨_, bs, rfl, h.sq, q _ H (Same.refl H) (.bl _)⟩
    | _ => cases hf
  | a :: b :: l, hf => cases a <;> cases hf
theorem cr_int : CallR X (.type "int") (rBi X G B .int) := by
  intro pins s σ H xs us Q I r h
  obtain ⟨σ', env, st, ρ, ds, res, R, rs, hf, q⟩ := h
  match ds, hf with
  | [], hf => cases hf
  | [d], hf =>
    obtain ⟨x, rfl, rx⟩ := repL1 rs
    cases d with
    | int i =>
      cases hf
      rw [rep_int rx] at r
      exact call_int1 pins s σ H _ _ Q I r (.inl ⟨i, rfl, q _ H (Same.refl H) (.int _)⟩)
    | bl b =>
      cases hf
      rw [rep_bl rx] at r
      exact call_int1 pins s σ H _ _ Q I r (.inr ⟨b, rfl, q _ H (Same.refl H) (.int _)⟩)
    | _ => cases hf
  | a :: b :: l, hf => cases a <;> cases hf
theorem cr_list : CallR X (.type "list") (rBi X G B .list) := by
  intro pins s σ H xs us Q I r h
  obtain ⟨σ', env, st, ρ, ds, res, R, rs, hf, q⟩ := h
  match ds, hf with
  | [], hf => cases hf
  | [d], hf =>
    obtain ⟨x, rfl, rx⟩ := repL1 rs
    cases d with
    | lst xs =>
      cases hf
      cases rx with
      | lst h t =>
        refine thn (call_list_of pins s σ H _ _ (fun v H' => ∃ p, v = .ref p ∧ H p = none ∧ H' = upd H p (.lst _)) I r ⟨_, _, rfl, .inl h.sq, fun l hl => ⟨l, rfl, hl, rfl⟩⟩) fun u s1 z => EP.lock z fun p o hp => q _ _ (same_new hp) (rep_frz hp t)
    | tup xs =>
      cases hf
      cases rx with
      | tup h t =>
        refine thn (call_list_of pins s σ H _ _ (fun v H' => ∃ p, v = .ref p ∧ H p = none ∧ H' = upd H p (.lst _)) I r ⟨_, _, rfl, .inr h, fun l hl => ⟨l, rfl, hl, rfl⟩⟩) fun u s1 z => EP.lock z fun p o hp => q _ _ (same_new hp) (rep_frz hp t)
    | _ => cases hf
  | a :: b :: l, hf => cases a <;> cases hf
theorem cr_tuple : CallR X (.type "tuple") (rBi X G B .tuple) := by
  intro pins s σ H xs us Q I r h
  obtain ⟨σ', env, st, ρ, ds, res, R, rs, hf, q⟩ := h
  match ds, hf with
  | [], hf => cases hf
  | [d], hf =>
    obtain ⟨x, rfl, rx⟩ := repL1 rs
    cases d with
    | lst xs =>
      cases hf
      cases rx with
      | lst h t => exact call_tuple_of pins s σ H _ _ Q I r ⟨_, _, rfl, .inl ⟨h.sq, fun l hl => q _ _ (same_new hl) (rep_tup hl t)⟩⟩
    | tup xs =>
      cases hf
      cases rx with
      | tup h t => exact call_tuple_of pins s σ H _ _ Q I r ⟨_, _, rfl, .inr ⟨h, q _ H (Same.refl H) (.tup h t)⟩⟩
    | _ => cases hf
  | a :: b :: l, hf => cases a <;> cases hf

/-! ### isinstance -/
theorem kit_one {K : PySem.W.Frag} (t u : Nat) (ht : t ≤ 6) (hu : u ≤ 6) : PySem.W.kitOne K (.type (tyN t)) (.type (tyN u)) = some (subTy t u) := by
  have h : ∀ t : Fin 7, ∀ u : Fin 7, kitB (tyN t) (tyN u) = some (subTy t u) := by decide +kernel
  exact kit_ty (h ⟨t, by omega⟩ ⟨u, by omega⟩)
theorem tyOf_le {st : So} {d : D} {t : Nat} (h : tyOf st d = some t) : t ≤ 6 := by
  unfold tyOf at h
  split at h <;> try first | (cases h; done) | (cases h; decide)
  split at h <;> first | (cases h; done) | (cases h; decide)
theorem tyX_of {env : En} {st : So} {d : D} {x : V} {t : Nat} (R : Rel X.K G X B σ H env st ρ) (r : Rep X.K G H ρ d x) (h : tyOf st d = some t) : TyX X.K H x (.type (tyN t)) := by
  cases r with
  | non => cases h; exact .base .non
  | bl b => cases h; exact .base (.bl b)
  | int i => cases h; exact .base (.int i)
  | str x => cases h; exact .base (.str x)
  | ty n => cases h
  | tup q t =>
    cases h
    rcases q with (q | ⟨o, q⟩) | ⟨o, its, n, q1, q2, q3, _⟩
    · exact .base (.tup q)
    · exact .fTuple q
    · exact .kTuple q1 q2
  | lst q t =>
    cases h
    rcases q with ⟨o, q⟩ | ⟨its, n, q1, _⟩
    · exact .base (.frz q)
    · exact .kList q1 rfl
  | @ref n a ha =>
    rw [tyOf] at h
    cases e : st[n]? with
    | none => rw [e] at h; cases h
    | some ob =>
      rw [e] at h
      cases ob with
      | lst xs =>
        cases h
        obtain ⟨vs, h1, _⟩ := R.obj ha e (fun _ z => by cases z)
        exact .base (.lst h1)
      | dic kvs =>
        cases h
        obtain ⟨vs, h1, _⟩ := R.obj ha e (fun _ z => by cases z)
        exact .base (.dK h1)
      | _ => cases h
  | fn f => cases h
  | cls c => cases h
  | clo _ _ _ _ _ _ => cases h
  | dct l h1 t =>
    cases h
    obtain ⟨o, h1⟩ := h1
    exact .fDict h1
theorem types_rep {K : PySem.W.Frag} {t : Nat} (ht : t ≤ 6) : ∀ {us : List D} {vs : List V} {ws : List Value} {b : Bool}, RepL K G H ρ us vs → Vals vs ws → isAny t us = some b → PySem.W.kitAny K (.type (tyN t)) ws = some b
  | _, _, _, _, .nil, .nil, e => by
    cases e
    exact kitAny_nil
  | _, _, _, _, .cons (x := x) (xs := xs) h tl, .cons r rs, e => by
    cases h with
    | ty u =>
      rw [isAny] at e
      split at e
      · rename_i hu
        cases r
        by_cases hs : subTy t u = true
        · rw [if_pos hs] at e
          cases e
          exact kitAny_cons (b := true) (by rw [kit_one t u ht hu, hs]) (fun z => by cases z) (fun _ => rfl)
        · rw [if_neg hs] at e
          have hs' : subTy t u = false := by simpa using hs
          exact kitAny_cons (b := false) (by rw [kit_one t u ht hu, hs']) (fun _ => types_rep ht tl rs e) (fun z => by cases z)
      · cases e
    | _ => cases e
theorem cr_isinst : CallR X (.builtin "isinstance") (rBi X G B .isinst) := by
  intro pins s σ H xs us Q I r h
  obtain ⟨σ', env, st, ρ, ds, res, R, rs, hf, q⟩ := h
  match ds, hf with
  | [], hf => cases hf
  | [d], hf => cases d <;> cases hf
  | a :: b :: c :: l, hf => cases a <;> cases b <;> cases hf
  | [a, c], hf =>
    obtain ⟨x, y, rfl, rx, ry⟩ := repL2 rs
    cases e : tyOf st a with
    | none => cases c <;> (cases a <;> first | (simp [bi, e] at hf; done) | cases hf)
    | some t =>
      have ht := tyOf_le e
      cases c with
      | ty u =>
        have hf : (if u ≤ 6 then some (D.bl (subTy t u)) else none) = some res := by
          rw [← hf, bi, e]
        split at hf
        · rename_i hu
          cases hf
          cases ry
          exact call_isi pins s σ H _ _ Q I r ⟨x, _, _, _, _, rfl, .ty _, tyX_of R rx e, kit_one t u ht hu, q _ H (Same.refl H) (.bl _)⟩
        · cases hf
      | tup ts =>
        have hf : (isAny t ts).map D.bl = some res := by
          rw [← hf, bi, e]
        obtain ⟨b, hb, rfl⟩ := Option.map_eq_some_iff.mp hf
        cases ry with
        | tup h1 t1 =>
          obtain ⟨u1, u2, rfl, r1, r2⟩ := vals2 r
          cases r2
          obtain ⟨P, Z, p, hx⟩ := kit_of I r1 (tyX_of R rx e)
          obtain ⟨its, rv, ⟨o, o1, o2, n, o3⟩, hz⟩ := I.tuple h1
          have e3 := types_rep (K := X.K) ht t1 rv hb
          obtain ⟨oc, od, dt, sl⟩ := o
          simp only at o2 o3
          subst o2 o3
          exact PySem.W.kia_tup Z I.kIn p o1 e3 hx fun tk => ⟨.bl b, H, I.tok tk, rfl, q _ H (Same.refl H) (.bl _)⟩
      | _ => cases a <;> cases hf
end
end KP
end
section
set_option autoImplicit false
set_option linter.all false
set_option maxRecDepth 100000
set_option maxHeartbeats 4000000
/-! KBi3: the builtins as expressions; names of the module. -/
namespace KP
open PySem PySem.Spec PyProof.Rows L2

section
variable {X : Cx} {G : Glo} {B : Bs} {fld : Nat → List Str} {W : WX} {cx : Cc} {pos p : Pos} {σ : L2.St} {H : Hp} {ρ : List Addr}
theorem tCB_bi {b : Bi} {as : Exs} {σ : L2.St} {H : Hp} {Q : VK} (h : tOf X.K G X B fld W (E cx (.bi b as)) σ H Q) : tCB (rBi X G B b) (tOfA X.K G X B fld W (Es cx as)) σ H Q := by
  obtain ⟨env, st, ρ, R, h⟩ := h
  rw [E] at h
  refine ⟨env, st, ρ, R, (Post.bind h).imp fun xs H1 ρ1 e1 s1 k p R1 h1 vs rs => ?_⟩
  obtain ⟨res, hres, h2⟩ := Post.of_some h1
  exact ⟨σ, e1, s1, ρ1, xs, res, R1, rs, hres, fun v H' sm hr => h2.nowS R1 sm v hr⟩
theorem em_biB {b : Bi} {id : String} {x : Str} {e : Expr} {es : List Expr} {as : Exs} (hc : CallR X (.builtin id) (rBi X G B b)) (hg : Gl X x) (hm : X.mg x = none) (hv : bootBuiltins x = some (.builtin id)) (ha : PAm X G B fld W cx (e :: es) as)
    (hn : x ≠ "__name__") (hdb : (x == ("__debug__" : Str)) = false) (he : starEach (e :: es) X.env = (false, eval e X.env) :: starEach es X.env) (hpl : (backTo pos (starEach es X.env)).any (·.1) = false) :
    PEm X G B fld W cx (.Call (.Name x p) (e :: es) [] pos) (.bi b as) := pe_of (pe_callB hc hg hm hv ha hn hdb he hpl) fun σ H Q h => tCB_bi h
theorem em_biT {b : Bi} {id : String} {x : Str} {e : Expr} {es : List Expr} {as : Exs} (hc : CallR X (.type id) (rBi X G B b)) (hg : Gl X x) (hm : X.mg x = none) (hv : bootBuiltins x = some (.type id)) (ha : PAm X G B fld W cx (e :: es) as)
    (hn : x ≠ "__name__") (hdb : (x == ("__debug__" : Str)) = false) (he : starEach (e :: es) X.env = (false, eval e X.env) :: starEach es X.env) (hpl : (backTo pos (starEach es X.env)).any (·.1) = false) :
    PEm X G B fld W cx (.Call (.Name x p) (e :: es) [] pos) (.bi b as) := pe_of (pe_callTy hc hg hm hv ha hn hdb he hpl) fun σ H Q h => tCB_bi h
theorem em_biF {b : Bi} {id : String} {x : Str} {e : Expr} {es : List Expr} {as : Exs} (hc : CallR X (.builtin id) (rBi X G B b)) (hg : Gl X x) (hm : X.mg x = some (.builtin id)) (ha : PAm X G B fld W cx (e :: es) as)
    (hdb : (x == ("__debug__" : Str)) = false) (he : starEach (e :: es) X.env = (false, eval e X.env) :: starEach es X.env) (hpl : (backTo pos (starEach es X.env)).any (·.1) = false) :
    PEm X G B fld W cx (.Call (.Name x p) (e :: es) [] pos) (.bi b as) := pe_of (pe_callBfun hc hg hm ha hdb he hpl) fun σ H Q h => tCB_bi h
theorem em_bits {o : Expr} {a : Ex} {apos : Pos} (ha : PEm X G B fld W cx o a) (hbase : attributeBase o "bit_length" X.env (eval o X.env) = eval o X.env) (hline : (apos.endLine == pos.line) = true) :
    PEm X G B fld W cx (.Call (.Attribute o "bit_length" apos) [] [] pos) (.bi .bits (.cons a .nil)) := by
  refine pe_of (pe_bits ha hbase hline) fun σ H Q ⟨env, st, ρ, R, h⟩ => ?_
  rw [E, Es] at h
  have h := Post.bind (Post.bind h)
  refine ⟨env, st, ρ, R, h.imp fun x H1 ρ1 e1 s1 k p R1 h1 v1 r1 => ?_⟩
  have h1 := Post.now (Post.bind (show Post X.K G X B fld W ((Es cx .nil e1 s1).bind fun xs e s => .ok (x :: xs) e s) σ H1 ρ1 _ from h1)) R1
  have h2 := Post.now h1 R1
  obtain ⟨res, hres, h3⟩ := Post.of_some h2
  cases x with
  | int i =>
    cases hres
    rw [rep_int r1]
    exact ⟨i, rfl, Post.now h3 R1 _ (.int _)⟩
  | _ => cases hres
theorem em_lenv {i : Nat} {x y : Str} {py : Pos} (hN : X.N[i]? = some y) (hvy : Vis X.env.scope y) (hdy : (y == ("__debug__" : Str)) = false) (hcd : (y == ("__classdict__" : Str)) = false)
    (hg : Gl X x) (hm : X.mg x = none) (hv : bootBuiltins x = some (.builtin "len"))
    (hn : x ≠ "__name__") (hdb : (x == ("__debug__" : Str)) = false) (he : starEach [.Name y py] X.env = (false, eval (.Name y py) X.env) :: starEach [] X.env) (hpl : (backTo pos (starEach [] X.env)).any (·.1) = false) :
    PEm X G B fld W cx (.Call (.Name x p) [.Name y py] [] pos) (.lenv i) := by
  refine pe_of (pe_callB (cr_lenP (G := G) (B := B)) hg hm hv (pa_cons (pe_var hN hvy hdy hcd) pa_nil he) hn hdb he hpl) fun σ H Q ⟨env, st, ρ, R, h⟩ => ?_
  rw [E] at h
  obtain ⟨res, hres, h1⟩ := Post.of_some h
  obtain ⟨d, hd1, hd2⟩ := Option.bind_eq_some_iff.mp hres
  obtain ⟨v, e0, r0⟩ := R.pk hd1
  exact ⟨v, e0, σ, env, st, ρ, d, res, v, R, rfl, r0, hd2, fun v hr => Post.now h1 R v hr⟩

/-! ### names of the module and of the builtins -/
theorem em_gl {x : Str} {v : V} {u : Value} {d : D} (hg : Gl X x) (hm : X.mg x = some u) (r : RelV v u) (hd : (x == ("__debug__" : Str)) = false) (hr : ∀ H ρ, Rep X.K G H ρ d v) : PEm X G B fld W cx (.Name x pos) (.c d) :=
  pe_of (pe_glob hg hm r hd) fun σ H Q ⟨env, st, ρ, R, h⟩ => Post.now h R _ (hr H ρ)
theorem em_fnN {x : Str} {f : Nat} (hg : Gl X x) (hm : X.mg x = some (.ref (G.fnA f))) (hd : (x == ("__debug__" : Str)) = false) : PEm X G B fld W cx (.Name x pos) (.c (.fn f)) := em_gl (v := .ref (G.fnA f)) hg hm rfl hd fun H ρ => .fn f
theorem em_tyN {x : Str} {n : Nat} (hg : Gl X x) (hm : X.mg x = none) (hv : bootBuiltins x = some (.type (tyN n))) (hn : x ≠ "__name__") (hdb : (x == ("__debug__" : Str)) = false) : PEm X G B fld W cx (.Name x pos) (.c (.ty n)) :=
  pe_of (pe_bltn (v := .ty (tyN n)) hg hm hv rfl hn hdb) fun σ H Q ⟨env, st, ρ, R, h⟩ => Post.now h R _ (.ty n)

/-! ### a tuple in a frame's list -/
theorem em_inv {o : Co} {l : Expr} {a : Ex} {i : Nat} {x : Str} {px : Pos} (ho : o = .isin ∨ o = .notin) (hu : X.A.units + 65 < cLine) (hN : X.N[i]? = some x) (hv : Vis X.env.scope x) (hd : (x == ("__debug__" : Str)) = false) (hcd : (x == ("__classdict__" : Str)) = false)
    (ha : PEm X G B fld W cx l a) (hm : behindInMarks (coOf o) (.Name x px) = false) : PEm X G B fld W cx (.Compare l [coOf o] [.Name x px] pos) (.inv o a i) := by
  have key : ∀ (σ : L2.St) (H : Hp) (Q : VK), tOf X.K G X B fld W (E cx (.inv o a i)) σ H Q → tOf X.K G X B fld W (E cx a) σ H fun v1 H1 => ∃ v2, σ[i]? = some (some v2) ∧ ∃ (d1 d2 : D) (res : Bool) (ρ : List Addr), Rep X.K G H1 ρ d1 v1 ∧ RepP X.K G H1 ρ d2 v2 ∧ co o d1 d2 = some res ∧ Q (.bl res) H1 := fun σ H Q ⟨env, st, ρ, R, h⟩ => by
    rw [E] at h
    refine ⟨env, st, ρ, R, (Post.bind h).imp fun x H1 ρ1 e1 s1 k p R1 h1 v1 r1 => ?_⟩
    obtain ⟨res, hres, h2⟩ := Post.of_some h1
    obtain ⟨d, hd1, hd2⟩ := Option.bind_eq_some_iff.mp hres
    obtain ⟨c, hc, rfl⟩ := Option.map_eq_some_iff.mp hd2
    obtain ⟨v, e0, r0⟩ := R1.pk hd1
    exact ⟨v, e0, x, d, c, ρ1, r1, r0, hc, Post.now h2 R1 _ (.bl _)⟩
  have fr : ∀ {H : Hp} {ρ : List Addr} {d : D} {v : V}, RepP X.K G H ρ d v → ∀ ys, d = .lst ys → ∀ qs, pyAll ys = some qs → PyData.hasDictAll qs = false → Dp X.K H v (.list qs) := fun r ys e qs hq hn => by
    subst e
    obtain ⟨a, vs, rfl, h, t⟩ := r.lst
    exact .lst h (t.dp hq hn)
  rcases ho with rfl | rfl
  · refine pe_of (pe_cmpR (r := fun x y H Q => ∃ (d1 d2 : D) (res : Bool) (ρ : List Addr), Rep X.K G H ρ d1 x ∧ RepP X.K G H ρ d2 y ∧ co .isin d1 d2 = some res ∧ Q (.bl res) H) ?_ ha (pe_var hN hv hd hcd) hm) fun σ H Q h => key σ H Q h
    intro pins s σ H x y v u Q I rx ry q
    obtain ⟨d1, d2, res, ρ, r1, r2, hf, q⟩ := q
    cases r2 with
    | of r2 => exact oc_all (G := G) hu .isin pins s σ H x y v u Q I rx ry ⟨d1, d2, res, ρ, r1, r2, hf, q⟩
    | @own a vs ys h t =>
      obtain ⟨p, qs, h1, h2, s1, s2, rfl⟩ := inData_some (show inData d1 ys = some res by cases d1 <;> exact hf)
      exact op_inD hu pins s σ H x _ v u Q I rx ry ⟨p, qs, r1.dp h1 (noD s1), fr (.own h t) ys rfl qs h2 (noD s2), s1, s2, q⟩
  · refine pe_of (pe_cmpR (r := fun x y H Q => ∃ (d1 d2 : D) (res : Bool) (ρ : List Addr), Rep X.K G H ρ d1 x ∧ RepP X.K G H ρ d2 y ∧ co .notin d1 d2 = some res ∧ Q (.bl res) H) ?_ ha (pe_var hN hv hd hcd) hm) fun σ H Q h => key σ H Q h
    intro pins s σ H x y v u Q I rx ry q
    obtain ⟨d1, d2, res, ρ, r1, r2, hf, q⟩ := q
    cases r2 with
    | of r2 => exact oc_all (G := G) hu .notin pins s σ H x y v u Q I rx ry ⟨d1, d2, res, ρ, r1, r2, hf, q⟩
    | @own a vs ys h t =>
      obtain ⟨b, hb, rfl⟩ := Option.map_eq_some_iff.mp (show (inData d1 ys).map (!·) = some res by cases d1 <;> exact hf)
      obtain ⟨p, qs, h1, h2, s1, s2, rfl⟩ := inData_some hb
      exact op_notInD hu pins s σ H x _ v u Q I rx ry ⟨p, qs, r1.dp h1 (noD s1), fr (.own h t) ys rfl qs h2 (noD s2), s1, s2, q⟩
end
end KP
end
section
set_option autoImplicit false
set_option linter.all false
set_option maxRecDepth 100000
set_option maxHeartbeats 4000000
/-! KTg: targets. -/
namespace KP
open PySem PySem.Spec PyProof.Rows L2

mutual
def Tg.ixs : Tg → List Nat
  | .nm i => [i]
  | .tup ts => tgsIxs ts
def tgsIxs : List Tg → List Nat
  | [] => []
  | t :: ts => t.ixs ++ tgsIxs ts
end
/-- alike but at some places -/
def But (is : List Nat) (σ σ' : L2.St) : Prop := σ'.length = σ.length ∧ ∀ j, j ∉ is → σ'[j]? = σ[j]?
theorem But.refl (is : List Nat) (σ : L2.St) : But is σ σ := ⟨rfl, fun _ _ => rfl⟩
theorem But.trans {is js : List Nat} {a b c : L2.St} (h : But is a b) (h' : But js b c) : But (is ++ js) a c :=
  ⟨h'.1.trans h.1, fun j hj => by
    rw [List.mem_append, not_or] at hj
    rw [h'.2 j hj.2, h.2 j hj.1]⟩
section
variable {X : Cx} {G : Glo} {B : Bs} {fld : Nat → List Str} {W : WX} {cx : Cc} {pos : Pos} {σ : L2.St} {H : Hp} {ρ : List Addr}
theorem cel_set {env : En} {i n : Nat} {d : D} (h : Sl.cel n ∈ env.set i (.v d)) : Sl.cel n ∈ env := by
  rcases List.mem_or_eq_of_mem_set h with h | h
  · exact h
  · cases h
theorem ne_set {env : En} {i j : Nat} {sl a : Sl} (h : (env.set i sl)[j]? = some a) (hn : a ≠ sl) : j ≠ i ∧ env[j]? = some a := by
  by_cases e : i = j
  · subst e
    rw [List.getElem?_set] at h
    rw [if_pos rfl] at h
    split at h
    · cases h
      exact absurd rfl hn
    · cases h
  · rw [List.getElem?_set_ne e] at h
    exact ⟨Ne.symm e, h⟩
/-- a place takes a value -/
theorem Rel.put {env : En} {st : So} {i : Nat} {d : D} {v : V} {sl : Sl} (R : Rel X.K G X B σ H env st ρ) (hi : env[i]? = some sl) (hs : ∀ n, sl ≠ .cel n) (hl : i < σ.length) (r : Rep X.K G H ρ d v) :
    Rel X.K G X B (σ.set i (some v)) H (env.set i (.v d)) st ρ := by
  have hi' : i < env.length := (List.getElem?_eq_some_iff.mp hi).1
  have at_ : ∀ j, j ≠ i → (σ.set i (some v))[j]? = σ[j]? := fun j hj => List.getElem?_set_ne (Ne.symm hj)
  have celm : ∀ n, Sl.cel n ∈ env → Sl.cel n ∈ env.set i (.v d) := fun n h => by
    obtain ⟨j, hj, e⟩ := List.getElem_of_mem h
    have e' : env[j]? = some (Sl.cel n) := by rw [List.getElem?_eq_getElem hj, e]
    have q : j ≠ i := fun q => by
      subst q
      rw [hi] at e'
      cases e'
      exact hs n rfl
    exact List.mem_of_getElem? (i := j) (by rw [List.getElem?_set_ne (Ne.symm q)]; exact e')
  have dd : ∀ a, Dead ρ st env a → Dead ρ st (env.set i (.v d)) a := fun a h n ob h1 h2 h3 => h n ob h1 h2 fun z => h3 (celm n z)
  exact {
    gr := R.gr
    nc := fun z n h => R.nc z n (cel_set h)
    tb := R.tb
    pt := R.pt
    pv := fun a h => let ⟨o, h1, h2, h3⟩ := R.pv a h; ⟨o, h1, h2, dd a h3⟩
    len := R.len
    nd := fun n m a ob ob' h1 h2 h3 h4 h5 h6 h7 => R.nd n m a ob ob' h1 h2 h3 h4 h5 (fun z => h6 (celm n z)) (fun z => h7 (celm m z))
    so := fun n a ob h1 h2 h3 => R.so n a ob h1 h2 fun z => h3 (celm n z)
    sc := fun n ob h1 h2 => R.sc n ob h1 (cel_set h2)
    el := by rw [List.length_set]; exact R.el
    ev := fun j d' h => by
      by_cases e : j = i
      · subst e
        rw [List.getElem?_set_self hi'] at h
        cases h
        exact ⟨v, List.getElem?_set_self hl, r⟩
      · rw [List.getElem?_set_ne (Ne.symm e)] at h
        obtain ⟨v', h1, h2⟩ := R.ev j d' h
        exact ⟨v', by rw [at_ j e]; exact h1, h2⟩
    eo := fun j xs h => by
      obtain ⟨e, h⟩ := ne_set h (by simp)
      obtain ⟨p, vs, h1, h2, h3, h4, h5⟩ := R.eo j xs h
      exact ⟨p, vs, by rw [at_ j e]; exact h1, h2, h3, dd p h4, h5⟩
    ed := fun j l xs ys p h1 h2 h3 h4 => by
      obtain ⟨e1, h1⟩ := ne_set h1 (by simp)
      obtain ⟨e2, h2⟩ := ne_set h2 (by simp)
      rw [at_ j e1] at h3
      rw [at_ l e2] at h4
      exact R.ed j l xs ys p h1 h2 h3 h4
    ec := fun j n h => by
      obtain ⟨e, h⟩ := ne_set h (by simp)
      obtain ⟨x, a, h1, h2, h3, h4⟩ := R.ec j n h
      exact ⟨x, a, h1, h2, h3, fun d' hd => by rw [at_ j e]; exact h4 d' hd⟩
    ei := fun j l n h1 h2 => by
      obtain ⟨e1, h1⟩ := ne_set h1 (by simp)
      obtain ⟨e2, h2⟩ := ne_set h2 (by simp)
      exact R.ei j l n h1 h2 }
/-- a cell takes a value -/
theorem Rel.putC {env : En} {st : So} {i n : Nat} {d : D} {v : V} {w : Option D} {x : Str} (R : Rel X.K G X B σ H env st ρ) (hi : env[i]? = some (.cel n)) (hn : st[n]? = some (.cel w)) (hx : X.N[i]? = some x) (hv : Vis X.env.scope x) (hl : i < σ.length) (r : Rep X.K G H ρ d v) :
    Rel X.K G X B (σ.set i (some v)) H env (st.set n (.cel (some d))) ρ := by
  have hn' : n < st.length := (List.getElem?_eq_some_iff.mp hn).1
  have at_ : ∀ j, j ≠ i → (σ.set i (some v))[j]? = σ[j]? := fun j hj => List.getElem?_set_ne (Ne.symm hj)
  have sat : ∀ m, m ≠ n → (st.set n (.cel (some d)))[m]? = st[m]? := fun m hm => List.getElem?_set_ne (Ne.symm hm)
  have inn : Sl.cel n ∈ env := List.mem_of_getElem? hi
  have dd : ∀ a, Dead ρ st env a → Dead ρ (st.set n (.cel (some d))) env a := fun a h m ob h1 h2 h3 => by
    rw [sat m fun e => h3 (e ▸ inn)] at h2
    exact h m ob h1 h2 h3
  have nei : ∀ j sl, env[j]? = some sl → (∀ m, sl ≠ .cel m) → j ≠ i := fun j sl h h' e => by
    subst e
    rw [hi] at h
    cases h
    exact h' n rfl
  exact {
    gr := R.gr
    nc := R.nc
    tb := R.tb
    pt := R.pt
    pv := fun a h => by
      obtain ⟨o, h1, h2, h3⟩ := R.pv a h
      exact ⟨o, h1, h2, dd a h3⟩
    len := by rw [List.length_set]; exact R.len
    nd := fun m l a ob ob' h1 h2 h3 h4 h5 h6 h7 => by
      rw [sat m fun e => h6 (e ▸ inn)] at h4
      rw [sat l fun e => h7 (e ▸ inn)] at h5
      exact R.nd m l a ob ob' h1 h2 h3 h4 h5 h6 h7
    so := fun m a ob h1 h2 h3 => by
      have e : m ≠ n := fun e => by
        subst e
        exact h3 (List.mem_of_getElem? hi)
      rw [sat m e] at h2
      exact R.so m a ob h1 h2 h3
    sc := fun m ob h1 h2 => by
      by_cases e : m = n
      · subst e
        rw [List.getElem?_set_self hn'] at h1
        cases h1
        exact ⟨_, rfl⟩
      · rw [sat m e] at h1
        exact R.sc m ob h1 h2
    el := R.el
    ev := fun j d' h => by
      obtain ⟨v', h1, h2⟩ := R.ev j d' h
      exact ⟨v', by rw [at_ j (nei j _ h fun m z => by cases z)]; exact h1, h2⟩
    eo := fun j xs h => by
      obtain ⟨p, vs, h1, h2, h3, h4, h5⟩ := R.eo j xs h
      exact ⟨p, vs, by rw [at_ j (nei j _ h fun m z => by cases z)]; exact h1, h2, h3, dd p h4, h5⟩
    ed := fun j l xs ys p h1 h2 h3 h4 => by
      rw [at_ j (nei j _ h1 fun m z => by cases z)] at h3
      rw [at_ l (nei l _ h2 fun m z => by cases z)] at h4
      exact R.ed j l xs ys p h1 h2 h3 h4
    ec := fun j m h => by
      obtain ⟨y, a, h1, h2, h3, h4⟩ := R.ec j m h
      refine ⟨y, a, h1, h2, h3, fun d' hd => ?_⟩
      by_cases e : m = n
      · subst e
        have ej : j = i := R.ei j i m h hi
        subst ej
        rw [List.getElem?_set_self hn'] at hd
        cases hd
        rw [hx] at h1
        cases h1
        exact ⟨hv, v, List.getElem?_set_self hl, r⟩
      · rw [sat m e] at hd
        have ej : j ≠ i := fun z => by
          subst z
          rw [hi] at h
          cases h
          exact e rfl
        rw [at_ j ej]
        exact h4 d' hd
    ei := R.ei }
/-- a target takes a value -/
def gOf (X : Cx) (G : Glo) (B : Bs) (t : Tg) : TG := fun v σ H Q => ∃ env st ρ d q, Rel X.K G X B σ H env st ρ ∧ Rep X.K G H ρ d v ∧ asgT t d env st = some q ∧ ∀ σ', But t.ixs σ σ' → Rel X.K G X B σ' H q.1 q.2 ρ → Q σ' H
def gOfs (X : Cx) (G : Glo) (B : Bs) (ts : List Tg) : TGs := fun vs σ H Q => ∃ env st ρ ds q, Rel X.K G X B σ H env st ρ ∧ RepL X.K G H ρ ds vs ∧ asgTs ts ds env st = some q ∧ ∀ σ', But (tgsIxs ts) σ σ' → Rel X.K G X B σ' H q.1 q.2 ρ → Q σ' H
theorem wr_rel {env : En} {st : So} {i : Nat} {d : D} {v : V} {x : Str} {q : En × So} (R : Rel X.K G X B σ H env st ρ) (hx : X.N[i]? = some x) (hv : Vis X.env.scope x) (hl : i < σ.length) (r : Rep X.K G H ρ d v) (hq : wr i d env st = some q) :
    Rel X.K G X B (σ.set i (some v)) H q.1 q.2 ρ := by
  unfold wr at hq
  cases e : env[i]? with
  | none => rw [e] at hq; cases hq
  | some sl =>
    rw [e] at hq
    cases sl with
    | cel n =>
      simp only at hq
      cases e2 : st[n]? with
      | none => rw [e2] at hq; cases hq
      | some ob =>
        rw [e2] at hq
        cases ob with
        | cel w =>
          cases hq
          exact R.putC e e2 hx hv hl r
        | _ => cases hq
    | _ =>
      cases hq
      exact R.put e (fun n z => by cases z) hl r
theorem loc_vis {sc : Scope} {x : Str} (h : Loc sc x) : Vis sc x := h.elim .inl fun h => .inr (.inl h)
theorem gm_nm {i : Nat} {x : Str} (hN : X.N.Nodup) (hi : X.N[i]? = some x) (hx : Loc X.env.scope x) (hf : X.fn x = true ∨ X.env.scope.names.lookup x = some .local) : PG X (.Name x pos) (gOf X G B (.nm i)) := by
  refine ⟨fun pins s σ H v u Q I r h => ?_⟩
  obtain ⟨env, st, ρ, d, q, R, rd, hq, h⟩ := h
  have hl : i < σ.length := by
    rw [I.len]
    exact (List.getElem?_eq_some_iff.mp hi).1
  refine (pg_name (pos := pos) hN hi hx hf).run pins s σ H v u Q I r (h _ ⟨List.length_set .., fun j hj => ?_⟩ (wr_rel R hi (loc_vis hx) hl rd hq))
  exact List.getElem?_set_ne fun e => hj (by rw [e]; exact List.mem_singleton.mpr rfl)
theorem gms_nil : PGs X [] (gOfs X G B []) := by
  refine ⟨fun pins s σ H vs us Q I r h => ?_⟩
  obtain ⟨env, st, ρ, ds, q, R, rd, hq, h⟩ := h
  cases ds with
  | nil =>
    cases rd
    cases hq
    exact pgs_nil.run pins s σ H [] us Q I r ⟨rfl, h σ (But.refl _ σ) R⟩
  | cons a b => cases hq
theorem gms_cons {e : Expr} {es : List Expr} {t : Tg} {ts : List Tg} (h1 : PG X e (gOf X G B t)) (h2 : PGs X es (gOfs X G B ts)) (hs : (assignEach (e :: es) X.env).map (·.2) = assign e X.env :: (assignEach es X.env).map (·.2)) : PGs X (e :: es) (gOfs X G B (t :: ts)) := by
  refine ⟨fun pins s σ H vs us Q I r h => ?_⟩
  obtain ⟨env, st, ρ, ds, q, R, rd, hq, h⟩ := h
  cases rd with
  | nil => cases hq
  | @cons d v ds vs r1 r2 =>
    rw [asgTs] at hq
    cases e1 : asgT t d env st with
    | none => rw [e1] at hq; cases hq
    | some q1 =>
      rw [e1] at hq
      refine (pgs_cons h1 h2 hs).run pins s σ H _ us Q I r ⟨v, vs, rfl, env, st, ρ, d, q1, R, r1, e1, fun σ1 b1 R1 => ?_⟩
      exact ⟨q1.1, q1.2, ρ, ds, q, R1, r2, hq, fun σ2 b2 R2 => h σ2 (b1.trans b2) R2⟩
theorem asgTs_len : ∀ {ts : List Tg} {ds : List D} {env : En} {st : So} {q : En × So}, asgTs ts ds env st = some q → ds.length = ts.length
  | [], [], _, _, _, _ => rfl
  | [], _ :: _, _, _, _, h => by cases h
  | _ :: _, [], _, _, _, h => by cases h
  | t :: ts, d :: ds, env, st, q, h => by
    rw [asgTs] at h
    cases e1 : asgT t d env st with
    | none => rw [e1] at h; cases h
    | some q1 =>
      rw [e1] at h
      rw [List.length_cons, List.length_cons, asgTs_len h]
theorem gm_tup {es : List Expr} {ts : List Tg} {k : Nat} (hc : X.calm = true) (h : PGs X es (gOfs X G B ts)) (hl : (assignEach es X.env).length = ts.length) (hst : (assignEach es X.env).findIdx? (·.1) = none) : PG X (.Tuple es k pos) (gOf X G B (.tup ts)) := by
  refine ⟨fun pins s σ H v u Q I r h' => ?_⟩
  obtain ⟨env, st, ρ, d, q, R, rd, hq, h'⟩ := h'
  cases d with
  | tup ds =>
    cases rd with
    | @tup a vs _ h1 t1 =>
      have hq : asgTs ts ds env st = some q := hq
      exact (pg_tup hc h hl hst).run pins s σ H _ u Q I r ⟨a, vs, rfl, h1, by rw [← t1.length, asgTs_len hq], env, st, ρ, ds, q, R, t1, hq, h'⟩
  | _ => cases hq
end
end KP
end
section
set_option autoImplicit false
set_option linter.all false
set_option maxRecDepth 100000
set_option maxHeartbeats 4000000
/-! KIter: what loops walk. -/
namespace KP
open PySem PySem.Spec PyProof.Rows L2

/-- an iterator over these items -/
abbrev Over (K : PySem.W.Frag) (G : Glo) (J : It) (items : List D) (H1 : Hp) (ρ1 : List Addr) : Prop :=
  Walk J items.length (fun H => Keep H1 H) (fun i H x H' => Same H H' ∧ ∃ d, items[i]? = some d ∧ Rep K G H' ρ1 d x)
def iOf (X : Cx) (G : Glo) (B : Bs) (fld : Nat → List Str) (W : WX) (w : Wk) (m : En → So → KP.R (List D)) : TI := fun σ H R => ∃ env st ρ, Rel X.K G X B σ H env st ρ ∧
  Post X.K G X B fld W (m env st) σ H ρ fun ws H1 ρ1 e1 s1 => ∃ items, walk w ws = some items ∧ ∀ J, Over X.K G J items H1 ρ1 → R J H1
section
variable {X : Cx} {G : Glo} {B : Bs} {fld : Nat → List Str} {W : WX} {cx : Cc} {pos : Pos} {σ : L2.St} {H : Hp} {ρ : List Addr} {tg : Expr}
theorem over_list {K : PySem.W.Frag} {a : Addr} {vs : List V} {items : List D} (h : FrL K H a vs) (t : RepL K G H ρ items vs) : Over K G (Itl K a) items H ρ := by
  have w := walk_list (K := K) (a := a) (xs := vs)
  rw [Over, t.length]
  refine w.mono (fun H' k => (k.frL h).sq) fun i H1 x H2 hi k y => ?_
  obtain ⟨rfl, hx⟩ := y
  obtain ⟨d, hd⟩ : ∃ d, items[i]? = some d := ⟨_, List.getElem?_eq_getElem (by rw [t.length]; exact hi)⟩
  obtain ⟨v, h1, h2⟩ := t.get hd
  rw [hx] at h1
  cases h1
  exact ⟨Same.refl _, d, hd, h2.keep k (List.prefix_refl _)⟩
theorem over_tup {K : PySem.W.Frag} {a : Addr} {vs : List V} {items : List D} (h : SqT K H a vs) (t : RepL K G H ρ items vs) : Over K G (Itt K a) items H ρ := by
  have w := walk_tup (K := K) (a := a) (xs := vs)
  rw [Over, t.length]
  refine w.mono (fun H' k => k.sqT h) fun i H1 x H2 hi k y => ?_
  obtain ⟨rfl, hx⟩ := y
  obtain ⟨d, hd⟩ : ∃ d, items[i]? = some d := ⟨_, List.getElem?_eq_getElem (by rw [t.length]; exact hi)⟩
  obtain ⟨v, h1, h2⟩ := t.get hd
  rw [hx] at h1
  cases h1
  exact ⟨Same.refl _, d, hd, h2.keep k (List.prefix_refl _)⟩
/-- a list or a tuple is walked -/
theorem pi_seq {l : Expr} {tl : TE} (hl : PE X l tl) : PI X tg l (fun σ H R => tl σ H fun x H1 => ∃ a, x = .ref a ∧ ((∃ xs, SqL X.K H1 a xs) ∧ R (Itl X.K a) H1 ∨ (∃ xs, SqT X.K H1 a xs) ∧ R (Itt X.K a) H1)) := by
  refine ⟨fun pins s σ H R I h => ?_⟩
  refine thn (hl.run pins s σ H _ I h) fun v s1 ⟨x, H1, I1, r1, q1⟩ => ?_
  obtain ⟨a, rfl, q1⟩ := q1
  have one := (pi_list (tg := tg) (l := l) hl)
  cases r1
  rcases q1 with ⟨⟨xs, hq⟩, q⟩ | ⟨⟨xs, hq⟩, q⟩
  · obtain ⟨its, rv, p, hz⟩ := I1.list hq
    refine wpAny_pyIter_list p.isList ?_
    refine ⟨s1.heap.objs.size, [s1.heap.objs.size], _, _, H1, rfl, I1.kept (t' := s1.toks) fun b o e => Heap.get?_push_of_some _ e, turn_list a _, ⟨_, Heap.get?_push_size _ rfl, rfl, rfl⟩, fun b hb => ?_, q⟩
    have e : b = s1.heap.objs.size := by simpa using hb
    subst e
    exact I1.fpOk (Nat.le_refl _) (I1.hok.fresh (Nat.le_refl _))
  · obtain ⟨its, rv, p, hz⟩ := I1.tuple hq
    refine wpAny_pyIter_tuple (show s1.heap.IsTuple a its.toArray from p) ?_
    refine ⟨s1.heap.objs.size, [s1.heap.objs.size], _, _, H1, rfl, I1.kept (t' := s1.toks) fun b o e => Heap.get?_push_of_some _ e, turn_tuple a _, ⟨_, Heap.get?_push_size _ rfl, rfl, rfl⟩, fun b hb => ?_, q⟩
    have e : b = s1.heap.objs.size := by simpa using hb
    subst e
    exact I1.fpOk (Nat.le_refl _) (I1.hok.fresh (Nat.le_refl _))
theorem pi_of {e : Expr} {t t' : TI} (h : PI X tg e t) (w : ∀ σ H R, t' σ H R → t σ H R) : PI X tg e t' := ⟨fun pins s σ H R I q => h.run pins s σ H R I (w σ H R q)⟩
theorem Es_one {a : Ex} {e : En} {s : So} : Es cx (.cons a .nil) e s = (E cx a e s).bind fun x e s => .ok [x] e s := by
  rw [Es]
  cases E cx a e s <;> rfl
theorem im_val {e : Expr} {a : Ex} (ha : PEm X G B fld W cx e a) : PI X tg e (iOf X G B fld W .val (Es cx (.cons a .nil))) := by
  refine pi_of (pi_seq ha) fun σ H R ⟨env, st, ρ, R0, h⟩ => ?_
  rw [Es_one] at h
  refine ⟨env, st, ρ, R0, (Post.bind h).imp fun x H1 ρ1 e1 s1 k p R1 h1 v1 r1 => ?_⟩
  obtain ⟨items, hw, q⟩ := Post.now h1 R1
  cases x with
  | lst xs =>
    cases hw
    cases r1 with
    | lst h t => exact ⟨_, rfl, .inl ⟨⟨_, h.sq⟩, q _ (over_list h t)⟩⟩
  | tup xs =>
    cases hw
    cases r1 with
    | tup h t => exact ⟨_, rfl, .inr ⟨⟨_, h⟩, q _ (over_tup h t)⟩⟩
  | _ => cases hw
theorem rng_len (i j : Int) : (rng i j).length = (j - i).toNat := by rw [rng, List.length_map, List.length_range]
theorem rng_get {i j : Int} {k : Nat} (h : k < (j - i).toNat) : (rng i j)[k]? = some (.int (i + (k : Nat))) := by
  rw [rng, List.getElem?_map, List.getElem?_range h]
  rfl
theorem over_rng {K : PySem.W.Frag} {i j : Int} : Over K G (Itr i (j - i).toNat) (rng i j) H ρ := by
  rw [Over, rng_len]
  refine (walk_range (lo := i) (n := (j - i).toNat)).mono (fun _ _ => True.intro) fun k H1 x H2 hk _ y => ?_
  obtain ⟨rfl, rfl⟩ := y
  exact ⟨Same.refl _, _, rng_get hk, .int _⟩
theorem walk_rng1 {ws items : List D} (h : walk .rng1 ws = some items) : ∃ j : Int, ws = [.int j] ∧ (-(2 ^ 62) ≤ j ∧ j < 2 ^ 62) ∧ items = rng 0 j := by
  match ws, h with
  | [], h => cases h
  | a :: b :: l, h => cases a <;> cases h
  | [d], h =>
    cases d with
    | int j =>
      rw [walk] at h
      split at h
      · rename_i hc
        cases h
        rw [Bool.and_eq_true, smallR, decide_eq_true_eq, decide_eq_true_eq] at hc
        exact ⟨j, rfl, hc.1, rfl⟩
      · cases h
    | _ => cases h
theorem walk_rng2 {ws items : List D} (h : walk .rng2 ws = some items) : ∃ i j : Int, ws = [.int i, .int j] ∧ (-(2 ^ 62) ≤ i ∧ i < 2 ^ 62) ∧ (-(2 ^ 62) ≤ j ∧ j < 2 ^ 62) ∧ items = rng i j := by
  match ws, h with
  | [], h => cases h
  | [d], h => cases d <;> cases h
  | a :: b :: c :: l, h => cases a <;> cases b <;> cases h
  | [d, g], h =>
    cases d with
    | int i =>
      cases g with
      | int j =>
        rw [walk] at h
        split at h
        · rename_i hc
          cases h
          rw [Bool.and_eq_true, Bool.and_eq_true, smallR, smallR, decide_eq_true_eq, decide_eq_true_eq, decide_eq_true_eq] at hc
          exact ⟨i, j, rfl, hc.1.1, hc.1.2, rfl⟩
        · cases h
      | _ => cases h
    | _ => cases g <;> cases h
theorem im_rng1 {a : Expr} {as : Exs} {p : Pos} (hg : Gl X "range") (hm : X.mg "range" = none) (ha : PAm X G B fld W cx [a] as) (hs : starEach [a] X.env = [(false, eval a X.env)]) : PI X tg (.Call (.Name "range" p) [a] [] pos) (iOf X G B fld W .rng1 (Es cx as)) := by
  refine pi_of (pi_range1 hg hm ha hs) fun σ H R ⟨env, st, ρ, R0, h⟩ => ?_
  refine ⟨env, st, ρ, R0, h.imp fun ws H1 ρ1 e1 s1 k p R1 h1 vs rs => ?_⟩
  obtain ⟨items, hw, q⟩ := h1
  obtain ⟨j, rfl, hj, rfl⟩ := walk_rng1 hw
  obtain ⟨v, rfl, rv⟩ := repL1 rs
  rw [rep_int rv]
  have e := q (Itr 0 (j - 0).toNat) over_rng
  rw [Int.sub_zero] at e
  exact ⟨j, rfl, hj.1, hj.2, e⟩
theorem im_rng2 {a b : Expr} {as : Exs} {p : Pos} (hg : Gl X "range") (hm : X.mg "range" = none) (ha : PAm X G B fld W cx [a, b] as) (hs : starEach [a, b] X.env = [(false, eval a X.env), (false, eval b X.env)]) (hs2 : starEach [b] X.env = [(false, eval b X.env)]) :
    PI X tg (.Call (.Name "range" p) [a, b] [] pos) (iOf X G B fld W .rng2 (Es cx as)) := by
  refine pi_of (pi_range2 hg hm ha hs hs2) fun σ H R ⟨env, st, ρ, R0, h⟩ => ?_
  refine ⟨env, st, ρ, R0, h.imp fun ws H1 ρ1 e1 s1 k p R1 h1 vs rs => ?_⟩
  obtain ⟨items, hw, q⟩ := h1
  obtain ⟨i, j, rfl, hi, hj, rfl⟩ := walk_rng2 hw
  obtain ⟨v, u, rfl, rv, ru⟩ := repL2 rs
  rw [rep_int rv, rep_int ru]
  exact ⟨i, j, rfl, ⟨hi.1, hi.2, hj.1, hj.2⟩, q _ over_rng⟩
end
end KP
end
section
set_option autoImplicit false
set_option linter.all false
set_option maxRecDepth 100000
set_option maxHeartbeats 4000000
/-! KShut: into a comprehension and out of it. -/
namespace KP
open PySem PySem.Spec PyProof.Rows L2

/-! ### places -/
theorem wipeE_len (e : En) : ∀ vs : List Nat, (wipeE e vs).length = e.length
  | [] => rfl
  | v :: vs => by rw [wipeE, List.length_set, wipeE_len e vs]
theorem wipeE_out {e : En} {i : Nat} : ∀ {vs : List Nat}, i ∉ vs → (wipeE e vs)[i]? = e[i]?
  | [], _ => rfl
  | v :: vs, h => by
    rw [List.mem_cons, not_or] at h
    rw [wipeE, List.getElem?_set_ne (Ne.symm h.1), wipeE_out h.2]
theorem wipeE_in {e : En} {i : Nat} {sl : Sl} : ∀ {vs : List Nat}, i ∈ vs → (wipeE e vs)[i]? = some sl → sl = .no
  | v :: vs, h, q => by
    rw [wipeE] at q
    by_cases e1 : v = i
    · subst e1
      rw [List.getElem?_set] at q
      rw [if_pos rfl] at q
      split at q
      · cases q; rfl
      · cases q
    · rw [List.getElem?_set_ne e1] at q
      rcases List.mem_cons.mp h with h | h
      · exact absurd h.symm e1
      · exact wipeE_in h q
theorem backE_len (e0 e : En) : ∀ vs : List Nat, (backE e0 e vs).length = e.length
  | [] => rfl
  | v :: vs => by rw [backE, List.length_set, backE_len e0 e vs]
theorem backE_out {e0 e : En} {i : Nat} : ∀ {vs : List Nat}, i ∉ vs → (backE e0 e vs)[i]? = e[i]?
  | [], _ => rfl
  | v :: vs, h => by
    rw [List.mem_cons, not_or] at h
    rw [backE, List.getElem?_set_ne (Ne.symm h.1), backE_out h.2]
theorem backE_in {e0 e : En} {i : Nat} {sl : Sl} : ∀ {vs : List Nat}, i ∈ vs → (backE e0 e vs)[i]? = some sl → sl = e0[i]?.getD .no
  | v :: vs, h, q => by
    rw [backE] at q
    by_cases e1 : v = i
    · subst e1
      rw [List.getElem?_set] at q
      rw [if_pos rfl] at q
      split at q
      · cases q; rfl
      · cases q
    · rw [List.getElem?_set_ne e1] at q
      rcases List.mem_cons.mp h with h | h
      · exact absurd h.symm e1
      · exact backE_in h q
theorem shutE_len (s : So) (e : En) : (shutE s e).length = e.length := by rw [shutE, List.length_map]
theorem shutE_get {s : So} {e : En} {i : Nat} {sl : Sl} (h : (shutE s e)[i]? = some sl) : (e[i]? = some sl ∧ ∀ n, sl ≠ .cel n) ∨ ∃ n, e[i]? = some (.cel n) ∧ (sl = .no ∨ ∃ d, s[n]? = some (.cel (some d)) ∧ sl = .v d) := by
  rw [shutE, List.getElem?_map] at h
  cases q : e[i]? with
  | none => rw [q] at h; cases h
  | some a =>
    rw [q] at h
    cases a with
    | cel n =>
      refine .inr ⟨n, rfl, ?_⟩
      have h : some (shutSl s (.cel n)) = some sl := h
      rw [shutSl] at h
      split at h
      · rename_i d e
        cases h
        exact .inr ⟨d, e, rfl⟩
      · cases h
        exact .inl rfl
    | _ =>
      cases h
      exact .inl ⟨rfl, fun n z => by cases z⟩
theorem openE_get {e e' : En} {i : Nat} {sl : Sl} (h : (openE e e')[i]? = some sl) : (∃ n, e[i]? = some (.cel n) ∧ sl = .cel n) ∨ ((∀ n, e[i]? ≠ some (.cel n)) ∧ e'[i]? = some sl) := by
  rw [openE, List.getElem?_zipWith] at h
  cases q : e[i]? with
  | none => rw [q] at h; cases h
  | some a =>
    cases q2 : e'[i]? with
    | none => rw [q, q2] at h; cases h
    | some b =>
      rw [q, q2] at h
      cases a with
      | cel n =>
        have h : some (Sl.cel n) = some sl := h
        cases h
        exact .inl ⟨n, rfl, rfl⟩
      | _ =>
        have h : some b = some sl := h
        cases h
        exact .inr ⟨(fun n z => by cases z), rfl⟩
theorem openE_len {e e' : En} (h : e'.length = e.length) : (openE e e').length = e.length := by
  rw [openE, List.length_zipWith, h, Nat.min_self]
/-! ### the store -/
theorem shutS_len : ∀ (e : En) (s : So), (shutS e s).length = s.length
  | [], _ => rfl
  | sl :: e, s => by
    have h := shutS_len e (shut1 s sl)
    rw [shutS, List.foldl_cons, ← shutS, h]
    cases sl <;> simp [shut1]
theorem shutS_out {n : Nat} : ∀ {e : En} {s : So}, Sl.cel n ∉ e → (shutS e s)[n]? = s[n]?
  | [], _, _ => rfl
  | sl :: e, s, h => by
    rw [List.mem_cons, not_or] at h
    rw [shutS, List.foldl_cons, ← shutS, shutS_out h.2]
    cases sl with
    | cel m => exact List.getElem?_set_ne fun z => h.1 (by rw [z])
    | _ => rfl
theorem shutS_in {n : Nat} {ob : Ob} : ∀ {e : En} {s : So}, Sl.cel n ∈ e → (shutS e s)[n]? = some ob → ob = .cel none
  | sl :: e, s, h, q => by
    rw [shutS, List.foldl_cons, ← shutS] at q
    by_cases hm : Sl.cel n ∈ e
    · exact shutS_in hm q
    · have e1 : sl = .cel n := by
        rcases List.mem_cons.mp h with h | h
        · exact h.symm
        · exact absurd h hm
      subst e1
      rw [shutS_out hm, shut1, List.getElem?_set, if_pos rfl] at q
      split at q
      · cases q; rfl
      · cases q
theorem openS_len : ∀ (e : En) (s s' : So), (openS e s s').length = s'.length
  | [], _, _ => rfl
  | sl :: e, s, s' => by
    have h := openS_len e s (open1 s s' sl)
    rw [openS, List.foldl_cons, ← openS, h]
    cases sl <;> simp [open1]
theorem openS_out {n : Nat} : ∀ {e : En} {s s' : So}, Sl.cel n ∉ e → (openS e s s')[n]? = s'[n]?
  | [], _, _, _ => rfl
  | sl :: e, s, s', h => by
    rw [List.mem_cons, not_or] at h
    rw [openS, List.foldl_cons, ← openS, openS_out h.2]
    cases sl with
    | cel m => exact List.getElem?_set_ne fun z => h.1 (by rw [z])
    | _ => rfl
theorem openS_in {n : Nat} {ob : Ob} : ∀ {e : En} {s s' : So}, Sl.cel n ∈ e → (openS e s s')[n]? = some ob → ob = s[n]?.getD (.cel none)
  | sl :: e, s, s', h, q => by
    rw [openS, List.foldl_cons, ← openS] at q
    by_cases hm : Sl.cel n ∈ e
    · exact openS_in hm q
    · have e1 : sl = .cel n := by
        rcases List.mem_cons.mp h with h | h
        · exact h.symm
        · exact absurd h hm
      subst e1
      rw [openS_out hm, open1, List.getElem?_set, if_pos rfl] at q
      split at q
      · cases q; rfl
      · cases q

/-! ### the relation, within -/
section
variable {X X' : Cx} {G : Glo} {B : Bs} {fld : Nat → List Str} {W : WX} {σ : L2.St} {H H' : Hp} {ρ : List Addr} {env : En} {st : So} {vs : List Nat} {L : Addr} {acc : List V} {av : Addr → Prop}
theorem ObRep.move {K : PySem.W.Frag} {a : Addr} {ob : Ob} (h : ∀ u, H a = some u → H' a = some u) (k : Keep H H') {ρ' : List Addr} (p : ρ <+: ρ') (r : ObRep K G H ρ a ob) : ObRep K G H' ρ' a ob := by
  cases ob with
  | lst ys =>
    obtain ⟨ws, e, q⟩ := r
    exact ⟨ws, h _ e, q.keep k p⟩
  | dic kvs =>
    obtain ⟨ws, e, q⟩ := r
    exact ⟨ws, h _ e, Paired.mapP q fun p' q z => ⟨z.1, z.2.keep k p⟩⟩
  | ins c fs => exact r
  | cel v =>
    cases v with
    | none => exact r
    | some d =>
      obtain ⟨oc, v, e, q⟩ := r
      exact ⟨oc, v, h _ e, q.keep k p⟩
theorem Rel.cx {K : PySem.W.Frag} (hN : X'.N = X.N) (hB : B.nc = true) (R : Rel K G X B σ H env st ρ) : Rel K G X' B σ H env st ρ where
  gr := R.gr
  nc := R.nc
  tb := R.tb
  pt := R.pt
  pv := R.pv
  len := R.len
  nd := R.nd
  so := R.so
  sc := R.sc
  el := by rw [hN]; exact R.el
  ev := R.ev
  eo := R.eo
  ed := R.ed
  ec := fun i n h => absurd (List.mem_of_getElem? h) (R.nc hB n)
  ei := R.ei
theorem Post.cx {K : PySem.W.Frag} {α : Type} {r : KP.R α} {ψ : α → Hp → List Addr → En → So → Prop} (hN : X'.N = X.N) (hB : B.nc = true) (h : Post K G X B fld W r σ H ρ ψ) : Post K G X' B fld W r σ H ρ ψ := by
  cases r with
  | ok a e s => exact fun H' ρ' k p R => h H' ρ' k p (R.cx hN.symm hB)
  | exc x e s => exact fun cls dd H' ρ' k p R => h cls dd H' ρ' k p (R.cx hN.symm hB)
  | stuck => exact h
open Classical in
/-- the base of a comprehension: what stood ahead of it, but for the lists that places of the frame alone hold, and the new list -/
noncomputable def inB (av : Addr → Prop) (H : Hp) (env : En) (σ : L2.St) (vs : List Nat) (ρ : List Addr) (L : Addr) (acc : List V) : Bs :=
  ⟨fun a => if a = L then some (.lst acc) else if (∃ i xs, i ∉ vs ∧ env[i]? = some (.own xs) ∧ σ[i]? = some (some (.ref a))) then none else H a, ρ, true, fun a => a = L ∨ av a ∨ ∃ i xs, i ∈ vs ∧ env[i]? = some (.own xs) ∧ σ[i]? = some (some (.ref a))⟩
theorem inB_D : (inB av H env σ vs ρ L acc).h L = some (.lst acc) := if_pos rfl
theorem inB_ne {a : Addr} (h : a ≠ L) : (inB av H env σ vs ρ L acc).h a = (inB av H env σ vs ρ L []).h a := by
  show (if a = L then _ else _) = (if a = L then _ else _)
  rw [if_neg h, if_neg h]
theorem inB_own {a : Addr} {i : Nat} {xs : List D} (h : a ≠ L) (hi : i ∉ vs) (he : env[i]? = some (.own xs)) (hs : σ[i]? = some (some (.ref a))) : (inB av H env σ vs ρ L acc).h a = none := by
  show (if a = L then _ else _) = _
  rw [if_neg h, if_pos ⟨i, xs, hi, he, hs⟩]
theorem inB_at {a : Addr} (h : a ≠ L) (hn : ∀ i xs, i ∉ vs → env[i]? = some (.own xs) → σ[i]? ≠ some (some (.ref a))) : (inB av H env σ vs ρ L acc).h a = H a := by
  show (if a = L then _ else _) = _
  rw [if_neg h, if_neg fun ⟨i, xs, h1, h2, h3⟩ => hn i xs h1 h2 h3]
theorem inB_none {a : Addr} (h : (inB av H env σ vs ρ L acc).h a = none) : a ≠ L ∧ (H a = none ∨ ∃ i xs, i ∉ vs ∧ env[i]? = some (.own xs) ∧ σ[i]? = some (some (.ref a))) := by
  by_cases e : a = L
  · subst e
    rw [inB_D] at h
    cases h
  · refine ⟨e, ?_⟩
    by_cases q : ∃ i xs, i ∉ vs ∧ env[i]? = some (.own xs) ∧ σ[i]? = some (some (.ref a))
    · exact .inr q
    · rw [inB_at e fun i xs h1 h2 h3 => q ⟨i, xs, h1, h2, h3⟩] at h
      exact .inl h
theorem inB_some {a : Addr} {o : HO} (h : (inB av H env σ vs ρ L acc).h a = some o) (hL : a ≠ L) : H a = some o := by
  by_cases q : ∃ i xs, i ∉ vs ∧ env[i]? = some (.own xs) ∧ σ[i]? = some (some (.ref a))
  · obtain ⟨i, xs, h1, h2, h3⟩ := q
    rw [inB_own hL h1 h2 h3] at h
    cases h
  · rw [inB_at hL fun i xs h1 h2 h3 => q ⟨i, xs, h1, h2, h3⟩] at h
    exact h
theorem in_slot {i : Nat} {sl : Sl} (h : (wipeE (shutE st env) vs)[i]? = some sl) : sl = .no ∨ (i ∉ vs ∧ ((env[i]? = some sl ∧ ∀ n, sl ≠ .cel n) ∨ ∃ n, env[i]? = some (.cel n) ∧ (sl = .no ∨ ∃ d, st[n]? = some (.cel (some d)) ∧ sl = .v d))) := by
  by_cases hi : i ∈ vs
  · exact .inl (wipeE_in hi h)
  · rw [wipeE_out hi] at h
    exact .inr ⟨hi, shutE_get h⟩
theorem in_nocel {n : Nat} : Sl.cel n ∉ wipeE (shutE st env) vs := fun h => by
  obtain ⟨i, hi, e⟩ := List.getElem_of_mem h
  have e' : (wipeE (shutE st env) vs)[i]? = some (Sl.cel n) := by rw [List.getElem?_eq_getElem hi, e]
  rcases in_slot e' with q | ⟨_, ⟨_, q⟩ | ⟨m, _, q | ⟨d, _, q⟩⟩⟩
  · cases q
  · exact q n rfl
  · cases q
  · cases q
theorem wipe_get {j : Nat} {v : V} (hj : j ∉ vs) (h : σ[j]? = some (some v)) : (wipe σ vs)[j]? = some (some v) := by
  rw [wipe_out hj]
  exact h
theorem Dead.shut {a : Addr} {env' : En} (h : Dead ρ st env a) : Dead ρ (shutS env st) env' a := fun n ob h1 h2 _ => by
  by_cases hc : Sl.cel n ∈ env
  · exact shutS_in hc h2
  · rw [shutS_out hc] at h2
    exact h n ob h1 h2 hc
theorem ObRep.dead {K : PySem.W.Frag} {a : Addr} {ob : Ob} (h : ObRep K G H ρ a ob) (hn : H a = none) : ob = .cel none := by
  cases ob with
  | lst xs => obtain ⟨_, q, _⟩ := h; rw [hn] at q; cases q
  | dic xs => obtain ⟨_, q, _⟩ := h; rw [hn] at q; cases q
  | ins c fs => exact h.elim
  | cel v =>
    cases v with
    | none => rfl
    | some d => obtain ⟨_, _, q, _⟩ := h; rw [hn] at q; cases q
theorem Rel.shut (R : Rel X.K G X B σ H env st ρ) (hL : H L = none) : Rel X.K G X (inB B.av H env σ vs ρ L []) (wipe σ vs) (upd H L (.lst [])) (wipeE (shutE st env) vs) (shutS env st) ρ := by
  have sm : Same H (upd H L (.lst [])) := same_new hL
  have own_ : ∀ i xs, (wipeE (shutE st env) vs)[i]? = some (.own xs) → i ∉ vs ∧ env[i]? = some (.own xs) := fun i xs h => by
    rcases in_slot h with q | ⟨h1, ⟨h2, _⟩ | ⟨m, _, q | ⟨d, _, q⟩⟩⟩
    · cases q
    · exact ⟨h1, h2⟩
    · cases q
    · cases q
  have inv : ∀ a, B.av a → (inB B.av H env σ vs ρ L []).h a = H a := fun a h => by
    obtain ⟨o, h1, h2, h3⟩ := R.pv a h
    refine inB_at (ne_of_none h2 hL) fun i xs _ he hs => ?_
    obtain ⟨p', ws', f1, _, _, _, f5⟩ := R.eo i xs he
    rw [hs] at f1
    cases f1
    rw [f5] at h1
    cases h1
  exact {
    gr := {
      keep := fun a o h hn ht => by
        by_cases e : a = L
        · subst e
          rw [inB_D] at h
          rw [upd_same]
          exact h
        · rw [upd_ne e]
          exact inB_some h e
      pre := List.prefix_refl _
      new := fun a h h' => absurd h h'
      tbls := fun b ps h => by
        have e : b ≠ L := fun e => by
          subst e
          rw [inB_D] at h
          cases h
        refine ⟨#[], ?_⟩
        rw [upd_ne e, Array.append_empty]
        exact inB_some h e
      dom := fun a h => by
        have e : a ≠ L := fun e => by
          subst e
          rw [upd_same] at h
          cases h
        rw [upd_ne e] at h
        cases q : (inB B.av H env σ vs ρ L []).h a with
        | none => rfl
        | some o =>
          have := inB_some q e
          rw [h] at this
          cases this }
    nc := fun _ n => in_nocel
    tb := fun p hp => (R.tb p hp).ext sm
    pt := fun a h ps e => by
      rcases h with h | h | ⟨i, xs, h1, h2, h3⟩
      · subst h
        rw [inB_D] at e
        cases e
      · rw [inv a h] at e
        obtain ⟨o, q1, q2, _⟩ := R.pv a h
        rw [q2] at e
        cases e
        exact R.pt a h ps q1
      · obtain ⟨p, ws, e1, e2, _⟩ := R.eo i xs h2
        rw [h3] at e1
        cases e1
        have := inB_some e (ne_of_none e2 hL)
        rw [e2] at this
        cases this
    pv := fun a h => by
      rcases h with h | h | ⟨i, xs, h1, h2, h3⟩
      · subst h
        refine ⟨_, inB_D, upd_same, fun n ob h1 h2 _ => ?_⟩
        by_cases hc : Sl.cel n ∈ env
        · exact shutS_in hc h2
        · rw [shutS_out hc] at h2
          exact (R.so n _ ob h1 h2 hc).dead hL
      · obtain ⟨o, h1, h2, h3⟩ := R.pv a h
        exact ⟨o, (inv a h).trans h2, sm _ _ h2, h3.shut⟩
      · obtain ⟨p, ws, e1, e2, e3, e4, e5⟩ := R.eo i xs h2
        rw [h3] at e1
        cases e1
        refine ⟨_, ?_, sm _ _ e2, e4.shut⟩
        rw [inB_at (ne_of_none e2 hL) fun j ys hj he hs => hj (R.ed i j xs ys a h2 he h3 hs ▸ h1)]
        exact e2
    len := by rw [shutS_len]; exact R.len
    nd := fun n m a ob ob' h1 h2 h3 h4 h5 _ _ => by
      by_cases c1 : Sl.cel n ∈ env
      · exact .inl (shutS_in c1 h4)
      · by_cases c2 : Sl.cel m ∈ env
        · exact .inr (shutS_in c2 h5)
        · rw [shutS_out c1] at h4
          rw [shutS_out c2] at h5
          exact R.nd n m a ob ob' h1 h2 h3 h4 h5 c1 c2
    so := fun n a ob h1 h2 _ => by
      by_cases hc : Sl.cel n ∈ env
      · rw [shutS_in hc h2]
        exact True.intro
      · rw [shutS_out hc] at h2
        exact (R.so n a ob h1 h2 hc).same sm
    sc := fun n ob _ h => absurd h in_nocel
    el := by rw [wipeE_len, shutE_len]; exact R.el
    ev := fun i d h => by
      rcases in_slot h with q | ⟨h1, ⟨h2, _⟩ | ⟨m, h2, q | ⟨d', h3, q⟩⟩⟩
      · cases q
      · obtain ⟨v, e1, e2⟩ := R.ev i d h2
        exact ⟨v, wipe_get h1 e1, e2.same sm⟩
      · cases q
      · cases q
        obtain ⟨x, a, _, _, _, h4⟩ := R.ec i m h2
        obtain ⟨_, v, e1, e2⟩ := h4 d h3
        exact ⟨v, wipe_get h1 e1, e2.same sm⟩
    eo := fun i xs h => by
      obtain ⟨h1, h2⟩ := own_ i xs h
      obtain ⟨p, ws, e1, e2, e3, e4, e5⟩ := R.eo i xs h2
      exact ⟨p, ws, wipe_get h1 e1, sm _ _ e2, e3.same sm, e4.shut, inB_own (ne_of_none e2 hL) h1 h2 e1⟩
    ed := fun i j xs ys p h1 h2 h3 h4 => R.ed i j xs ys p (own_ i xs h1).2 (own_ j ys h2).2 (wipe_some h3).1 (wipe_some h4).1
    ec := fun i n h => absurd (List.mem_of_getElem? h) in_nocel
    ei := fun i j n h => absurd (List.mem_of_getElem? h) in_nocel }
theorem Rel.newAt {H0 : Hp} {env0 : En} {σ0 : L2.St} {ρ0 : List Addr} (R : Rel X.K G X (inB av H0 env0 σ0 vs ρ0 L acc) σ H env st ρ) : H L = some (.lst acc) ∧ Dead ρ st env L := by
  obtain ⟨o, h1, h2, h3⟩ := R.pv L (.inl rfl)
  rw [inB_D] at h1
  cases h1
  exact ⟨h2, h3⟩
/-- the new list grows -/
theorem Rel.step {H0 : Hp} {env0 : En} {σ0 : L2.St} {ρ0 : List Addr} {acc' : List V} (R : Rel X.K G X (inB av H0 env0 σ0 vs ρ0 L acc) σ H env st ρ) :
    Rel X.K G X (inB av H0 env0 σ0 vs ρ0 L acc') σ (upd H L (.lst acc')) env st ρ := by
  obtain ⟨hL, nL⟩ := R.newAt
  have k : Keep H (upd H L (.lst acc')) := .ofLst hL
  have mv : ∀ a u, H a = some u → a ≠ L → upd H L (.lst acc') a = some u := fun a u h q => by
    rw [upd_ne q]
    exact h
  have tb : ∀ a u, (inB av H0 env0 σ0 vs ρ0 L acc').h a = some u → a ≠ L → (inB av H0 env0 σ0 vs ρ0 L acc).h a = some u := fun a u h q => by
    rw [inB_ne q] at h
    rw [inB_ne q]
    exact h
  exact {
    gr := {
      keep := fun a o h hn ht => by
        by_cases e : a = L
        · subst e
          rw [inB_D] at h
          rw [upd_same]
          exact h
        · exact mv _ _ (R.gr.keep a o (tb _ _ h e) hn ht) e
      pre := R.gr.pre
      new := fun a h hn => by
        have q := R.gr.new a h hn
        have e : a ≠ L := (inB_none q).1
        rw [inB_ne e] at q
        rw [inB_ne e]
        exact q
      tbls := fun b ps h => by
        have e : b ≠ L := fun e => by
          subst e
          rw [inB_D] at h
          cases h
        obtain ⟨m, q⟩ := R.gr.tbls b ps (tb _ _ h e)
        exact ⟨m, mv _ _ q e⟩
      dom := fun a h => by
        have e : a ≠ L := fun e => by
          subst e
          rw [upd_same] at h
          cases h
        rw [upd_ne e] at h
        have q := R.gr.dom a h
        rw [inB_ne e] at q
        rw [inB_ne e]
        exact q }
    nc := R.nc
    tb := fun p hp => tabK_lst hL (R.tb p hp)
    pt := fun a h ps e => by
      by_cases q : a = L
      · subst q
        rw [inB_D] at e
        cases e
      · rw [inB_ne q] at e
        refine R.pt a h ps ?_
        rw [inB_ne q]
        exact e
    pv := fun a h => by
      by_cases e : a = L
      · subst e
        exact ⟨_, inB_D, upd_same, nL⟩
      · obtain ⟨o, h1, h2, h3⟩ := R.pv a h
        refine ⟨o, ?_, mv _ _ h2 e, h3⟩
        rw [inB_ne e] at h1
        rw [inB_ne e]
        exact h1
    len := R.len
    nd := R.nd
    so := fun n a ob h1 h2 h3 => by
      by_cases e : a = L
      · subst e
        rw [nL n ob h1 h2 h3]
        exact True.intro
      · exact (R.so n a ob h1 h2 h3).move (fun u h => mv _ _ h e) k (List.prefix_refl _)
    sc := R.sc
    el := R.el
    ev := fun i d h => let ⟨v, e1, e2⟩ := R.ev i d h; ⟨v, e1, e2.keep k (List.prefix_refl _)⟩
    eo := fun i xs h => by
      obtain ⟨p, ws, e1, e2, e3, e4, e5⟩ := R.eo i xs h
      obtain ⟨n1, _⟩ := inB_none e5
      refine ⟨p, ws, e1, mv _ _ e2 n1, e3.keep k (List.prefix_refl _), e4, ?_⟩
      rw [inB_ne n1] at e5
      rw [inB_ne n1]
      exact e5
    ed := R.ed
    ec := fun i n h => absurd (List.mem_of_getElem? h) (R.nc rfl n)
    ei := R.ei }
/-- out of a comprehension; the new list may be locked -/
theorem Rel.unshut {H1 H2 : Hp} {env1 : En} {st1 : So} {ρ1 : List Addr} (R1 : Rel X.K G X B σ H1 env1 st1 ρ1) (hL : H1 L = none)
    (kk : Keep H1 H) (R : Rel X.K G X (inB B.av H1 env1 σ vs ρ1 L acc) (wipe σ vs) H env st ρ) (k : Keep H H2) (tk : ∀ b q, LamX.TabS H b q → LamX.TabS H2 b q) (mv : ∀ a u, H a = some u → a ≠ L → H2 a = some u) :
    Rel X.K G X B σ H2 (openE env1 (backE env1 env vs)) (openS env1 st1 st) ρ := by
  obtain ⟨aL, nL⟩ := R.newAt
  have p0 : ρ1 <+: ρ := R.gr.pre
  have k1 : Keep H1 H2 := kk.trans k
  -- what stood ahead of it and is no list of a place's own
  have stay : ∀ a u, H1 a = some u → a ∉ ρ1 → (∀ i xs, i ∉ vs → env1[i]? = some (.own xs) → σ[i]? ≠ some (some (.ref a))) → (∀ ps, u ≠ .tbl ps) → H2 a = some u := fun a u h hn ho ht => by
    have e : a ≠ L := ne_of_none h hL
    refine mv _ _ (R.gr.keep a u ?_ hn ht) e
    rw [inB_at e ho]
    exact h
  have notOwn : ∀ a u, H1 a = some u → (∀ ws, u ≠ .lst ws) → ∀ i xs, i ∉ vs → env1[i]? = some (.own xs) → σ[i]? ≠ some (some (.ref a)) := fun a u h hu i xs _ he hs => by
    obtain ⟨p, ws, e1, e2, _⟩ := R1.eo i xs he
    rw [hs] at e1
    cases e1
    rw [h] at e2
    cases e2
    exact hu ws rfl
  have bnone : ∀ a, (H1 a = none ∨ ∃ i xs, i ∉ vs ∧ env1[i]? = some (.own xs) ∧ σ[i]? = some (some (.ref a))) → B.h a = none := fun a h => by
    rcases h with h | ⟨j, ys, h1, h2, h3⟩
    · exact R1.gr.dom a h
    · obtain ⟨p', ws', f1, _, _, _, f5⟩ := R1.eo j ys h2
      rw [h3] at f1
      cases f1
      exact f5
  have celAt : ∀ i n, (openE env1 (backE env1 env vs))[i]? = some (Sl.cel n) → env1[i]? = some (Sl.cel n) := fun i n e' => by
    rcases openE_get e' with ⟨m, q1, q2⟩ | ⟨q1, q2⟩
    · cases q2
      exact q1
    · by_cases hv : i ∈ vs
      · have q3 := backE_in hv q2
        cases q4 : env1[i]? with
        | none => rw [q4] at q3; cases q3
        | some sl =>
          rw [q4] at q3
          have q3 : Sl.cel n = sl := q3
          rw [q3]
      · rw [backE_out hv] at q2
        exact absurd (List.mem_of_getElem? q2) (R.nc rfl n)
  have celm : ∀ n, Sl.cel n ∈ openE env1 (backE env1 env vs) ↔ Sl.cel n ∈ env1 := fun n => by
    constructor
    · intro h
      obtain ⟨i, hi, e⟩ := List.getElem_of_mem h
      have e' : (openE env1 (backE env1 env vs))[i]? = some (Sl.cel n) := by rw [List.getElem?_eq_getElem hi, e]
      exact List.mem_of_getElem? (celAt i n e')
    · intro h
      obtain ⟨i, hi, e⟩ := List.getElem_of_mem h
      have hl : i < (openE env1 (backE env1 env vs)).length := by
        rw [openE_len (by rw [backE_len, R.el, R1.el])]
        exact hi
      have e1 : env1[i]? = some (Sl.cel n) := by rw [List.getElem?_eq_getElem hi, e]
      rcases openE_get (List.getElem?_eq_getElem hl) with ⟨m, q1, q2⟩ | ⟨q1, _⟩
      · rw [e1] at q1
        cases q1
        rw [← q2]
        exact List.getElem_mem hl
      · exact absurd e1 (q1 n)
  have slot : ∀ i sl, (openE env1 (backE env1 env vs))[i]? = some sl → (∀ n, sl ≠ .cel n) → (i ∈ vs ∧ (sl = .no ∨ env1[i]? = some sl)) ∨ (i ∉ vs ∧ env[i]? = some sl) := fun i sl h hn => by
    rcases openE_get h with ⟨m, _, q2⟩ | ⟨_, q2⟩
    · exact absurd q2 (hn m)
    · by_cases hv : i ∈ vs
      · refine .inl ⟨hv, ?_⟩
        have q3 := backE_in hv q2
        cases q4 : env1[i]? with
        | none => rw [q4] at q3; exact .inl q3
        | some sl' =>
          rw [q4] at q3
          have q3 : sl = sl' := q3
          subst q3
          exact .inr rfl
      · rw [backE_out hv] at q2
        exact .inr ⟨hv, q2⟩
  have dead : ∀ a, Dead ρ st env a → Dead ρ (openS env1 st1 st) (openE env1 (backE env1 env vs)) a := fun a hd n ob z1 z2 z3 => by
    rw [openS_out fun z => z3 ((celm n).mpr z)] at z2
    exact hd n ob z1 z2 (R.nc rfl n)
  have hown : ∀ i xs, (openE env1 (backE env1 env vs))[i]? = some (.own xs) → ∃ p ws, σ[i]? = some (some (V.ref p)) ∧ H2 p = some (.lst ws) ∧ RepL X.K G H2 ρ xs ws ∧ Dead ρ (openS env1 st1 st) (openE env1 (backE env1 env vs)) p ∧ B.h p = none ∧ (i ∈ vs → env1[i]? = some (.own xs) ∧ (inB B.av H1 env1 σ vs ρ1 L acc).h p ≠ none) ∧ (i ∉ vs → env[i]? = some (.own xs) ∧ (inB B.av H1 env1 σ vs ρ1 L acc).h p = none) := fun i xs h => by
    rcases slot i _ h (fun n z => by cases z) with ⟨hv, q | q⟩ | ⟨hv, q⟩
    · cases q
    · obtain ⟨p, ws, e1, e2, e3, e4, e5⟩ := R1.eo i xs q
      have e6 : ∀ j ys, j ∉ vs → env1[j]? = some (.own ys) → σ[j]? ≠ some (some (.ref p)) := fun j ys hj he hs => hj (R1.ed i j xs ys p q he e1 hs ▸ hv)
      have e8 : (inB B.av H1 env1 σ vs ρ1 L acc).h p = some (.lst ws) := by rw [inB_at (ne_of_none e2 hL) e6, e2]
      obtain ⟨o, f1, f2, f3⟩ := R.pv p (.inr (.inr ⟨i, xs, hv, q, e1⟩))
      rw [e8] at f1
      cases f1
      exact ⟨p, ws, e1, mv _ _ f2 (ne_of_none e2 hL), e3.keep k1 p0, dead p f3, e5, fun _ => ⟨q, fun z => by rw [e8] at z; cases z⟩, fun z => absurd hv z⟩
    · obtain ⟨p, ws, e1, e2, e3, e4, e5⟩ := R.eo i xs q
      obtain ⟨n1, n2⟩ := inB_none e5
      exact ⟨p, ws, (wipe_some e1).1, mv _ _ e2 n1, e3.keep k (List.prefix_refl _), dead p e4, bnone p n2, fun z => absurd z hv, fun _ => ⟨q, e5⟩⟩
  exact {
    gr := {
      keep := fun a u h hn ht => by
        have e := R1.gr.keep a u h hn ht
        refine stay a u e (fun z => ?_) (fun i xs _ he hs => ?_) ht
        · rw [R1.gr.new a z hn] at h
          cases h
        · obtain ⟨p', ws', f1, _, _, _, f5⟩ := R1.eo i xs he
          rw [hs] at f1
          cases f1
          rw [f5] at h
          cases h
      pre := R1.gr.pre.trans p0
      new := fun a h hn => by
        by_cases q : a ∈ ρ1
        · exact R1.gr.new a q hn
        · exact bnone a (inB_none (R.gr.new a h q)).2
      tbls := fun b ps h => by
        obtain ⟨m, e⟩ := R1.gr.tbls b ps h
        have e2 : b ≠ L := ne_of_none e hL
        obtain ⟨m2, e3⟩ := R.gr.tbls b (ps ++ m) (by rw [inB_at e2 (notOwn b _ e fun ws z => by cases z)]; exact e)
        exact ⟨m ++ m2, by rw [← Array.append_assoc]; exact mv _ _ e3 e2⟩
      dom := fun a h => by
        by_cases e : a = L
        · subst e
          exact R1.gr.dom a hL
        · refine bnone a (inB_none (R.gr.dom a ?_)).2
          cases q : H a with
          | none => rfl
          | some o =>
            rw [mv _ _ q e] at h
            cases h }
    nc := fun z n h => R1.nc z n ((celm n).mp h)
    tb := fun p hp => tk _ _ (R.tb p hp)
    pt := R1.pt
    pv := fun a h => by
      obtain ⟨o1, h1, h2, h3⟩ := R1.pv a h
      have e : a ≠ L := ne_of_none h2 hL
      obtain ⟨o2, q1, q2, q3⟩ := R.pv a (.inr (.inl h))
      have e2 := inB_some q1 e
      rw [h2] at e2
      cases e2
      exact ⟨o1, h1, mv _ _ q2 e, dead a q3⟩
    len := by rw [openS_len]; exact R.len
    nd := fun n m a ob ob' h1 h2 h3 h4 h5 h6 h7 => by
      rw [openS_out fun z => h6 ((celm n).mpr z)] at h4
      rw [openS_out fun z => h7 ((celm m).mpr z)] at h5
      exact R.nd n m a ob ob' h1 h2 h3 h4 h5 (R.nc rfl n) (R.nc rfl m)
    so := fun n a ob h1 h2 h3 => by
      have hc : Sl.cel n ∉ env1 := fun z => h3 ((celm n).mpr z)
      rw [openS_out hc] at h2
      by_cases e : a = L
      · subst e
        rw [nL n ob h1 h2 (R.nc rfl n)]
        exact True.intro
      · exact (R.so n a ob h1 h2 (R.nc rfl n)).move (fun u h => mv _ _ h e) k (List.prefix_refl _)
    sc := fun n ob h1 h2 => by
      have hc := (celm n).mp h2
      have e := openS_in hc h1
      subst e
      cases q : st1[n]? with
      | none => exact ⟨none, rfl⟩
      | some ob => exact R1.sc n ob q hc
    el := by rw [openE_len (by rw [backE_len, R.el, R1.el])]; exact R1.el
    ev := fun i d h => by
      rcases slot i _ h (fun n z => by cases z) with ⟨hv, q | q⟩ | ⟨hv, q⟩
      · cases q
      · obtain ⟨v, e1, e2⟩ := R1.ev i d q
        exact ⟨v, e1, e2.keep k1 p0⟩
      · obtain ⟨v, e1, e2⟩ := R.ev i d q
        exact ⟨v, (wipe_some e1).1, e2.keep k (List.prefix_refl _)⟩
    eo := fun i xs h => let ⟨p, ws, a, b, c, d, e, _⟩ := hown i xs h; ⟨p, ws, a, b, c, d, e⟩
    ed := fun i j xs ys p h1 h2 h3 h4 => by
      obtain ⟨p1, _, a1, _, _, _, _, a2, a3⟩ := hown i xs h1
      obtain ⟨p2, _, b1, _, _, _, _, b2, b3⟩ := hown j ys h2
      rw [h3] at a1
      cases a1
      rw [h4] at b1
      cases b1
      by_cases hi : i ∈ vs
      · by_cases hj : j ∈ vs
        · exact R1.ed i j xs ys p (a2 hi).1 (b2 hj).1 h3 h4
        · exact absurd (b3 hj).2 (a2 hi).2
      · by_cases hj : j ∈ vs
        · exact absurd (a3 hi).2 (b2 hj).2
        · exact R.ed i j xs ys p (a3 hi).1 (b3 hj).1 (wipe_get hi h3) (wipe_get hj h4)
    ec := fun i n h => by
      have q1 := celAt i n h
      obtain ⟨x, a, h1, h2, h3, h4⟩ := R1.ec i n q1
      refine ⟨x, a, h1, pre_get p0 h2, h3, fun d hd => ?_⟩
      have e := openS_in (List.mem_of_getElem? q1) hd
      cases q : st1[n]? with
      | none => rw [q] at e; cases e
      | some ob =>
        rw [q] at e
        have e : Ob.cel (some d) = ob := e
        subst e
        obtain ⟨q1, v, q2, q3⟩ := h4 d q
        exact ⟨q1, v, q2, q3.keep k1 p0⟩
    ei := fun i j n h1 h2 => R1.ei i j n (celAt i n h1) (celAt j n h2) }
end
end KP
end
section
set_option autoImplicit false
set_option linter.all false
set_option maxRecDepth 100000
set_option maxHeartbeats 4000000
/-! KComp: comprehensions. -/
namespace KP
open PySem PySem.Spec PyProof.Rows L2

def To (cx : Cc) : Exo → En → So → KP.R Bool
  | .no, e, s => .ok true e s
  | .so a, e, s => T cx a e s
def stp (cx : Cc) (own : List Nat) (t : Tg) (ifs : Exo) (a : Ex) (x : D) (e : En) (s : So) : KP.R (Option D) := (R.of (asgT t x e s) e s).bind fun q _ _ => (To cx ifs q.1 q.2).bind fun k e s => match k with
  | true => (E cx a e s).bind fun d e s => .ok (some d) (wipeE e own) s
  | false => .ok none (wipeE e own) s
def cfin (vs : List Nat) (e1 : En) (s1 : So) (ds : List D) (e' : En) (s' : So) : KP.R D := if ds.length ≤ sizeLine then .ok (.lst ds) (openE e1 (backE e1 e' vs)) (openS e1 s1 s') else .stuck
theorem bind_bind {α β γ : Type} (r : KP.R α) (f : α → En → So → KP.R β) (g : β → En → So → KP.R γ) : (r.bind f).bind g = r.bind fun a e s => (f a e s).bind g := by cases r <;> rfl
theorem E_comp (cx : Cc) (own : List Nat) (t : Tg) (w : Wk) (es : Exs) (ifs : Exo) (a : Ex) (e : En) (s : So) : E cx (.comp own t w es ifs a) e s = (Es cx es e s).bind fun ws e s => (R.of (walk w ws) e s).bind fun items e s =>
    (compGo (stp cx own t ifs a) items (wipeE (shutE s e) own) (shutS e s)).calm.bind (cfin own e s) := by
  rw [E]
  have h : (fun x e s => (R.of (asgT t x e s) e s).bind fun q _ _ => (Eo cx ifs q.1 q.2).bind fun c e s => match c with
      | none => (E cx a e s).bind fun d e s => KP.R.ok (some d) (wipeE e own) s
      | some c => (truR c e s).bind fun k e s => (match k with
        | true => (E cx a e s).bind fun d e s => KP.R.ok (some d) (wipeE e own) s
        | false => KP.R.ok none (wipeE e own) s)) = stp cx own t ifs a := by
    funext x e s
    unfold stp
    congr 1
    funext q _ _
    cases ifs with
    | no => rfl
    | so c => rw [Eo, To, T, bind_bind, bind_bind]; rfl
  rw [← h]
  rfl
theorem calm_bind {α β γ : Type} {K : PySem.W.Frag} {G : Glo} {X : Cx} {B : Bs} {fld : Nat → List Str} {W : WX} {σ : L2.St} {H : Hp} {ρ : List Addr} {m : KP.R α} {f : α → En → So → KP.R β} {g : β → En → So → KP.R γ} {ψ : γ → Hp → List Addr → En → So → Prop}
    (h : Post K G X B fld W ((m.bind f).calm.bind g) σ H ρ ψ) : ∃ a e s, m = .ok a e s ∧ Post K G X B fld W ((f a e s).calm.bind g) σ H ρ ψ := by
  cases m with
  | ok a e s => exact ⟨a, e, s, rfl, h⟩
  | exc x e s => exact h.elim
  | stuck => exact h.elim
theorem calm_ok {β γ : Type} {K : PySem.W.Frag} {G : Glo} {X : Cx} {B : Bs} {fld : Nat → List Str} {W : WX} {σ : L2.St} {H : Hp} {ρ : List Addr} {m : KP.R β} {g : β → En → So → KP.R γ} {ψ : γ → Hp → List Addr → En → So → Prop}
    (h : Post K G X B fld W (m.calm.bind g) σ H ρ ψ) : ∃ a e s, m = .ok a e s ∧ Post K G X B fld W (g a e s) σ H ρ ψ := by
  cases m with
  | ok a e s => exact ⟨a, e, s, rfl, h⟩
  | exc x e s => exact h.elim
  | stuck => exact h.elim
/-- nothing is raised -/
abbrev W0 : WX := fun _ _ _ _ => False
section
variable {X X' : Cx} {G : Glo} {B : Bs} {fld : Nat → List Str} {W : WX} {cx : Cc} {pos : Pos} {σ : L2.St} {H : Hp} {ρ : List Addr} {vs : List Nat} {L : Addr}
theorem Rel.wipe {env : En} {st : So} (hB : B.nc = true) (R : Rel X.K G X B σ H env st ρ) : Rel X.K G X B (L2.wipe σ vs) H (wipeE env vs) st ρ := by
  have at_ : ∀ i sl, (wipeE env vs)[i]? = some sl → sl = .no ∨ (i ∉ vs ∧ env[i]? = some sl) := fun i sl h => by
    by_cases hi : i ∈ vs
    · exact .inl (wipeE_in hi h)
    · rw [wipeE_out hi] at h
      exact .inr ⟨hi, h⟩
  have nc : ∀ n, Sl.cel n ∉ wipeE env vs := fun n h => by
    obtain ⟨i, hi, e⟩ := List.getElem_of_mem h
    have e' : (wipeE env vs)[i]? = some (Sl.cel n) := by rw [List.getElem?_eq_getElem hi, e]
    rcases at_ i _ e' with q | ⟨_, q⟩
    · cases q
    · exact R.nc hB n (List.mem_of_getElem? q)
  exact {
    gr := R.gr
    nc := fun _ => nc
    tb := R.tb
    pt := R.pt
    pv := fun a h => let ⟨o, h1, h2, h3⟩ := R.pv a h; ⟨o, h1, h2, fun n ob q1 q2 _ => h3 n ob q1 q2 (R.nc hB n)⟩
    len := R.len
    nd := fun n m a ob ob' h1 h2 h3 h4 h5 _ _ => R.nd n m a ob ob' h1 h2 h3 h4 h5 (R.nc hB n) (R.nc hB m)
    so := fun n a ob h1 h2 _ => R.so n a ob h1 h2 (R.nc hB n)
    sc := fun n ob _ h => absurd h (nc n)
    el := by rw [wipeE_len]; exact R.el
    ev := fun i d h => by
      rcases at_ i _ h with q | ⟨hi, q⟩
      · cases q
      · obtain ⟨v, e1, e2⟩ := R.ev i d q
        exact ⟨v, wipe_get hi e1, e2⟩
    eo := fun i xs h => by
      rcases at_ i _ h with q | ⟨hi, q⟩
      · cases q
      · obtain ⟨p, ws, e1, e2, e3, e4, e5⟩ := R.eo i xs q
        exact ⟨p, ws, wipe_get hi e1, e2, e3, fun n ob q1 q2 _ => e4 n ob q1 q2 (R.nc hB n), e5⟩
    ed := fun i j xs ys p h1 h2 h3 h4 => by
      rcases at_ i _ h1 with q | ⟨hi, q⟩
      · cases q
      · rcases at_ j _ h2 with q' | ⟨hj, q'⟩
        · cases q'
        · exact R.ed i j xs ys p q q' (wipe_some h3).1 (wipe_some h4).1
    ec := fun i n h => absurd (List.mem_of_getElem? h) (nc n)
    ei := fun i j n h => absurd (List.mem_of_getElem? h) (nc n) }
theorem wipe_in {i : Nat} : ∀ {vs : List Nat}, i ∈ vs → i < σ.length → (L2.wipe σ vs)[i]? = some none
  | v :: vs, h, hl => by
    rw [L2.wipe]
    by_cases e : v = i
    · subst e
      rw [List.getElem?_set_self (by rw [wipe_length]; exact hl)]
    · rw [List.getElem?_set_ne e]
      rcases List.mem_cons.mp h with h | h
      · exact absurd h.symm e
      · exact wipe_in h hl
theorem But.wipe {is : List Nat} {σ2 : L2.St} (b : But is (L2.wipe σ vs) σ2) (hs : ∀ i ∈ is, i ∈ vs) : L2.wipe σ2 vs = L2.wipe σ vs := by
  have hl : σ2.length = σ.length := by rw [b.1, wipe_length]
  refine List.ext_getElem? fun j => ?_
  by_cases hj : j ∈ vs
  · by_cases hjl : j < σ.length
    · rw [wipe_in hj hjl, wipe_in hj (by omega)]
    · rw [List.getElem?_eq_none (by rw [wipe_length]; omega), List.getElem?_eq_none (by rw [wipe_length]; omega)]
  · rw [wipe_out hj, b.2 j fun z => hj (hs j z)]
/-- within: any base -/
def tIn (X : Cx) (G : Glo) (fld : Nat → List Str) (m : En → So → KP.R D) : TE := fun σ H Q => ∃ B : Bs, B.nc = true ∧ tOf X.K G X B fld W0 m σ H Q
def tInT (X : Cx) (G : Glo) (fld : Nat → List Str) (m : En → So → KP.R Bool) : TT := fun σ H Q => ∃ B : Bs, B.nc = true ∧ tOfT X.K G X B fld W0 m σ H Q
def gIn (X : Cx) (G : Glo) (t : Tg) : TG := fun v σ H Q => ∃ B : Bs, B.nc = true ∧ gOf X G B t v σ H Q
theorem pe_in {e : Expr} {a : Ex} (hN : X'.N = X.N) (hK : X'.K = X.K) (h : ∀ B : Bs, B.nc = true → PEm X' G B fld W0 cx e a) : PE X' e (tIn X G fld (E cx a)) := ⟨fun pins s σ H Q I ⟨B, hB, env, st, ρ, R, q⟩ => by
  refine (h B hB).run pins s σ H Q I ⟨env, st, ρ, ?_, ?_⟩
  · rw [hK]; exact R.cx hN hB
  · rw [hK]; exact q.cx hN hB⟩
theorem pts_in {ifs : List Expr} {oi : Exo} (hN : X'.N = X.N) (hK : X'.K = X.K) (h : ∀ B : Bs, B.nc = true → PTs X' ifs (tOfT X'.K G X' B fld W0 (To cx oi))) : PTs X' ifs (tInT X G fld (To cx oi)) := ⟨fun pins s σ H Q I ⟨B, hB, env, st, ρ, R, q⟩ => by
  refine (h B hB).run pins s σ H Q I ⟨env, st, ρ, ?_, ?_⟩
  · rw [hK]; exact R.cx hN hB
  · rw [hK]; exact q.cx hN hB⟩
theorem pg_in {tg : Expr} {t : Tg} (hN : X'.N = X.N) (hK : X'.K = X.K) (h : ∀ B : Bs, B.nc = true → PG X' tg (gOf X' G B t)) : PG X' tg (gIn X G t) := ⟨fun pins s σ H v u Q I r ⟨B, hB, env, st, ρ, d, q, R, rd, hq, z⟩ => by
  refine (h B hB).run pins s σ H v u Q I r ⟨env, st, ρ, d, q, ?_, ?_, hq, fun σ' b R' => z σ' b ?_⟩
  · rw [hK]; exact R.cx hN hB
  · rw [hK]; exact rd
  · rw [hK] at R'; exact R'.cx hN.symm hB⟩
theorem pts_no : PTs X [] (tOfT X.K G X B fld W (To cx .no)) := ⟨fun pins s σ H Q I ⟨env, st, ρ, R, h⟩ => pts_nil.run pins s σ H Q I (Post.now (show Post X.K G X B fld W (.ok true env st) σ H ρ _ from h) R)⟩
theorem pts_so {c : Expr} {a : Ex} (h : PTm X G B fld W cx c a) : PTs X [c] (tOfT X.K G X B fld W (To cx (.so a))) := pts_one h
/-- a list that has just been filled is locked -/
theorem pe_lock_at {e : Expr} {t : TE} (h : PE X e t) : PE X e (fun σ H Q => t σ H fun v H' => ∃ p vs, v = .ref p ∧ H' p = some (.lst vs) ∧ (∀ o, Q (.ref p) (upd H' p (.frz o (.lst vs))))) := by
  refine ⟨fun pins s σ H Q I q => thn (h.run pins s σ H _ I q) fun u s1 ⟨v, H', I', r, p, vs, e1, e3, q1⟩ => ?_⟩
  subst e1
  obtain ⟨o, I2⟩ := lockL I' e3
  exact ⟨.ref p, _, I2, r, q1 o⟩
theorem em_comp {elt tg iter : Expr} {ifs : List Expr} {scope : Scope} {own : List (Str × Nat)} {t : Tg} {w : Wk} {as : Exs} {oi : Exo} {a : Ex} (C : Cok X) (hi : PI X tg iter (iOf X G B fld W w (Es cx as))) (ok : BlkOk X.N X.env.scope scope own)
    (ht : ∀ i ∈ t.ixs, i ∈ own.map (·.2))
    (hg : ∀ (s : Shared) (H : Hp) (C : Addr) (cl : List (Str × Addr)) (fp : List Addr) (B : Bs), B.nc = true → PG (X.blk s H scope (compEnvC scope cl C X.env) fp) tg (gOf (X.blk s H scope (compEnvC scope cl C X.env) fp) G B t))
    (hf : ∀ (s : Shared) (H : Hp) (C : Addr) (cl : List (Str × Addr)) (fp : List Addr) (B : Bs), B.nc = true → PTs (X.blk s H scope (compEnvC scope cl C X.env) fp) ifs (tOfT (X.blk s H scope (compEnvC scope cl C X.env) fp).K G (X.blk s H scope (compEnvC scope cl C X.env) fp) B fld W0 (To cx oi)))
    (he : ∀ (s : Shared) (H : Hp) (C : Addr) (cl : List (Str × Addr)) (fp : List Addr) (B : Bs), B.nc = true → PEm (X.blk s H scope (compEnvC scope cl C X.env) fp) G B fld W0 cx elt a)
    (hs : ∀ x, foldedSetIterable iter X.env x = pure x) :
    PEm X G B fld W cx (.ListComp elt [⟨tg, iter, ifs, 0⟩] scope pos) (.comp (own.map (·.2)) t w as oi a) := by
  have main := pe_lc (pos := pos) C.calm C.nd hi ok (g := gIn X G t) (fun s H C cl fp => pg_in rfl rfl (hg s H C cl fp)) (tt := tInT X G fld (To cx oi)) (fun s H C cl fp => pts_in rfl rfl (hf s H C cl fp)) (te := tIn X G fld (E cx a)) (fun s H C cl fp => pe_in rfl rfl (he s H C cl fp)) hs
  refine pe_of (pe_lock_at main) fun σ H Q ⟨env, st, ρ, R, h⟩ => ?_
  rw [E_comp] at h
  refine ⟨env, st, ρ, R, (Post.bind h).imp fun ws H1 ρ1 e1 s1 k p R1 h1 => ?_⟩
  obtain ⟨items, hw, h2⟩ := Post.of_some (Post.bind h1)
  have h2 := Post.now h2 R1
  refine ⟨items, hw, fun J ov L hL => ?_⟩
  generalize hvs : own.map (·.2) = vs at *
  refine lc_it ov (fun i H => ∃ env st ρ acc ds, Rel X.K G X (inB B.av H1 e1 σ vs ρ1 L acc) (L2.wipe σ vs) H env st ρ ∧ RepL X.K G H ρ ds acc ∧ Keep H1 H ∧
    Post X.K G X B fld W ((compGo (stp cx vs t oi a) (items.drop i) env st).calm.bind fun rest e' s' => cfin vs e1 s1 (ds ++ rest) e' s') σ H ρ fun d H' ρ' _ _ => ∀ v, Rep X.K G H' ρ' d v → Q v H') ?_ ?_ ?_ ?_
  · refine ⟨_, _, ρ1, [], [], R1.shut hL, .nil, .new hL, ?_⟩
    exact Post.from h2 (.new hL) (List.prefix_refl _)
  · rintro i H _ ⟨_, _, _, _, _, _, _, k, _⟩
    exact k
  · rintro i x H H' hi ⟨env2, st2, ρ2, acc, ds, R2, rds, k2, h3⟩ ⟨sm, d, hd, rd⟩
    have hdrop : items.drop i = d :: items.drop (i + 1) := by
      rw [List.drop_eq_getElem_cons hi]
      rw [List.getElem?_eq_getElem hi] at hd
      cases hd
      rfl
    rw [hdrop, compGo] at h3
    obtain ⟨o, e3, s3, hst, h4⟩ := calm_bind h3
    unfold stp at hst
    cases hq : asgT t d env2 st2 with
    | none => rw [hq] at hst; cases hst
    | some q =>
      rw [hq] at hst
      have hst : ((To cx oi q.1 q.2).bind fun k e s => match k with
        | true => (E cx a e s).bind fun d e s => KP.R.ok (some d) (wipeE e vs) s
        | false => KP.R.ok none (wipeE e vs) s) = .ok o e3 s3 := hst
      cases hT : To cx oi q.1 q.2 with
      | exc _ _ _ => rw [hT] at hst; cases hst
      | stuck => rw [hT] at hst; cases hst
      | ok b e4 s4 =>
        rw [hT, KP.R.bind_ok] at hst
        have R2' := R2.same sm
        refine ⟨_, rfl, env2, st2, ρ2, d, q, R2', rd.keep (Keep.refl _) R2.gr.pre, hq, fun σ2 bt R3 => ⟨bt.wipe ht, ?_⟩⟩
        refine ⟨_, rfl, q.1, q.2, ρ2, R3, ?_⟩
        rw [hT]
        intro H4 ρ4 k4 p4 R4
        cases b with
        | false =>
          rw [if_neg Bool.false_ne_true]
          cases hst
          refine ⟨wipeE e4 vs, s3, ρ4, acc, ds, ?_, (rds.same sm).keep k4 p4, (k2.trans sm.keep).trans k4, ?_⟩
          · have := R4.wipe (vs := vs) rfl
            rw [bt.wipe ht] at this
            exact this
          · have e : ∀ {m : KP.R (List D)}, ((m.bind fun ds' e s => KP.R.ok ds' e s).calm.bind fun rest e' s' => cfin vs e1 s1 (ds ++ rest) e' s') = (m.calm.bind fun rest e' s' => cfin vs e1 s1 (ds ++ rest) e' s') := by
              intro m
              cases m <;> rfl
            have h5 : Post X.K G X B fld W ((compGo (stp cx vs t oi a) (items.drop (i + 1)) (wipeE e4 vs) s3).calm.bind fun rest e' s' => cfin vs e1 s1 (ds ++ rest) e' s') σ H ρ2 fun d H' ρ' _ _ => ∀ v, Rep X.K G H' ρ' d v → Q v H' := by
              rw [← e]
              exact h4
            exact Post.from h5 (sm.keep.trans k4) p4
        | true =>
          rw [if_pos rfl]
          cases hE : E cx a e4 s4 with
          | exc _ _ _ => rw [hE] at hst; cases hst
          | stuck => rw [hE] at hst; cases hst
          | ok y e5 s5 =>
            rw [hE, KP.R.bind_ok] at hst
            cases hst
            refine ⟨_, rfl, e4, s4, ρ4, R4, ?_⟩
            rw [hE]
            intro H5 ρ5 k5 p5 R5 v rv
            obtain ⟨aL, nL⟩ := R5.newAt
            have kL : Keep H5 (upd H5 L (.lst (acc ++ [v]))) := .ofLst aL
            have k0 : Keep H (upd H5 L (.lst (acc ++ [v]))) := ((sm.keep.trans k4).trans k5).trans kL
            have h5 : Post X.K G X B fld W ((compGo (stp cx vs t oi a) (items.drop (i + 1)) (wipeE e5 vs) s3).calm.bind fun rest e' s' => cfin vs e1 s1 ((ds ++ [y]) ++ rest) e' s') σ H ρ2 fun d H' ρ' _ _ => ∀ v, Rep X.K G H' ρ' d v → Q v H' := by
              have e : ∀ {m : KP.R (List D)}, ((m.bind fun ds' e s => KP.R.ok (y :: ds') e s).calm.bind fun rest e' s' => cfin vs e1 s1 (ds ++ rest) e' s') = (m.calm.bind fun rest e' s' => cfin vs e1 s1 ((ds ++ [y]) ++ rest) e' s') := by
                intro m
                cases m with
                | ok a e s =>
                  show cfin vs e1 s1 (ds ++ y :: a) e s = cfin vs e1 s1 ((ds ++ [y]) ++ a) e s
                  rw [List.append_assoc]
                  rfl
                | exc _ _ _ => rfl
                | stuck => rfl
              rw [← e]
              exact h4
            refine ⟨acc, aL, ?_, wipeE e5 vs, s3, ρ5, acc ++ [v], ds ++ [y], ?_, ?_, k2.trans k0, Post.from h5 k0 (p4.trans p5)⟩
            · obtain ⟨rest, e6, s6, _, h6⟩ := calm_ok h5
              unfold cfin at h6
              split at h6
              · rename_i hz
                rw [List.length_append, List.length_append] at hz
                have := rds.length
                simp at hz
                omega
              · exact h6.elim
            · have := (R5.step (acc' := acc ++ [v])).wipe (vs := vs) rfl
              rw [bt.wipe ht] at this
              exact this
            · exact (((rds.same sm).keep (k4.trans k5) (p4.trans p5)).keep kL (List.prefix_refl _)).append (.cons (rv.keep kL (List.prefix_refl _)) .nil)
  · rintro H ⟨env2, st2, ρ2, acc, ds, R2, rds, k2, h3⟩
    rw [List.drop_length, compGo] at h3
    obtain ⟨aL, nL⟩ := R2.newAt
    refine ⟨L, acc, rfl, aL, fun o => ?_⟩
    have h3 : Post X.K G X B fld W (cfin vs e1 s1 (ds ++ []) env2 st2) σ H ρ2 fun d H' ρ' _ _ => ∀ v, Rep X.K G H' ρ' d v → Q v H' := h3
    rw [List.append_nil] at h3
    unfold cfin at h3
    split at h3
    · have kL : Keep H (upd H L (.frz o (.lst acc))) := .ofLst aL
      exact h3 _ ρ2 kL (List.prefix_refl _) (R1.unshut hL k2 R2 kL (fun b q t => tabK_lst aL t) (fun a u h q => by rw [upd_ne q]; exact h)) _ (.lst (.inl ⟨o, upd_same⟩) (rds.keep kL (List.prefix_refl _)))
    · exact h3.elim
end
end KP
end
section
set_option autoImplicit false
set_option linter.all false
set_option maxRecDepth 100000
set_option maxHeartbeats 4000000
/-! KStm: statements. -/
namespace KP
open PySem PySem.Spec PyProof.Rows L2

section
variable (X : Cx) (G : Glo) (B : Bs) (fld : Nat → List Str) (W : WX)
/-- what is wanted behind a statement -/
def PostS {α : Type} (r : KP.R α) (H : Hp) (ρ : List Addr) (ψ : α → L2.St → Hp → List Addr → En → So → Prop) : Prop := match r with
  | .ok a e s => ∀ σ' H' ρ', Keep H H' → ρ <+: ρ' → Rel X.K G X B σ' H' e s ρ' → ψ a σ' H' ρ' e s
  | .exc x e s => ∀ cls dd σ' H' ρ', Keep H H' → ρ <+: ρ' → Rel X.K G X B σ' H' e s ρ' → XRep X.K G fld H' ρ' x cls dd → W cls dd σ' H'
  | .stuck => False
def ends (D : Ends) : Fl → L2.St → Hp → List Addr → En → So → Prop
  | .nx, σ, H, _, _, _ => D.nx σ H
  | .bk, σ, H, _, _, _ => D.bk σ H
  | .ct, σ, H, _, _, _ => D.ct σ H
  | .rt d, _, H, ρ, _, _ => ∀ v, Rep X.K G H ρ d v → D.rt v H
def tOfS (m : En → So → KP.R Fl) : TS := fun D σ H => ∃ env st ρ, Rel X.K G X B σ H env st ρ ∧ PostS X G B fld W (m env st) H ρ (ends X G D)
abbrev PSm (cx : Cc) (e : Stmt) (a : KP.St) : Prop := PS X e (tOfS X G B fld W (S cx a))
abbrev PSsm (cx : Cc) (e : List Stmt) (a : Sts) : Prop := PSs X e (tOfS X G B fld W (Ss cx a))
end
section
variable {X : Cx} {G : Glo} {B : Bs} {fld : Nat → List Str} {W : WX} {cx : Cc} {pos : Pos} {σ : L2.St} {H H1 : Hp} {ρ ρ1 : List Addr} {α β : Type}
theorem PostS.from {r : KP.R α} {ψ : α → L2.St → Hp → List Addr → En → So → Prop} (h : PostS X G B fld W r H ρ ψ) (k : Keep H H1) (p : ρ <+: ρ1) : PostS X G B fld W r H1 ρ1 ψ := by
  cases r with
  | ok a e s => exact fun σ' H' ρ' k' p' R => h σ' H' ρ' (k.trans k') (p.trans p') R
  | exc x e s => exact fun cls dd σ' H' ρ' k' p' R => h cls dd σ' H' ρ' (k.trans k') (p.trans p') R
  | stuck => exact h
theorem PostS.imp {r : KP.R α} {ψ ψ' : α → L2.St → Hp → List Addr → En → So → Prop} (h : PostS X G B fld W r H ρ ψ)
    (f : ∀ a σ' H' ρ' e s, Keep H H' → ρ <+: ρ' → Rel X.K G X B σ' H' e s ρ' → ψ a σ' H' ρ' e s → ψ' a σ' H' ρ' e s) : PostS X G B fld W r H ρ ψ' := by
  cases r with
  | ok a e s => exact fun σ' H' ρ' k p R => f _ _ _ _ _ _ k p R (h σ' H' ρ' k p R)
  | exc x e s => exact h
  | stuck => exact h
theorem PostS.bind {r : KP.R α} {f : α → En → So → KP.R β} {ψ : β → L2.St → Hp → List Addr → En → So → Prop} (h : PostS X G B fld W (r.bind f) H ρ ψ) :
    PostS X G B fld W r H ρ fun a σ' H' ρ' e s => PostS X G B fld W (f a e s) H' ρ' ψ := by
  cases r with
  | ok a e s => exact fun σ' H' ρ' k p R => PostS.from (show PostS X G B fld W (f a e s) H ρ ψ from h) k p
  | exc x e s => exact h
  | stuck => exact h
/-- an expression first -/
theorem PostS.ex {r : KP.R α} {f : α → En → So → KP.R β} {ψ : β → L2.St → Hp → List Addr → En → So → Prop} (h : PostS X G B fld W (r.bind f) H ρ ψ) (σ : L2.St) :
    Post X.K G X B fld W r σ H ρ fun a H' ρ' e s => PostS X G B fld W (f a e s) H' ρ' ψ := by
  cases r with
  | ok a e s => exact fun H' ρ' k p R => PostS.from (show PostS X G B fld W (f a e s) H ρ ψ from h) k p
  | exc x e s => exact fun cls dd H' ρ' k p R => h cls dd σ H' ρ' k p R
  | stuck => exact h
theorem PostS.now {a : α} {e : En} {s : So} {ψ : α → L2.St → Hp → List Addr → En → So → Prop} (h : PostS X G B fld W (.ok a e s) H ρ ψ) (R : Rel X.K G X B σ H e s ρ) : ψ a σ H ρ e s := h σ H ρ (Keep.refl H) (List.prefix_refl _) R
theorem PostS.of_some {o : Option α} {e : En} {s : So} {ψ : α → L2.St → Hp → List Addr → En → So → Prop} (h : PostS X G B fld W (R.of o e s) H ρ ψ) : ∃ a, o = some a ∧ PostS X G B fld W (.ok a e s) H ρ ψ := by
  cases o with
  | none => exact h.elim
  | some a => exact ⟨a, rfl, h⟩
theorem PostS.of_bind {o : Option α} {e : En} {s : So} {f : α → En → So → KP.R β} {ψ : β → L2.St → Hp → List Addr → En → So → Prop} (h : PostS X G B fld W ((R.of o e s).bind f) H ρ ψ) : ∃ a, o = some a ∧ PostS X G B fld W (f a e s) H ρ ψ := by
  cases o with
  | none => exact h.elim
  | some a => exact ⟨a, rfl, h⟩

/-! ### simple statements -/
theorem sm_nil : PSsm X G B fld W cx [] .nil := by
  refine ⟨fun pins s σ H D I ⟨env, st, ρ, R, h⟩ => pss_nil.run pins s σ H D I ?_⟩
  exact PostS.now (show PostS X G B fld W (.ok .nx env st) H ρ (ends X G D) from h) R
theorem sm_cons {e : Stmt} {r : List Stmt} {a : KP.St} {as : Sts} (ha : PSm X G B fld W cx e a) (hr : PSsm X G B fld W cx r as) : PSsm X G B fld W cx (e :: r) (.cons a as) := by
  refine ⟨fun pins s σ H D I ⟨env, st, ρ, R, h⟩ => (pss_cons ha hr).run pins s σ H D I ?_⟩
  rw [Ss] at h
  refine ⟨env, st, ρ, R, (PostS.bind h).imp fun f σ1 H1 ρ1 e1 s1 k p R1 h1 => ?_⟩
  cases f with
  | nx => exact ⟨e1, s1, ρ1, R1, h1⟩
  | bk =>
    have z := PostS.now (show PostS X G B fld W (.ok .bk e1 s1) H1 ρ1 (ends X G D) from h1) R1
    exact z
  | ct =>
    have z := PostS.now (show PostS X G B fld W (.ok .ct e1 s1) H1 ρ1 (ends X G D) from h1) R1
    exact z
  | rt d =>
    have z := PostS.now (show PostS X G B fld W (.ok (.rt d) e1 s1) H1 ρ1 (ends X G D) from h1) R1
    exact z
theorem sm_pass : PSm X G B fld W cx (.Pass pos) .pass := ps_of ps_pass fun D σ H ⟨env, st, ρ, R, h⟩ => PostS.now (show PostS X G B fld W (.ok .nx env st) H ρ (ends X G D) from h) R
theorem sm_doc {x : Str} {j : Nat} {pos' : Pos} : PSm X G B fld W cx (.Expr (.Constant (.str x) j pos) pos') .pass := ps_of ps_doc fun D σ H ⟨env, st, ρ, R, h⟩ => PostS.now (show PostS X G B fld W (.ok .nx env st) H ρ (ends X G D) from h) R
theorem sm_brk : PSm X G B fld W cx (.Break pos) .brk := ps_of ps_break fun D σ H ⟨env, st, ρ, R, h⟩ => PostS.now (show PostS X G B fld W (.ok .bk env st) H ρ (ends X G D) from h) R
theorem sm_cont : PSm X G B fld W cx (.Continue pos) .cont := ps_of ps_continue fun D σ H ⟨env, st, ρ, R, h⟩ => PostS.now (show PostS X G B fld W (.ok .ct env st) H ρ (ends X G D) from h) R
theorem sm_ex {e : Expr} {a : Ex} (ha : PEm X G B fld W cx e a) (hs : swapsWith e none pos.line X.env = pure false) : PSm X G B fld W cx (.Expr e pos) (.ex a) := by
  refine ps_of (ps_expr ha hs) fun D σ H ⟨env, st, ρ, R, h⟩ => ?_
  rw [S] at h
  exact ⟨env, st, ρ, R, (PostS.ex h σ).imp fun d H1 ρ1 e1 s1 k p R1 h1 v rv => PostS.now h1 R1⟩
theorem sm_ret {e : Expr} {a : Ex} (ha : PEm X G B fld W cx e a) : PSm X G B fld W cx (.Return (some e) pos) (.ret a) := by
  refine ps_of (ps_ret ha) fun D σ H ⟨env, st, ρ, R, h⟩ => ?_
  rw [S] at h
  exact ⟨env, st, ρ, R, (PostS.ex h σ).imp fun d H1 ρ1 e1 s1 k p R1 h1 v rv => PostS.now h1 R1 v rv⟩
theorem sm_retN : PSm X G B fld W cx (.Return none pos) (.ret (.c .non)) := by
  refine ps_of ps_retN fun D σ H ⟨env, st, ρ, R, h⟩ => ?_
  rw [S, E] at h
  exact PostS.now (show PostS X G B fld W (.ok (.rt .non) env st) H ρ (ends X G D) from h) R .non .non
theorem sm_set {tg e : Expr} {t : Tg} {a : Ex} (ha : PEm X G B fld W cx e a) (hg : PG X tg (gOf X G B t)) (hs : swapsWithSole [tg] e pos.line X.env = pure false) (hw : swappedStores [tg] e X.env = pure none)
    (h1 : (assignEach [tg] X.env).map (·.2) = [assign tg X.env]) : PSm X G B fld W cx (.Assign [tg] e pos) (.set t a) := by
  refine ps_of (ps_asg ha hg hs hw h1) fun D σ H ⟨env, st, ρ, R, h⟩ => ?_
  rw [S] at h
  refine ⟨env, st, ρ, R, (PostS.ex h σ).imp fun d H1 ρ1 e1 s1 k p R1 h1 v rv => ?_⟩
  obtain ⟨q, hq, h2⟩ := PostS.of_bind h1
  exact ⟨e1, s1, ρ1, d, q, R1, rv, hq, fun σ' b R2 => PostS.now h2 R2⟩
theorem T_eq (a : Ex) (e : En) (s : So) {α : Type} (f : Bool → En → So → KP.R α) : (T cx a e s).bind f = (T cx a e s).bind f := rfl
theorem sm_ite {c : Expr} {p q : List Stmt} {a : Ex} {u v : Sts} (hc : PTm X G B fld W cx c a) (hp : PSsm X G B fld W cx p u) (hq : PSsm X G B fld W cx q v) : PSm X G B fld W cx (.If c p q pos) (.ite a u v) := by
  refine ps_of (ps_if hc hp hq) fun D σ H ⟨env, st, ρ, R, h⟩ => ?_
  rw [S] at h
  refine ⟨env, st, ρ, R, (PostS.ex h σ).imp fun b H1 ρ1 e1 s1 k p R1 h1 => ?_⟩
  cases b with
  | true =>
    rw [if_pos rfl]
    exact ⟨e1, s1, ρ1, R1, h1⟩
  | false =>
    rw [if_neg Bool.false_ne_true]
    exact ⟨e1, s1, ρ1, R1, h1⟩
theorem parN_cons {i : Nat} {is : List Nat} {d : D} {ds : List D} {e e' : En} (h : parN (i :: is) (d :: ds) e = some e') : ∃ sl, e[i]? = some sl ∧ (∀ n, sl ≠ .cel n) ∧ parN is ds (e.set i (.v d)) = some e' := by
  rw [parN] at h
  cases q : e[i]? with
  | none => rw [q] at h; cases h
  | some sl =>
    rw [q] at h
    cases sl with
    | cel n => cases h
    | _ => exact ⟨_, rfl, (fun n z => by cases z), h⟩
/-- two names from two values, stored name by name -/
theorem sm_par {i j : Nat} {x y : Str} {a b : Expr} {as : Exs} {px py pt : Pos} {kt : Nat} {k2 : Nat} {pt2 : Pos} (C : Cok X) (hi : X.N[i]? = some x) (hj : X.N[j]? = some y) (hij : i ≠ j)
    (hx : X.env.scope.names.lookup x = some .local) (hy : X.env.scope.names.lookup y = some .local) (ha : PAm X G B fld W cx [a, b] as)
    (hw : swappedStores [.Tuple [.Name x px, .Name y py] kt pt] (.Tuple [a, b] k2 pt2) X.env = pure (some [x, y]))
    (hs : swapsWithSole [.Tuple [.Name x px, .Name y py] kt pt] (.Tuple [a, b] k2 pt2) pos.line X.env = pure false) :
    PSm X G B fld W cx (.Assign [.Tuple [.Name x px, .Name y py] kt pt] (.Tuple [a, b] k2 pt2) pos) (.par [i, j] as) := by
  refine ⟨fun pins s σ H D I ⟨env, st, ρ, R, h⟩ => (ps_par C.calm C.nd hi hj hij hx hy ha hw hs).run pins s σ H D I ?_⟩
  rw [S] at h
  refine ⟨env, st, ρ, R, (PostS.ex h σ).imp fun ds H1 ρ1 e1 s1 k p R1 h1 vs rs => ?_⟩
  obtain ⟨q, hq, h2⟩ := PostS.of_bind h1
  match ds, rs, hq with
  | [], rs, hq => cases hq
  | [d1], rs, hq => obtain ⟨sl, _, _, hq⟩ := parN_cons hq; cases hq
  | d1 :: d2 :: d3 :: l, rs, hq =>
    obtain ⟨sl, _, _, hq⟩ := parN_cons hq
    obtain ⟨sl, _, _, hq⟩ := parN_cons hq
    cases hq
  | [d1, d2], .cons r1 (.cons r2 .nil), hq =>
    obtain ⟨sl, g1, g2, hq⟩ := parN_cons hq
    obtain ⟨sl', g3, g4, hq⟩ := parN_cons hq
    cases hq
    have li : i < σ.length := by rw [I.len]; exact (List.getElem?_eq_some_iff.mp hi).1
    have lj : j < σ.length := by rw [I.len]; exact (List.getElem?_eq_some_iff.mp hj).1
    exact ⟨_, _, rfl, PostS.now h2 ((R1.put g1 g2 li r1).put g3 g4 (by rw [List.length_set]; exact lj) r2)⟩
end
end KP
end
section
set_option autoImplicit false
set_option linter.all false
set_option maxRecDepth 100000
set_option maxHeartbeats 4000000
/-! KObj: the store and the lists that places alone hold are changed. -/
namespace KP
open PySem PySem.Spec PyProof.Rows L2

section
variable {X : Cx} {G : Glo} {B : Bs} {fld : Nat → List Str} {W : WX} {cx : Cc} {pos : Pos} {σ : L2.St} {H : Hp} {ρ : List Addr} {env : En} {st : So}
/-- one object of H is changed or laid; what the frame has stays -/
structure Chg (H H' : Hp) (a : Addr) : Prop where
  out : ∀ b, b ≠ a → H' b = H b
  at_ : ∃ o, H' a = some o
  nt : ∀ ps, H a ≠ some (.tbl ps)
  keep : Keep H H'
  tk : ∀ b q, LamX.TabS H b q → LamX.TabS H' b q
theorem Chg.mv {H H' : Hp} {a : Addr} (c : Chg H H' a) {b : Addr} {u : HO} (h : H b = some u) (n : b ≠ a) : H' b = some u := by
  rw [c.out b n]
  exact h
theorem Chg.of {a : Addr} {o : HO} (k : Keep H (upd H a o)) (nt : ∀ ps, H a ≠ some (.tbl ps)) (ne : ∀ φ, H a ≠ some (.ext φ)) : Chg H (upd H a o) a := ⟨fun b h => upd_ne h, ⟨o, upd_same⟩, nt, k, fun b q t => tabK_upd nt ne t⟩
theorem Chg.new {a : Addr} {o : HO} (h : H a = none) : Chg H (upd H a o) a := .of (.new h) (fun ps e => by rw [h] at e; cases e) fun φ e => by rw [h] at e; cases e
theorem Chg.lst {a : Addr} {o : HO} {xs : List V} (h : H a = some (.lst xs)) : Chg H (upd H a o) a := .of (.ofLst h) (fun ps e => by rw [h] at e; cases e) fun φ e => by rw [h] at e; cases e
theorem Chg.dK {a : Addr} {o : HO} {xs : List (Key × V)} (h : H a = some (.dK xs)) : Chg H (upd H a o) a :=
  .of (.upd (fun xs e => by rw [h] at e; cases e) (fun ob u e => by rw [h] at e; cases e) fun φ e => by rw [h] at e; cases e) (fun ps e => by rw [h] at e; cases e) fun φ e => by rw [h] at e; cases e
theorem Grow.chg {H0 H' : Hp} {ρ0 : List Addr} {a : Addr} (g : Grow H0 ρ0 H ρ) (c : Chg H H' a) (hf : H0 a = none ∨ (a ∈ ρ0)) : Grow H0 ρ0 H' ρ where
  keep := fun b o h hn ht => c.mv (g.keep b o h hn ht) fun e => by
    subst e
    rcases hf with hf | hf
    · rw [hf] at h
      cases h
    · exact hn hf
  pre := g.pre
  new := g.new
  tbls := fun b ps h => by
    obtain ⟨m, e⟩ := g.tbls b ps h
    exact ⟨m, c.mv e fun q => c.nt _ (q ▸ e)⟩
  dom := fun b h => g.dom b (by
    by_cases e : b = a
    · subst e
      obtain ⟨o, q⟩ := c.at_
      rw [q] at h
      cases h
    · rw [c.out b e] at h
      exact h)
/-- a place's own list has other items -/
theorem Rel.ownSet {i : Nat} {xs xs' : List D} {p : Addr} {vs vs' : List V} (R : Rel X.K G X B σ H env st ρ) (he : env[i]? = some (.own xs)) (hσ : σ[i]? = some (some (V.ref p))) (hp : H p = some (.lst vs)) (nρ : Dead ρ st env p) (nB : B.h p = none) (rl : RepL X.K G H ρ xs' vs') :
    Rel X.K G X B σ (upd H p (.lst vs')) (env.set i (.own xs')) st ρ := by
  have c : Chg H (upd H p (.lst vs')) p := .lst hp
  have k := c.keep
  have hi : i < env.length := (List.getElem?_eq_some_iff.mp he).1
  have at_ : ∀ j, j ≠ i → (env.set i (.own xs'))[j]? = env[j]? := fun j hj => List.getElem?_set_ne (Ne.symm hj)
  have ati : (env.set i (.own xs'))[i]? = some (.own xs') := List.getElem?_set_self hi
  have atc : ∀ j sl, (env.set i (.own xs'))[j]? = some sl → (∀ ys, sl ≠ Sl.own ys) → env[j]? = some sl := fun j sl h hn => by
    by_cases q : j = i
    · subst q
      rw [ati] at h
      cases h
      exact absurd rfl (hn xs')
    · rw [at_ j q] at h
      exact h
  have celm : ∀ n, Sl.cel n ∈ env.set i (.own xs') ↔ Sl.cel n ∈ env := fun n => by
    constructor
    · intro h
      obtain ⟨j, hj, e⟩ := List.getElem_of_mem h
      exact List.mem_of_getElem? (atc j _ (by rw [List.getElem?_eq_getElem hj, e]) fun ys z => by cases z)
    · intro h
      obtain ⟨j, hj, e⟩ := List.getElem_of_mem h
      have e' : env[j]? = some (Sl.cel n) := by rw [List.getElem?_eq_getElem hj, e]
      have q : j ≠ i := fun q => by
        subst q
        rw [he] at e'
        cases e'
      rw [← at_ j q] at e'
      exact List.mem_of_getElem? e'
  have dd : ∀ a, Dead ρ st env a → Dead ρ st (env.set i (.own xs')) a := fun a h n ob h1 h2 h3 => h n ob h1 h2 fun z => h3 ((celm n).mpr z)
  have own_ : ∀ j ys, (env.set i (Sl.own xs'))[j]? = some (Sl.own ys) → ∃ q ws, σ[j]? = some (some (V.ref q)) ∧ upd H p (.lst vs') q = some (.lst ws) ∧ RepL X.K G (upd H p (.lst vs')) ρ ys ws ∧ Dead ρ st env q ∧ B.h q = none ∧ ∃ zs, env[j]? = some (Sl.own zs) := fun j ys h => by
    by_cases q : j = i
    · subst q
      rw [ati] at h
      cases h
      exact ⟨p, vs', hσ, upd_same, rl.keep k (List.prefix_refl _), nρ, nB, xs, he⟩
    · rw [at_ j q] at h
      obtain ⟨p', ws, h1, h2, h3, h4, h5⟩ := R.eo j ys h
      have np : p' ≠ p := fun e => by
        subst e
        exact q (R.ed j i ys xs p' h he h1 hσ)
      exact ⟨p', ws, h1, c.mv h2 np, h3.keep k (List.prefix_refl _), h4, h5, ys, h⟩
  exact {
    gr := R.gr.chg c (.inl nB)
    nc := fun z n h => R.nc z n ((celm n).mp h)
    tb := fun p' hp' => c.tk _ _ (R.tb p' hp')
    pt := R.pt
    pv := fun a h => let ⟨o', h1, h2, h3⟩ := R.pv a h; ⟨o', h1, c.mv h2 (fun z => by rw [z, nB] at h1; cases h1), dd a h3⟩
    len := R.len
    nd := fun n m a ob ob' h1 h2 h3 h4 h5 h6 h7 => R.nd n m a ob ob' h1 h2 h3 h4 h5 (fun z => h6 ((celm n).mpr z)) (fun z => h7 ((celm m).mpr z))
    so := fun n a ob h1 h2 h3 => by
      have h3 : Sl.cel n ∉ env := fun z => h3 ((celm n).mpr z)
      by_cases e : a = p
      · subst e
        rw [nρ n ob h1 h2 h3]
        exact True.intro
      · exact (R.so n a ob h1 h2 h3).move (fun u h => c.mv h e) k (List.prefix_refl _)
    sc := fun n ob h1 h2 => R.sc n ob h1 ((celm n).mp h2)
    el := by rw [List.length_set]; exact R.el
    ev := fun j d h => by
      obtain ⟨v, h1, h2⟩ := R.ev j d (atc j _ h fun ys z => by cases z)
      exact ⟨v, h1, h2.keep k (List.prefix_refl _)⟩
    eo := fun j ys h => let ⟨q, ws, a, b, c', d, e, _⟩ := own_ j ys h; ⟨q, ws, a, b, c', dd q d, e⟩
    ed := fun j l ys zs q h1 h2 h3 h4 => by
      obtain ⟨_, _, _, _, _, _, _, y1, g1⟩ := own_ j ys h1
      obtain ⟨_, _, _, _, _, _, _, y2, g2⟩ := own_ l zs h2
      exact R.ed j l y1 y2 q g1 g2 h3 h4
    ec := fun j n h => by
      obtain ⟨x, a, h1, h2, h3, h4⟩ := R.ec j n (atc j _ h fun ys z => by cases z)
      exact ⟨x, a, h1, h2, h3, fun d hd => let ⟨q1, v, q2, q3⟩ := h4 d hd; ⟨q1, v, q2, q3.keep k (List.prefix_refl _)⟩⟩
    ei := fun j l n h1 h2 => R.ei j l n (atc j _ h1 fun ys z => by cases z) (atc l _ h2 fun ys z => by cases z) }
/-- a place takes a list of its own that has just been laid -/
theorem Rel.ownNew {i : Nat} {xs : List D} {p : Addr} {vs : List V} {sl : Sl} (R : Rel X.K G X B σ H env st ρ) (he : env[i]? = some sl) (hs : ∀ n, sl ≠ .cel n) (hl : i < σ.length) (hp : H p = none) (rl : RepL X.K G H ρ xs vs) :
    Rel X.K G X B (σ.set i (some (.ref p))) (upd H p (.lst vs)) (env.set i (.own xs)) st ρ := by
  -- first any value at the place, then the list
  have R1 : Rel X.K G X B (σ.set i (some .non)) H (env.set i (.v .non)) st ρ := R.put he hs hl .non
  have hi : i < env.length := (List.getElem?_eq_some_iff.mp he).1
  have c : Chg H (upd H p (.lst vs)) p := .new hp
  have k := c.keep
  have sm : Same H (upd H p (.lst vs)) := same_new hp
  have R2 := R1.same sm
  have eqe : (env.set i (.v .non)).set i (.own xs) = env.set i (.own xs) := by rw [List.set_set]
  have at_ : ∀ j, j ≠ i → (env.set i (.own xs))[j]? = (env.set i (.v .non))[j]? := fun j hj => by rw [List.getElem?_set_ne (Ne.symm hj), List.getElem?_set_ne (Ne.symm hj)]
  have sat : ∀ j, j ≠ i → (σ.set i (some (.ref p)))[j]? = (σ.set i (some V.non))[j]? := fun j hj => by rw [List.getElem?_set_ne (Ne.symm hj), List.getElem?_set_ne (Ne.symm hj)]
  have ati : (env.set i (.own xs))[i]? = some (.own xs) := List.getElem?_set_self hi
  have atv : (env.set i (.v .non))[i]? = some (.v .non) := List.getElem?_set_self hi
  have celm : ∀ n, Sl.cel n ∈ env.set i (.own xs) ↔ Sl.cel n ∈ env.set i (.v .non) := fun n => by
    constructor
    · intro h
      obtain ⟨j, hj, e⟩ := List.getElem_of_mem h
      have e' : (env.set i (.own xs))[j]? = some (Sl.cel n) := by rw [List.getElem?_eq_getElem hj, e]
      have q : j ≠ i := fun q => by
        subst q
        rw [ati] at e'
        cases e'
      rw [at_ j q] at e'
      exact List.mem_of_getElem? e'
    · intro h
      obtain ⟨j, hj, e⟩ := List.getElem_of_mem h
      have e' : (env.set i (.v .non))[j]? = some (Sl.cel n) := by rw [List.getElem?_eq_getElem hj, e]
      have q : j ≠ i := fun q => by
        subst q
        rw [atv] at e'
        cases e'
      rw [← at_ j q] at e'
      exact List.mem_of_getElem? e'
  have dd : ∀ a, Dead ρ st (env.set i (.v .non)) a → Dead ρ st (env.set i (.own xs)) a := fun a h n ob h1 h2 h3 => h n ob h1 h2 fun z => h3 ((celm n).mpr z)
  have ne : ∀ j sl', (env.set i (.own xs))[j]? = some sl' → (∀ ys, sl' ≠ Sl.own ys) → j ≠ i ∧ (env.set i (.v .non))[j]? = some sl' := fun j sl' h hn => by
    have q : j ≠ i := fun q => by
      subst q
      rw [ati] at h
      cases h
      exact hn xs rfl
    rw [at_ j q] at h
    exact ⟨q, h⟩
  exact {
    gr := R2.gr
    nc := fun z n h => R2.nc z n ((celm n).mp h)
    tb := R2.tb
    pt := R2.pt
    pv := fun a h => let ⟨o', h1, h2, h3⟩ := R2.pv a h; ⟨o', h1, h2, dd a h3⟩
    len := R2.len
    nd := fun n m a ob ob' h1 h2 h3 h4 h5 h6 h7 => R2.nd n m a ob ob' h1 h2 h3 h4 h5 (fun z => h6 ((celm n).mpr z)) (fun z => h7 ((celm m).mpr z))
    so := fun n a ob h1 h2 h3 => R2.so n a ob h1 h2 fun z => h3 ((celm n).mpr z)
    sc := fun n ob h1 h2 => R2.sc n ob h1 ((celm n).mp h2)
    el := by rw [List.length_set]; exact R.el
    ev := fun j d h => by
      obtain ⟨q, h⟩ := ne j _ h fun ys z => by cases z
      obtain ⟨v, h1, h2⟩ := R2.ev j d h
      exact ⟨v, by rw [sat j q]; exact h1, h2⟩
    eo := fun j ys h => by
      by_cases q : j = i
      · subst q
        rw [ati] at h
        cases h
        refine ⟨p, vs, List.getElem?_set_self hl, upd_same, rl.same sm, fun n ob h1 h2 h3 => ?_, R.gr.dom p hp⟩
        exact (R1.so n p ob h1 h2 fun z => h3 ((celm n).mpr z)).dead hp
      · rw [at_ j q] at h
        obtain ⟨p', ws, h1, h2, h3, h4, h5⟩ := R2.eo j ys h
        exact ⟨p', ws, by rw [sat j q]; exact h1, h2, h3, dd p' h4, h5⟩
    ed := fun j l ys zs q h1 h2 h3 h4 => by
      have np : ∀ j ys, j ≠ i → (env.set i (.own xs))[j]? = some (.own ys) → (σ.set i (some (V.ref p)))[j]? ≠ some (some (V.ref p)) := fun j ys e h h' => by
        rw [at_ j e] at h
        rw [sat j e] at h'
        obtain ⟨p', ws, g1, g2, _⟩ := R1.eo j ys h
        rw [h'] at g1
        cases g1
        rw [hp] at g2
        cases g2
      by_cases e1 : j = i
      · subst e1
        rw [List.getElem?_set_self hl] at h3
        cases h3
        by_cases e2 : l = j
        · exact e2.symm
        · exact absurd h4 (np l zs e2 h2)
      · by_cases e2 : l = i
        · subst e2
          rw [List.getElem?_set_self hl] at h4
          cases h4
          exact absurd h3 (np j ys e1 h1)
        · rw [at_ j e1] at h1
          rw [at_ l e2] at h2
          rw [sat j e1] at h3
          rw [sat l e2] at h4
          exact R2.ed j l ys zs q h1 h2 h3 h4
    ec := fun j n h => by
      obtain ⟨q, h⟩ := ne j _ h fun ys z => by cases z
      obtain ⟨x, a, h1, h2, h3, h4⟩ := R2.ec j n h
      exact ⟨x, a, h1, h2, h3, fun d hd => by rw [sat j q]; exact h4 d hd⟩
    ei := fun j l n h1 h2 => R2.ei j l n (ne j _ h1 fun ys z => by cases z).2 (ne l _ h2 fun ys z => by cases z).2 }
/-- an object of the store is changed -/
theorem Rel.objSet {n : Nat} {a : Addr} {ob ob' : Ob} {o' : HO} (R : Rel X.K G X B σ H env st ρ) (ha : ρ[n]? = some a) (hn : st[n]? = some ob) (hc : ∀ v, ob ≠ .cel v) (c : Chg H (upd H a o') a) (r : ObRep X.K G (upd H a o') ρ a ob') :
    Rel X.K G X B σ (upd H a o') env (st.set n ob') ρ := by
  have k := c.keep
  have hn' : n < st.length := (List.getElem?_eq_some_iff.mp hn).1
  have nce : Sl.cel n ∉ env := fun z => by
    obtain ⟨w, e⟩ := R.sc n _ hn z
    exact hc w e
  have sat : ∀ m, m ≠ n → (st.set n ob')[m]? = st[m]? := fun m hm => List.getElem?_set_ne (Ne.symm hm)
  have live : ∀ b, Dead ρ st env b → b ≠ a := fun b h e => by
    subst e
    exact hc _ (h n ob ha hn nce)
  have dd : ∀ b, Dead ρ st env b → Dead ρ (st.set n ob') env b := fun b h m q h1 h2 h3 => by
    have e : m ≠ n := fun e => by
      subst e
      rw [ha] at h1
      cases h1
      exact live _ h rfl
    rw [sat m e] at h2
    exact h m q h1 h2 h3
  have oth : ∀ m q, m ≠ n → ρ[m]? = some a → st[m]? = some q → Sl.cel m ∉ env → q = .cel none := fun m q e h1 h2 h3 => by
    rcases R.nd m n a q ob h1 ha e h2 hn h3 nce with z | z
    · exact z
    · exact absurd z (hc _)
  exact {
    gr := R.gr.chg c (by
      by_cases e : a ∈ B.r
      · exact .inr e
      · exact .inl (R.gr.new a (List.mem_of_getElem? ha) e))
    nc := R.nc
    tb := fun p' hp' => c.tk _ _ (R.tb p' hp')
    pt := R.pt
    pv := fun b h => let ⟨u, h1, h2, h3⟩ := R.pv b h; ⟨u, h1, c.mv h2 (live b h3), dd b h3⟩
    len := by rw [List.length_set]; exact R.len
    nd := fun m l b q q' h1 h2 h3 h4 h5 h6 h7 => by
      by_cases e : m = n
      · subst e
        rw [sat l (Ne.symm h3)] at h5
        rw [ha] at h1
        cases h1
        exact .inr (oth l q' (Ne.symm h3) h2 h5 h7)
      · by_cases e2 : l = n
        · subst e2
          rw [sat m e] at h4
          rw [ha] at h2
          cases h2
          exact .inl (oth m q e h1 h4 h6)
        · rw [sat m e] at h4
          rw [sat l e2] at h5
          exact R.nd m l b q q' h1 h2 h3 h4 h5 h6 h7
    so := fun m b q h1 h2 h3 => by
      by_cases e : m = n
      · subst e
        rw [ha] at h1
        cases h1
        rw [List.getElem?_set_self hn'] at h2
        cases h2
        exact r
      · rw [sat m e] at h2
        by_cases e2 : b = a
        · subst e2
          rw [oth m q e h1 h2 h3]
          exact True.intro
        · exact (R.so m b q h1 h2 h3).move (fun u h => c.mv h e2) k (List.prefix_refl _)
    sc := fun m q h1 h2 => by
      have e : m ≠ n := fun e => nce (e ▸ h2)
      rw [sat m e] at h1
      exact R.sc m q h1 h2
    el := R.el
    ev := fun j d h => let ⟨v, h1, h2⟩ := R.ev j d h; ⟨v, h1, h2.keep k (List.prefix_refl _)⟩
    eo := fun j ys h => let ⟨p, ws, h1, h2, h3, h4, h5⟩ := R.eo j ys h; ⟨p, ws, h1, c.mv h2 (live p h4), h3.keep k (List.prefix_refl _), dd p h4, h5⟩
    ed := R.ed
    ec := fun j m h => by
      obtain ⟨x, b, h1, h2, h3, h4⟩ := R.ec j m h
      refine ⟨x, b, h1, h2, h3, fun d hd => ?_⟩
      rw [sat m fun e => nce (e ▸ List.mem_of_getElem? h)] at hd
      obtain ⟨q1, v, q2, q3⟩ := h4 d hd
      exact ⟨q1, v, q2, q3.keep k (List.prefix_refl _)⟩
    ei := R.ei }
/-- a new object of the store -/
theorem Rel.objNew {a : Addr} {ob : Ob} {o : HO} (R : Rel X.K G X B σ H env st ρ) (ha : H a = none) (r : ObRep X.K G (upd H a o) (ρ ++ [a]) a ob) : Rel X.K G X B σ (upd H a o) env (st ++ [ob]) (ρ ++ [a]) := by
  have sm : Same H (upd H a o) := same_new ha
  have k := sm.keep
  have p : ρ <+: ρ ++ [a] := List.prefix_append ..
  have sat : ∀ m q, (st ++ [ob])[m]? = some q → (m < st.length ∧ st[m]? = some q) ∨ (m = st.length ∧ q = ob) := fun m q h => by
    by_cases e : m < st.length
    · rw [List.getElem?_append_left e] at h
      exact .inl ⟨e, h⟩
    · have e2 : m = st.length := by
        have := (List.getElem?_eq_some_iff.mp h).1
        rw [List.length_append, List.length_singleton] at this
        omega
      subst e2
      rw [List.getElem?_append_right (Nat.le_refl _), Nat.sub_self] at h
      cases h
      exact .inr ⟨rfl, rfl⟩
  have rat : ∀ m b, (ρ ++ [a])[m]? = some b → m < st.length → ρ[m]? = some b := fun m b h e => by
    rw [List.getElem?_append_left (by rw [R.len]; exact e)] at h
    exact h
  have ran : ∀ b, (ρ ++ [a])[st.length]? = some b → b = a := fun b h => by
    rw [← R.len, List.getElem?_append_right (Nat.le_refl _), Nat.sub_self] at h
    cases h
    rfl
  have cel : ∀ m, Sl.cel m ∈ env → m < st.length := fun m h => by
    obtain ⟨j, hj, e⟩ := List.getElem_of_mem h
    obtain ⟨x, b, _, h2, _⟩ := R.ec j m (by rw [List.getElem?_eq_getElem hj, e])
    rw [← R.len]
    exact (List.getElem?_eq_some_iff.mp h2).1
  have dd : ∀ b u, H b = some u → Dead ρ st env b → Dead (ρ ++ [a]) (st ++ [ob]) env b := fun b u hb h m q h1 h2 h3 => by
    rcases sat m q h2 with ⟨e, h2⟩ | ⟨rfl, rfl⟩
    · exact h m q (rat m b h1 e) h2 h3
    · rw [ran b h1, ha] at hb
      cases hb
  have old : ∀ m q, ρ[m]? = some a → st[m]? = some q → Sl.cel m ∉ env → q = .cel none := fun m q h1 h2 h3 => (R.so m a q h1 h2 h3).dead ha
  exact {
    gr := (R.gr.trans ⟨fun b u h _ _ => sm b u h, p, fun b h hn => by
      rcases List.mem_append.mp h with h | h
      · exact absurd h hn
      · rw [List.mem_singleton.mp h]
        exact ha, fun b ps h => ⟨#[], by rw [Array.append_empty]; exact sm _ _ h⟩, fun b h => by
      cases e : H b with
      | none => rfl
      | some u =>
        rw [sm _ _ e] at h
        cases h⟩)
    nc := R.nc
    tb := fun p hp => (R.tb p hp).ext sm
    pt := R.pt
    pv := fun b h => let ⟨u, h1, h2, h3⟩ := R.pv b h; ⟨u, h1, sm _ _ h2, dd b u h2 h3⟩
    len := by rw [List.length_append, List.length_append, R.len]; rfl
    nd := fun m l b q q' h1 h2 h3 h4 h5 h6 h7 => by
      rcases sat m q h4 with ⟨e, g4⟩ | ⟨em, eq⟩
      · rcases sat l q' h5 with ⟨e', g5⟩ | ⟨el, eq'⟩
        · exact R.nd m l b q q' (rat m b h1 e) (rat l b h2 e') h3 g4 g5 h6 h7
        · rw [el] at h2
          have := ran b h2
          subst this
          exact .inl (old m q (rat m _ h1 e) g4 h6)
      · rcases sat l q' h5 with ⟨e', g5⟩ | ⟨el, eq'⟩
        · rw [em] at h1
          have := ran b h1
          subst this
          exact .inr (old l q' (rat l _ h2 e') g5 h7)
        · exact absurd (em.trans el.symm) h3
    so := fun m b q h1 h2 h3 => by
      rcases sat m q h2 with ⟨e, h2⟩ | ⟨rfl, rfl⟩
      · exact (R.so m b q (rat m b h1 e) h2 h3).move (fun u h => sm _ _ h) k p
      · have := ran b h1
        subst this
        exact r
    sc := fun m q h1 h2 => by
      rcases sat m q h1 with ⟨e, h1⟩ | ⟨rfl, rfl⟩
      · exact R.sc m q h1 h2
      · exact absurd (cel _ h2) (Nat.lt_irrefl _)
    el := R.el
    ev := fun j d h => let ⟨v, h1, h2⟩ := R.ev j d h; ⟨v, h1, h2.keep k p⟩
    eo := fun j ys h => let ⟨q, ws, h1, h2, h3, h4, h5⟩ := R.eo j ys h; ⟨q, ws, h1, sm _ _ h2, h3.keep k p, dd q _ h2 h4, h5⟩
    ed := R.ed
    ec := fun j m h => by
      obtain ⟨x, b, h1, h2, h3, h4⟩ := R.ec j m h
      refine ⟨x, b, h1, pre_get p h2, h3, fun d hd => ?_⟩
      rcases sat m _ hd with ⟨_, hd⟩ | ⟨rfl, _⟩
      · obtain ⟨q1, v, q2, q3⟩ := h4 d hd
        exact ⟨q1, v, q2, q3.keep k p⟩
      · exact absurd (cel _ (List.mem_of_getElem? h)) (Nat.lt_irrefl _)
    ei := R.ei }
end
end KP
end
section
set_option autoImplicit false
set_option linter.all false
set_option maxRecDepth 100000
set_option maxHeartbeats 4000000
/-! KStm2: own lists, dicts of the store. -/
namespace KP
open PySem PySem.Spec PyProof.Rows L2

section
variable {X : Cx} {G : Glo} {B : Bs} {fld : Nat → List Str} {W : WX} {cx : Cc} {pos : Pos} {σ : L2.St} {H : Hp} {ρ : List Addr} {env : En} {st : So}
theorem ownAt_some {e : En} {i : Nat} {xs : List D} (h : ownAt e i = some xs) : e[i]? = some (.own xs) := by
  unfold ownAt at h
  split at h
  · rename_i q; cases h; exact q
  · cases h

/-! ### append -/
theorem sm_app {i : Nat} {x : Str} {e : Expr} {a : Ex} {px apos cpos : Pos} (hN : X.N[i]? = some x) (hv : Vis X.env.scope x) (hd : (x == ("__debug__" : Str)) = false) (hcd : (x == ("__classdict__" : Str)) = false)
    (ha : PEm X G B fld W cx e a) (hst : starEach [e] X.env = (false, eval e X.env) :: starEach [] X.env)
    (hbase : attributeBase (.Name x px) "append" X.env (eval (.Name x px) X.env) = eval (.Name x px) X.env)
    (hfew : ((backTo cpos (starEach [e] X.env)).all (fun x => !x.1) && (backToKw cpos (keywordEach [] X.env)).all (fun x => x.1.isSome) && decide ([e].length + ([] : List Keyword).length + (if ([] : List Keyword).isEmpty then 0 else 1) < 30)) = true)
    (hline : (apos.endLine == cpos.line) = true) (hplain : (backTo cpos (starEach [] X.env)).any (·.1) = false)
    (hs : swapsWith (.Call (.Attribute (.Name x px) "append" apos) [e] [] cpos) none pos.line X.env = pure false) : PSm X G B fld W cx (.Expr (.Call (.Attribute (.Name x px) "append" apos) [e] [] cpos) pos) (.app i a) := by
  refine ps_of (ps_expr (pe_bm PySem.F.plainAttrs_list PySem.F.slot_list_append PySem.F.type_list_append mt_append (pe_var hN hv hd hcd) (pa_cons ha pa_nil hst) hbase hfew hline hst hplain) hs) fun D σ H ⟨env, st, ρ, R, h⟩ => ?_
  rw [S] at h
  obtain ⟨xs0, h0, h⟩ := PostS.of_bind h
  have g0 := ownAt_some h0
  obtain ⟨p, vs, q1, q2, q3, q4, q5⟩ := R.eo i xs0 g0
  refine ⟨_, q1, .inl ⟨rfl, vs, SqL.of q2⟩, env, st, ρ, R, (PostS.ex h σ).imp fun d H1 ρ1 e1 s1 k pr R1 h1 v rv => ?_⟩
  obtain ⟨xs1, h2, h3⟩ := PostS.of_bind h1
  have g1 := ownAt_some h2
  split at h3
  · rename_i hz
    obtain ⟨p', ws, z1, z2, z3, z4, z5⟩ := R1.eo i xs1 g1
    rw [q1] at z1
    cases z1
    refine ⟨p, ws, v, rfl, rfl, z2, by rw [← z3.length]; exact hz, ?_⟩
    have R2 := R1.ownSet (xs' := xs1 ++ [d]) g1 q1 z2 z4 z5 (z3.append (.cons rv .nil))
    exact h3 σ _ ρ1 (.ofLst z2) (List.prefix_refl _) R2
  · exact h3.elim

/-! ### a list of a place's own -/
/-- a new list, as an expression -/
def PFm (X : Cx) (G : Glo) (B : Bs) (fld : Nat → List Str) (W : WX) (e : Expr) (m : En → So → KP.R (List D)) : Prop :=
  PE X e fun σ H Q => ∃ env st ρ, Rel X.K G X B σ H env st ρ ∧ Post X.K G X B fld W (m env st) σ H ρ fun xs H' ρ' _ _ => ∀ vs p, RepL X.K G H' ρ' xs vs → H' p = none → Q (.ref p) (upd H' p (.lst vs))
theorem fm_lst {es : List Expr} {as : Exs} (ha : PAm X G B fld W cx es as) (hl : as.len ≤ sizeLine) : PFm X G B fld W (.List es pos) (Es cx as) := by
  refine pe_of (pe_lst ha) fun σ H Q ⟨env, st, ρ, R, h⟩ => ?_
  refine ⟨env, st, ρ, R, h.impE fun xs H1 ρ1 e1 s1 eq k p R1 h1 vs rs => ⟨?_, fun q hq => h1 vs q rs hq⟩⟩
  rw [← rs.length, Es_len as env st xs e1 s1 eq]
  exact hl
theorem sm_own {i : Nat} {x : Str} {e : Expr} {a : Ex} {m : En → So → KP.R (List D)} {px : Pos} (C : Cok X) (hi : X.N[i]? = some x) (hx : Loc X.env.scope x) (hf : X.fn x = true ∨ X.env.scope.names.lookup x = some .local) (ha : PFm X G B fld W e m) (hm : ∀ env st, E cx a env st = (m env st).bind fun xs e s => .ok (.lst xs) e s)
    (hs : swapsWith e (some (.Name x px)) pos.line X.env = pure false) : PSm X G B fld W cx (.Assign [.Name x px] e pos) (.own i a) := by
  refine ⟨fun pins s σ H D I ⟨env, st, ρ, R, h⟩ => (ps_set C.nd hi hx ha hs hf).run pins s σ H D I ?_⟩
  rw [S] at h
  split at h
  · rw [hm, bind_bind] at h
    have hl : i < σ.length := by rw [I.len]; exact (List.getElem?_eq_some_iff.mp hi).1
    refine ⟨env, st, ρ, R, (PostS.ex h σ).imp fun xs H1 ρ1 e1 s1 k p R1 h1 vs q rs hq => ?_⟩
    rw [KP.R.bind_ok] at h1
    cases g : e1[i]? with
    | none => rw [g] at h1; exact h1.elim
    | some sl =>
      rw [g] at h1
      cases sl with
      | cel n => exact h1.elim
      | _ => exact h1 _ _ ρ1 (.new hq) (List.prefix_refl _) (R1.ownNew g (fun n z => by cases z) hl hq rs)
  · exact h.elim

/-! ### a[y] = z -/
theorem key_rep {d : D} {y : V} {k : Ky} (r : Rep X.K G H ρ d y) (h : keyOf d = some k) : y = kV k := keyOf_rep r h
abbrev KDP (K : PySem.W.Frag) (G : Glo) (H : Hp) (ρ : List Addr) (kvs : List (Ky × D)) (kws : List (Key × V)) : Prop := Paired (fun (p : Ky × D) (q : Key × V) => p.1 = q.1 ∧ Rep K G H ρ p.2 q.2) kvs kws
theorem KDP.any {K : PySem.W.Frag} {kvs : List (Ky × D)} {kws : List (Key × V)} (k : Ky) (h : KDP K G H ρ kvs kws) : (kvs.any fun kv => decide (kv.1 = k)) = (kws.any fun kv => decide (kv.1 = k)) := by
  induction h with
  | nil => rfl
  | cons r t ih => rw [List.any_cons, List.any_cons, ih, r.1]
theorem KDP.map {K : PySem.W.Frag} {kvs : List (Ky × D)} {kws : List (Key × V)} (k : Ky) {z : D} {v : V} (rz : Rep K G H ρ z v) (h : KDP K G H ρ kvs kws) : KDP K G H ρ (kvs.map (fun kv => if kv.1 = k then (kv.1, z) else kv)) (kws.map (fun kv => if kv.1 = k then (kv.1, v) else kv)) := by
  induction h with
  | nil => exact .nil
  | @cons a b l1 l2 r t ih =>
    rw [List.map_cons, List.map_cons]
    refine .cons ?_ ih
    rw [r.1]
    by_cases e : b.1 = k
    · rw [if_pos e, if_pos e]
      exact ⟨rfl, rz⟩
    · rw [if_neg e, if_neg e]
      exact r
theorem KDP.app {K : PySem.W.Frag} {kvs : List (Ky × D)} {kws : List (Key × V)} {k : Ky} {z : D} {v : V} (rz : Rep K G H ρ z v) (h : KDP K G H ρ kvs kws) : KDP K G H ρ (kvs ++ [(k, z)]) (kws ++ [(k, v)]) := by
  induction h with
  | nil => exact .cons ⟨rfl, rz⟩ .nil
  | cons r t ih => exact .cons r ih
theorem KDP.put {K : PySem.W.Frag} {kvs : List (Ky × D)} {kws : List (Key × V)} {k : Ky} {z : D} {v : V} (rz : Rep K G H ρ z v) (h : KDP K G H ρ kvs kws) : KDP K G H ρ (KP.putK kvs k z) (L2.putK kws k v) := by
  unfold KP.putK L2.putK
  rw [h.any]
  split
  · exact h.map k rz
  · exact h.app rz
theorem paired_len {α β : Type} {F : α → β → Prop} {l : List α} {r : List β} (h : Paired F l r) : l.length = r.length := by
  induction h with
  | nil => rfl
  | cons _ _ ih => exact congrArg Nat.succ ih
theorem KDP.keep {K : PySem.W.Frag} {H' : Hp} {ρ' : List Addr} {kvs : List (Ky × D)} {kws : List (Key × V)} (h : KDP K G H ρ kvs kws) (k : Keep H H') (p : ρ <+: ρ') : KDP K G H' ρ' kvs kws := Paired.mapP h fun _ _ z => ⟨z.1, z.2.keep k p⟩
theorem sm_setix {l r e : Expr} {a b c : Ex} {p' : Pos} (hu : X.A.units + 1 < cLine) (ha : PEm X G B fld W cx l a) (hb : PEm X G B fld W cx r b) (hc : PEm X G B fld W cx e c)
    (hs : swapsWith e (some (.Subscript l r p')) pos.line X.env = pure false) : PSm X G B fld W cx (.Assign [.Subscript l r p'] e pos) (.setix a b c) := by
  refine ps_of (ps_dput hu ha hb hc hs) fun D σ H ⟨env, st, ρ, R, h⟩ => ?_
  rw [S] at h
  refine ⟨env, st, ρ, R, (PostS.ex h σ).imp fun z H1 ρ1 e1 s1 k1 p1 R1 h1 vz rz => ?_⟩
  refine ⟨e1, s1, ρ1, R1, (PostS.ex h1 σ).imp fun x H2 ρ2 e2 s2 k2 p2 R2 h2 vx rx => ?_⟩
  refine ⟨e2, s2, ρ2, R2, (PostS.ex h2 σ).imp fun y H3 ρ3 e3 s3 k3 p3 R3 h3 vy ry => ?_⟩
  obtain ⟨s', hq, h4⟩ := PostS.of_bind h3
  unfold putAt at hq
  cases x with
  | ref n =>
    simp only at hq
    cases q1 : s3[n]? with
    | none => rw [q1] at hq; cases hq
    | some ob =>
      cases q2 : keyOf y with
      | none => rw [q1, q2] at hq; cases ob <;> cases hq
      | some k =>
        rw [q1, q2] at hq
        cases ob with
        | dic kvs =>
          simp only at hq
          split at hq
          · rename_i hz
            cases hq
            cases rx.keep k3 p3 with
            | @ref _ ad had =>
              obtain ⟨kws, g1, g2⟩ := R3.obj had q1 (fun _ z => by cases z)
              rw [keyOf_rep ry q2]
              have hl : kws.length < sizeLine := by rw [← paired_len g2]; exact hz
              refine ⟨ad, _, rfl, DPut.k g1 hl, ?_⟩
              have c : Chg H3 (upd H3 ad (.dK (L2.putK kws k vz))) ad := .dK g1
              have R4 := R3.objSet (ob' := .dic (KP.putK kvs k z)) had q1 (fun _ z => by cases z) c ⟨_, upd_same, ((KDP.put (rz.keep (k2.trans k3) (p2.trans p3)) g2).keep c.keep (List.prefix_refl _))⟩
              exact h4 σ _ ρ3 c.keep (List.prefix_refl _) R4
          · cases hq
        | _ => cases hq
  | _ => cases hq
end
end KP
end
section
set_option autoImplicit false
set_option linter.all false
set_option maxRecDepth 100000
set_option maxHeartbeats 4000000
/-! KLoop: loops. -/
namespace KP
open PySem PySem.Spec PyProof.Rows L2

section
variable {X : Cx} {G : Glo} {B : Bs} {fld : Nat → List Str} {W : WX} {cx : Cc} {pos : Pos} {σ : L2.St} {H : Hp} {ρ : List Addr} {env : En} {st : So}
theorem sm_loop {tg iter : Expr} {body : List Stmt} {t : Tg} {w : Wk} {as : Exs} {b : Sts} (C : Cok X) (hp : PassesOwn (model X.prog X.w) X.A X.env X.xe) (hi : PI X tg iter (iOf X G B fld W w (Es cx as))) (hg : PG X tg (gOf X G B t)) (hb : PSsm X G B fld W cx body b)
    (hs : ∀ x, foldedSetIterable iter X.env x = pure x) : PSm X G B fld W cx (.For tg iter body [] pos) (.loop t w as b) := by
  refine ps_of (ps_for hp C.calm hi hg hb hs) fun D σ H ⟨env, st, ρ, R, h⟩ => ?_
  rw [S] at h
  refine ⟨env, st, ρ, R, (PostS.ex h σ).imp fun ws H1 ρ1 e1 s1 k p R1 h1 => ?_⟩
  obtain ⟨items, hw, h2⟩ := PostS.of_bind h1
  refine ⟨items, hw, fun J ov => ?_⟩
  generalize hstep : (fun x e s => (KP.R.of (asgT t x e s) e s).bind fun q _ _ => Ss cx b q.1 q.2) = step at h2
  refine for_it ov (fun i σ H => ∃ env st ρ, Rel X.K G X B σ H env st ρ ∧ Keep H1 H ∧ ρ1 <+: ρ ∧ PostS X G B fld W (forGo step (items.drop i) env st) H ρ (ends X G D)) ?_ ?_ ?_ ?_
  · exact ⟨e1, s1, ρ1, R1, Keep.refl _, List.prefix_refl _, h2⟩
  · rintro i σ H _ ⟨_, _, _, _, k, _⟩
    exact k
  · rintro i x σ H H' hi ⟨env2, st2, ρ2, R2, k2, p2, h3⟩ ⟨sm, d, hd, rd⟩
    have hdrop : items.drop i = d :: items.drop (i + 1) := by
      rw [List.drop_eq_getElem_cons hi]
      rw [List.getElem?_eq_getElem hi] at hd
      cases hd
      rfl
    rw [hdrop, forGo] at h3
    have R2' := R2.same sm
    have h4 := (PostS.bind h3).from sm.keep (List.prefix_refl _)
    rw [← hstep] at h4
    obtain ⟨q, hq, h5⟩ := PostS.of_bind h4
    refine ⟨env2, st2, ρ2, d, q, R2', rd.keep (Keep.refl _) p2, hq, fun σ2 bt R3 => ?_⟩
    refine ⟨q.1, q.2, ρ2, R3, h5.imp fun f σ4 H4 ρ4 e4 s4 k4 p4 R4 h6 => ?_⟩
    rw [hstep] at h6
    have kk := (k2.trans sm.keep).trans k4
    cases f with
    | nx => exact ⟨e4, s4, ρ4, R4, kk, p2.trans p4, h6⟩
    | ct => exact ⟨e4, s4, ρ4, R4, kk, p2.trans p4, h6⟩
    | bk =>
      have z := PostS.now (show PostS X G B fld W (.ok .nx e4 s4) H4 ρ4 (ends X G D) from h6) R4
      exact z
    | rt d =>
      have z := PostS.now (show PostS X G B fld W (.ok (.rt d) e4 s4) H4 ρ4 (ends X G D) from h6) R4
      exact z
  · rintro σ H ⟨env2, st2, ρ2, R2, k2, p2, h3⟩
    rw [List.drop_length, forGo] at h3
    have z := PostS.now h3 R2
    exact z
theorem sm_whl {c : Expr} {body : List Stmt} {a : Ex} {b : Sts} (hp : PassesOwn (model X.prog X.w) X.A X.env X.xe) (hc : PTm X G B fld W cx c a) (hb : PSsm X G B fld W cx body b) : PSm X G B fld W cx (.While c body [] pos) (.whl a b) := by
  refine ps_of (ps_while hp hc hb) fun D σ H ⟨env, st, ρ, R, h⟩ => ?_
  rw [S] at h
  refine ⟨fun n σ H => ∃ env st ρ, Rel X.K G X B σ H env st ρ ∧ PostS X G B fld W (whlGo (T cx a) (Ss cx b) n env st) H ρ (ends X G D), ⟨cx.fuel, env, st, ρ, R, h⟩, fun n σ H ⟨env, st, ρ, R, h⟩ => ?_⟩
  cases n with
  | zero => exact h.elim
  | succ n =>
    rw [whlGo] at h
    refine ⟨env, st, ρ, R, (PostS.ex h σ).imp fun k H1 ρ1 e1 s1 k1 p1 R1 h1 => ?_⟩
    cases k with
    | false =>
      rw [if_neg Bool.false_ne_true]
      have z := PostS.now (show PostS X G B fld W (.ok .nx e1 s1) H1 ρ1 (ends X G D) from h1) R1
      exact z
    | true =>
      rw [if_pos rfl]
      refine ⟨fun σ H => ∃ env st ρ, Rel X.K G X B σ H env st ρ ∧ PostS X G B fld W (whlGo (T cx a) (Ss cx b) n env st) H ρ (ends X G D), fun σ' H' q => ⟨n, Nat.lt_succ_self n, q⟩, e1, s1, ρ1, R1, (PostS.bind h1).imp fun f σ2 H2 ρ2 e2 s2 k2 p2 R2 h2 => ?_⟩
      cases f with
      | nx => exact ⟨e2, s2, ρ2, R2, h2⟩
      | ct => exact ⟨e2, s2, ρ2, R2, h2⟩
      | bk =>
        have z := PostS.now (show PostS X G B fld W (.ok .nx e2 s2) H2 ρ2 (ends X G D) from h2) R2
        exact z
      | rt d =>
        have z := PostS.now (show PostS X G B fld W (.ok (.rt d) e2 s2) H2 ρ2 (ends X G D) from h2) R2
        exact z
end
end KP
end
section
set_option autoImplicit false
set_option linter.all false
set_option maxRecDepth 100000
set_option maxHeartbeats 4000000
/-! KDic: dict displays. -/
namespace KP
open PySem PySem.Spec PyProof.Rows L2

section
variable {X : Cx} {G : Glo} {B : Bs} {fld : Nat → List Str} {W : WX} {cx : Cc} {pos : Pos} {σ : L2.St} {H : Hp} {ρ : List Addr} {env : En} {st : So} {a : Addr} {o : HO}
open Classical in
/-- the base of a part: what stands ahead of it, but for the lists that places alone hold; a new thing at a -/
noncomputable def gB (B : Bs) (H : Hp) (env : En) (σ : L2.St) (ρ : List Addr) (a : Addr) (o : HO) : Bs :=
  ⟨fun b => if b = a then some o else if (∃ (i : Nat) (xs : List D), env[i]? = some (Sl.own xs) ∧ σ[i]? = some (some (V.ref b))) then none else H b, ρ, B.nc, fun b => b = a ∨ B.av b⟩
theorem gB_at : (gB B H env σ ρ a o).h a = some o := if_pos rfl
theorem gB_some {b : Addr} {u : HO} (h : (gB B H env σ ρ a o).h b = some u) (e : b ≠ a) : H b = some u := by
  unfold gB at h
  simp only [if_neg e] at h
  split at h
  · cases h
  · exact h
theorem gB_eq {b : Addr} (e : b ≠ a) (hn : ∀ (i : Nat) (xs : List D), env[i]? = some (Sl.own xs) → σ[i]? ≠ some (some (V.ref b))) : (gB B H env σ ρ a o).h b = H b := by
  show (if b = a then _ else _) = _
  rw [if_neg e, if_neg fun ⟨i, xs, h1, h2⟩ => hn i xs h1 h2]
theorem gB_own {b : Addr} {i : Nat} {xs : List D} (e : b ≠ a) (h1 : env[i]? = some (Sl.own xs)) (h2 : σ[i]? = some (some (V.ref b))) : (gB B H env σ ρ a o).h b = none := by
  show (if b = a then _ else _) = _
  rw [if_neg e, if_pos ⟨i, xs, h1, h2⟩]
theorem gB_none {b : Addr} (h : (gB B H env σ ρ a o).h b = none) : b ≠ a ∧ (H b = none ∨ ∃ (i : Nat) (xs : List D), env[i]? = some (Sl.own xs) ∧ σ[i]? = some (some (V.ref b))) := by
  by_cases e : b = a
  · subst e
    rw [gB_at] at h
    cases h
  · refine ⟨e, ?_⟩
    by_cases q : ∃ (i : Nat) (xs : List D), env[i]? = some (Sl.own xs) ∧ σ[i]? = some (some (V.ref b))
    · exact .inr q
    · rw [gB_eq e fun i xs h1 h2 => q ⟨i, xs, h1, h2⟩] at h
      exact .inl h
theorem Rel.notAv (R : Rel X.K G X B σ H env st ρ) {b : Addr} (h : B.av b) : ∀ (i : Nat) (xs : List D), env[i]? = some (.own xs) → σ[i]? ≠ some (some (.ref b)) := fun i xs he hs => by
  obtain ⟨u, h1, _⟩ := R.pv b h
  obtain ⟨p', ws', f1, _, _, _, f5⟩ := R.eo i xs he
  rw [hs] at f1
  cases f1
  rw [f5] at h1
  cases h1
theorem Rel.guard (R : Rel X.K G X B σ H env st ρ) (ha : H a = none) (ho : ∀ ps, o ≠ .tbl ps) : Rel X.K G X (gB B H env σ ρ a o) σ (upd H a o) env st ρ := by
  have sm : Same H (upd H a o) := same_new ha
  have R1 := R.same sm
  exact {
    gr := {
      keep := fun b u h hn ht => by
        by_cases e : b = a
        · subst e
          rw [gB_at] at h
          rw [upd_same]
          exact h
        · exact sm _ _ (gB_some h e)
      pre := List.prefix_refl _
      new := fun b h hn => absurd h hn
      tbls := fun b ps h => by
        by_cases e : b = a
        · subst e
          rw [gB_at] at h
          cases h
          exact ⟨#[], by rw [Array.append_empty]; exact upd_same⟩
        · exact ⟨#[], by rw [Array.append_empty]; exact sm _ _ (gB_some h e)⟩
      dom := fun b h => by
        have e : b ≠ a := fun e => by
          subst e
          rw [upd_same] at h
          cases h
        rw [upd_ne e] at h
        cases q : (gB B H env σ ρ a o).h b with
        | none => rfl
        | some u =>
          rw [gB_some q e] at h
          cases h }
    nc := R1.nc
    tb := R1.tb
    pt := fun b h ps e => by
      rcases h with h | h
      · subst h
        rw [gB_at] at e
        exact ho ps (Option.some.inj e)
      · obtain ⟨u, q1, q2, _⟩ := R.pv b h
        have := gB_some e (ne_of_none q2 ha)
        rw [q2] at this
        cases this
        exact R.pt b h ps q1
    pv := fun b h => by
      rcases h with h | h
      · subst h
        exact ⟨o, gB_at, upd_same, fun n ob h1 h2 h3 => (R.so n _ ob h1 h2 h3).dead ha⟩
      · obtain ⟨u, h1, h2, h3⟩ := R.pv b h
        refine ⟨u, ?_, sm _ _ h2, h3⟩
        rw [gB_eq (ne_of_none h2 ha) (R.notAv h)]
        exact h2
    len := R1.len
    nd := R1.nd
    so := R1.so
    sc := R1.sc
    el := R1.el
    ev := R1.ev
    eo := fun i xs h => by
      obtain ⟨p, ws, h1, h2, h3, h4, h5⟩ := R.eo i xs h
      exact ⟨p, ws, h1, sm _ _ h2, h3.same sm, h4, gB_own (ne_of_none h2 ha) h h1⟩
    ed := R1.ed
    ec := R1.ec
    ei := R1.ei }
/-- behind the part, the thing at a told -/
theorem Rel.unguard {H1 : Hp} {env1 : En} {st1 : So} {ρ1 : List Addr} (R1 : Rel X.K G X B σ H1 env1 st1 ρ1) (ha : H1 a = none) (R : Rel X.K G X (gB B H1 env1 σ ρ1 a o) σ H env st ρ) :
    Rel X.K G X B σ H env st ρ ∧ H a = some o ∧ Dead ρ st env a ∧ B.h a = none := by
  have notOwn : ∀ b u, H1 b = some u → (∀ ws, u ≠ .lst ws) → ∀ (i : Nat) (xs : List D), env1[i]? = some (.own xs) → σ[i]? ≠ some (some (.ref b)) := fun b u h hu i xs he hs => by
    obtain ⟨p, ws, e1, e2, _⟩ := R1.eo i xs he
    rw [hs] at e1
    cases e1
    rw [h] at e2
    cases e2
    exact hu ws rfl
  have bnone : ∀ b, (H1 b = none ∨ ∃ (i : Nat) (xs : List D), env1[i]? = some (.own xs) ∧ σ[i]? = some (some (.ref b))) → B.h b = none := fun b h => by
    rcases h with h | ⟨j, ys, h2, h3⟩
    · exact R1.gr.dom b h
    · obtain ⟨p', ws', f1, _, _, _, f5⟩ := R1.eo j ys h2
      rw [h3] at f1
      cases f1
      exact f5
  obtain ⟨o', g1, g2, g3⟩ := R.pv a (.inl rfl)
  rw [gB_at] at g1
  cases g1
  refine ⟨?_, g2, g3, R1.gr.dom a ha⟩
  exact {
    gr := {
      keep := fun b u h hn ht => by
        have e := R1.gr.keep b u h hn ht
        refine R.gr.keep b u ?_ (fun z => ?_) ht
        · rw [gB_eq (ne_of_none e ha) fun i xs he hs => ?_]
          · exact e
          · obtain ⟨p', ws', f1, _, _, _, f5⟩ := R1.eo i xs he
            rw [hs] at f1
            cases f1
            rw [f5] at h
            cases h
        · rw [R1.gr.new b z hn] at h
          cases h
      pre := R1.gr.pre.trans R.gr.pre
      new := fun b h hn => by
        by_cases q : b ∈ ρ1
        · exact R1.gr.new b q hn
        · exact bnone b (gB_none (R.gr.new b h q)).2
      tbls := fun b ps h => by
        obtain ⟨m, e⟩ := R1.gr.tbls b ps h
        obtain ⟨m2, e3⟩ := R.gr.tbls b (ps ++ m) (by rw [gB_eq (ne_of_none e ha) (notOwn b _ e fun ws z => by cases z)]; exact e)
        exact ⟨m ++ m2, by rw [← Array.append_assoc]; exact e3⟩
      dom := fun b h => bnone b (gB_none (R.gr.dom b h)).2 }
    nc := R.nc
    tb := R.tb
    pt := R1.pt
    pv := fun b h => by
      obtain ⟨u, h1, h2, h3⟩ := R1.pv b h
      obtain ⟨u', q1, q2, q3⟩ := R.pv b (.inr h)
      rw [gB_eq (ne_of_none h2 ha) (R1.notAv h), h2] at q1
      cases q1
      exact ⟨u, h1, q2, q3⟩
    len := R.len
    nd := R.nd
    so := R.so
    sc := R.sc
    el := R.el
    ev := R.ev
    eo := fun i xs h => let ⟨p, ws, e1, e2, e3, e4, e5⟩ := R.eo i xs h; ⟨p, ws, e1, e2, e3, e4, bnone p (gB_none e5).2⟩
    ed := R.ed
    ec := R.ec
    ei := R.ei }
/-- a thing that no part of the frame has is changed -/
theorem Rel.free {o' : HO} (R : Rel X.K G X B σ H env st ρ) (c : Chg H (upd H a o') a) (hd : Dead ρ st env a) (nB : B.h a = none) (hn : ∀ (i : Nat) (xs : List D), env[i]? = some (.own xs) → σ[i]? ≠ some (some (.ref a))) : Rel X.K G X B σ (upd H a o') env st ρ where
  gr := R.gr.chg c (.inl nB)
  nc := R.nc
  tb := fun p hp => c.tk _ _ (R.tb p hp)
  pt := R.pt
  pv := fun b h => let ⟨u, h1, h2, h3⟩ := R.pv b h; ⟨u, h1, c.mv h2 (fun e => by rw [e, nB] at h1; cases h1), h3⟩
  len := R.len
  nd := R.nd
  so := fun n b ob h1 h2 h3 => by
    by_cases e : b = a
    · subst e
      rw [hd n ob h1 h2 h3]
      exact True.intro
    · exact (R.so n b ob h1 h2 h3).move (fun u h => c.mv h e) c.keep (List.prefix_refl _)
  sc := R.sc
  el := R.el
  ev := fun j d h => let ⟨v, h1, h2⟩ := R.ev j d h; ⟨v, h1, h2.keep c.keep (List.prefix_refl _)⟩
  eo := fun j ys h => let ⟨p, ws, h1, h2, h3, h4, h5⟩ := R.eo j ys h; ⟨p, ws, h1, c.mv h2 (fun e => hn j ys h (e ▸ h1)), h3.keep c.keep (List.prefix_refl _), h4, h5⟩
  ed := R.ed
  ec := fun j n h => let ⟨x, b, h1, h2, h3, h4⟩ := R.ec j n h; ⟨x, b, h1, h2, h3, fun d hd => let ⟨q1, v, q2, q3⟩ := h4 d hd; ⟨q1, v, q2, q3.keep c.keep (List.prefix_refl _)⟩⟩
  ei := R.ei
/-- a thing is taken into the store -/
theorem Rel.grow {ob : Ob} (R : Rel X.K G X B σ H env st ρ) (hd : Dead ρ st env a) (nB : B.h a = none) (hn : ∀ (i : Nat) (xs : List D), env[i]? = some (.own xs) → σ[i]? ≠ some (some (.ref a))) (r : ObRep X.K G H (ρ ++ [a]) a ob) : Rel X.K G X B σ H env (st ++ [ob]) (ρ ++ [a]) := by
  have k : Keep H H := Keep.refl H
  have p : ρ <+: ρ ++ [a] := List.prefix_append ..
  have sat : ∀ m q, (st ++ [ob])[m]? = some q → (m < st.length ∧ st[m]? = some q) ∨ (m = st.length ∧ q = ob) := fun m q h => by
    by_cases e : m < st.length
    · rw [List.getElem?_append_left e] at h
      exact .inl ⟨e, h⟩
    · have e2 : m = st.length := by
        have := (List.getElem?_eq_some_iff.mp h).1
        rw [List.length_append, List.length_singleton] at this
        omega
      subst e2
      rw [List.getElem?_append_right (Nat.le_refl _), Nat.sub_self] at h
      cases h
      exact .inr ⟨rfl, rfl⟩
  have rat : ∀ m b, (ρ ++ [a])[m]? = some b → m < st.length → ρ[m]? = some b := fun m b h e => by
    rw [List.getElem?_append_left (by rw [R.len]; exact e)] at h
    exact h
  have ran : ∀ b, (ρ ++ [a])[st.length]? = some b → b = a := fun b h => by
    rw [← R.len, List.getElem?_append_right (Nat.le_refl _), Nat.sub_self] at h
    cases h
    rfl
  have cel : ∀ m, Sl.cel m ∈ env → m < st.length := fun m h => by
    obtain ⟨j, hj, e⟩ := List.getElem_of_mem h
    obtain ⟨x, b, _, h2, _⟩ := R.ec j m (by rw [List.getElem?_eq_getElem hj, e])
    rw [← R.len]
    exact (List.getElem?_eq_some_iff.mp h2).1
  have dd : ∀ b, b ≠ a → Dead ρ st env b → Dead (ρ ++ [a]) (st ++ [ob]) env b := fun b hb h m q h1 h2 h3 => by
    rcases sat m q h2 with ⟨e, h2⟩ | ⟨rfl, rfl⟩
    · exact h m q (rat m b h1 e) h2 h3
    · exact absurd (ran b h1) hb
  exact {
    gr := {
      keep := R.gr.keep
      pre := R.gr.pre.trans p
      new := fun b h hn => by
        rcases List.mem_append.mp h with h | h
        · exact R.gr.new b h hn
        · rw [List.mem_singleton.mp h]
          exact nB
      tbls := R.gr.tbls
      dom := R.gr.dom }
    nc := R.nc
    tb := R.tb
    pt := R.pt
    pv := fun b h => let ⟨u, h1, h2, h3⟩ := R.pv b h; ⟨u, h1, h2, dd b (fun e => by rw [e, nB] at h1; cases h1) h3⟩
    len := by rw [List.length_append, List.length_append, R.len]; rfl
    nd := fun m l b q q' h1 h2 h3 h4 h5 h6 h7 => by
      rcases sat m q h4 with ⟨e, g4⟩ | ⟨em, eq⟩
      · rcases sat l q' h5 with ⟨e', g5⟩ | ⟨el, eq'⟩
        · exact R.nd m l b q q' (rat m b h1 e) (rat l b h2 e') h3 g4 g5 h6 h7
        · rw [el] at h2
          have := ran b h2
          subst this
          exact .inl (hd m q (rat m _ h1 e) g4 h6)
      · rcases sat l q' h5 with ⟨e', g5⟩ | ⟨el, eq'⟩
        · rw [em] at h1
          have := ran b h1
          subst this
          exact .inr (hd l q' (rat l _ h2 e') g5 h7)
        · exact absurd (em.trans el.symm) h3
    so := fun m b q h1 h2 h3 => by
      rcases sat m q h2 with ⟨e, h2⟩ | ⟨rfl, rfl⟩
      · exact (R.so m b q (rat m b h1 e) h2 h3).move (fun u h => h) k p
      · have := ran b h1
        subst this
        exact r
    sc := fun m q h1 h2 => by
      rcases sat m q h1 with ⟨e, h1⟩ | ⟨rfl, rfl⟩
      · exact R.sc m q h1 h2
      · exact absurd (cel _ h2) (Nat.lt_irrefl _)
    el := R.el
    ev := fun j d h => let ⟨v, h1, h2⟩ := R.ev j d h; ⟨v, h1, h2.keep k p⟩
    eo := fun j ys h => let ⟨q, ws, h1, h2, h3, h4, h5⟩ := R.eo j ys h; ⟨q, ws, h1, h2, h3.keep k p, dd q (fun e => hn j ys h (e ▸ h1)) h4, h5⟩
    ed := R.ed
    ec := fun j m h => by
      obtain ⟨x, b, h1, h2, h3, h4⟩ := R.ec j m h
      refine ⟨x, b, h1, pre_get p h2, h3, fun d hd => ?_⟩
      rcases sat m _ hd with ⟨_, hd⟩ | ⟨rfl, _⟩
      · obtain ⟨q1, v, q2, q3⟩ := h4 d hd
        exact ⟨q1, v, q2, q3.keep k p⟩
      · exact absurd (cel _ (List.mem_of_getElem? h)) (Nat.lt_irrefl _)
    ei := R.ei }

/-! ### displays -/
def tAny (X : Cx) (G : Glo) (nc : Bool) (fld : Nat → List Str) (W : WX) (m : En → So → KP.R D) : TE := fun σ H Q => ∃ B : Bs, B.nc = nc ∧ tOf X.K G X B fld W m σ H Q
def trsOf (X : Cx) (G : Glo) (nc : Bool) (fld : Nat → List Str) (W : WX) (cx : Cc) : List Ky → Exs → List (TE × TE)
  | k :: ks, .cons a as => (tC (kV k), tAny X G nc fld W (E cx a)) :: trsOf X G nc fld W cx ks as
  | _, _ => []
/-- rows of keys and values -/
structure PDm (X : Cx) (G : Glo) (nc : Bool) (fld : Nat → List Str) (W : WX) (cx : Cc) (pos : Pos) (keys : List (Option Expr)) (values : List Expr) (ks : List Ky) (as : Exs) : Prop where
  pps : PPs X pos keys values (trsOf X G nc fld W cx ks as)
  some_ : keys.all (·.isSome) = true
  len : keys.length = values.length
  len2 : keys.length = ks.length
  len3 : ks.length = as.len
theorem dm_nil {nc : Bool} : PDm X G nc fld W cx pos [] [] [] .nil := ⟨pps_nil, rfl, rfl, rfl, rfl⟩
theorem dm_cons {nc : Bool} {k : Ky} {ke v : Expr} {a : Ex} {keys : List (Option Expr)} {values : List Expr} {ks : List Ky} {as : Exs} (hk : PE X ke (tC (kV k))) (hv : ∀ B : Bs, B.nc = nc → PEm X G B fld W cx v a) (r : PDm X G nc fld W cx pos keys values ks as) :
    PDm X G nc fld W cx pos (some ke :: keys) (v :: values) (k :: ks) (.cons a as) :=
  ⟨pps_cons hk ⟨fun pins s σ H Q I ⟨B, hB, q⟩ => (hv B hB).run pins s σ H Q I q⟩ r.pps, by rw [List.all_cons, r.some_]; rfl, congrArg Nat.succ r.len, congrArg Nat.succ r.len2, congrArg Nat.succ r.len3⟩
theorem trs_run {nc : Bool} : ∀ {ks : List Ky} {as : Exs} {B : Bs} {env : En} {st : So} {σ : L2.St} {H : Hp} {ρ : List Addr} {Q : List (V × V) → Hp → Prop}, ks.length = as.len → B.nc = nc → Rel X.K G X B σ H env st ρ →
    Post X.K G X B fld W (Es cx as env st) σ H ρ (fun xs H' ρ' _ _ => ∀ vs, RepL X.K G H' ρ' xs vs → Q ((ks.map kV).zip vs) H') → tPairs (trsOf X G nc fld W cx ks as) σ H Q
  | [], .nil, B, env, st, σ, H, ρ, Q, _, hB, R, h => Post.now (show Post X.K G X B fld W (.ok [] env st) σ H ρ _ from h) R [] .nil
  | k :: ks, .cons a as, B, env, st, σ, H, ρ, Q, hl, hB, R, h => by
    rw [Es] at h
    refine ⟨B, hB, env, st, ρ, R, (Post.bind h).imp fun d H1 ρ1 e1 s1 k1 p1 R1 h1 v rv => ?_⟩
    refine trs_run (by simpa [Exs.len] using hl) hB R1 ((Post.bind h1).imp fun xs H2 ρ2 e2 s2 k2 p2 R2 h2 vs rs => ?_)
    exact Post.now h2 R2 (v :: vs) (.cons (rv.keep k2 p2) rs)
  | [], .cons _ _, _, _, _, _, _, _, _, hl, _, _, _ => by cases hl
  | _ :: _, .nil, _, _, _, _, _, _, _, hl, _, _, _ => by cases hl
theorem zip_pairs : ∀ {ks : List Ky} {vs : List V}, ks.length = vs.length → (ks.map kV).zip vs = (ks.zip vs).map (fun kv => (kV kv.1, kv.2))
  | [], [], _ => rfl
  | k :: ks, v :: vs, h => by
    rw [List.map_cons, List.zip_cons_cons, List.zip_cons_cons, List.map_cons, zip_pairs (by simpa using h)]
  | [], _ :: _, h => by cases h
  | _ :: _, [], h => by cases h
theorem mergeK_app : ∀ (more kvs : List (Key × V)), ((kvs ++ more).map (·.1)).Nodup → mergeK kvs more = kvs ++ more
  | [], kvs, _ => (List.append_nil kvs).symm
  | p :: more, kvs, h => by
    have e : mergeK kvs (p :: more) = mergeK (L2.putK kvs p.1 p.2) more := rfl
    have e2 : L2.putK kvs p.1 p.2 = kvs ++ [p] := by
      unfold L2.putK
      rw [if_neg]
      intro q
      rw [List.any_eq_true] at q
      obtain ⟨z, hz, hz2⟩ := q
      rw [List.map_append, List.nodup_append] at h
      exact h.2.2 z.1 (List.mem_map_of_mem hz) p.1 (by simp) (of_decide_eq_true hz2)
    rw [e, e2, mergeK_app more (kvs ++ [p]) (by rw [List.append_assoc]; exact h), List.append_assoc]
    rfl
theorem kd_zip : ∀ {ks : List Ky} {xs : List D} {vs : List V}, ks.length = xs.length → RepL X.K G H ρ xs vs → KDP X.K G H ρ (ks.zip xs) (ks.zip vs)
  | [], [], [], _, .nil => .nil
  | k :: ks, _, _, h, .cons r t => .cons ⟨rfl, r⟩ (kd_zip (by simpa using h) t)
theorem em_dic {keys : List (Option Expr)} {values : List Expr} {ks : List Ky} {as : Exs} (hd : PDm X G B.nc fld W cx pos keys values ks as) (h0 : keys ≠ []) (h15 : keys.length ≤ 15) : PEm X G B fld W cx (.Dict keys values pos) (.dic ks as) := by
  refine pe_of (pe_disp hd.pps hd.some_ hd.len h0 h15) fun σ H Q ⟨env, st, ρ, R, h⟩ => ?_
  rw [E] at h
  intro p hp
  refine trs_run (B := gB B H env σ ρ p (.dK [])) hd.len3 rfl (R.guard hp fun ps z => by cases z) ?_
  have key := Post.bind h
  have nw : ∀ {r : KP.R (List D)} {ψ : List D → Hp → List Addr → En → So → Prop}, Post X.K G X B fld W r σ H ρ ψ → Post X.K G X (gB B H env σ ρ p (.dK [])) fld W r σ (upd H p (.dK [])) ρ (fun xs H' ρ' e s => ψ xs H' ρ' e s ∧ Rel X.K G X B σ H' e s ρ' ∧ H' p = some (.dK []) ∧ Dead ρ' s e p ∧ B.h p = none) := by
    intro r ψ hr
    cases r with
    | ok xs e s =>
      intro H' ρ' k pr R'
      have z := R.unguard hp R'
      exact ⟨hr H' ρ' ((same_new hp).keep.trans k) pr z.1, z⟩
    | exc x e s =>
      intro cls dd H' ρ' k pr R' xr
      have z := R.unguard hp R'
      exact hr cls dd H' ρ' ((same_new hp).keep.trans k) pr z.1 xr
    | stuck => exact hr
  refine (nw key).impE fun xs H1 ρ1 e1 s1 eq k1 p1 R1 ⟨h1, R2, hp2, hdead, nB⟩ vs rs => ?_
  split at h1
  · rename_i hc
    have hlv : ks.length = vs.length := by rw [hc.1, rs.length]
    refine ⟨hp2, ks.zip vs, zip_pairs hlv, ?_, ?_⟩
    · rw [List.length_zip, ← hlv, Nat.min_self, ← hd.len2]
      exact h15
    · have nodup : ((ks.zip vs).map (·.1)).Nodup := by
        rw [List.map_fst_zip (by omega)]
        exact hc.2
      have em : mergeK [] (ks.zip vs) = ks.zip vs := mergeK_app (ks.zip vs) [] nodup
      rw [em]
      have c : Chg H1 (upd H1 p (.dK (ks.zip vs))) p := .dK hp2
      have hn : ∀ (i : Nat) (xs : List D), e1[i]? = some (.own xs) → σ[i]? ≠ some (some (.ref p)) := fun i ys he hs => by
        obtain ⟨q, ws, g1, g2, _⟩ := R2.eo i ys he
        rw [hs] at g1
        cases g1
        rw [hp2] at g2
        cases g2
      have R3 := R2.free c hdead nB hn
      have R4 := R3.grow (ob := .dic (ks.zip xs)) hdead nB hn ⟨_, upd_same, (kd_zip hc.1 rs).keep c.keep (List.prefix_append ..)⟩
      refine h1 _ _ c.keep (List.prefix_append ..) R4 _ (.ref ?_)
      rw [← R2.len, List.getElem?_append_right (Nat.le_refl _), Nat.sub_self]
      rfl
  · exact h1.elim
theorem em_dic0 : PEm X G B fld W cx (.Dict [] [] pos) (.dic [] .nil) := by
  refine pe_of pe_dnewK fun σ H Q ⟨env, st, ρ, R, h⟩ => ?_
  rw [E, Es] at h
  intro p hp
  have h : Post X.K G X B fld W (.ok (.ref st.length) env (st ++ [.dic []])) σ H ρ fun d H' ρ' _ _ => ∀ v, Rep X.K G H' ρ' d v → Q v H' := h
  refine h _ (ρ ++ [p]) (.new hp) (List.prefix_append ..) (R.objNew hp ⟨[], upd_same, .nil⟩) _ (.ref ?_)
  rw [← R.len, List.getElem?_append_right (Nat.le_refl _), Nat.sub_self]
  rfl
/-- a dict that has just been laid is locked -/
theorem pe_lockD_at {e : Expr} {t : TE} (h : PE X e t) : PE X e (fun σ H Q => t σ H fun v H' => ∃ p kvs, v = .ref p ∧ H' p = some (.dK kvs) ∧ (∀ o, Q (.ref p) (upd H' p (.frz o (.dK kvs))))) := by
  refine ⟨fun pins s σ H Q I q => thn (h.run pins s σ H _ I q) fun u s1 ⟨v, H', I', r, p, vs, e1, e3, q1⟩ => ?_⟩
  subst e1
  obtain ⟨o, I2⟩ := I'.lock e3 True.intro
  exact ⟨.ref p, _, I2, r, q1 o⟩
theorem em_dct0 : PEm X G B fld W cx (.Dict [] [] pos) (.dct [] .nil) := by
  refine pe_of (pe_lockD_at pe_dnewK) fun σ H Q ⟨env, st, ρ, R, h⟩ => ?_
  rw [E, Es] at h
  intro p hp
  have h : Post X.K G X B fld W (.ok (.dct [] []) env st) σ H ρ fun d H' ρ' _ _ => ∀ v, Rep X.K G H' ρ' d v → Q v H' := h
  refine ⟨p, [], rfl, upd_same, fun o => ?_⟩
  rw [upd_upd]
  exact h _ ρ (.new hp) (List.prefix_refl _) (R.same (same_new hp)) _ (.dct (vs := []) rfl ⟨o, upd_same⟩ .nil)
end
end KP
end
section
set_option autoImplicit false
set_option linter.all false
set_option maxRecDepth 100000
set_option maxHeartbeats 4000000
/-! KXp: a frame's cells are told to whom it calls. -/
namespace KP
open PySem PySem.Spec PyProof.Rows L2

section
variable {P : Program} {w : World} {K : PySem.W.Frag} {mg : Str → Option Value} {base : Heap} {A : Around} {outer : List Env} {s s' : Shared} {H : Hp} {xp : Addr → Option V}
/-- which cells are told, with what is in them -/
structure Xp (base : Heap) (outer : List Env) (H : Hp) (h : Heap) (xp : Addr → Option V) : Prop where
  none_ : ∀ a v, xp a = some v → H a = none
  cell : ∀ a v, xp a = some v → ∃ u, RelV v u ∧ h.IsCell a (some u)
  nf : ∀ a v, xp a = some v → a ∉ frs outer
  nb : ∀ a v, xp a = some v → base.get? a = none
def plusH (h : Heap) (xp : Addr → Option V) (H : Hp) : Hp := fun a => match xp a with
  | some v => some (.frz ((h.get? a).getD default) (CelO a v))
  | none => H a
def strip (xp : Addr → Option V) (H : Hp) : Hp := fun a => match xp a with
  | some _ => none
  | none => H a
theorem plus_none {h : Heap} {a : Addr} (e : xp a = none) : plusH h xp H a = H a := by
  unfold plusH
  rw [e]
theorem plus_some {h : Heap} {a : Addr} {v : V} (e : xp a = some v) : plusH h xp H a = some (.frz ((h.get? a).getD default) (CelO a v)) := by
  unfold plusH
  rw [e]
theorem strip_none {a : Addr} (e : xp a = none) : strip xp H a = H a := by
  unfold strip
  rw [e]
theorem strip_some {a : Addr} {v : V} (e : xp a = some v) : strip xp H a = none := by
  unfold strip
  rw [e]
theorem Xp.same (x : Xp base outer H s.heap xp) : Same H (plusH s.heap xp H) := fun b u h => by
  cases e : xp b with
  | none => rw [plus_none e]; exact h
  | some v =>
    rw [x.none_ b v e] at h
    cases h
theorem Xp.hok (x : Xp base outer H s.heap xp) (hk : HOk P w H s.heap) : HOk P w (plusH s.heap xp H) s.heap := fun a o h => by
  cases e : xp a with
  | none =>
    rw [plus_none e] at h
    exact ObjOk.stay (hk a o h) (fun b u _ q => q) (fun b q => x.same _ _ q) (fun b xs q => x.same _ _ q)
  | some v =>
    rw [plus_some e] at h
    cases h
    obtain ⟨u, r, oc, h1, h2⟩ := x.cell a v e
    have e1 : (s.heap.get? a).getD default = oc := by rw [h1]; rfl
    rw [e1]
    refine ⟨h1, ⟨u, r, oc, h1, h2⟩, ⟨oc, h1⟩, fun g1 g2 ⟨u', r', o', q1, q2⟩ k => ⟨u', r', o', k _ q1, q2⟩⟩
theorem Xp.env0 (x : Xp base outer H s.heap xp) (e : Env0 P w K mg base A outer s H) : Env0 P w K mg base A outer s (plusH s.heap xp H) where
  frames := e.frames
  mod := e.mod
  bs := fun b o h => ⟨(e.bs b o h).1, by
    cases q : xp b with
    | none => rw [plus_none q]; exact (e.bs b o h).2
    | some v =>
      rw [x.nb b v q] at h
      cases h⟩
  bsz := e.bsz
  funs := e.funs
  frf := fun b hb => by
    cases q : xp b with
    | none => rw [plus_none q]; exact e.frf b hb
    | some v => exact absurd hb (x.nf b v q)
  hok := x.hok e.hok
  bare := e.bare
theorem strip_hok {H' : Hp} {h' : Heap} (k : ∀ a v, xp a = some v → ∃ o u, H' a = some (.frz o u)) (hk : HOk P w H' h') : HOk P w (strip xp H') h' := fun a o h => by
  cases e : xp a with
  | some v =>
    rw [strip_some e] at h
    cases h
  | none =>
    rw [strip_none e] at h
    have nn : ∀ b u, H' b = some u → (∀ o v, u ≠ .frz o v) → strip xp H' b = some u := fun b u q n => by
      cases e : xp b with
      | none => rw [strip_none e]; exact q
      | some v =>
        obtain ⟨o, u', z⟩ := k b v e
        rw [z] at q
        cases q
        exact absurd rfl (n o u')
    exact ObjOk.stay (hk a o h) (fun b u _ q => q) (fun b q => nn _ _ q (fun o v z => by cases z)) (fun b xs q => nn _ _ q (fun o v z => by cases z))
/-- what is known behind a call whose caller told its cells -/
structure Told (xp : Addr → Option V) (h : Heap) (H H' H'' : Hp) : Prop where
  st : H'' = strip xp H'
  kept : ∀ a v, xp a = some v → H' a = some (.frz ((h.get? a).getD default) (CelO a v))
  free : ∀ b o, h.get? b = some o → H b = none → H'' b = none
theorem strip_CE {Q : VK} {u : Value} (x : Xp base outer H s.heap xp) (c : CE outer P w (plusH s.heap xp H) s Q u s') : CE outer P w H s (fun v H'' => ∃ H', Told xp s.heap H H' H'' ∧ Q v H') u s' := by
  obtain ⟨v, H', os, bare, un, hok, r, q⟩ := c
  have kept : ∀ a v, xp a = some v → H' a = some (.frz ((s.heap.get? a).getD default) (CelO a v)) := fun a v e => un.frzs a _ _ (plus_some e)
  have free : ∀ b o, s.heap.get? b = some o → H b = none → strip xp H' b = none := fun b o e n => by
    cases z : xp b with
    | some v => exact strip_some z
    | none =>
      rw [strip_none z]
      exact un.free b o e (by rw [plus_none z]; exact n) (by simp)
  have cellAt : ∀ b v o, xp b = some v → s.heap.get? b = some o → s'.heap.get? b = some o := fun b v o z e => by
    have := hok b _ (kept b v z)
    rw [e] at this
    exact this.1
  refine ⟨v, strip xp H', os, bare, ?_, strip_hok (fun a v e => ⟨_, _, kept a v e⟩) hok, r, H', ⟨rfl, kept, free⟩, q⟩
  exact {
    keep := fun b o e n hb hx => by
      cases z : xp b with
      | none => exact un.keep b o e (by rw [plus_none z]; exact n) hb hx
      | some v => exact cellAt b v o z e
    slot := fun b o e n hb hx => by
      cases z : xp b with
      | none => exact un.slot b o e (by rw [plus_none z]; exact n) hb hx
      | some v => exact absurd hb (x.nf b v z)
    free := fun b o e n _ => free b o e n
    there := un.there
    tups := fun b xs h => by
      cases z : xp b with
      | none =>
        rw [strip_none z]
        exact un.tups b xs (by rw [plus_none z]; exact h)
      | some v =>
        rw [x.none_ b v z] at h
        cases h
    frzs := fun b o u h => by
      cases z : xp b with
      | none =>
        rw [strip_none z]
        exact un.frzs b o u (by rw [plus_none z]; exact h)
      | some v =>
        rw [x.none_ b v z] at h
        cases h
    tbls := fun b ps h => by
      cases z : xp b with
      | none =>
        rw [strip_none z]
        exact un.tbls b ps (by rw [plus_none z]; exact h)
      | some v =>
        rw [x.none_ b v z] at h
        cases h }
theorem strip_CX {E : XK} {u : Value} (x : Xp base outer H s.heap xp) (c : L2.CX P w outer (plusH s.heap xp H) s E u s') : L2.CX P w outer H s (fun cls d H'' => ∃ H', Told xp s.heap H H' H'' ∧ E cls d H') u s' := by
  obtain ⟨a, B, H', cls, d, rfl, fl, hok, ub, na, os, ag, hE⟩ := c
  have kept : ∀ a v, xp a = some v → H' a = some (.frz ((s.heap.get? a).getD default) (CelO a v)) := fun a v e => ub.frzs a _ _ (plus_some e)
  have free : ∀ b o, s.heap.get? b = some o → H b = none → strip xp H' b = none := fun b o e n => by
    cases z : xp b with
    | some v => exact strip_some z
    | none =>
      rw [strip_none z]
      exact ub.free b o e (by rw [plus_none z]; exact n)
  refine ⟨a, B, strip xp H', cls, d, rfl, fl, strip_hok (fun a v e => ⟨_, _, kept a v e⟩) hok, ?_, ?_, os, ag, H', ⟨rfl, kept, free⟩, hE⟩
  · exact {
      keep := fun b o e n hb => by
        cases z : xp b with
        | none => exact ub.keep b o e (by rw [plus_none z]; exact n) hb
        | some v =>
          have := hok b _ (kept b v z)
          rw [e] at this
          exact this.1
      slot := ub.slot
      free := free
      there := ub.there
      tups := fun b xs h => by
        cases z : xp b with
        | none =>
          rw [strip_none z]
          exact ub.tups b xs (by rw [plus_none z]; exact h)
        | some v =>
          rw [x.none_ b v z] at h
          cases h
      frzs := fun b o u h => by
        cases z : xp b with
        | none =>
          rw [strip_none z]
          exact ub.frzs b o u (by rw [plus_none z]; exact h)
        | some v =>
          rw [x.none_ b v z] at h
          cases h
      tbls := fun b ps h => by
        cases z : xp b with
        | none =>
          rw [strip_none z]
          exact ub.tbls b ps (by rw [plus_none z]; exact h)
        | some v =>
          rw [x.none_ b v z] at h
          cases h }
  · cases z : xp a with
    | none => rw [strip_none z]; exact na
    | some v => exact strip_some z
end
end KP
end
section
set_option autoImplicit false
set_option linter.all false
set_option maxRecDepth 100000
set_option maxHeartbeats 4000000
/-! KCall: calls between frames. -/
namespace KP
open PySem PySem.Spec PyProof.Rows L2

/-- the store between frames -/
structure SRel (K : PySem.W.Frag) (G : Glo) (av : Addr → Prop) (H : Hp) (st : So) (ρ : List Addr) : Prop where
  len : ρ.length = st.length
  nd : ∀ (n m : Nat) (a : Addr) (ob ob' : Ob), ρ[n]? = some a → ρ[m]? = some a → n ≠ m → st[n]? = some ob → st[m]? = some ob' → ob = .cel none ∨ ob' = .cel none
  so : ∀ (n : Nat) (a : Addr) (ob : Ob), ρ[n]? = some a → st[n]? = some ob → ObRep K G H ρ a ob
  tb : ∀ p ∈ G.T, LamX.TabS H p.1 p.2
  pt : ∀ a, av a → ∀ ps, H a ≠ some (.tbl ps)
  pv : ∀ a, av a → ∃ o, H a = some o ∧ ∀ (n : Nat) (ob : Ob), ρ[n]? = some a → st[n]? = some ob → ob = .cel none
/-- what a call gives back -/
structure Back (K : PySem.W.Frag) (G : Glo) (av : Addr → Prop) (H : Hp) (ρ : List Addr) (H' : Hp) (st' : So) (ρ' : List Addr) : Prop where
  keep : Keep H H'
  gr : Grow H ρ H' ρ'
  sr : SRel K G av H' st' ρ'
  av : ∀ a, av a → H' a = H a
def PostC (K : PySem.W.Frag) (G : Glo) (fld : Nat → List Str) (av : Addr → Prop) (r : Rc) (H : Hp) (ρ : List Addr) (Q : VK) (E : XK) : Prop := match r with
  | .ok d st' => ∀ H' ρ' v, Back K G av H ρ H' st' ρ' → Rep K G H' ρ' d v → Q v H'
  | .exc x st' => ∀ cls dd H' ρ', Back K G av H ρ H' st' ρ' → XRep K G fld H' ρ' x cls dd → E cls dd H'
  | .stuck => False
/-- the promise of what does m -/
def spC (K : PySem.W.Frag) (G : Glo) (fld : Nat → List Str) (m : List D → So → Rc) : Sp := fun vs H Q E => ∃ av ρ st ds, SRel K G av H st ρ ∧ RepL K G H ρ ds vs ∧ PostC K G fld av (m ds st) H ρ Q E
/-- a callee at f -/
def FnG (P : Program) (w : World) (K : PySem.W.Frag) (mg : Str → Option Value) (base : Heap) (k : Nat) (f : Addr) (sp : Sp) : Prop :=
  ∀ (A : Around) (outer : List Env) (s : Shared) (H : Hp) (us : List Value) (vs : List V) (Q : VK) (E : XK), Room k A → A.guards = some [] → Env0 P w K mg base A outer s H → Vals vs us → sp vs H Q E →
    codeAny (model P w) A (.call (.ref f) ⟨us, []⟩) (CR (L2.CX P w) outer P w H s Q E) s

section
variable {X : Cx} {G : Glo} {B : Bs} {fld : Nat → List Str} {W : WX} {cx : Cc} {pos : Pos} {σ : L2.St} {H : Hp} {ρ : List Addr} {env : En} {st : So}
/-- a cell of the frame at a, v in it -/
def OC (env : En) (st : So) (σ : L2.St) (ρ : List Addr) (a : Addr) (v : V) : Prop := ∃ (i n : Nat) (d : D), env[i]? = some (.cel n) ∧ st[n]? = some (.cel (some d)) ∧ ρ[n]? = some a ∧ σ[i]? = some (some v)
open Classical in
noncomputable def xpOf (env : En) (st : So) (σ : L2.St) (ρ : List Addr) (a : Addr) : Option V := if h : ∃ v, OC env st σ ρ a v then some (choose h) else none
theorem xpOf_some {a : Addr} {v : V} (h : xpOf env st σ ρ a = some v) : OC env st σ ρ a v := by
  unfold xpOf at h
  split at h
  · rename_i q
    cases h
    exact Classical.choose_spec q
  · cases h
theorem xpOf_of {a : Addr} {v : V} (h : OC env st σ ρ a v) : ∃ v', xpOf env st σ ρ a = some v' := by
  unfold xpOf
  rw [dif_pos ⟨v, h⟩]
  exact ⟨_, rfl⟩
theorem Rel.xp {pins : List (Addr × Obj)} {s : Shared} (R : Rel X.K G X B σ H env st ρ) (I : Inv X pins σ H s) : Xp X.base X.stack H s.heap (xpOf env st σ ρ) := by
  have key : ∀ a v, xpOf env st σ ρ a = some v → H a = none ∧ (∃ u, RelV v u ∧ s.heap.IsCell a (some u)) ∧ a ∉ frs X.stack ∧ X.base.get? a = none := fun a v h => by
    obtain ⟨i, n, d, h1, h2, h3, h4⟩ := xpOf_some h
    obtain ⟨x, b, e1, e2, e3, e4⟩ := R.ec i n h1
    rw [h3] at e2
    cases e2
    obtain ⟨hv, v', q1, _⟩ := e4 d h2
    rw [h4] at q1
    cases q1
    obtain ⟨l1, l2, l3, l4⟩ := e3 hv
    obtain ⟨m, _, lo⟩ := I.loc
    obtain ⟨u, ru, lk⟩ := lo i x v e1 h4 hv
    refine ⟨I.freeC x a l1, ⟨u, ru, ?_⟩, l4, l3⟩
    rcases lk with ⟨lk, _⟩ | ⟨_, c, c1, c2⟩
    · exact absurd lk l2
    · rw [l1] at c1
      cases c1
      exact c2
  exact ⟨fun a v h => (key a v h).1, fun a v h => (key a v h).2.1, fun a v h => (key a v h).2.2.1, fun a v h => (key a v h).2.2.2⟩
theorem Rel.oc_inj {pins : List (Addr × Obj)} {s : Shared} (hN : X.N.Nodup) (R : Rel X.K G X B σ H env st ρ) (I : Inv X pins σ H s) {a : Addr} {i n i' n' : Nat} {d d' : D} (h1 : env[i]? = some (.cel n)) (h2 : st[n]? = some (.cel (some d))) (h3 : ρ[n]? = some a)
    (g1 : env[i']? = some (.cel n')) (g2 : st[n']? = some (.cel (some d'))) (g3 : ρ[n']? = some a) : i = i' ∧ n = n' := by
  obtain ⟨x, b, e1, e2, e3, e4⟩ := R.ec i n h1
  rw [h3] at e2
  cases e2
  obtain ⟨y, c, f1, f2, f3, f4⟩ := R.ec i' n' g1
  rw [g3] at f2
  cases f2
  have exy := I.ok.inj x y a (e3 (e4 d h2).1).1 (f3 (f4 d' g2).1).1
  subst exy
  have eij : i = i' := by
    obtain ⟨hi1, hi2⟩ := List.getElem?_eq_some_iff.mp e1
    obtain ⟨hj1, hj2⟩ := List.getElem?_eq_some_iff.mp f1
    exact (List.getElem_inj hN).mp (hi2.trans hj2.symm)
  subst eij
  rw [h1] at g1
  cases g1
  exact ⟨rfl, rfl⟩
/-- what no callee may change: lists that places alone hold, what the frame may not change either -/
def avOf (B : Bs) (env : En) (σ : L2.St) : Addr → Prop := fun a => B.av a ∨ ∃ (i : Nat) (xs : List D), env[i]? = some (.own xs) ∧ σ[i]? = some (some (.ref a))
/-- the store as a callee sees it -/
theorem Rel.srel {pins : List (Addr × Obj)} {s : Shared} (hN : X.N.Nodup) (R : Rel X.K G X B σ H env st ρ) (I : Inv X pins σ H s) : SRel X.K G (avOf B env σ) (plusH s.heap (xpOf env st σ ρ) H) st ρ := by
  have x := R.xp I
  have sm := x.same
  have celv : ∀ n a ob, Sl.cel n ∈ env → ρ[n]? = some a → st[n]? = some ob → ob = .cel none ∨ ∃ (i : Nat) (d : D) (v : V), env[i]? = some (Sl.cel n) ∧ ob = .cel (some d) ∧ σ[i]? = some (some v) ∧ Rep X.K G H ρ d v ∧ xpOf env st σ ρ a = some v := fun n a ob hm h1 h2 => by
    obtain ⟨w, rfl⟩ := R.sc n ob h2 hm
    cases w with
    | none => exact .inl rfl
    | some d =>
      obtain ⟨i, hi, ei⟩ := List.getElem_of_mem hm
      have hi' : env[i]? = some (Sl.cel n) := by rw [List.getElem?_eq_getElem hi, ei]
      obtain ⟨y, b, e1, e2, e3, e4⟩ := R.ec i n hi'
      obtain ⟨_, v, q1, q2⟩ := e4 d h2
      obtain ⟨v', hv'⟩ := xpOf_of ⟨i, n, d, hi', h2, h1, q1⟩
      obtain ⟨i', n', d', g1, g2, g3, g4⟩ := xpOf_some hv'
      obtain ⟨ei, en⟩ := R.oc_inj hN I hi' h2 h1 g1 g2 g3
      subst ei
      rw [q1] at g4
      cases g4
      exact .inr ⟨i, d, v, hi', rfl, q1, q2, hv'⟩
  have live : ∀ n a ob, ρ[n]? = some a → st[n]? = some ob → Sl.cel n ∉ env → H a = none → ob = .cel none := fun n a ob h1 h2 h3 h4 => (R.so n a ob h1 h2 h3).dead h4
  exact {
    len := R.len
    nd := fun n m a ob ob' h1 h2 h3 h4 h5 => by
      by_cases c1 : Sl.cel n ∈ env
      · rcases celv n a ob c1 h1 h4 with q | ⟨i, d, v, g1, rfl, g3, _, gx⟩
        · exact .inl q
        · by_cases c2 : Sl.cel m ∈ env
          · rcases celv m a ob' c2 h2 h5 with q' | ⟨i', d', v', g1', rfl, g3', _, _⟩
            · exact .inr q'
            · exact absurd (R.oc_inj hN I g1 h4 h1 g1' h5 h2).2 h3
          · exact .inr (live m a ob' h2 h5 c2 (x.none_ a v gx))
      · by_cases c2 : Sl.cel m ∈ env
        · rcases celv m a ob' c2 h2 h5 with q' | ⟨i', d', v', g1', rfl, g3', _, gx⟩
          · exact .inr q'
          · exact .inl (live n a ob h1 h4 c1 (x.none_ a v' gx))
        · exact R.nd n m a ob ob' h1 h2 h3 h4 h5 c1 c2
    so := fun n a ob h1 h2 => by
      by_cases c1 : Sl.cel n ∈ env
      · rcases celv n a ob c1 h1 h2 with q | ⟨i, d, v, g1, rfl, g3, g4, gx⟩
        · rw [q]
          exact True.intro
        · exact ⟨_, v, plus_some gx, g4.same sm⟩
      · exact (R.so n a ob h1 h2 c1).same sm
    tb := fun p hp => (R.tb p hp).ext sm
    pt := fun a h ps e => by
      have e0 : H a = some (.tbl ps) := by
        cases z : xpOf env st σ ρ a with
        | none => rw [plus_none z] at e; exact e
        | some v => rw [plus_some z] at e; cases e
      rcases h with h | ⟨i, xs, h1, h2⟩
      · obtain ⟨o, q1, q2, _⟩ := R.pv a h
        rw [e0] at q2
        cases q2
        exact R.pt a h ps q1
      · obtain ⟨p, ws, e1, e2, _⟩ := R.eo i xs h1
        rw [h2] at e1
        cases e1
        rw [e0] at e2
        cases e2
    pv := fun a h => by
      have key : ∃ o, H a = some o ∧ Dead ρ st env a := by
        rcases h with h | ⟨i, xs, h1, h2⟩
        · obtain ⟨o, _, q2, q3⟩ := R.pv a h
          exact ⟨o, q2, q3⟩
        · obtain ⟨p, ws, e1, e2, e3, e4, e5⟩ := R.eo i xs h1
          rw [h2] at e1
          cases e1
          exact ⟨_, e2, e4⟩
      obtain ⟨o, k1, k2⟩ := key
      refine ⟨o, sm _ _ k1, fun n ob q1 q2 => ?_⟩
      by_cases c1 : Sl.cel n ∈ env
      · rcases celv n a ob c1 q1 q2 with q | ⟨i, d, v, g1, rfl, g3, g4, gx⟩
        · exact q
        · rw [x.none_ a v gx] at k1
          cases k1
      · exact k2 n ob q1 q2 c1 }
theorem _root_.KP.Told.keepS {xp : Addr → Option V} {h : Heap} {H H' H'' : Hp} (t : Told xp h H H' H'') : Keep H' (strip xp H') := by
  have mv : ∀ a u, H' a = some u → (∀ o φ, u ≠ .frz o (.ext φ)) → strip xp H' a = some u := fun a u q hn => by
    cases z : xp a with
    | none => rw [strip_none z]; exact q
    | some v =>
      rw [t.kept a v z] at q
      cases q
      exact absurd rfl (hn _ _)
  exact {
    tups := fun a xs q => mv _ _ q fun o φ z => by cases z
    frzs := fun a o u q hn => mv _ _ q fun o φ z => by cases z; exact hn _ rfl
    codes := fun a q z => mv _ _ z fun o φ z => by unfold LamX.CodeO at z; cases z }
theorem _root_.KP.Told.tabK {xp : Addr → Option V} {h : Heap} {H H' H'' : Hp} (t : Told xp h H H' H'') {b : Addr} {q : Str} (z : LamX.TabS H' b q) : LamX.TabS (strip xp H') b q := by
  have mv : ∀ a u, H' a = some u → (∀ o φ, u ≠ .frz o (.ext φ)) → strip xp H' a = some u := fun a u q hn => by
    cases z : xp a with
    | none => rw [strip_none z]; exact q
    | some v =>
      rw [t.kept a v z] at q
      cases q
      exact absurd rfl (hn _ _)
  obtain ⟨ps, t1, t2, t3⟩ := z
  refine ⟨ps, mv _ _ t1 (fun o φ z => by cases z), t2, fun pos cv hc => ?_⟩
  obtain ⟨c, e1, e2⟩ := t3 pos cv hc
  exact ⟨c, e1, mv _ _ e2 fun o φ z => by unfold LamX.CodeO at z; cases z⟩
/-- the frame behind a call -/
theorem Rel.back {pins : List (Addr × Obj)} {s : Shared} {H' H'' : Hp} {st' : So} {ρ' : List Addr} (hN : X.N.Nodup) (R : Rel X.K G X B σ H env st ρ) (I : Inv X pins σ H s) (t : Told (xpOf env st σ ρ) s.heap H H' H'')
    (b : Back X.K G (avOf B env σ) (plusH s.heap (xpOf env st σ ρ) H) ρ H' st' ρ') (hc : cellsOn env st st' = true) : Keep H H'' ∧ ρ <+: ρ' ∧ Rel X.K G X B σ H'' env (openS env st st') ρ' := by
  have x := R.xp I
  have sm := x.same
  have p0 : ρ <+: ρ' := b.gr.pre
  have t1 := t.st
  subst t1
  have stp : ∀ a u, H a = some u → H' a = some u → strip (xpOf env st σ ρ) H' a = some u := fun a u h h' => by
    cases z : xpOf env st σ ρ a with
    | none => rw [strip_none z]; exact h'
    | some v =>
      rw [x.none_ a v z] at h
      cases h
  have k' : Keep H' (strip (xpOf env st σ ρ) H') := t.keepS
  have k : Keep H (strip (xpOf env st σ ρ) H') := (sm.keep.trans b.keep).trans k'
  have avk : ∀ a o, avOf B env σ a → H a = some o → strip (xpOf env st σ ρ) H' a = some o := fun a o h e => stp a o e (by rw [b.av a h]; exact sm _ _ e)
  have dead : ∀ a, avOf B env σ a → Dead ρ' (openS env st st') env a := fun a h n ob h1 h2 h3 => by
    rw [openS_out h3] at h2
    obtain ⟨o, _, q⟩ := b.sr.pv a h
    exact q n ob h1 h2
  refine ⟨k, p0, ?_⟩
  exact {
    gr := R.gr.trans {
      keep := fun a o h hn ht => stp a o h (b.gr.keep a o (sm _ _ h) hn ht)
      pre := p0
      new := fun a h hn => by
        have e := b.gr.new a h hn
        cases q : H a with
        | none => rfl
        | some u =>
          rw [sm _ _ q] at e
          cases e
      tbls := fun a ps h => by
        obtain ⟨m, e⟩ := b.gr.tbls a ps (sm _ _ h)
        refine ⟨m, ?_⟩
        cases z : xpOf env st σ ρ a with
        | none => rw [strip_none z]; exact e
        | some v =>
          rw [x.none_ a v z] at h
          cases h
      dom := fun a h => by
        cases z : xpOf env st σ ρ a with
        | some v => exact x.none_ a v z
        | none =>
          rw [strip_none z] at h
          have e := b.gr.dom a h
          rw [plus_none z] at e
          exact e }
    nc := R.nc
    tb := fun p hp => t.tabK (b.sr.tb p hp)
    pt := R.pt
    pv := fun a h => by
      obtain ⟨o, h1, h2, _⟩ := R.pv a h
      exact ⟨o, h1, avk a o (.inl h) h2, dead a (.inl h)⟩
    len := by rw [openS_len]; exact b.sr.len
    nd := fun n m a ob ob' h1 h2 h3 h4 h5 h6 h7 => by
      rw [openS_out h6] at h4
      rw [openS_out h7] at h5
      exact b.sr.nd n m a ob ob' h1 h2 h3 h4 h5
    so := fun n a ob h1 h2 h3 => by
      rw [openS_out h3] at h2
      have r := b.sr.so n a ob h1 h2
      cases z : xpOf env st σ ρ a with
      | none =>
        refine r.move (fun u h => ?_) k' (List.prefix_refl _)
        rw [strip_none z]
        exact h
      | some v =>
        -- the frame's own cell stands there: it is told still
        obtain ⟨i, m, d, g1, g2, g3, g4⟩ := xpOf_some z
        have hm : Sl.cel m ∈ env := List.mem_of_getElem? g1
        have hcm := List.all_eq_true.mp hc _ hm
        rw [cel1, g2] at hcm
        simp only at hcm
        have lm : ∃ d', st'[m]? = some (.cel (some d')) := by
          split at hcm
          · rename_i d' q
            exact ⟨d', q⟩
          · cases hcm
        obtain ⟨d', q⟩ := lm
        have nm : n ≠ m := fun e => h3 (e ▸ hm)
        rcases b.sr.nd n m a ob _ h1 (pre_get p0 g3) nm h2 q with e | e
        · rw [e]
          exact True.intro
        · cases e
    sc := fun n ob h1 h2 => by
      have e := openS_in h2 h1
      subst e
      cases q : st[n]? with
      | none => exact ⟨none, rfl⟩
      | some ob => exact R.sc n ob q h2
    el := R.el
    ev := fun j d h => let ⟨v, h1, h2⟩ := R.ev j d h; ⟨v, h1, h2.keep k p0⟩
    eo := fun j ys h => by
      obtain ⟨p, ws, h1, h2, h3, h4, h5⟩ := R.eo j ys h
      have ha : avOf B env σ p := .inr ⟨j, ys, h, h1⟩
      exact ⟨p, ws, h1, avk p _ ha h2, h3.keep k p0, dead p ha, h5⟩
    ed := R.ed
    ec := fun j n h => by
      obtain ⟨y, a, h1, h2, h3, h4⟩ := R.ec j n h
      refine ⟨y, a, h1, pre_get p0 h2, h3, fun d hd => ?_⟩
      have e := openS_in (List.mem_of_getElem? h) hd
      cases q : st[n]? with
      | none => rw [q] at e; cases e
      | some ob =>
        rw [q] at e
        have e : Ob.cel (some d) = ob := e
        subst e
        obtain ⟨q1, v, q2, q3⟩ := h4 d q
        exact ⟨q1, v, q2, q3.keep k p0⟩
    ei := R.ei }
/-- a callee runs -/
theorem run_call {pins : List (Addr × Obj)} {s : Shared} {k : Nat} {f : Addr} {m : List D → So → Rc} {ds : List D} {vs : List V} {us : List Value} {Q : VK} (C : Cok X) (tk : Takes X W) (hr : Room k X.A) (F : FnG X.prog X.w X.K X.mg X.base k f (spC X.K G fld m))
    (R : Rel X.K G X B σ H env st ρ) (I : Inv X pins σ H s) (rs : RepL X.K G H ρ ds vs) (ru : Vals vs us)
    (h : Post X.K G X B fld W (KP.R.back env st (m ds st)) σ H ρ fun d H' ρ' _ _ => ∀ v, Rep X.K G H' ρ' d v → Q v H') : wpAny (model X.prog X.w) X.A (call (.ref f) us) (EP X pins σ Q) X.xe s := by
  have x := R.xp I
  let Q' : VK := fun v H' => ∀ H'', Told (xpOf env st σ ρ) s.heap H H' H'' → Q v H''
  let E' : XK := fun cls d H' => ∀ H'', Told (xpOf env st σ ρ) s.heap H H' H'' → W cls d σ H''
  have sp : spC X.K G fld m vs (plusH s.heap (xpOf env st σ ρ) H) Q' E' := by
    refine ⟨avOf B env σ, ρ, st, ds, R.srel C.nd I, rs.same x.same, ?_⟩
    cases q : m ds st with
    | ok d st' =>
      rw [q] at h
      intro H' ρ' v b rv H'' t
      unfold KP.R.back at h
      simp only at h
      split at h
      · rename_i hc
        obtain ⟨k0, p0, R'⟩ := R.back C.nd I t b hc
        refine h H'' ρ' k0 p0 R' v ?_
        have t1 := t.st
        subst t1
        exact rv.keep t.keepS (List.prefix_refl _)
      · exact h.elim
    | exc xx st' =>
      rw [q] at h
      intro cls dd H' ρ' b xr H'' t
      unfold KP.R.back at h
      simp only at h
      split at h
      · rename_i hc
        obtain ⟨k0, p0, R'⟩ := R.back C.nd I t b hc
        refine h cls dd H'' ρ' k0 p0 R' ?_
        obtain ⟨e1, e0, d0, fs, e2, e3, e4⟩ := xr
        have t1 := t.st
        subst t1
        have k' : Keep H' (strip (xpOf env st σ ρ) H') := t.keepS
        refine ⟨e1, e0, d0, fs, e2, ?_, fun i nm q g1 g2 => let ⟨v, z1, z2⟩ := e4 i nm q g1 g2; ⟨v, z1, z2.keep k' (List.prefix_refl _)⟩⟩
        cases z : xpOf env st σ ρ d0 with
        | none => rw [strip_none z]; exact e3
        | some v =>
          rw [t.kept d0 v z] at e3
          cases e3
      · exact h.elim
    | stuck =>
      rw [q] at h
      exact h.elim
  refine wpAny_call (codeAny_mono (F X.A X.stack s _ us vs Q' E' hr C.guards (x.env0 I.env0) ru sp) fun r s' hq => ?_)
  cases r with
  | error e => exact tk e s' (XE.of_call I (fun cls d H' z => let ⟨H1, t, e⟩ := z; e H' t) (strip_CX x hq))
  | ok fl =>
    cases fl with
    | ret u =>
      obtain ⟨v, H1, I1, r1, H2, t, q⟩ := I.after (strip_CE x hq)
      exact ⟨v, H1, I1, r1, q H1 t⟩
    | next => exact False.elim hq
    | brk => exact False.elim hq
    | cont => exact False.elim hq
end
end KP
end
section
set_option autoImplicit false
set_option linter.all false
set_option maxRecDepth 100000
set_option maxHeartbeats 4000000
/-! KFn: defs keep what KCore says of them. -/
namespace KP
open PySem PySem.Spec PyProof.Rows L2

section
variable {X : Cx} {G : Glo} {B : Bs} {fld : Nat → List Str} {W : WX} {cx : Cc} {pos : Pos} {σ : L2.St} {H : Hp} {ρ : List Addr} {env : En} {st : So}
theorem env0_get {np ns i : Nat} {ds : List D} {sl : Sl} (h : (env0 np ns ds)[i]? = some sl) : (∃ d, ds[i]? = some d ∧ sl = .v d) ∨ sl = .no := by
  unfold env0 at h
  by_cases e : i < ds.length
  · rw [List.getElem?_append_left (by rw [List.length_map]; exact e), List.getElem?_map] at h
    obtain ⟨d, h1, h2⟩ := Option.map_eq_some_iff.mp h
    exact .inl ⟨d, h1, h2.symm⟩
  · rw [List.getElem?_append_right (by rw [List.length_map]; omega)] at h
    exact .inr (List.eq_of_mem_replicate (List.mem_of_getElem? h))
theorem env0_nocel {np ns n : Nat} {ds : List D} : Sl.cel n ∉ env0 np ns ds := fun h => by
  obtain ⟨i, hi, e⟩ := List.getElem_of_mem h
  rcases env0_get (show (env0 np ns ds)[i]? = some (Sl.cel n) by rw [List.getElem?_eq_getElem hi, e]) with ⟨d, _, q⟩ | q
  · cases q
  · cases q
/-- at a def's start -/
theorem rel_start {av : Addr → Prop} {nc : Bool} {ds : List D} {vs : List V} {np : Nat} (sr : SRel X.K G av H st ρ) (rs : RepL X.K G H ρ ds vs) (hl : ds.length = np) (hn : np ≤ X.N.length) :
    Rel X.K G X ⟨H, ρ, nc, av⟩ (L2.start X.N vs) H (env0 np X.N.length ds) st ρ where
  gr := Grow.refl H ρ
  nc := fun _ n => env0_nocel
  tb := sr.tb
  pt := sr.pt
  pv := fun a h => let ⟨o, h1, h2⟩ := sr.pv a h; ⟨o, h1, h1, fun n ob q1 q2 _ => h2 n ob q1 q2⟩
  len := sr.len
  nd := fun n m a ob ob' h1 h2 h3 h4 h5 _ _ => sr.nd n m a ob ob' h1 h2 h3 h4 h5
  so := fun n a ob h1 h2 _ => sr.so n a ob h1 h2
  sc := fun n ob _ h => absurd h env0_nocel
  el := by
    rw [env0, List.length_append, List.length_map, List.length_replicate]
    omega
  ev := fun i d h => by
    rcases env0_get h with ⟨d', h1, q⟩ | q
    · cases q
      obtain ⟨v, h2, h3⟩ := rs.get h1
      refine ⟨v, ?_, h3⟩
      unfold L2.start
      rw [List.getElem?_append_left (by rw [List.length_map]; exact (List.getElem?_eq_some_iff.mp h2).1), List.getElem?_map, h2]
      rfl
    · cases q
  eo := fun i xs h => by
    rcases env0_get h with ⟨d', h1, q⟩ | q <;> cases q
  ed := fun i j xs ys p h => by
    rcases env0_get h with ⟨d', h1, q⟩ | q <;> cases q
  ec := fun i n h => by
    rcases env0_get h with ⟨d', h1, q⟩ | q <;> cases q
  ei := fun i j n h => by
    rcases env0_get h with ⟨d', h1, q⟩ | q <;> cases q
/-- a place becomes a cell of the store -/
theorem Rel.lay {i : Nat} {x : Str} {a : Addr} {sl : Sl} (R : Rel X.K G X B σ H env st ρ) (hB : B.nc = false) (hi : env[i]? = some sl) (hs : ∀ n, sl ≠ .cel n) (hx : X.N[i]? = some x) (hv : Vis X.env.scope x)
    (ha : X.env.cells.lookup x = some a ∧ X.env.scope.names.lookup x ≠ some .local ∧ X.base.get? a = none ∧ a ∉ frs X.stack) (hn : H a = none) :
    Rel X.K G X B σ H (env.set i (.cel st.length)) (st ++ [.cel (slVal sl)]) (ρ ++ [a]) := by
  have k : Keep H H := Keep.refl H
  have p : ρ <+: ρ ++ [a] := List.prefix_append ..
  have hi' : i < env.length := (List.getElem?_eq_some_iff.mp hi).1
  have ati : (env.set i (.cel st.length))[i]? = some (.cel st.length) := List.getElem?_set_self hi'
  have at_ : ∀ j, j ≠ i → (env.set i (.cel st.length))[j]? = env[j]? := fun j hj => List.getElem?_set_ne (Ne.symm hj)
  have cel : ∀ m, Sl.cel m ∈ env → m < st.length := fun m h => by
    obtain ⟨j, hj, e⟩ := List.getElem_of_mem h
    obtain ⟨y, b, _, h2, _⟩ := R.ec j m (by rw [List.getElem?_eq_getElem hj, e])
    rw [← R.len]
    exact (List.getElem?_eq_some_iff.mp h2).1
  have celm : ∀ m, Sl.cel m ∈ env.set i (.cel st.length) ↔ (Sl.cel m ∈ env ∨ m = st.length) := fun m => by
    constructor
    · intro h
      rcases List.mem_or_eq_of_mem_set h with h | h
      · exact .inl h
      · cases h
        exact .inr rfl
    · rintro (h | rfl)
      · obtain ⟨j, hj, e⟩ := List.getElem_of_mem h
        have e' : env[j]? = some (Sl.cel m) := by rw [List.getElem?_eq_getElem hj, e]
        have q : j ≠ i := fun q => by
          subst q
          rw [hi] at e'
          cases e'
          exact hs m rfl
        rw [← at_ j q] at e'
        exact List.mem_of_getElem? e'
      · exact List.mem_of_getElem? ati
  have sat : ∀ m (q : Ob), (st ++ [.cel (slVal sl)])[m]? = some q → m ≠ st.length → st[m]? = some q := fun m q h e => by
    have hlt : m < st.length := by
      have := (List.getElem?_eq_some_iff.mp h).1
      rw [List.length_append, List.length_singleton] at this
      omega
    rw [List.getElem?_append_left hlt] at h
    exact h
  have rat : ∀ m b, (ρ ++ [a])[m]? = some b → m ≠ st.length → ρ[m]? = some b := fun m b h e => by
    have hlt : m < ρ.length := by
      have := (List.getElem?_eq_some_iff.mp h).1
      rw [List.length_append, List.length_singleton] at this
      have := R.len
      omega
    rw [List.getElem?_append_left hlt] at h
    exact h
  have dd : ∀ b, Dead ρ st env b → Dead (ρ ++ [a]) (st ++ [.cel (slVal sl)]) (env.set i (.cel st.length)) b := fun b h m q h1 h2 h3 => by
    rw [celm, not_or] at h3
    exact h m q (rat m b h1 h3.2) (sat m q h2 h3.2) h3.1
  exact {
    gr := R.gr.trans {
      keep := fun b o h _ _ => h
      pre := p
      new := fun b h hb => by
        rcases List.mem_append.mp h with h | h
        · exact absurd h hb
        · rw [List.mem_singleton.mp h]
          exact hn
      tbls := fun b ps h => ⟨#[], by rw [Array.append_empty]; exact h⟩
      dom := fun b h => h }
    nc := fun h => by rw [hB] at h; cases h
    tb := R.tb
    pt := R.pt
    pv := fun b h => let ⟨o, h1, h2, h3⟩ := R.pv b h; ⟨o, h1, h2, dd b h3⟩
    len := by rw [List.length_append, List.length_append, R.len]; rfl
    nd := fun n m b ob ob' h1 h2 h3 h4 h5 h6 h7 => by
      rw [celm, not_or] at h6 h7
      exact R.nd n m b ob ob' (rat n b h1 h6.2) (rat m b h2 h7.2) h3 (sat n ob h4 h6.2) (sat m ob' h5 h7.2) h6.1 h7.1
    so := fun n b ob h1 h2 h3 => by
      rw [celm, not_or] at h3
      exact (R.so n b ob (rat n b h1 h3.2) (sat n ob h2 h3.2) h3.1).move (fun u h => h) k p
    sc := fun n ob h1 h2 => by
      by_cases e : n = st.length
      · subst e
        rw [List.getElem?_append_right (Nat.le_refl _), Nat.sub_self] at h1
        cases h1
        exact ⟨_, rfl⟩
      · rcases (celm n).mp h2 with h2 | h2
        · exact R.sc n ob (sat n ob h1 e) h2
        · exact absurd h2 e
    el := by rw [List.length_set]; exact R.el
    ev := fun j d h => by
      have q : j ≠ i := fun q => by
        subst q
        rw [ati] at h
        cases h
      rw [at_ j q] at h
      obtain ⟨v, h1, h2⟩ := R.ev j d h
      exact ⟨v, h1, h2.keep k p⟩
    eo := fun j ys h => by
      have q : j ≠ i := fun q => by
        subst q
        rw [ati] at h
        cases h
      rw [at_ j q] at h
      obtain ⟨b, ws, h1, h2, h3, h4, h5⟩ := R.eo j ys h
      exact ⟨b, ws, h1, h2, h3.keep k p, dd b h4, h5⟩
    ed := fun j l xs ys q h1 h2 => by
      have q1 : j ≠ i := fun q => by
        subst q
        rw [ati] at h1
        cases h1
      have q2 : l ≠ i := fun q => by
        subst q
        rw [ati] at h2
        cases h2
      rw [at_ j q1] at h1
      rw [at_ l q2] at h2
      exact R.ed j l xs ys q h1 h2
    ec := fun j n h => by
      by_cases q : j = i
      · subst q
        rw [ati] at h
        cases h
        refine ⟨x, a, hx, ?_, fun _ => ha, fun d hd => ⟨hv, ?_⟩⟩
        · rw [← R.len, List.getElem?_append_right (Nat.le_refl _), Nat.sub_self]
          rfl
        · rw [List.getElem?_append_right (Nat.le_refl _), Nat.sub_self] at hd
          cases sl with
          | v d' =>
            cases hd
            obtain ⟨v, h1, h2⟩ := R.ev j d hi
            exact ⟨v, h1, h2.keep k p⟩
          | _ => cases hd
      · rw [at_ j q] at h
        obtain ⟨y, b, h1, h2, h3, h4⟩ := R.ec j n h
        refine ⟨y, b, h1, pre_get p h2, h3, fun d hd => ?_⟩
        have e : n ≠ st.length := fun e => by
          have := cel n (List.mem_of_getElem? h)
          omega
        obtain ⟨q1, v, q2, q3⟩ := h4 d (sat n _ hd e)
        exact ⟨q1, v, q2, q3.keep k p⟩
    ei := fun j l n h1 h2 => by
      by_cases q1 : j = i
      · by_cases q2 : l = i
        · rw [q1, q2]
        · subst q1
          rw [ati] at h1
          cases h1
          rw [at_ l q2] at h2
          exact absurd (cel _ (List.mem_of_getElem? h2)) (Nat.lt_irrefl _)
      · by_cases q2 : l = i
        · subst q2
          rw [ati] at h2
          cases h2
          rw [at_ j q1] at h1
          exact absurd (cel _ (List.mem_of_getElem? h1)) (Nat.lt_irrefl _)
        · rw [at_ j q1] at h1
          rw [at_ l q2] at h2
          exact R.ei j l n h1 h2 }
/-- all of a def's cells -/
theorem Rel.lays (hB : B.nc = false) (hf : ∀ x, X.env.scope.names.lookup x = some .cell → ∃ a, X.env.cells.lookup x = some a ∧ X.base.get? a = none ∧ a ∉ frs X.stack ∧ H a = none) :
    ∀ (cs : List Nat) {env : En} {st : So} {ρ : List Addr}, cs.Nodup → (∀ i ∈ cs, ∃ x, X.N[i]? = some x ∧ X.env.scope.names.lookup x = some .cell) → (∀ i ∈ cs, ∃ sl, env[i]? = some sl ∧ ∀ n, sl ≠ .cel n) → Rel X.K G X B σ H env st ρ →
      ∃ ρ', ρ <+: ρ' ∧ Rel X.K G X B σ H (layCells cs env st).1 (layCells cs env st).2 ρ'
  | [], env, st, ρ, _, _, _, R => ⟨ρ, List.prefix_refl _, R⟩
  | i :: cs, env, st, ρ, hn, hx, he, R => by
    obtain ⟨x, h1, h2⟩ := hx i (List.mem_cons_self ..)
    obtain ⟨sl, g1, g2⟩ := he i (List.mem_cons_self ..)
    obtain ⟨a, a1, a2, a3, a4⟩ := hf x h2
    rw [List.nodup_cons] at hn
    have R1 := R.lay hB g1 g2 h1 (.inr (.inl h2)) ⟨a1, by rw [h2]; simp, a2, a3⟩ a4
    obtain ⟨ρ', p, R2⟩ := Rel.lays hB hf cs hn.2 (fun j hj => hx j (List.mem_cons_of_mem _ hj)) (fun j hj => by
      obtain ⟨sl', q1, q2⟩ := he j (List.mem_cons_of_mem _ hj)
      have e : j ≠ i := fun e => hn.1 (e ▸ hj)
      exact ⟨sl', by rw [List.getElem?_set_ne (Ne.symm e)]; exact q1, q2⟩) R1
    refine ⟨ρ', (List.prefix_append ..).trans p, ?_⟩
    rw [layCells]
    have e2 : env[i]?.getD .no = sl := by rw [g1]; rfl
    rw [e2]
    exact R2
/-- at a def's end -/
theorem Rel.back0 {av : Addr → Prop} {nc : Bool} {H0 : Hp} {ρ0 : List Addr} (R : Rel X.K G X ⟨H0, ρ0, nc, av⟩ σ H env st ρ) (k : Keep H0 H) : Back X.K G av H0 ρ0 H (shutS env st) ρ where
  keep := k
  gr := R.gr
  sr := {
    len := by rw [shutS_len]; exact R.len
    nd := fun n m a ob ob' h1 h2 h3 h4 h5 => by
      by_cases c1 : Sl.cel n ∈ env
      · exact .inl (shutS_in c1 h4)
      · by_cases c2 : Sl.cel m ∈ env
        · exact .inr (shutS_in c2 h5)
        · rw [shutS_out c1] at h4
          rw [shutS_out c2] at h5
          exact R.nd n m a ob ob' h1 h2 h3 h4 h5 c1 c2
    so := fun n a ob h1 h2 => by
      by_cases c1 : Sl.cel n ∈ env
      · rw [shutS_in c1 h2]
        exact True.intro
      · rw [shutS_out c1] at h2
        exact R.so n a ob h1 h2 c1
    tb := R.tb
    pt := fun a h ps e => by
      obtain ⟨o, q1, q2, _⟩ := R.pv a h
      rw [q2] at e
      cases e
      exact R.pt a h ps q1
    pv := fun a h => by
      obtain ⟨o, h1, h2, h3⟩ := R.pv a h
      refine ⟨o, h2, fun n ob q1 q2 => ?_⟩
      by_cases c1 : Sl.cel n ∈ env
      · exact shutS_in c1 q2
      · rw [shutS_out c1] at q2
        exact h3 n ob q1 q2 c1 }
  av := fun a h => by
    obtain ⟨o, h1, h2, _⟩ := R.pv a h
    rw [h2]
    exact h1.symm
end
end KP
end
section
set_option autoImplicit false
set_option linter.all false
set_option maxRecDepth 100000
set_option maxHeartbeats 4000000
/-! KFn2: a def's promise. -/
namespace KP
open PySem PySem.Spec PyProof.Rows L2

section
variable {P : Program} {w : World} {K : PySem.W.Frag} {mg : Str → Option Value} {base : Heap} {G : Glo} {fld : Nat → List Str} {cx : Cc}
/-- the context of a def's body here -/
abbrev bodyCx (P : Program) (w : World) (K : PySem.W.Frag) (mg : Str → Option Value) (base : Heap) (N : List Str) (qual : Str) (scope : Scope) (f : Addr) (cd : Value) (A : Around) (outer : List Env) (s : Shared) (H : Hp) (E : XK) : Cx :=
  cxOf (L2.CX P w) P w K mg base N qual scope f cd A outer s H E
/-- a wish of what is raised, out of a def -/
abbrev wOf (E : XK) : WX := fun cls d _ H => E cls d H
theorem body_takes {N : List Str} {qual : Str} {scope : Scope} {f : Addr} {cd : Value} {A : Around} {outer : List Env} {s : Shared} {H : Hp} {E : XK} : Takes (bodyCx P w K mg base N qual scope f cd A outer s H E) (wOf E) :=
  takes_of (X := bodyCx P w K mg base N qual scope f cd A outer s H E) (E := E) rfl rfl rfl rfl
theorem body_passes {N : List Str} {qual : Str} {scope : Scope} {f : Addr} {cd : Value} {A : Around} {outer : List Env} {s : Shared} {H : Hp} {E : XK} :
    PassesOwn (model P w) (bodyCx P w K mg base N qual scope f cd A outer s H E).A (bodyCx P w K mg base N qual scope f cd A outer s H E).env (bodyCx P w K mg base N qual scope f cd A outer s H E).xe :=
  passes_of (X := bodyCx P w K mg base N qual scope f cd A outer s H E) rfl
/-- a def as it stands -/
structure DefS (K : PySem.W.Frag) (f : Addr) (N ps : List Str) (body : List Stmt) (scope : Scope) (qual : Str) (cdv : Value) (fd : FuncData) : Prop where
  lk : ∃ (oc : Value) (od : Option Addr) (name : Str) (params : Arguments) (dV kV doc pm : Value) (an : Option Addr) (ct : Value) (osl : Array (Option Value)),
    fd = PySem.W.fnOf name qual params body scope dV kV doc pm an cdv ct ∧ K.lookup f = some ⟨oc, od, .func fd, osl⟩
  cd : PySem.W.codeIn K cdv qual = true
  sc : FnScope N ps scope
  bd : Binds K fd ps []
theorem fnG_of {f : Addr} {N ps : List Str} {body : List Stmt} {scope : Scope} {qual : Str} {cdv : Value} {fd : FuncData} {k : Nat} {F : Fd} (D : DefS K f N ps body scope qual cdv fd) (hnp : F.np = ps.length) (hns : F.ns = N.length) (hnd : F.cells.Nodup)
    (hcell : ∀ i ∈ F.cells, ∃ x, N[i]? = some x ∧ scope.names.lookup x = some .cell) (hle : ps.length ≤ N.length)
    (hbody : ∀ (A : Around) (outer : List Env) (s : Shared) (H : Hp) (E : XK) (B : Bs), Room k (A.deeper (envOfC qual scope s.heap.objs.size f cdv)) → A.guards = some [] → (F.cells ≠ [] → B.nc = false) →
      PSsm (bodyCx P w K mg base N qual scope f cdv A outer s H E) G B fld (wOf E) cx body F.body) :
    FnG P w K mg base (k + 1) f (spC K G fld (runF cx F)) := by
  intro A outer s H us vs Q E hr hgd e0 ru ⟨av, ρ, st, ds, sr, rs, hq⟩
  obtain ⟨oc, od, name, params, dV, kV, doc, pm, an, ct, osl, rfl, lk⟩ := D.lk
  have kin : K.In s.heap := e0.mod.kin.keeps fun b o e => (e0.bs b o e).1
  have lim : s.heap.NoLimit := e0.mod.nolimit.keeps fun b o e => (e0.bs b o e).1
  have hlen : ds.length = ps.length := by
    unfold runF at hq
    split at hq
    · rename_i h
      rw [h, hnp]
    · exact hq.elim
  have hvl : vs.length = ps.length := by rw [← rs.length, hlen]
  have hul : (us ++ []).length = ps.length := by rw [List.append_nil, ← ru.length, hvl]
  have hb := D.bd s us kin hul
  rw [List.append_nil] at hb
  have hkind : ∀ y ∈ ps.zip us, scope.names.lookup y.1 = some .local ∨ (scope.names.lookup y.1 = some .cell ∧ ((cellsFrom (s.heap.objs.size + 1) scope.names []).lookup y.1).isSome = true) := by
    rintro ⟨n, v⟩ hy
    rcases D.sc.par n (List.of_mem_zip hy).1 with z | z
    · exact Or.inl z
    · exact Or.inr ⟨z, PySem.W.cellsFrom_some _ _ _ (Or.inl z)⟩
  refine codeAny_call_function hr.depth (kin _ _ lk) rfl D.sc.co D.sc.gen rfl (PySem.W.codeRec_of kin D.cd) (hb _ _ _ _ ?_)
  refine wpAny_newFunctionEnv_cells D.sc.kind hkind fun env he s1 xin => ?_
  subst he
  refine ⟨lim.keeps xin.toInCall.keep, codeAny_func ?_⟩
  have I := inv_start (CX := L2.CX P w) (K := K) (mg := mg) (base := base) (E := E) D.sc hr.hd e0 hvl ru xin
  -- the frame
  have R0 := rel_start (X := bodyCx P w K mg base N qual scope f cdv A outer s H E) (nc := F.cells.isEmpty) sr rs hlen hle
  have hfree : ∀ x, scope.names.lookup x = some .cell → ∃ a, (cellsFrom (s.heap.objs.size + 1) scope.names []).lookup x = some a ∧ base.get? a = none ∧ a ∉ frs (envOfC qual scope s.heap.objs.size f cdv :: outer) ∧ H a = none := fun x hx => by
    obtain ⟨a, ha⟩ := cell_has (n := s.heap.objs.size + 1) hx
    have n1 : H a = none := I.freeC x a ha
    have n2 : s.heap.objs.size ≤ a := I.ok.cab x a rfl ha
    refine ⟨a, ha, ?_, fun hm => ?_, n1⟩
    · cases q : base.get? a with
      | none => rfl
      | some o =>
        exact absurd (Heap.lt_size (e0.bs a o q).1) (Nat.not_lt.mpr n2)
    · have hm : a ∈ s.heap.objs.size :: frs outer := hm
      rcases List.mem_cons.mp hm with q | q
      · exact absurd q (I.cne x a ha)
      · obtain ⟨_, o', e', _⟩ := e0.funs.mem q
        exact absurd (Heap.lt_size e') (Nat.not_lt.mpr n2)
  obtain ⟨ρ1, p1, R1⟩ : ∃ ρ', ρ <+: ρ' ∧ Rel K G (bodyCx P w K mg base N qual scope f cdv A outer s H E) ⟨H, ρ, F.cells.isEmpty, av⟩ (L2.start N vs) H (layCells F.cells (env0 F.np F.ns ds) st).1 (layCells F.cells (env0 F.np F.ns ds) st).2 ρ' := by
    rw [hnp, hns]
    by_cases hc : F.cells = []
    · rw [hc] at R0 ⊢
      exact ⟨ρ, List.prefix_refl _, R0⟩
    · refine Rel.lays (by simpa using hc) hfree F.cells hnd hcell (fun i hi => ?_) R0
      obtain ⟨x, hx, _⟩ := hcell i hi
      have hlt : i < (env0 ps.length N.length ds).length := by
        rw [env0, List.length_append, List.length_map, List.length_replicate]
        have := (List.getElem?_eq_some_iff.mp hx).1
        omega
      refine ⟨_, List.getElem?_eq_getElem hlt, fun n z => env0_nocel (np := ps.length) (ns := N.length) (ds := ds) (n := n) ?_⟩
      rw [← z]
      exact List.getElem_mem hlt
  have pb := hbody A outer s H E ⟨H, ρ, F.cells.isEmpty, av⟩ (hr.deeper _) hgd (fun hc => by simpa using hc)
  unfold runF at hq
  rw [if_pos (by rw [hlen, hnp])] at hq
  have key : tOfS (bodyCx P w K mg base N qual scope f cdv A outer s H E) G ⟨H, ρ, F.cells.isEmpty, av⟩ fld (wOf E) (Ss cx F.body) { nx := fun _ H' => Q .non H', rt := Q } (L2.start N vs) H := by
    refine ⟨_, _, ρ1, R1, ?_⟩
    cases q : Ss cx F.body (layCells F.cells (env0 F.np F.ns ds) st).1 (layCells F.cells (env0 F.np F.ns ds) st).2 with
    | ok fl e' s' =>
      simp only [q] at hq
      intro σ' H' ρ' k' p' R'
      cases fl with
      | nx => exact hq H' ρ' .non (R'.back0 k') .non
      | rt d => exact fun v rv => hq H' ρ' v (R'.back0 k') rv
      | bk => exact hq.elim
      | ct => exact hq.elim
    | exc x e' s' =>
      simp only [q] at hq
      exact fun cls dd σ' H' ρ' k' p' R' xr => hq cls dd H' ρ' (R'.back0 k') xr
    | stuck =>
      simp only [q] at hq
      exact hq.elim
  have fin : ∀ {σ' : L2.St} {H' : Hp} {v : V} {u : Value} {s' : Shared}, Inv (bodyCx P w K mg base N qual scope f cdv A outer s H E) [] σ' H' s' → RelV v u → Q v H' → CE outer P w H s Q u s' := by
    intro σ' H' v u s' J rv z
    exact ⟨v, H', J.os, J.bare, J.base, J.hok, rv, z⟩
  refine wpAny_mono (pb.run [] s1 (L2.start N vs) H _ I key) (fun fl s' hs => ?_) (fun e s' hs => hs)
  cases fl with
  | ret u =>
    obtain ⟨v, σ', H', J, rv, z⟩ := hs
    exact fin J rv z
  | next =>
    obtain ⟨σ', H', J, z⟩ := hs
    exact fin (v := V.non) (u := Value.none) J rfl z
  | brk =>
    obtain ⟨_, _, _, z⟩ := hs
    exact z.elim
  | cont =>
    obtain ⟨_, _, _, z⟩ := hs
    exact z.elim
end
end KP
end
section
set_option autoImplicit false
set_option linter.all false
set_option maxRecDepth 100000
set_option maxHeartbeats 4000000
/-! KCall2: calls as expressions. -/
namespace KP
open PySem PySem.Spec PyProof.Rows L2

section
variable {X : Cx} {G : Glo} {B : Bs} {fld : Nat → List Str} {W : WX} {cx : Cc} {pos p : Pos} {σ : L2.St} {H : Hp} {ρ : List Addr}
/-- f(..), f a def of the module -/
theorem em_call {f k : Nat} {x : Str} {e : Expr} {es : List Expr} {as : Exs} (C : Cok X) (tk : Takes X W) (hr : Room k X.A) (F : FnG X.prog X.w X.K X.mg X.base k (G.fnA f) (spC X.K G fld (cx.call f))) (hg : Gl X x) (hm : X.mg x = some (.ref (G.fnA f)))
    (hk : PySem.W.keepIn X.K (.ref (G.fnA f)) = true) (ha : PAm X G B fld W cx (e :: es) as) (hdb : (x == ("__debug__" : Str)) = false)
    (he : starEach (e :: es) X.env = (false, eval e X.env) :: starEach es X.env) (hpl : (backTo pos (starEach es X.env)).any (·.1) = false) : PEm X G B fld W cx (.Call (.Name x p) (e :: es) [] pos) (.call f as) := by
  refine ⟨fun pins s σ H Q I ⟨env, st, ρ, R, h⟩ => ?_⟩
  rw [E] at h
  refine wpAny_Call_Name_kw (ld_glob I hg hm ?_ hdb)
  refine PySem.W.callWith_K (h₀ := X.base) I.ok.mod.kin hk (thn (ha.run pos pins s σ H (fun vs H1 => ∃ env st ρ ds, Rel X.K G X B σ H1 env st ρ ∧ RepL X.K G H1 ρ ds vs ∧ Post X.K G X B fld W (KP.R.back env st (cx.call f ds st)) σ H1 ρ fun d H' ρ' _ _ => ∀ v, Rep X.K G H' ρ' d v → Q v H') I
    ⟨env, st, ρ, R, (Post.bind h).imp fun ds H1 ρ1 e1 s1 k1 p1 R1 h1 vs rs => ⟨e1, s1, ρ1, ds, R1, rs, h1⟩⟩) fun us s1 ⟨vs, H1, I1, ru, e1, st1, ρ1, ds, R1, rs, h1⟩ => ⟨I1.kIn, ?_⟩) he hpl
  exact run_call C tk hr F R1 I1 rs ru h1
theorem em_call0 {f k : Nat} {x : Str} (C : Cok X) (tk : Takes X W) (hr : Room k X.A) (F : FnG X.prog X.w X.K X.mg X.base k (G.fnA f) (spC X.K G fld (cx.call f))) (hg : Gl X x) (hm : X.mg x = some (.ref (G.fnA f)))
    (hk : PySem.W.keepIn X.K (.ref (G.fnA f)) = true) (hdb : (x == ("__debug__" : Str)) = false) : PEm X G B fld W cx (.Call (.Name x p) [] [] pos) (.call f .nil) := by
  refine ⟨fun pins s σ H Q I ⟨env, st, ρ, R, h⟩ => ?_⟩
  rw [E, Es, KP.R.bind_ok] at h
  refine wpAny_Call_Name_kw (ld_glob I hg hm ?_ hdb)
  exact PySem.W.callWith_K0 I.kIn hk (run_call (us := []) (ds := []) (vs := []) C tk hr F R I .nil .nil h)
end
end KP
end
section
set_option autoImplicit false
set_option linter.all false
set_option maxRecDepth 100000
set_option maxHeartbeats 4000000
/-! KExc: errors of own classes are made and raised. -/
namespace KP
open PySem PySem.Spec PyProof.Rows L2

section
variable {X : Cx} {G : Glo} {B : Bs} {fld : Nat → List Str} {W : WX} {cx : Cc} {pos p p1 p2 : Pos} {σ : L2.St} {H : Hp} {ρ : List Addr} {e : Expr} {es : List Expr} {ta : TA}
/-- the class at C has no __init__ of its own and takes ValueError's -/
structure BaseC (K : PySem.W.Frag) (C : Addr) : Prop where
  ga : PySem.W.specialIn K (.ref C) "__getattribute__" = some (some (.builtin "type.__getattribute__"))
  rd : PySem.W.readsIn K C (.type "type") = true
  ini : PySem.W.findCls K (.ref C) (.type "type") "__init__" = some (.val (.builtin "ValueError.__init__"))
/-- X.__init__(self, ..), X an own class above -/
theorem pe_binit {x : Str} {C0 : Addr} {pl : Sem Bool} (hg : Gl X x) (hm : X.mg x = some (.ref C0)) (b : BaseC X.K C0) (hdb : (x == ("__debug__" : Str)) = false) (ha : PA X (e :: es) ta)
    (hc : eval (.Call (.Attribute (.Name x p1) "__init__" p2) (e :: es) [] pos) X.env = (do
      let ov ← eval (.Name x p1) X.env
      standAt p2.atName
      let (f, first) ← holding [ov] (getMethod ov "__init__" pl)
      callWith pos f first (backTo pos (starEach (e :: es) X.env)) (backToKw pos (keywordEach [] X.env))))
    (he : starEach (e :: es) X.env = (false, eval e X.env) :: starEach es X.env) (hpl : (backTo pos (starEach es X.env)).any (·.1) = false) :
    PE X (.Call (.Attribute (.Name x p1) "__init__" p2) (e :: es) [] pos) (tVeI X.K ta) := by
  refine ⟨fun pins s σ H Q I h => ?_⟩
  refine PySem.W.methodCall_KW (ld_glob I hg hm ?_ hdb) hc
  refine PySem.W.method_cls I.kIn b.ga (PySem.W.cls_value I.kIn b.rd b.ini (by decide +kernel) ?_)
  show wpAny _ _ (callWith pos (Value.builtin "ValueError.__init__") [] (backTo pos (starEach (e :: es) X.env)) []) _ _ _
  refine PyProof.Rows.callWith_method1 (thn (ha.run pos pins _ σ H _ (I.tok _) h) fun us s1 ⟨vs, H1, I1, r1, a, C, ws, ev, hl, T, ea, q⟩ => ?_) he hpl
  subst ev
  cases r1 with
  | cons ra rw' =>
    cases ra
    refine oinit_ok T I1 ea ?_ fun s' J => ⟨.non, H1, J, rfl, q⟩
    rw [← Paired.length rw', sizeLine_eq]
    omega

/-! ### __init__ -/
/-- self.f = f, one after another -/
inductive Sets (X : Cx) (C : Addr) : List Stmt → List (Str × Nat) → Prop
  | nil : Sets X C [] []
  | cons {f : Str} {i : Nat} {q1 q2 q3 q4 : Pos} {r : List Stmt} {l : List (Str × Nat)} (h0 : X.N[0]? = some ("self" : Str)) (hv0 : Vis X.env.scope "self") (hi : X.N[i]? = some f) (hv : Vis X.env.scope f) (hd : (f == ("__debug__" : Str)) = false) (hcd : (f == ("__classdict__" : Str)) = false)
      (hno : PySem.W.findIn X.K (.ref C) f = some none) (t : Sets X C r l) : Sets X C (.Assign [.Attribute (.Name "self" q1) f q2] (.Name f q3) q4 :: r) ((f, i) :: l)
/-- what an __init__'s rest does: the fields are put -/
def tSets (C : Addr) (l : List (Str × Nat)) : TS := fun D σ H => ∃ (a : Addr) (vs : List V), σ[0]? = some (some (.ref a)) ∧ (∀ (j : Nat) (f : Str) (i : Nat), l[j]? = some (f, i) → ∃ v, vs[j]? = some v ∧ σ[i]? = some (some v)) ∧ vs.length = l.length ∧
  ∃ (d : Addr) (fs : List (Str × V)), H a = some (exo a C (some d)) ∧ H d = some (exd d fs) ∧ a ≠ d ∧ fs.length + l.length ≤ 900 ∧ D.nx σ (upd H d (exd d (((l.map (·.1)).zip vs).reverse ++ fs)))
theorem sets_ok {C : Addr} (T : OexC X.K C) {sts : List Stmt} {l : List (Str × Nat)} (h : Sets X C sts l) : PSs X sts (tSets C l) := by
  induction h with
  | nil =>
    refine ⟨fun pins s σ H D I ⟨a, vs, h0, h1, h2, d, fs, h3, h4, _, h5, q⟩ => pss_nil.run pins s σ H D I ?_⟩
    have e : vs = [] := List.length_eq_zero_iff.mp h2
    subst e
    have eq : upd H d (exd d fs) = H := by
      funext b
      by_cases e : b = d
      · subst e
        rw [upd_same, h4]
      · rw [upd_ne e]
    have q : D.nx σ (upd H d (exd d fs)) := q
    rw [eq] at q
    exact q
  | @cons f i q1 q2 q3 q4 r l h0 hv0 hi hv hd hcd hno t ih =>
    have st := ps_ost (X := X) (p' := q2) (pos := q4) (pe_var (pos := q1) h0 hv0 (by decide) (by decide)) (pe_var (pos := q3) hi hv hd hcd) (f := f)
    refine ⟨fun pins s σ H D I ⟨a, vs, g0, g1, g2, d, fs, g3, g4, nd, g5, q⟩ => (pss_cons st ih).run pins s σ H D I ?_⟩
    obtain ⟨v, hv1, hv2⟩ := g1 0 f i rfl
    cases vs with
    | nil => cases hv1
    | cons v' vs =>
      cases hv1
      refine ⟨v, hv2, .ref a, g0, a, C, rfl, T, hno, .inr ⟨d, fs, g3, g4, ?_, ?_⟩⟩
      · rw [List.length_cons] at g5
        omega
      · skip
        refine ⟨a, vs, g0, fun j g k e => ?_, by simpa using g2, d, (f, v) :: fs, ?_, upd_same, nd, ?_, ?_⟩
        · exact g1 (j + 1) g k (by simpa using e)
        · rw [upd_ne nd]
          exact g3
        · rw [List.length_cons] at g5 ⊢
          omega
        · rw [upd_upd]
          simpa using q
/-- the promise of such an __init__ -/
def spI (C : Addr) (names : List Str) : Sp := fun vs H Q E => ∃ (a : Addr) (ws : List V), vs = .ref a :: ws ∧ ws.length = names.length ∧ H a = some (exo a C none) ∧
  ∀ d, H d = none → d ≠ a → Q .non (upd (upd H a (exo a C (some d))) d (exd d (names.zip ws).reverse))
/-- the body of such an __init__ -/
structure InitB (X : Cx) (C : Addr) (body : List Stmt) (names : List Str) : Prop where
  ex : ∃ (x : Str) (C0 : Addr) (t : Str) (k : Nat) (p1 p2 p3 p4 p5 p6 : Pos) (rest : List Stmt) (l : List (Str × Nat)), body = .Expr (.Call (.Attribute (.Name x p1) "__init__" p2) [.Name "self" p3, .Constant (.str t) k p4] [] p5) p6 :: rest ∧
    Gl X x ∧ X.mg x = some (.ref C0) ∧ BaseC X.K C0 ∧ (x == ("__debug__" : Str)) = false ∧ Sets X C rest l ∧ l.map (·.1) = names ∧ l.map (·.2) = (List.range names.length).map (· + 1) ∧ names ≠ [] ∧ names.length ≤ 900 ∧ X.N[0]? = some ("self" : Str) ∧ Vis X.env.scope "self" ∧
    ∃ pl : Sem Bool, eval (.Call (.Attribute (.Name x p1) "__init__" p2) [.Name "self" p3, .Constant (.str t) k p4] [] p5) X.env = (do
      let ov ← eval (.Name x p1) X.env
      standAt p2.atName
      let (f, first) ← holding [ov] (getMethod ov "__init__" pl)
      callWith p5 f first (backTo p5 (starEach [.Name "self" p3, .Constant (.str t) k p4] X.env)) (backToKw p5 (keywordEach [] X.env)))
theorem init_ok {C : Addr} {body : List Stmt} {names : List Str} (T : OexC X.K C) (b : InitB X C body names) {vs : List V} {H : Hp} {Q : VK} {E : XK} (h : spI C names vs H Q E) (hn : vs.length ≤ X.N.length) : ∃ t, PSs X body t ∧ t { nx := fun _ H' => Q .non H', rt := Q } (L2.start X.N vs) H := by
  obtain ⟨x, C0, t, k, p1, p2, p3, p4, p5, p6, rest, l, rfl, hg, hm, hb, hdb, hs, hl1, hl2, hne, h900, h0, hv0, pl, hcal⟩ := b.ex
  obtain ⟨a, ws, rfl, hw, ha, q⟩ := h
  have σ0 : (L2.start X.N (.ref a :: ws))[0]? = some (some (V.ref a)) := by
    unfold L2.start
    rfl
  have σi : ∀ (i : Nat) (v : V), ws[i]? = some v → (L2.start X.N (.ref a :: ws))[i + 1]? = some (some v) := fun i v e => by
    unfold L2.start
    rw [List.getElem?_append_left (by rw [List.length_map, List.length_cons]; have := (List.getElem?_eq_some_iff.mp e).1; omega), List.map_cons, List.getElem?_cons_succ, List.getElem?_map, e]
    rfl
  have first : PS X (.Expr (.Call (.Attribute (.Name x p1) "__init__" p2) [.Name "self" p3, .Constant (.str t) k p4] [] p5) p6) _ :=
    ps_expr (pe_binit hg hm hb hdb (pa_cons (pe_var h0 hv0 (by decide) (by decide)) (pa_cons (pe_str (x := t)) pa_nil rfl) rfl) hcal rfl rfl) rfl
  cases hs with
  | nil =>
    exact absurd hl1.symm hne
  | @cons f i q1 q2 q3 q4 r l _ _ hi hv hd hcd hno ts =>
    rw [List.map_cons] at hl1 hl2
    subst hl1
    rw [List.length_cons, List.range_succ_eq_map, List.map_cons, List.map_map] at hl2
    obtain ⟨hi0, hl3⟩ := List.cons.inj hl2
    have hi0 : i = 1 := hi0
    subst hi0
    cases ws with
    | nil => cases hw
    | cons y ws =>
      have st := ps_ost (X := X) (p' := q2) (pos := q4) (pe_var (pos := q1) h0 hv0 (by decide) (by decide)) (pe_var (pos := q3) hi hv hd hcd) (f := f)
      have hw' : ws.length = l.length := by simpa using hw
      refine ⟨_, pss_cons first (pss_cons st (sets_ok T ts)), ?_⟩
      refine ⟨_, σ0, ?_⟩
      refine ⟨a, C, _, rfl, by simp, T, ha, ?_⟩
      refine ⟨y, σi 0 y rfl, .ref a, σ0, a, C, rfl, T, hno, .inl ⟨ha, fun dx hdx ne => ?_⟩⟩
      refine ⟨a, ws, σ0, fun j g n e => ?_, hw', dx, [(f, y)], upd_same, by rw [upd_ne ne]; exact upd_same, Ne.symm ne, ?_, ?_⟩
      · have e2 : (l.map (·.2))[j]? = some n := by rw [List.getElem?_map, e]; rfl
        rw [hl3, List.getElem?_map] at e2
        obtain ⟨m, hm1, hm2⟩ := Option.map_eq_some_iff.mp e2
        have hm3 : m = j := by
          have := List.getElem?_eq_some_iff.mp hm1
          obtain ⟨z1, z2⟩ := this
          rw [List.getElem_range] at z2
          exact z2.symm
        subst hm3
        have hn2 : n = m + 2 := by
          rw [← hm2]
          rfl
        subst hn2
        have hlt : m < ws.length := by
          rw [hw']
          exact (List.getElem?_eq_some_iff.mp e).1
        exact ⟨ws[m], List.getElem?_eq_getElem hlt, σi (m + 1) _ (by rw [List.getElem?_cons_succ, List.getElem?_eq_getElem hlt])⟩
      · rw [List.length_cons] at h900
        simp only [List.length_cons, List.length_nil]
        simp at h900
        omega
      · have z := q dx hdx ne
        have e : upd (upd (upd H dx (exd dx [(f, y)])) a (exo a C (some dx))) dx (exd dx (((l.map (·.1)).zip ws).reverse ++ [(f, y)])) = upd (upd H a (exo a C (some dx))) dx (exd dx (((f :: l.map (·.1)).zip (y :: ws)).reverse)) := by
          funext b
          by_cases e1 : b = dx
          · subst e1
            rw [upd_same, upd_same, List.zip_cons_cons, List.reverse_cons]
          · rw [upd_ne e1, upd_ne e1]
            by_cases e2 : b = a
            · subst e2
              rw [upd_same, upd_same]
            · rw [upd_ne e2, upd_ne e2, upd_ne e1]
        show Q .non (upd (upd (upd H dx (exd dx [(f, y)])) a (exo a C (some dx))) dx (exd dx (((l.map (·.1)).zip ws).reverse ++ [(f, y)])))
        rw [e]
        exact z
end
end KP
end
section
set_option autoImplicit false
set_option linter.all false
set_option maxRecDepth 100000
set_option maxHeartbeats 4000000
/-! KRaise: raise. -/
namespace KP
open PySem PySem.Spec PyProof.Rows L2

/-- an error's class as it stands -/
structure ErrC (P : Program) (w : World) (K : PySem.W.Frag) (mg : Str → Option Value) (base : Heap) (C : Addr) (names : List Str) (k : Nat) : Prop where
  T : OexC K C
  ini : ∃ (fI : Addr) (fd : FuncData), PySem.W.findIn K (.ref C) "__init__" = some (some (.ref fI)) ∧ PySem.W.typeIn K (.ref fI) = some (.type "function") ∧
    FnOk P w K mg base (L2.CX P w) k fI fd ("self" :: names) (spI C names) ∧ Binds K fd ("self" :: names) []
  nd : names.Nodup
  few : names.length ≤ 900
section
variable {X : Cx} {G : Glo} {B : Bs} {fld : Nat → List Str} {W : WX} {cx : Cc} {pos p : Pos} {σ : L2.St} {H : Hp} {ρ : List Addr}
theorem lookup_zip : ∀ {ks : List Str} {vs : List V} {i : Nat} {k : Str} {v : V}, ks.Nodup → ks[i]? = some k → vs[i]? = some v → ∀ acc : List (Str × V), ((ks.zip vs).reverse ++ acc).lookup k = some v
  | k0 :: ks, v0 :: vs, 0, k, v, hn, hk, hv, acc => by
    cases hk
    cases hv
    rw [List.zip_cons_cons, List.reverse_cons, List.append_assoc]
    have h : ∀ (l : List (Str × V)) (acc : List (Str × V)), (∀ p ∈ l, p.1 ≠ k0) → (l ++ ((k0, v0) :: acc)).lookup k0 = some v0 := by
      intro l acc h
      induction l with
      | nil => simp
      | cons p l ih =>
        have e : (k0 == p.1) = false := by simpa using Ne.symm (h p (List.mem_cons_self ..))
        rw [List.cons_append, List.lookup_cons, e]
        exact ih fun q hq => h q (List.mem_cons_of_mem _ hq)
    refine h _ _ fun p hp => ?_
    rw [List.mem_reverse] at hp
    have := (List.of_mem_zip hp).1
    rw [List.nodup_cons] at hn
    exact fun e => hn.1 (e ▸ this)
  | k0 :: ks, v0 :: vs, i + 1, k, v, hn, hk, hv, acc => by
    rw [List.zip_cons_cons, List.reverse_cons, List.append_assoc]
    exact lookup_zip (List.nodup_cons.mp hn).2 (by simpa using hk) (by simpa using hv) _
  | [], _, i, k, v, _, hk, _, _ => by simp at hk
  | _ :: _, [], i, k, v, _, _, hv, _ => by simp at hv
theorem sm_rais {c k : Nat} {x : Str} {e : Expr} {es : List Expr} {as : Exs} {pos' : Pos} (C : Cok X) (tk : Takes X W) (hr : Room (k + 1) X.A) (er : ErrC X.prog X.w X.K X.mg X.base (G.clA c) (fld c) k) (hg : Gl X x) (hm : X.mg x = some (.ref (G.clA c)))
    (ha : PAm X G B fld W cx (e :: es) as) (hl : as.len = (fld c).length) (hc : c < G.nC) (hdb : (x == ("__debug__" : Str)) = false) (he : starEach (e :: es) X.env = (false, eval e X.env) :: starEach es X.env) (hpl : (backTo pos' (starEach es X.env)).any (·.1) = false) :
    PSm X G B fld W cx (.Raise (some (.Call (.Name x p) (e :: es) [] pos')) none pos) (.rais c as) := by
  obtain ⟨fI, fd, iC, tI, F1, bd⟩ := er.ini
  refine ps_of (ps_raise C.calm tk (pmk_oex er.T iC tI F1 hr bd .nil (fun pins σ H s e s' I h => ?_) hg hm ha hdb he hpl)) fun D σ H ⟨env, st, ρ, R, h⟩ => ?_
  · obtain ⟨_, _, _, _, _, _, _, _, _, _, _, _, z⟩ := h
    exact z.elim
  · rw [S] at h
    refine ⟨env, st, ρ, R, (PostS.ex h σ).impE fun ds H1 ρ1 e1 s1 eq k1 p1 R1 h1 vs rs => ?_⟩
    have hlen : vs.length = (fld c).length := by rw [← rs.length, Es_len as env st ds e1 s1 eq, hl]
    refine ⟨?_, fun a ha => ⟨a, vs, by rw [List.append_nil], hlen, upd_same, fun d hd ne => ⟨rfl, d, _, ?_, upd_same, ?_, ?_⟩⟩⟩
    · have := er.few
      omega
    · rw [upd_ne (Ne.symm ne)]
      exact upd_same
    · rw [upd_ne ne] at hd
      exact hd
    · have hd1 : H1 d = none := by
        rw [upd_ne ne] at hd
        exact hd
      have e2 : upd (del (upd (upd (upd H1 a (exo a (G.clA c) none)) a (exo a (G.clA c) (some d))) d (exd d ((fld c).zip vs).reverse)) a) d (.xd ((fld c).zip vs).reverse) = upd H1 d (.xd ((fld c).zip vs).reverse) := by
        funext b
        by_cases z : b = d
        · subst z
          rw [upd_same, upd_same]
        · rw [upd_ne z, upd_ne z]
          by_cases z2 : b = a
          · subst z2
            rw [del_same]
            exact ha.symm
          · rw [del_ne z2, upd_ne z, upd_ne z2, upd_ne z2]
      rw [e2]
      have sm : Same H1 (upd H1 d (.xd ((fld c).zip vs).reverse)) := same_new hd1
      have h1 : PostS X G B fld W (KP.R.exc ⟨c, ds⟩ e1 s1 : KP.R Fl) H1 ρ1 (ends X G D) := h1
      refine h1 _ _ σ _ ρ1 sm.keep (List.prefix_refl _) (R1.same sm) ⟨rfl, hc, d, _, rfl, upd_same, fun i nm q g1 g2 => ?_⟩
      obtain ⟨v, v1, v2⟩ := rs.get g2
      refine ⟨v, ?_, v2.same sm⟩
      have := lookup_zip er.nd g1 v1 []
      rw [List.append_nil] at this
      exact this
end
end KP
end
section
set_option autoImplicit false
set_option linter.all false
set_option maxRecDepth 100000
set_option maxHeartbeats 4000000
/-! KTry: try with several clauses that name what they catch. -/
namespace KP
open PySem PySem.Spec PyProof.Rows L2

abbrev Cl := Value × Nat × (Addr → Value → Option Addr → TS)
/-- a suite that has the error at its place; behind it the name is gone -/
def suiteW (K : PySem.W.Frag) (i : Nat) (ts : Addr → Value → Option Addr → TS) (D : Ends) (cls : Value) (d : Option Addr) (σ : L2.St) (H : Hp) : Prop :=
  i < σ.length → ∀ a, H a = none → ts a cls d { nx := fun τ I => D.nx (τ.set i none) I, rt := D.rt, bk := fun τ I => D.bk (τ.set i none) I, ct := fun τ I => D.ct (τ.set i none) I } (σ.set i (some (.ref a))) H
def wCl (K : PySem.W.Frag) (Wout : WX) (D : Ends) : List Cl → WX
  | [] => Wout
  | (c, i, ts) :: r => fun cls d σ H => ∃ b, PySem.W.exmOne K cls c = some b ∧ (b = true → suiteW K i ts D cls d σ H) ∧ (b = false → wCl K Wout D r cls d σ H)
inductive HdAs (X : Cx) : List ExceptHandler → List Cl → Prop
  | nil : HdAs X [] []
  | cons {x n : Str} {c : Value} {i : Nat} {ts : Addr → Value → Option Addr → TS} {s0 : Stmt} {su : List Stmt} {np hp : Pos} {r : List ExceptHandler} {l : List Cl} (hi : X.N[i]? = some n) (hl : X.env.kindOf n = some .local) (hc : Names X x c)
      (hsu : ∀ (a : Addr) (oe : Obj) (cls : Value) (d : Option Addr) (pn : List (Addr × Obj)), Zc cls d oe → (∃ vs, oe.data = .fields vs) → PSs (X.suite a ((a, oe) :: pn)) (s0 :: su) (ts a cls d)) (t : HdAs X r l) :
      HdAs X (.ExceptHandler (some (.Name x np)) (some n) (s0 :: su) hp :: r) ((c, i, ts) :: l)
section
variable {X : Cx} {body : List Stmt} {g : ExceptHandler} {gs : List ExceptHandler} {l : List Cl} {pos : Pos} {tb : WX → TS} {Wout : WX}
theorem ps_tryAs (hst : X.stack = X.env :: X.outer) (hfr : X.env.frame = some X.env.locals) (hN : X.N.Nodup) (tk : Takes X Wout)
    (hb : ∀ (V : WX) (pn : List (Addr × Obj)) (xe : Value → Shared → Prop), Takes (X.tr pn xe) V → PassesOwn (model X.prog X.w) X.A X.env xe → PSs (X.tr pn xe) body (tb V)) (hh : HdAs X (g :: gs) l) :
    PS X (.Try body (g :: gs) [] [] pos) (fun D σ H => tb (wCl X.K Wout D l) D σ H) := by
  refine ⟨fun pins s σ H D I hq => ?_⟩
  have okX := I.ok
  have frX : X.A.frames = some (X.env :: X.outer) := okX.frames.trans (congrArg some hst)
  let seek : Value → Shared → Prop := fun u t => wpAny (model X.prog X.w) X.A (noteFrame u X.env)
    (fun _ t2 => wpAny (model X.prog X.w) X.A (setFlight u none) (fun _ t3 => wpAny (model X.prog X.w) X.A (handleBy u X.env (g :: gs)) (SP X pins D) X.xe t3) X.xe t2) X.xe t
  have caught : Takes (X.tr (X.pn ++ pins) seek) (wCl X.K Wout D l) := by
    intro u t xx
    obtain ⟨a, G, tI, pinsT, σT, HT, cls, d, rfl, JT, nb, up, sky, na, os, ag, want⟩ := xx
    have J := JT.ofTry okX
    have sky2 : Sky G (X.env :: X.outer) a (Zc cls d) X.env.locals t.heap := hst ▸ sky
    refine Sky.land Zc.steady frX hfr sky2 fun k1 fl1 up1 => ?_
    have J1 : Inv X pins σT HT { t with heap := k1 } := J.landed nb fl1.1 (up.trans up1) os ag
    obtain ⟨ob1, vs1, g1, z1, f1⟩ := fl1.there
    have off : a ∉ frs (X.env :: X.outer) := by
      intro hm
      obtain ⟨_, o2, g2, no⟩ := fl1.2.2.1.mem hm
      rw [g1] at g2
      cases g2
      exact no _ f1
    have offL : a ≠ X.env.locals := by
      intro z
      exact off (List.mem_filterMap.mpr ⟨X.env, List.mem_cons_self, by rw [hfr, z]⟩)
    have offF : a ∉ X.fs := by
      intro hm
      obtain ⟨e, he, q⟩ := List.mem_filterMap.mp hm
      exact off (List.mem_filterMap.mpr ⟨e, List.mem_cons_of_mem _ he, q⟩)
    have S1 := J1.suite g1 f1 na offL offF
    have go : ∀ {hs : List ExceptHandler} {cs : List Cl}, HdAs X hs cs → wCl X.K Wout D cs cls d σT HT → wpAny (model X.prog X.w) X.A (handleBy (.ref a) X.env hs) (SP X pins D) X.xe { t with heap := k1 } := by
      intro hs cs hk
      induction hk with
      | nil =>
        intro wn
        refine wpAny_handleBy_nil ?_
        obtain ⟨_, _, _, oe, vs, T, _, _, he, _, hd, h1, _⟩ := id fl1
        unfold PySem.passOn
        refine wpAny_bind (wpAny_field he hd h1 ?_)
        rw [if_neg (show ¬ ((Value.ref T == Value.none) = true) by simp)]
        have on : wpAny (model X.prog X.w) X.A (setFlight (.ref a) X.env.frame) (fun _ t4 => wpAny (model X.prog X.w) X.A (throw (.ref a) : Sem Flow) (SP X pins D) X.xe t4) X.xe { t with heap := k1 } := by
          rw [hfr]
          refine HandSPX.setFlight_upZ fl1 fun k2 held up2 => wpAny_throw (tk _ _ ?_)
          exact ⟨a, G, tI, pins, σT, HT, cls, d, rfl, J, nb, (up.trans up1).trans up2, .inr (.inr (by rw [hst]; exact held)), na, os, ag, wn⟩
        first
          | exact wpAny_bind (wpAny_pure (wpAny_bind on))
          | exact wpAny_bind on
      | @cons x n c i ts s0 su np hp hs2 cs2 hi hl hc hsu rest ih =>
        intro wn
        obtain ⟨b, isb, yes, no⟩ := wn
        refine wpAny_handleBy_cons (codeAny_handlers_test ?_) (by intro q; cases q)
        have lt : PySem.W.Looks (model X.prog X.w) k1 (typeOf (.ref a)) cls := by
          intro A Q E s k q
          exact wpAny_typeOf_ref (k _ _ g1) (by rw [z1.1]; exact q)
        have lm := PySem.W.exm_one (M := model X.prog X.w) J1.kIn lt isb
        have nameOf : ∀ {Q : Value → Shared → Prop} {E : Value → Shared → Prop}, Q c { t with heap := k1 } → wpAny (model X.prog X.w) (X.A.mark (some (.ref a))) (eval (.Name x np) X.env) Q E { t with heap := k1 } := by
          intro Q E q
          obtain ⟨isG, ndb, w1 | ⟨w1, w2, w3⟩⟩ := hc
          · exact ld_glob (X := X.suite a ((a, ob1) :: (X.pn ++ pins))) S1 isG w1 q ndb
          · exact ld_blt (X := X.suite a ((a, ob1) :: (X.pn ++ pins))) S1 isG w1 w2 q w3 ndb
        refine nameOf (lm.here ?_)
        cases b with
        | false =>
          show wpAny _ X.A (handleBy (.ref a) X.env hs2) _ _ _
          exact ih (no rfl)
        | true =>
          refine codeAny_handlers_suite_as ?_
          refine HandSPX.lands_againZ fl1 fun k2 fl2 up2 => ?_
          have J2 : Inv X pins σT HT { t with heap := k2 } := J.landed nb fl2.1 ((up.trans up1).trans up2) os ag
          obtain ⟨ob2, vs2, g2, z2, f2⟩ := fl2.there
          have S2 := J2.suite g2 f2 na offL offF
          refine store_ok (X := X.suite a ((a, ob2) :: (X.pn ++ pins))) (v := .ref a) S2 hN hi (.inl hl) rfl (fun t5 S5 => ?_) (.inr hl)
          refine wpAny_mono ((hsu a ob2 cls d (X.pn ++ pins) z2 ⟨_, f2⟩).run [] t5 _ HT _ S5 (yes rfl (by rw [J.len]; exact (List.getElem?_eq_some_iff.mp hi).1) a na)) (fun fl t6 fin => ?_) (fun _ _ z => z.elim)
          have gone : ∀ {σ6 : L2.St} {H6 : Hp} {Q : Shared → Prop}, Inv (X.suite a ((a, ob2) :: (X.pn ++ pins))) [] σ6 H6 t6 → (∀ t7, Inv X pins (σ6.set i none) H6 t7 → Q t7) →
              wpAny (model X.prog X.w) X.A (do bindName X.env n .none; unbindBehindTheSuite X.env n hp) (fun _ t7 => Q t7) X.xe t6 := by
            intro σ6 H6 Q S6 q
            exact gone_ok (S6.unsuite okX) hN hi hl q
          cases fl with
          | ret u =>
            obtain ⟨v6, σ6, H6, S6, r6, q6⟩ := fin
            exact gone S6 fun t7 J7 => ⟨_, _, _, J7, r6, q6⟩
          | next =>
            obtain ⟨σ6, H6, S6, q6⟩ := fin
            exact gone S6 fun t7 J7 => ⟨_, _, J7, q6⟩
          | brk =>
            obtain ⟨σ6, H6, S6, q6⟩ := fin
            exact gone S6 fun t7 J7 => ⟨_, _, J7, q6⟩
          | cont =>
            obtain ⟨σ6, H6, S6, q6⟩ := fin
            exact gone S6 fun t7 J7 => ⟨_, _, J7, q6⟩
    exact go hh want
  refine wpAny_Try_except (wpAny_mono ((hb _ (X.pn ++ pins) seek caught PassesOwn.looking).run [] s σ H D (I.toTry _) hq) (fun fl t1 fin => ?_) (fun e t1 he => he))
  cases fl with
  | next =>
    obtain ⟨σ', H', J', q⟩ := fin
    exact wpAny_execs_nil ⟨σ', H', J'.ofTry okX, q⟩
  | ret u =>
    obtain ⟨v, σ', H', J', r, q⟩ := fin
    exact ⟨v, σ', H', J'.ofTry okX, r, q⟩
  | brk =>
    obtain ⟨σ', H', J', q⟩ := fin
    exact ⟨σ', H', J'.ofTry okX, q⟩
  | cont =>
    obtain ⟨σ', H', J', q⟩ := fin
    exact ⟨σ', H', J'.ofTry okX, q⟩
end
end KP
end
section
set_option autoImplicit false
set_option linter.all false
set_option maxRecDepth 100000
set_option maxHeartbeats 4000000
/-! KTry2: try as KCore has it. -/
namespace KP
open PySem PySem.Spec PyProof.Rows L2

section
variable {X : Cx} {G : Glo} {B : Bs} {fld : Nat → List Str} {W : WX} {cx : Cc} {pos : Pos} {σ : L2.St} {H : Hp} {ρ : List Addr}
/-- what a clause's tuple tells -/
def vS : D → V
  | .str x => .str x
  | .int i => .int i
  | .bl b => .bl b
  | _ => .non
def tEl (a : Addr) (cls : Value) (d : Option Addr) (C : Addr) (i : Nat) (names : List Str) : List (Sum D Nat) → TA
  | [] => tNil
  | .inl c :: r => tCons (tC (vS c)) (tEl a cls d C i names r)
  | .inr m :: r => tCons (tXf a cls d C (names.getD m ⟨#[]⟩) (tVar i)) (tEl a cls d C i names r)
/-- a suite 'return (.., e.f, ..)' -/
inductive ElOk (X : Cx) (C : Addr) (i : Nat) (n : Str) (names : List Str) : List Expr → List (Sum D Nat) → Prop
  | nil : ElOk X C i n names [] []
  | str {x : Str} {k : Nat} {p : Pos} {es : List Expr} {r : List (Sum D Nat)} (t : ElOk X C i n names es r) : ElOk X C i n names (.Constant (.str x) k p :: es) (.inl (.str x) :: r)
  | fld {f : Str} {m : Nat} {p q : Pos} {es : List Expr} {r : List (Sum D Nat)} (hm : names[m]? = some f) (hno : PySem.W.findIn X.K (.ref C) f = some none) (t : ElOk X C i n names es r) : ElOk X C i n names (.Attribute (.Name n p) f q :: es) (.inr m :: r)
theorem el_pa {C : Addr} {i : Nat} {n : Str} {names : List Str} {es : List Expr} {r : List (Sum D Nat)} (h : ElOk X C i n names es r) (T : XfC X.K C) (hN : X.N[i]? = some n) (hv : Vis X.env.scope n) (hd : (n == ("__debug__" : Str)) = false) (hcd : (n == ("__classdict__" : Str)) = false)
    {a : Addr} {oe : Obj} {cls : Value} {d : Option Addr} {pn : List (Addr × Obj)} (hz : Zc cls d oe) (hf : ∃ vs, oe.data = .fields vs) : PA (X.suite a ((a, oe) :: pn)) es (tEl a cls d C i names r) := by
  induction h with
  | nil => exact pa_nil
  | str t ih => exact pa_cons pe_str ih rfl
  | @fld f m p q es r hm hno t ih =>
    have e : names.getD m ⟨#[]⟩ = f := by rw [List.getD_eq_getElem?_getD, hm]; rfl
    rw [tEl, e]
    exact pa_cons (pe_xf T hno hz hf (pe_var (X := X.suite a ((a, oe) :: pn)) hN hv hd hcd)) ih rfl
/-- items told -/
def itOf (x : Xn) : Sum D Nat → Option D := fun q => match q with
  | .inl d => some d
  | .inr n => x.fs[n]?
def plainIt : Sum D Nat → Bool
  | .inl (.str _) => true
  | .inl _ => false
  | .inr _ => true
theorem el_run {x : Xn} {a : Addr} {cls : Value} {dd : Option Addr} {i : Nat} {Q : List V → Hp → Prop} (hx : XRep X.K G fld H ρ x cls dd) (hσ : σ[i]? = some (some (.ref a))) : ∀ {r : List (Sum D Nat)} {ds : List D} {Q : List V → Hp → Prop}, r.mapM (itOf x) = some ds → (∀ q ∈ r, plainIt q = true) → (∀ m, Sum.inr m ∈ r → m < (fld x.c).length) →
    (∀ vs, RepL X.K G H ρ ds vs → Q vs H) → tEl a cls dd (G.clA x.c) i (fld x.c) r σ H Q
  | [], ds, Q, h, _, _, q => by
    cases h
    exact q [] .nil
  | it :: r, ds, Q, h, hp, hl, q => by
    rw [List.mapM_cons] at h
    cases e1 : itOf x it with
    | none => rw [e1] at h; cases h
    | some d =>
      cases e2 : r.mapM (itOf x) with
      | none => rw [e1, e2] at h; cases h
      | some ds' =>
        rw [e1, e2] at h
        cases h
        have rest : ∀ v, Rep X.K G H ρ d v → tEl a cls dd (G.clA x.c) i (fld x.c) r σ H fun vs H2 => Q (v :: vs) H2 := fun v rv =>
          el_run (Q := fun _ _ => True) hx hσ e2 (fun z hz => hp z (List.mem_cons_of_mem _ hz)) (fun m hm => hl m (List.mem_cons_of_mem _ hm)) fun vs rs => q (v :: vs) (.cons rv rs)
        cases it with
        | inl c =>
          cases e1
          have hc := hp _ (List.mem_cons_self ..)
          cases d with
          | str y => exact rest _ (.str y)
          | _ => cases hc
        | inr m =>
          obtain ⟨h1, h0, d0, fs, h2, h3, h4⟩ := hx
          have hm := hl m (List.mem_cons_self ..)
          obtain ⟨v, v1, v2⟩ := h4 m ((fld x.c)[m]) d (List.getElem?_eq_getElem hm) e1
          have e : (fld x.c).getD m ⟨#[]⟩ = (fld x.c)[m] := by rw [List.getD_eq_getElem?_getD, List.getElem?_eq_getElem hm]; rfl
          rw [tEl, e]
          exact ⟨_, hσ, rfl, h1, d0, fs, v, h2, h3, v1, rest v v2⟩
/-- the clauses as they stand -/
inductive HsOk (X : Cx) (G : Glo) (fld : Nat → List Str) : List ExceptHandler → List (Nat × List (Sum D Nat)) → List Cl → Prop
  | nil : HsOk X G fld [] [] []
  | cons {c i : Nat} {x n : Str} {its : List (Sum D Nat)} {es : List Expr} {k : Nat} {p1 p2 p3 p4 : Pos} {hs : List ExceptHandler} {cs : List (Nat × List (Sum D Nat))} {l : List Cl} (hi : X.N[i]? = some n) (hl : X.env.kindOf n = some .local)
      (hd : (n == ("__debug__" : Str)) = false) (hcd : (n == ("__classdict__" : Str)) = false) (hc : Names X x (.ref (G.clA c))) (T : XfC X.K (G.clA c)) (he : ElOk X (G.clA c) i n (fld c) es its) (hz : its.length ≤ sizeLine)
      (hp : ∀ q ∈ its, plainIt q = true) (hm : ∀ m, Sum.inr m ∈ its → m < (fld c).length) (hex : ∀ c', c' < G.nC → PySem.W.exmOne X.K (.ref (G.clA c')) (.ref (G.clA c)) = some (decide (c = c'))) (t : HsOk X G fld hs cs l) :
      HsOk X G fld (.ExceptHandler (some (.Name x p1)) (some n) [.Return (some (.Tuple es k p2)) p3] p4 :: hs) ((c, its) :: cs) ((.ref (G.clA c), i, fun a cls d => tRet (tTup (tEl a cls d (G.clA c) i (fld c) its))) :: l)
theorem hs_as {hs : List ExceptHandler} {cs : List (Nat × List (Sum D Nat))} {l : List Cl} (h : HsOk X G fld hs cs l) : HdAs X hs l := by
  induction h with
  | nil => exact .nil
  | cons hi hl hd hcd hc T he hz hp hm hex t ih => exact .cons hi hl hc (fun a oe cls d pn zc zf => pss_one (ps_ret (pe_tup (el_pa he T hi (.inl hl) hd hcd zc zf)))) ih
theorem mapM_len {α β : Type} {f : α → Option β} : ∀ {l : List α} {r : List β}, l.mapM f = some r → r.length = l.length
  | [], r, h => by cases h; rfl
  | a :: l, r, h => by
    rw [List.mapM_cons] at h
    cases e1 : f a with
    | none => rw [e1] at h; cases h
    | some b =>
      cases e2 : l.mapM f with
      | none => rw [e1, e2] at h; cases h
      | some bs =>
        rw [e1, e2] at h
        cases h
        rw [List.length_cons, List.length_cons, mapM_len e2]
theorem cl_run {hs : List ExceptHandler} {cs : List (Nat × List (Sum D Nat))} {l : List Cl} (h : HsOk X G fld hs cs l) {D : Ends} {x : Xn} {cls : Value} {dd : Option Addr} (hx : XRep X.K G fld H ρ x cls dd)
    (hyes : caught cs x = true → ∃ d, hdl cs x = some d ∧ ∀ v H', Same H H' → Rep X.K G H' ρ d v → D.rt v H') (hno : caught cs x = false → W cls dd σ H) : wCl X.K W D l cls dd σ H := by
  induction h with
  | nil => exact hno rfl
  | @cons c i x0 n its es k p1 p2 p3 p4 hs cs l hi hl hd hcd hc T he hz hp hm hex t ih =>
    refine ⟨decide (c = x.c), by rw [hx.1]; exact hex x.c hx.2.1, fun hb => ?_, fun hb => ?_⟩
    · have e : c = x.c := of_decide_eq_true hb
      subst e
      obtain ⟨d, hd1, hd2⟩ := hyes (by simp [caught])
      rw [hdl, if_pos rfl] at hd1
      obtain ⟨ds, hds, rfl⟩ := Option.map_eq_some_iff.mp hd1
      intro hlt a ha
      have hσ : (σ.set i (some (.ref a)))[i]? = some (some (V.ref a)) := List.getElem?_set_self hlt
      refine el_run (Q := fun _ _ => True) hx hσ (show its.mapM (itOf x) = some ds from hds) hp hm fun vs rs => ⟨?_, fun q hq => ?_⟩
      · rw [← rs.length, mapM_len hds]
        exact hz
      · exact hd2 _ _ (same_new hq) (rep_tup hq rs)
    · have e : c ≠ x.c := of_decide_eq_false hb
      have eb : (c == x.c) = false := by simpa using e
      refine ih (fun hc => ?_) fun hc => hno (by simpa [caught, eb] using hc)
      obtain ⟨d, hd1, hd2⟩ := hyes (by simpa [caught, eb] using hc)
      rw [hdl, if_neg e] at hd1
      exact ⟨d, hd1, hd2⟩
theorem Rel.tr {K : PySem.W.Frag} {pn : List (Addr × Obj)} {xe : Value → Shared → Prop} {env : En} {st : So} (R : Rel K G X B σ H env st ρ) : Rel K G (X.tr pn xe) B σ H env st ρ :=
  ⟨R.gr, R.nc, R.tb, R.pt, R.pv, R.len, R.nd, R.so, R.sc, R.el, R.ev, R.eo, R.ed, R.ec, R.ei⟩
theorem Rel.untr {K : PySem.W.Frag} {pn : List (Addr × Obj)} {xe : Value → Shared → Prop} {env : En} {st : So} (R : Rel K G (X.tr pn xe) B σ H env st ρ) : Rel K G X B σ H env st ρ :=
  ⟨R.gr, R.nc, R.tb, R.pt, R.pv, R.len, R.nd, R.so, R.sc, R.el, R.ev, R.eo, R.ed, R.ec, R.ei⟩
theorem pss_tr {pn : List (Addr × Obj)} {xe : Value → Shared → Prop} {body : List Stmt} {b : Sts} {V : WX} (h : PSsm (X.tr pn xe) G B fld V cx body b) : PSs (X.tr pn xe) body (tOfS X G B fld V (Ss cx b)) := by
  refine ⟨fun pins s σ H D I ⟨env, st, ρ, R, q⟩ => h.run pins s σ H D I ⟨env, st, ρ, R.tr, ?_⟩⟩
  cases e : Ss cx b env st with
  | ok f e' s' =>
    rw [e] at q
    exact fun σ' H' ρ' k p R' => by
      have z := q σ' H' ρ' k p R'.untr
      cases f <;> exact z
  | exc x e' s' =>
    rw [e] at q
    exact fun cls dd σ' H' ρ' k p R' xr => q cls dd σ' H' ρ' k p R'.untr xr
  | stuck =>
    rw [e] at q
    exact q
theorem sm_tri {body : List Stmt} {b : Sts} {g : ExceptHandler} {gs : List ExceptHandler} {cs : List (Nat × List (Sum D Nat))} {l : List Cl} (C : Cok X) (hst : X.stack = X.env :: X.outer) (hfr : X.env.frame = some X.env.locals) (tk : Takes X W)
    (hb : ∀ (V : WX) (pn : List (Addr × Obj)) (xe : Value → Shared → Prop), Takes (X.tr pn xe) V → PassesOwn (model X.prog X.w) X.A X.env xe → PSsm (X.tr pn xe) G B fld V cx body b) (hh : HsOk X G fld (g :: gs) cs l) :
    PSm X G B fld W cx (.Try body (g :: gs) [] [] pos) (.tri b cs) := by
  refine ps_of (ps_tryAs (tb := fun V => tOfS X G B fld V (Ss cx b)) hst hfr C.nd tk (fun V pn xe t p => pss_tr (hb V pn xe t p)) (hs_as hh)) fun D σ H ⟨env, st, ρ, R, h⟩ => ?_
  rw [S] at h
  refine ⟨env, st, ρ, R, ?_⟩
  cases q : Ss cx b env st with
  | ok f e s =>
    rw [q] at h
    exact h
  | stuck =>
    rw [q] at h
    exact h
  | exc x e s =>
    rw [q] at h
    intro cls dd σ' H' ρ' k p R' xr
    refine cl_run hh xr (fun hc => ?_) fun hc => ?_
    · simp only [hc] at h
      obtain ⟨d, hd, h2⟩ := PostS.of_bind h
      refine ⟨d, hd, fun v H2 sm rv => ?_⟩
      exact h2 σ' H2 ρ' (k.trans sm.keep) p (R'.same sm) v rv
    · simp only [hc] at h
      exact h cls dd σ' H' ρ' k p R' xr
end
end KP
end
section
set_option autoImplicit false
set_option linter.all false
set_option maxRecDepth 100000
set_option maxHeartbeats 4000000
/-! KLam: lambdas are made. -/
namespace KP
open PySem PySem.Spec PyProof.Rows L2

section
variable {X : Cx} {G : Glo} {B : Bs} {fld : Nat → List Str} {W : WX} {cx : Cc} {pos : Pos} {σ : L2.St} {H H' : Hp} {ρ : List Addr} {env : En} {st : So}
theorem ext_keep (e : LamX.ExtN H H') : Keep H H' := ⟨fun b xs h => e _ _ h (fun ps z => by cases z), fun b o u h _ => e _ _ h (fun ps z => by cases z), fun b q h => e _ _ h LamX.codeO_ne⟩
/-- tables grow, code objects are new -/
theorem Rel.ext (R : Rel X.K G X B σ H env st ρ) (e : LamX.ExtN H H') (tg : ∀ b ps, H b = some (.tbl ps) → ∃ more, H' b = some (.tbl (ps ++ more))) (tb : ∀ p ∈ G.T, LamX.TabS H' p.1 p.2) : Rel X.K G X B σ H' env st ρ := by
  have k := ext_keep e
  have mv : ∀ (n : Nat) (a : Addr) (ob : Ob), ObRep X.K G H ρ a ob → ObRep X.K G H' ρ a ob := fun n a ob r => by
    cases ob with
    | lst xs =>
      obtain ⟨vs, h, q⟩ := r
      exact ⟨vs, e _ _ h (fun ps z => by cases z), q.keep k (List.prefix_refl _)⟩
    | dic kvs =>
      obtain ⟨kws, h, q⟩ := r
      exact ⟨kws, e _ _ h (fun ps z => by cases z), Paired.mapP q fun _ _ z => ⟨z.1, z.2.keep k (List.prefix_refl _)⟩⟩
    | ins c fs => exact r
    | cel v =>
      cases v with
      | none => exact r
      | some d =>
        obtain ⟨oc, v, h, q⟩ := r
        exact ⟨oc, v, e _ _ h (fun ps z => by cases z), q.keep k (List.prefix_refl _)⟩
  exact {
    gr := R.gr.trans {
      keep := fun a o h _ nt => e a o h nt
      pre := List.prefix_refl _
      new := fun a h hn => absurd h hn
      tbls := tg
      dom := fun a h => by
        cases q : H a with
        | none => rfl
        | some o =>
          by_cases t : ∃ ps, o = .tbl ps
          · obtain ⟨ps, rfl⟩ := t
            obtain ⟨m, z⟩ := tg a ps q
            rw [z] at h
            cases h
          · rw [e a o q fun ps z => t ⟨ps, z⟩] at h
            cases h }
    nc := R.nc
    tb := tb
    pt := R.pt
    pv := fun a h => by
      obtain ⟨o, h1, h2, h3⟩ := R.pv a h
      exact ⟨o, h1, e a o h2 (fun ps z => by rw [z] at h1; exact R.pt a h ps h1), h3⟩
    len := R.len
    nd := R.nd
    so := fun n a ob h1 h2 h3 => mv n a ob (R.so n a ob h1 h2 h3)
    sc := R.sc
    el := R.el
    ev := fun j d h => let ⟨v, h1, h2⟩ := R.ev j d h; ⟨v, h1, h2.keep k (List.prefix_refl _)⟩
    eo := fun j ys h => let ⟨p, ws, h1, h2, h3, h4, h5⟩ := R.eo j ys h; ⟨p, ws, h1, e _ _ h2 (fun ps z => by cases z), h3.keep k (List.prefix_refl _), h4, h5⟩
    ed := R.ed
    ec := fun j n h => let ⟨x, a, h1, h2, h3, h4⟩ := R.ec j n h; ⟨x, a, h1, h2, h3, fun d hd => let ⟨q1, v, q2, q3⟩ := h4 d hd; ⟨q1, v, q2, q3.keep k (List.prefix_refl _)⟩⟩
    ei := R.ei }
abbrev lamObj (X : Cx) (params : Arguments) (body : Expr) (scope : Scope) (pm : Value) (c' : Addr) (ctv : Value) : Obj := PySem.W.kla_obj "<lambda>" (X.env.qual ++ "<lambda>") params body scope (cloFrom X.env.cells scope.names []) pm c' ctv
/-- a lambda is made and tracked -/
theorem lam_makeT {pins : List (Addr × Obj)} {s : Shared} {T : List (Addr × Str)} {c P : Addr} {params : Arguments} {body : Expr} {scope : Scope} {E : Value → Shared → Prop} {Q : Value → Shared → Prop} (I : Inv X pins σ H s) (TB : LamX.TabB X.base X.mg c P) (hcode : X.env.code = .ref c)
    (hm : (P, X.env.qual ++ "<lambda>") ∈ T) (hu : ∀ p ∈ T, p.1 = P → p.2 = X.env.qual ++ "<lambda>") (hT : LamX.Tabs T H) (hdef : defaultsOf params X.env = ([], [])) (hfree : ∀ y ∈ scope.names, y.2 = .free → ∃ c, X.env.cells.lookup y.1 = some c)
    (h : ∀ (f c' : Addr) (pm ctv : Value) (H1 : Hp) (s' : Shared), H1 f = none → Inv X pins σ (upd H1 f (.frz (lamObj X params body scope pm c' ctv) (.own f))) s' → LamX.ExtN H H1 → (∀ b ps, H b = some (.tbl ps) → ∃ more, H1 b = some (.tbl (ps ++ more))) → LamX.Tabs T H1 →
      H1 c' = some (LamX.CodeO c' (X.env.qual ++ "<lambda>")) → Q (.ref f) s') : wpAny (model X.prog X.w) X.A (eval (.Lambda params body scope pos) X.env) Q E s := by
  obtain ⟨ps, hP, ht, ha⟩ := hT _ hm
  have bP : s.heap.BuiltinsAt X.mg P := TB.bm.keeps I.bk
  have oP : s.heap.get? P = some { cls := .none, data := .fields ps } := I.hok P _ hP
  have track : ∀ {H1 : Hp} {h' : Heap} {tk : Nat} {o : Obj}, o.isFreed = false → Inv X pins σ H1 { s with heap := h', toks := tk } → Inv X pins σ (upd H1 h'.objs.size (.frz o (.own h'.objs.size))) { s with heap := h'.push o, toks := tk } := by
    intro H1 h' tk o hf J
    exact J.laid (a := h'.objs.size) (o := .frz o (.own h'.objs.size)) (h' := h'.push o) (t' := tk) (fun b u q => Heap.get?_push_of_some _ q) (Nat.le_refl _) ⟨Heap.get?_push_size _ hf, o, Heap.get?_push_size _ hf⟩
  refine PySem.W.kla_eval hdef ?_
  cases hc : codeAmong pos ps.toList with
  | some cv =>
    obtain ⟨c', rfl, hco⟩ := ha pos cv hc
    refine PySem.W.kla_makeFunctionHit (mg := X.mg) (c := c) (P := P) (ps := ps) (closure_ok hfree) I.ok.glob (I.mod.glob.keeps I.bk) hcode (TB.code.keeps I.bk) oP ht hc bP fun ctv h' tk hx hsz => ?_
    have J : Inv X pins σ H { s with heap := h', toks := tk } := I.kept hx
    exact h h'.objs.size c' ((X.mg "__name__").getD .none) ctv H _ (I.hok.fresh hsz) (track rfl J) (LamX.ExtN.refl H) (fun b ps h => ⟨#[], by rw [Array.append_empty]; exact h⟩) hT hco
  | none =>
    refine PySem.W.kla_makeFunction (mg := X.mg) (c := c) (P := P) (ps := ps) (closure_ok hfree) I.ok.glob (I.mod.glob.keeps I.bk) hcode (TB.code.keeps I.bk) oP ht hc TB.gP bP fun c' ctv h' tk hx hge hlt hrec htb => ?_
    obtain ⟨c2, oc, vs, t, e2, hoc, hd, hv⟩ := hrec
    cases e2
    have nC : H c' = none := I.hok.fresh hge
    have J := LamX.inv_table (t' := tk) (more := #[rawInt pos.line, rawInt pos.col, .ref c']) (h' := h') I hP (fun b o hb e => hx b o hb e) htb hge ⟨oc, vs, t, hoc, hd, hv⟩
    have hE : LamX.ExtN H (upd (upd H P (.tbl (ps ++ #[rawInt pos.line, rawInt pos.col, .ref c']))) c' (LamX.CodeO c' (X.env.qual ++ "<lambda>"))) := by
      intro b o e n
      have h1 : b ≠ P := fun z => by
        subst z
        rw [hP] at e
        cases e
        exact n ps rfl
      rw [upd_ne (ne_of_none e nC), upd_ne h1]
      exact e
    have eL : (ps ++ #[rawInt pos.line, rawInt pos.col, .ref c']).toList = ps.toList ++ [rawInt pos.line, rawInt pos.col, .ref c'] := by simp
    refine h h'.objs.size c' ((X.mg "__name__").getD .none) ctv _ _ (J.hok.fresh (Nat.le_refl _)) (track rfl J) hE (fun b qs e => ?_) (fun p hp => ?_) upd_same
    · by_cases z : b = P
      · subst z
        rw [hP] at e
        cases e
        exact ⟨_, by rw [upd_ne (ne_of_none hP nC)]; exact upd_same⟩
      · exact ⟨#[], by rw [upd_ne (ne_of_none e nC), upd_ne z, Array.append_empty]; exact e⟩
    · by_cases hb : p.1 = P
      · rw [hu p hp hb, hb]
        refine ⟨_, by rw [upd_ne (ne_of_none hP nC)]; exact upd_same, by rw [eL]; exact PySem.TriplesOk_snoc _ _ _ _ ht, fun p' cv hcv => ?_⟩
        rw [eL] at hcv
        rcases LamX.among_app _ ht hcv with z | z
        · obtain ⟨c0, e1, e2⟩ := ha p' cv z
          exact ⟨c0, e1, hE _ _ e2 LamX.codeO_ne⟩
        · exact ⟨c', z, upd_same⟩
      · obtain ⟨ps', a1, a2, a3⟩ := hT p hp
        refine ⟨ps', by rw [upd_ne (ne_of_none a1 nC), upd_ne hb]; exact a1, a2, fun p' cv hcv => ?_⟩
        obtain ⟨c0, e1, e2⟩ := a3 p' cv hcv
        exact ⟨c0, e1, hE _ _ e2 LamX.codeO_ne⟩
theorem clo_lookup {cells : List (Str × Addr)} {names : List (Str × NameKind)} {x : Str} {b : Addr} (hx : (x, NameKind.free) ∈ names) (hb : cells.lookup x = some b) : (cloFrom cells names []).lookup x = some b := by
  obtain ⟨c, hc⟩ := mem_lookup (cloFrom_has (cells := cells) (acc := []) hx)
  rcases cloFrom_mem (PySem.mem_of_lookup hc) with hm | ⟨h1, h2⟩
  · cases hm
  · have h2 : c = (cells.lookup x).getD 0 := h2
    rw [hb] at h2
    rw [hc, h2]
    rfl
theorem cellsOf_get : ∀ {e : En} {cs ns : List Nat}, cellsOf e cs = some ns → ns.length = cs.length ∧ ∀ (j n : Nat), ns[j]? = some n → ∃ i, cs[j]? = some i ∧ e[i]? = some (.cel n)
  | e, [], ns, h => by
    cases h
    exact ⟨rfl, fun j n h => by simp at h⟩
  | e, i :: r, ns, h => by
    rw [cellsOf] at h
    cases q1 : cellAt e i with
    | none => rw [q1] at h; cases h
    | some n0 =>
      cases q2 : cellsOf e r with
      | none => rw [q1, q2] at h; cases h
      | some ns' =>
        rw [q1, q2] at h
        cases h
        obtain ⟨l, g⟩ := cellsOf_get q2
        refine ⟨by rw [List.length_cons, List.length_cons, l], fun j n hj => ?_⟩
        cases j with
        | zero =>
          cases hj
          refine ⟨i, rfl, ?_⟩
          unfold cellAt at q1
          split at q1
          · rename_i z
            cases q1
            exact z
          · cases q1
        | succ j =>
          obtain ⟨i', g1, g2⟩ := g j n (by simpa using hj)
          exact ⟨i', by simpa using g1, g2⟩
/-- a lambda as KCore has it -/
structure LamOk (X : Cx) (G : Glo) (k : Nat) (cs : List Nat) (params : Arguments) (body : Expr) (scope : Scope) : Prop where
  ex : ∃ (c P : Addr), LamX.TabB X.base X.mg c P ∧ X.env.code = .ref c ∧ (P, X.env.qual ++ "<lambda>") ∈ G.T ∧ ∀ p ∈ G.T, p.1 = P → p.2 = X.env.qual ++ "<lambda>"
  lam : (G.lam k).qual = X.env.qual ++ "<lambda>" ∧ (G.lam k).params = params ∧ (G.lam k).body = body ∧ (G.lam k).scope = scope
  dfl : defaultsOf params X.env = ([], [])
  free : ∀ y ∈ scope.names, y.2 = .free → X.env.scope.names.lookup y.1 = some .cell ∨ X.env.scope.names.lookup y.1 = some .free
  len : cs.length = (G.lam k).caps.length
  all : ∀ y ∈ scope.names, y.2 = .free → y.1 ∈ (G.lam k).caps
  caps : ∀ (j i : Nat), cs[j]? = some i → ∃ x, (G.lam k).caps[j]? = some x ∧ X.N[i]? = some x ∧ (x, NameKind.free) ∈ scope.names
theorem em_lam {k : Nat} {cs : List Nat} {params : Arguments} {body : Expr} {scope : Scope} (L : LamOk X G k cs params body scope) : PEm X G B fld W cx (.Lambda params body scope pos) (.lam k cs) := by
  refine ⟨fun pins s σ H Q I ⟨env, st, ρ, R, h⟩ => ?_⟩
  rw [E] at h
  obtain ⟨ns, hns, h⟩ := Post.of_some (Post.bind h)
  have h := Post.now h R
  obtain ⟨c, P, TB, hcode, hm, hu⟩ := L.ex
  obtain ⟨l1, l2, l3, l4⟩ := L.lam
  have hfree : ∀ y ∈ scope.names, y.2 = .free → ∃ c, X.env.cells.lookup y.1 = some c := fun y hy e => by
    rcases L.free y hy e with z | z
    · exact I.ok.has _ (.inl z)
    · exact I.ok.has _ (.inr z)
  have back : ∀ x b, (cloFrom X.env.cells scope.names []).lookup x = some b → X.env.cells.lookup x = some b := fun x b hb => by
    rcases cloFrom_mem (PySem.mem_of_lookup hb) with hm | ⟨h1, h2⟩
    · cases hm
    · obtain ⟨c, hc⟩ := hfree _ h1 rfl
      have hc : X.env.cells.lookup x = some c := hc
      rw [hc] at h2
      rw [hc, h2]
      rfl
  refine lam_makeT I TB hcode hm hu R.tb L.dfl hfree fun f c' pm ctv H1 s' hf J hE tg tb hco => ?_
  have R1 := R.ext hE tg tb
  have sm : Same H1 (upd H1 f (.frz (lamObj X params body scope pm c' ctv) (.own f))) := same_new hf
  refine ⟨.ref f, _, J, rfl, h _ ρ ((ext_keep hE).trans sm.keep) (List.prefix_refl _) (R1.same sm) _ ?_⟩
  obtain ⟨g1, g2⟩ := cellsOf_get hns
  refine .clo (c' := c') (pm := pm) (ctv := ctv) (clos := cloFrom X.env.cells scope.names []) ?_ ?_ (g1.trans L.len) (fun j n x hj hx => ?_) (fun x b hb => ?_) fun x y b hx hy => I.ok.inj x y b (back x b hx) (back y b hy)
  · rw [l1, l2, l3, l4]
    exact upd_same
  · rw [l1]
    exact sm _ _ hco
  · obtain ⟨i, e1, e2⟩ := g2 j n hj
    obtain ⟨y, y1, y2, y3⟩ := L.caps j i e1
    rw [hx] at y1
    cases y1
    obtain ⟨z, b, z1, z2, z3, _⟩ := R.ec i n e2
    rw [y2] at z1
    cases z1
    have hv : Vis X.env.scope x := (L.free _ y3 rfl).elim (fun q => .inr (.inl q)) fun q => .inr (.inr q)
    exact ⟨b, z2, clo_lookup y3 (z3 hv).1⟩
  · rcases cloFrom_mem (PySem.mem_of_lookup hb) with hm | ⟨h1, _⟩
    · cases hm
    · exact L.all _ h1 rfl
end
end KP
end
section
set_option autoImplicit false
set_option linter.all false
set_option maxRecDepth 100000
set_option maxHeartbeats 4000000
/-! KApp: lambdas are applied. -/
namespace KP
open PySem PySem.Spec PyProof.Rows L2

section
variable {X : Cx} {G : Glo} {K : PySem.W.Frag} {fld : Nat → List Str} {cx : Cc} {H : Hp} {ρ : List Addr} {st : So} {av : Addr → Prop}
/-- the cells at these places are not tracked -/
def cutH (as : List Addr) (H : Hp) : Hp := fun a => if a ∈ as then none else H a
/-- they are tracked again, as in H0 -/
def addH (as : List Addr) (H0 H : Hp) : Hp := fun a => if a ∈ as then H0 a else H a
theorem cutH_in {as : List Addr} {a : Addr} (h : a ∈ as) : cutH as H a = none := if_pos h
theorem cutH_out {as : List Addr} {a : Addr} (h : a ∉ as) : cutH as H a = H a := if_neg h
theorem addH_in {as : List Addr} {H0 : Hp} {a : Addr} (h : a ∈ as) : addH as H0 H a = H0 a := if_pos h
theorem addH_out {as : List Addr} {H0 : Hp} {a : Addr} (h : a ∉ as) : addH as H0 H a = H a := if_neg h
/-- cells told at these places -/
def CelsAt (H : Hp) (as : List Addr) : Prop := ∀ a ∈ as, ∃ oc v, H a = some (.frz oc (CelO a v))
theorem cut_keep {as : List Addr} (h : CelsAt H as) : Keep H (cutH as H) := by
  have mv : ∀ a u, H a = some u → (∀ o φ, u ≠ .frz o (.ext φ)) → cutH as H a = some u := fun a u q hn => by
    by_cases e : a ∈ as
    · obtain ⟨oc, v, z⟩ := h a e
      rw [q] at z
      cases z
      exact absurd rfl (hn _ _)
    · rw [cutH_out e]
      exact q
  exact {
    tups := fun a xs q => mv _ _ q fun o φ z => by cases z
    frzs := fun a o u q hn => mv _ _ q fun o φ z => by cases z; exact hn _ rfl
    codes := fun a q z => mv _ _ z fun o φ z => by unfold LamX.CodeO at z; cases z }
theorem tabK_cut {as : List Addr} (h : CelsAt H as) {b : Addr} {q : Str} (t : LamX.TabS H b q) : LamX.TabS (cutH as H) b q := by
  have mv : ∀ a u, H a = some u → (∀ o φ, u ≠ .frz o (.ext φ)) → cutH as H a = some u := fun a u q hn => by
    by_cases e : a ∈ as
    · obtain ⟨oc, v, z⟩ := h a e
      rw [q] at z
      cases z
      exact absurd rfl (hn _ _)
    · rw [cutH_out e]
      exact q
  obtain ⟨ps, t1, t2, t3⟩ := t
  refine ⟨ps, mv _ _ t1 (fun o φ z => by cases z), t2, fun pos cv hc => ?_⟩
  obtain ⟨c, e1, e2⟩ := t3 pos cv hc
  exact ⟨c, e1, mv _ _ e2 fun o φ z => by unfold LamX.CodeO at z; cases z⟩
theorem add_keep {as : List Addr} {H0 : Hp} (h : ∀ a ∈ as, H a = none) : Keep H (addH as H0 H) := by
  have mv : ∀ a u, H a = some u → addH as H0 H a = some u := fun a u q => by
    by_cases e : a ∈ as
    · rw [h a e] at q
      cases q
    · rw [addH_out e]
      exact q
  exact ⟨fun a xs q => mv _ _ q, fun a o u q _ => mv _ _ q, fun a q z => mv _ _ z⟩
theorem cut_hok {P : Program} {w : World} {h : Heap} {as : List Addr} (c : CelsAt H as) (hk : HOk P w H h) : HOk P w (cutH as H) h := fun a o e => by
  by_cases i : a ∈ as
  · rw [cutH_in i] at e
    cases e
  · rw [cutH_out i] at e
    have nn : ∀ b u, H b = some u → (∀ o φ, u ≠ .frz o (.ext φ)) → cutH as H b = some u := fun b u q hn => by
      by_cases e : b ∈ as
      · obtain ⟨oc, v, z⟩ := c b e
        rw [q] at z
        cases z
        exact absurd rfl (hn _ _)
      · rw [cutH_out e]
        exact q
    exact ObjOk.stay (hk a o e) (fun b u _ q => q) (fun b q => nn _ _ q fun o φ z => by cases z) (fun b xs q => nn _ _ q fun o φ z => by cases z)
theorem cut_env0 {P : Program} {w : World} {mg : Str → Option Value} {base : Heap} {A : Around} {outer : List Env} {s : Shared} {as : List Addr} (c : CelsAt H as) (e : Env0 P w K mg base A outer s H) : Env0 P w K mg base A outer s (cutH as H) where
  frames := e.frames
  mod := e.mod
  bs := fun b o h => ⟨(e.bs b o h).1, by
    by_cases i : b ∈ as
    · exact cutH_in i
    · rw [cutH_out i]
      exact (e.bs b o h).2⟩
  bsz := e.bsz
  funs := e.funs
  frf := fun b hb => by
    by_cases i : b ∈ as
    · exact cutH_in i
    · rw [cutH_out i]
      exact e.frf b hb
  hok := cut_hok c e.hok
  bare := e.bare
/-- the context of a lambda's body, entered at s from the frames outer -/
def appCx (P : Program) (w : World) (K : PySem.W.Frag) (mg : Str → Option Value) (base : Heap) (N : List Str) (env : Env) (A : Around) (outer : List Env) (s : Shared) (H : Hp) (E : XK) : Cx where
  prog := P
  w := w
  K := K
  mg := mg
  base := base
  A := A.deeper env
  N := N
  s_0 := s
  H_0 := H
  env := env
  outer := outer
  stack := env :: outer
  ex := []
  fn := fun _ => false
  calm := true
  pn := []
  xe := fun e s' => wpAny (model P w) (A.deeper env) (leaving env e) (fun _ s'' => L2.CX P w outer H s E e s'') (fun e' s'' => L2.CX P w outer H s E e' s'') s'
/-- a lambda's names: parameters, what it holds, names of the module -/
structure LamSc (L : LamD) : Prop where
  kind : L.scope.kind = .function
  co : L.scope.isCoroutine = false
  gen : L.scope.isGenerator = false
  nocell : ∀ y ∈ L.scope.names, y.2 ≠ .cell
  par : ∀ x ∈ L.ps, L.scope.names.lookup x = some .local
  cap : ∀ x ∈ L.caps, L.scope.names.lookup x = some .free
  free : ∀ y ∈ L.scope.names, y.2 = .free → y.1 ∈ L.caps
  loc : ∀ y ∈ L.scope.names, y.2 = .local → y.1 ∈ L.ps
  nd : (L.ps ++ L.caps).Nodup
theorem zip_rev {α : Type} : ∀ {ks : List Str} {vs : List α} {i : Nat} {k : Str} {v : α}, ks.Nodup → ks[i]? = some k → vs[i]? = some v → (ks.zip vs).reverse.lookup k = some v := by
  have gen : ∀ {ks : List Str} {vs : List α} {i : Nat} {k : Str} {v : α}, ks.Nodup → ks[i]? = some k → vs[i]? = some v → ∀ acc : List (Str × α), ((ks.zip vs).reverse ++ acc).lookup k = some v := by
    intro ks
    induction ks with
    | nil => intro vs i k v _ hk _ _; simp at hk
    | cons k0 ks ih =>
      intro vs i k v hn hk hv acc
      cases vs with
      | nil => simp at hv
      | cons v0 vs =>
        rw [List.zip_cons_cons, List.reverse_cons, List.append_assoc]
        cases i with
        | succ i => exact ih (List.nodup_cons.mp hn).2 (by simpa using hk) (by simpa using hv) _
        | zero =>
          cases hk
          cases hv
          have h : ∀ (l : List (Str × α)) (acc : List (Str × α)), (∀ p ∈ l, p.1 ≠ k0) → (l ++ ((k0, v) :: acc)).lookup k0 = some v := by
            intro l acc h
            induction l with
            | nil => simp
            | cons p l ih2 =>
              have e : (k0 == p.1) = false := by simpa using Ne.symm (h p (List.mem_cons_self ..))
              rw [List.cons_append, List.lookup_cons, e]
              exact ih2 fun q hq => h q (List.mem_cons_of_mem _ hq)
          refine h _ _ fun p hp e => ?_
          rw [List.mem_reverse] at hp
          exact (List.nodup_cons.mp hn).1 (e ▸ (List.of_mem_zip hp).1)
  intro ks vs i k v a b c
  have z := gen a b c []
  rw [List.append_nil] at z
  exact z
theorem inv_app {P : Program} {w : World} {mg : Str → Option Value} {base : Heap} {A : Around} {outer : List Env} {s : Shared} {E : XK} {L : LamD} {as : List Addr} {us : List Value} {vs cv : List V} {clos : List (Str × Addr)} {env : Env} {h1 : Heap} {tk : Nat} (S : LamSc L) (e0 : Env0 P w K mg base A outer s (cutH as H)) (hd : A.handled = none)
    (hs : env.scope = L.scope) (hg : env.globals = mainGlobals) (hb : env.builtins = builtinsNs) (hl : env.locals = s.heap.objs.size) (hf : env.frame = some env.locals) (hc : env.cells = clos)
    (hinj : ∀ x y b, clos.lookup x = some b → clos.lookup y = some b → x = y) (hin : ∀ x b, clos.lookup x = some b → x ∈ L.caps) (hcap : ∀ (j : Nat) (x : Str), L.caps[j]? = some x → ∃ b v u, clos.lookup x = some b ∧ b ∈ as ∧ cv[j]? = some v ∧ RelV v u ∧ s.heap.IsCell b (some u))
    (hu : Vals vs us) (hlen : us.length = L.ps.length) (hlc : cv.length = L.caps.length) (hns : h1.Ns s.heap.objs.size fun y => (L.ps.zip us).reverse.lookup y) (kp : ∀ b o, s.heap.get? b = some o → h1.get? b = some o) :
    Inv (appCx P w K mg base (L.ps ++ L.caps) env A outer s (cutH as H) E) [] (vs.map some ++ cv.map some) (cutH as H) { s with heap := h1, toks := tk } := by
  have hvl : vs.length = L.ps.length := by rw [hu.length, hlen]
  have cellAt : ∀ x b, clos.lookup x = some b → b ∈ as ∧ ∃ v, s.heap.IsCell b v := fun x b hx => by
    obtain ⟨j, hj, ej⟩ := List.getElem_of_mem (hin x b hx)
    obtain ⟨b', v, u, q1, q2, _, _, q5⟩ := hcap j x (by rw [List.getElem?_eq_getElem hj, ej])
    rw [hx] at q1
    cases q1
    exact ⟨q2, _, q5⟩
  have cellK : ∀ {b : Addr} {v : Option Value}, s.heap.IsCell b v → h1.IsCell b v := fun {b v} ⟨o, ho, hd⟩ => ⟨o, kp _ _ ho, hd⟩
  refine ⟨⟨e0.mod, ?_, hg, hb, by show s.heap.objs.size ≤ env.locals; rw [hl]; exact Nat.le_refl _, fun x y c h1 h2 => ?_, fun x hx => ?_, fun x c z _ => ?_, fun _ => hd, Around.frames_deeper e0.frames, .inr ⟨rfl, hf⟩, fun b z => ?_, e0.bs, e0.bsz, fun b _ _ z => ?_, fun b z => ?_, e0.funs, e0.frf⟩,
    rfl, e0.bare, Un.kept kp, ⟨fun y => (L.ps.zip us).reverse.lookup y, ?_, fun i x v g1 g2 g3 => ?_⟩, fun x c h => ?_, ?_, fun x c h => ?_, fun p hp => ?_, e0.hok.kept kp, ?_⟩
  · show env.scope.kind = .function
    rw [hs]
    exact S.kind
  · have h1 : env.cells.lookup x = some c := h1
    have h2 : env.cells.lookup y = some c := h2
    rw [hc] at h1 h2
    exact hinj x y c h1 h2
  · have hx : env.scope.names.lookup x = some .cell ∨ env.scope.names.lookup x = some .free := hx
    rw [hs] at hx
    show ∃ c, env.cells.lookup x = some c
    rw [hc]
    rcases hx with hx | hx
    · exact absurd rfl (S.nocell _ (PySem.mem_of_lookup hx))
    · have hm := S.free _ (PySem.mem_of_lookup hx) rfl
      obtain ⟨j, hj, ej⟩ := List.getElem_of_mem hm
      obtain ⟨b, v, u, q1, _⟩ := hcap j x (by rw [List.getElem?_eq_getElem hj, ej])
      exact ⟨b, q1⟩
  · have z : false = true := z
    cases z
  · exact absurd (show b ∈ ([] : List Addr) from z) (by simp)
  · exact absurd (show b ∈ ([] : List Addr) from z) (by simp)
  · exact absurd (show b ∈ ([] : List Addr) from z) (by simp)
  · show h1.Ns env.locals _
    rw [hl]
    exact hns
  · have g1 : (L.ps ++ L.caps)[i]? = some x := g1
    by_cases hi : i < L.ps.length
    · rw [List.getElem?_append_left hi] at g1
      rw [List.getElem?_append_left (by rw [List.length_map, hvl]; exact hi), List.getElem?_map] at g2
      have g2' : vs[i]? = some v := by
        cases q : vs[i]? with
        | none => rw [q] at g2; cases g2
        | some v' => rw [q] at g2; cases g2; rfl
      obtain ⟨u, u1, u2⟩ := hu.get g2'
      refine ⟨u, u2, .inl ⟨?_, ?_⟩⟩
      · show env.scope.names.lookup x = some .local
        rw [hs]
        exact S.par x (List.mem_of_getElem? g1)
      · exact zip_rev (List.nodup_append.mp S.nd).1 g1 u1
    · have hi : L.ps.length ≤ i := Nat.le_of_not_lt hi
      rw [List.getElem?_append_right hi] at g1
      rw [List.getElem?_append_right (by rw [List.length_map, hvl]; exact hi), List.length_map, hvl, List.getElem?_map] at g2
      obtain ⟨b, v', u, q1, q2, q3, q4, q5⟩ := hcap _ x g1
      rw [q3] at g2
      cases g2
      refine ⟨u, q4, .inr ⟨.inr ?_, b, ?_, cellK q5⟩⟩
      · show env.scope.names.lookup x = some .free
        rw [hs]
        exact S.cap x (List.mem_of_getElem? g1)
      · show env.cells.lookup x = some b
        rw [hc]
        exact q1
  · have h : env.cells.lookup x = some c := h
    rw [hc] at h
    obtain ⟨_, v, z⟩ := cellAt x c h
    exact ⟨v, cellK z⟩
  · show cutH as H env.locals = none
    rw [hl]
    exact e0.hok.fresh (Nat.le_refl _)
  · have h : env.cells.lookup x = some c := h
    rw [hc] at h
    exact cutH_in (cellAt x c h).1
  · exact absurd (show p ∈ ([] : List (Addr × Obj)) ++ [] from hp) (by simp)
  · show (vs.map some ++ cv.map some).length = (L.ps ++ L.caps).length
    rw [List.length_append, List.length_append, List.length_map, List.length_map, hvl, hlc]
/-- what a lambda holds, at its call -/
structure Held (K : PySem.W.Frag) (G : Glo) (H : Hp) (ρ : List Addr) (st : So) (cs : List Nat) (as : List Addr) (cv : List V) : Prop where
  la : as.length = cs.length
  lv : cv.length = cs.length
  at_ : ∀ (j n : Nat), cs[j]? = some n → ∃ a v d, as[j]? = some a ∧ cv[j]? = some v ∧ ρ[n]? = some a ∧ st[n]? = some (.cel (some d)) ∧ Rep K G H ρ d v ∧ ∃ oc, H a = some (.frz oc (CelO a v))
theorem held_of (sr : SRel K G av H st ρ) : ∀ (cs : List Nat), cs.all (told1 st) = true → ∃ as cv, Held K G H ρ st cs as cv
  | [], _ => ⟨[], [], rfl, rfl, fun j n h => by simp at h⟩
  | n :: cs, h => by
    rw [List.all_cons, Bool.and_eq_true] at h
    obtain ⟨as, cv, l1, l2, g⟩ := held_of sr cs h.2
    have hd : ∃ d, st[n]? = some (.cel (some d)) := by
      have h1 := h.1
      unfold told1 at h1
      split at h1
      · rename_i d q
        exact ⟨d, q⟩
      · cases h1
    obtain ⟨d, hd⟩ := hd
    have hlt : n < ρ.length := by
      rw [sr.len]
      exact (List.getElem?_eq_some_iff.mp hd).1
    obtain ⟨oc, v, e1, e2⟩ := sr.so n (ρ[n]) _ (List.getElem?_eq_getElem hlt) hd
    refine ⟨ρ[n] :: as, v :: cv, by rw [List.length_cons, List.length_cons, l1], by rw [List.length_cons, List.length_cons, l2], fun j m hj => ?_⟩
    cases j with
    | zero =>
      cases hj
      exact ⟨_, _, d, rfl, rfl, List.getElem?_eq_getElem hlt, hd, e2, oc, e1⟩
    | succ j =>
      obtain ⟨a, v, d, q⟩ := g j m (by simpa using hj)
      exact ⟨a, v, d, by simpa using q⟩
theorem Held.cels {cs : List Nat} {as : List Addr} {cv : List V} (h : Held K G H ρ st cs as cv) : CelsAt H as := fun a ha => by
  obtain ⟨j, hj, e⟩ := List.getElem_of_mem ha
  have hj' : j < cs.length := by rw [← h.la]; exact hj
  obtain ⟨a', v, d, q1, _, _, _, _, oc, q2⟩ := h.at_ j cs[j] (List.getElem?_eq_getElem hj')
  rw [List.getElem?_eq_getElem hj, e] at q1
  cases q1
  exact ⟨oc, v, q2⟩
theorem Held.ix {cs : List Nat} {as : List Addr} {cv : List V} (h : Held K G H ρ st cs as cv) {a : Addr} (ha : a ∈ as) : ∃ n d, n ∈ cs ∧ ρ[n]? = some a ∧ st[n]? = some (.cel (some d)) := by
  obtain ⟨j, hj, e⟩ := List.getElem_of_mem ha
  have hj' : j < cs.length := by rw [← h.la]; exact hj
  obtain ⟨a', v, d, q1, _, q3, q4, _⟩ := h.at_ j cs[j] (List.getElem?_eq_getElem hj')
  rw [List.getElem?_eq_getElem hj, e] at q1
  cases q1
  exact ⟨_, d, List.getElem_mem hj', q3, q4⟩
/-- the places of a lambda's frame -/
def lamE (ds : List D) (cs : List Nat) : En := ds.map .v ++ cs.map .cel
theorem lamE_get {ds : List D} {cs : List Nat} {i : Nat} {sl : Sl} (h : (lamE ds cs)[i]? = some sl) : (i < ds.length ∧ ∃ d, ds[i]? = some d ∧ sl = .v d) ∨ (ds.length ≤ i ∧ ∃ n, cs[i - ds.length]? = some n ∧ sl = .cel n) := by
  unfold lamE at h
  by_cases e : i < ds.length
  · rw [List.getElem?_append_left (by rw [List.length_map]; exact e), List.getElem?_map] at h
    obtain ⟨d, h1, h2⟩ := Option.map_eq_some_iff.mp h
    exact .inl ⟨e, d, h1, h2.symm⟩
  · have e : ds.length ≤ i := Nat.le_of_not_lt e
    rw [List.getElem?_append_right (by rw [List.length_map]; exact e), List.length_map, List.getElem?_map] at h
    obtain ⟨n, h1, h2⟩ := Option.map_eq_some_iff.mp h
    exact .inr ⟨e, n, h1, h2.symm⟩
theorem rel_app {P : Program} {w : World} {mg : Str → Option Value} {base : Heap} {A : Around} {outer : List Env} {s : Shared} {E : XK} {L : LamD} {cs : List Nat} {as : List Addr} {ds : List D} {vs cv : List V} {clos : List (Str × Addr)} {env : Env} (S : LamSc L) (e0 : Env0 P w K mg base A outer s H)
    (sr : SRel K G av H st ρ) (hh : Held K G H ρ st cs as cv) (rs : RepL K G H ρ ds vs) (hs : env.scope = L.scope) (hc : env.cells = clos) (hl : env.locals = s.heap.objs.size) (hf : env.frame = some env.locals) (hp : ds.length = L.ps.length) (hcl : cs.length = L.caps.length) (hnd : cs.Nodup)
    (hlook : ∀ (j n : Nat) (x : Str), cs[j]? = some n → L.caps[j]? = some x → ∃ b, ρ[n]? = some b ∧ clos.lookup x = some b) :
    Rel K G (appCx P w K mg base (L.ps ++ L.caps) env A outer s (cutH as H) E) ⟨cutH as H, ρ, false, av⟩ (vs.map some ++ cv.map some) (cutH as H) (lamE ds cs) st ρ := by
  have ca := hh.cels
  have k := cut_keep ca
  have out : ∀ a, av a → a ∉ as := fun a h i => by
    obtain ⟨n, d, _, q2, q3⟩ := hh.ix i
    obtain ⟨o, _, q⟩ := sr.pv a h
    cases q n _ q2 q3
  have hvl : vs.length = ds.length := rs.length.symm
  exact {
    gr := Grow.refl _ _
    nc := fun z => by cases z
    tb := fun p hp => tabK_cut ca (sr.tb p hp)
    pt := fun a h ps e => by
      have e : cutH as H a = some (.tbl ps) := e
      rw [cutH_out (out a h)] at e
      exact sr.pt a h ps e
    pv := fun a h => by
      obtain ⟨o, h1, h2⟩ := sr.pv a h
      have h3 : cutH as H a = some o := by rw [cutH_out (out a h)]; exact h1
      exact ⟨o, h3, h3, fun n ob q1 q2 _ => h2 n ob q1 q2⟩
    len := sr.len
    nd := fun n m a ob ob' h1 h2 h3 h4 h5 _ _ => sr.nd n m a ob ob' h1 h2 h3 h4 h5
    so := fun n a ob h1 h2 h3 => by
      by_cases i : a ∈ as
      · obtain ⟨m, d, q1, q2, q3⟩ := hh.ix i
        have nm : n ≠ m := fun e => by
          subst e
          refine h3 ?_
          unfold lamE
          exact List.mem_append_right _ (List.mem_map_of_mem q1)
        rcases sr.nd n m a ob _ h1 q2 nm h2 q3 with z | z
        · rw [z]
          exact True.intro
        · cases z
      · exact (sr.so n a ob h1 h2).move (fun u h => by rw [cutH_out i]; exact h) k (List.prefix_refl _)
    sc := fun n ob h1 h2 => by
      obtain ⟨i, hi, e⟩ := List.getElem_of_mem h2
      rcases lamE_get (show (lamE ds cs)[i]? = some (Sl.cel n) by rw [List.getElem?_eq_getElem hi, e]) with ⟨_, d, _, q⟩ | ⟨_, m, q1, q2⟩
      · cases q
      · cases q2
        obtain ⟨_, _, d, _, _, _, z, _⟩ := hh.at_ _ n q1
        rw [h1] at z
        cases z
        exact ⟨_, rfl⟩
    el := by
      show (lamE ds cs).length = (L.ps ++ L.caps).length
      unfold lamE
      rw [List.length_append, List.length_append, List.length_map, List.length_map, hp, hcl]
    ev := fun i d h => by
      rcases lamE_get h with ⟨hi, d', h1, q⟩ | ⟨_, n, _, q⟩
      · cases q
        obtain ⟨v, v1, v2⟩ := rs.get h1
        refine ⟨v, ?_, v2.keep k (List.prefix_refl _)⟩
        rw [List.getElem?_append_left (by rw [List.length_map, hvl]; exact hi), List.getElem?_map, v1]
        rfl
      · cases q
    eo := fun i xs h => by
      rcases lamE_get h with ⟨_, d', _, q⟩ | ⟨_, n, _, q⟩ <;> cases q
    ed := fun i j xs ys p h => by
      rcases lamE_get h with ⟨_, d', _, q⟩ | ⟨_, n, _, q⟩ <;> cases q
    ec := fun i n h => by
      rcases lamE_get h with ⟨_, d', _, q⟩ | ⟨hi, m, q1, q2⟩
      · cases q
      · cases q2
        have hlt : i - ds.length < L.caps.length := by
          rw [← hcl]
          exact (List.getElem?_eq_some_iff.mp q1).1
        have hx : L.caps[i - ds.length]? = some (L.caps[i - ds.length]) := List.getElem?_eq_getElem hlt
        obtain ⟨b, b1, b2⟩ := hlook _ n _ q1 hx
        obtain ⟨a, v, d, a1, a2, a3, a4, a5, oc, a6⟩ := hh.at_ _ n q1
        rw [b1] at a3
        cases a3
        refine ⟨L.caps[i - ds.length], b, ?_, b1, fun _ => ⟨?_, ?_, ?_, ?_⟩, fun d' hd' => ⟨?_, v, ?_, ?_⟩⟩
        · show (L.ps ++ L.caps)[i]? = _
          rw [List.getElem?_append_right (by rw [← hp]; exact hi), ← hp]
          exact hx
        · show env.cells.lookup _ = some b
          rw [hc]
          exact b2
        · show env.scope.names.lookup _ ≠ some .local
          rw [hs, S.cap _ (List.getElem_mem hlt)]
          simp
        · show base.get? b = none
          cases z : base.get? b with
          | none => rfl
          | some o =>
            rw [(e0.bs b o z).2] at a6
            cases a6
        · show b ∉ frs (env :: outer)
          intro hm
          have hm : b ∈ frs (env :: outer) := hm
          unfold frs at hm
          rw [List.filterMap_cons, hf] at hm
          rcases List.mem_cons.mp hm with e | e
          · rw [hl] at e
            have z := e0.hok.fresh (Nat.le_refl s.heap.objs.size)
            rw [← e, a6] at z
            cases z
          · have z := e0.frf b e
            rw [a6] at z
            cases z
        · show Vis env.scope _
          rw [hs]
          exact .inr (.inr (S.cap _ (List.getElem_mem hlt)))
        · rw [List.getElem?_append_right (by rw [List.length_map, hvl]; exact hi), List.length_map, hvl, List.getElem?_map, a2]
          rfl
        · rw [a4] at hd'
          cases hd'
          exact a5.keep k (List.prefix_refl _)
    ei := fun i j n h1 h2 => by
      rcases lamE_get h1 with ⟨_, d', _, q⟩ | ⟨hi, m, q1, q2⟩
      · cases q
      · rcases lamE_get h2 with ⟨_, d', _, q⟩ | ⟨hj, m', q3, q4⟩
        · cases q
        · cases q2
          cases q4
          obtain ⟨l1, e1⟩ := List.getElem?_eq_some_iff.mp q1
          obtain ⟨l2, e2⟩ := List.getElem?_eq_some_iff.mp q3
          have := (List.getElem_inj hnd).mp (e1.trans e2.symm)
          omega }
/-- a lambda's end: what it holds is tracked again -/
theorem add_cell {P : Program} {w : World} {as : List Addr} {H' : Hp} {h h' : Heap} (c : CelsAt H as) (hk : HOk P w H h) (kp : ∀ a o, a ∈ as → h.get? a = some o → h'.get? a = some o) (hk' : HOk P w H' h') (nn : ∀ a ∈ as, H' a = none) : HOk P w (addH as H H') h' := fun a o e => by
  by_cases i : a ∈ as
  · rw [addH_in i] at e
    obtain ⟨oc, v, z⟩ := c a i
    rw [z] at e
    cases e
    obtain ⟨h1, ⟨u, r, o', h2, h3⟩, _, _⟩ := hk a _ z
    refine ⟨kp a _ i h1, ⟨u, r, o', kp a _ i h2, h3⟩, ⟨_, kp a _ i h1⟩, fun g1 g2 ⟨u', r', o2, q1, q2⟩ k => ⟨u', r', o2, k _ q1, q2⟩⟩
  · rw [addH_out i] at e
    have mv : ∀ b u, H' b = some u → addH as H H' b = some u := fun b u q => by
      by_cases j : b ∈ as
      · rw [nn b j] at q
        cases q
      · rw [addH_out j]
        exact q
    exact ObjOk.stay (hk' a o e) (fun b u _ q => q) (fun b q => mv _ _ q) (fun b xs q => mv _ _ q)
theorem add_CE {P : Program} {w : World} {mg : Str → Option Value} {base : Heap} {A : Around} {outer : List Env} {s s' : Shared} {as : List Addr} {Q : VK} {u : Value} (c : CelsAt H as) (e0 : Env0 P w K mg base A outer s H)
    (z : CE outer P w (cutH as H) s Q u s') : CE outer P w H s (fun v H'' => ∃ H', (∀ a ∈ as, H' a = none) ∧ H'' = addH as H H' ∧ Q v H') u s' := by
  obtain ⟨v, H', os, bare, un, hok, r, q⟩ := z
  have hp : ∀ a ∈ as, ∃ o, s.heap.get? a = some o := fun a i => by
    obtain ⟨oc, v, z⟩ := c a i
    exact ⟨oc, (e0.hok a _ z).1⟩
  have nn : ∀ a ∈ as, H' a = none := fun a i => by
    obtain ⟨o, h⟩ := hp a i
    exact un.free a o h (cutH_in i) (by simp)
  have nf : ∀ a ∈ as, a ∉ frs outer := fun a i j => by
    obtain ⟨oc, v, z⟩ := c a i
    rw [e0.frf a j] at z
    cases z
  have kp : ∀ a o, a ∈ as → s.heap.get? a = some o → s'.heap.get? a = some o := fun a o i h => un.keep a o h (cutH_in i) (nf a i) (by simp)
  refine ⟨v, addH as H H', os, bare, ?_, add_cell c e0.hok kp hok nn, r, H', nn, rfl, q⟩
  have ct : ∀ b, H b = none → cutH as H b = none := fun b n => by
    by_cases i : b ∈ as
    · exact cutH_in i
    · rw [cutH_out i]
      exact n
  exact {
    keep := fun b o e n hb hx => un.keep b o e (ct b n) hb hx
    slot := fun b o e n hb hx => un.slot b o e (ct b n) hb hx
    free := fun b o e n hx => by
      by_cases i : b ∈ as
      · rw [addH_in i]
        exact n
      · rw [addH_out i]
        exact un.free b o e (ct b n) hx
    there := un.there
    tups := fun b xs h => by
      by_cases i : b ∈ as
      · rw [addH_in i]
        exact h
      · rw [addH_out i]
        exact un.tups b xs (by rw [cutH_out i]; exact h)
    frzs := fun b o u h => by
      by_cases i : b ∈ as
      · rw [addH_in i]
        exact h
      · rw [addH_out i]
        exact un.frzs b o u (by rw [cutH_out i]; exact h)
    tbls := fun b ps h => by
      by_cases i : b ∈ as
      · rw [addH_in i]
        exact ⟨#[], by rw [Array.append_empty]; exact h⟩
      · rw [addH_out i]
        exact un.tbls b ps (by rw [cutH_out i]; exact h) }
theorem add_CX {P : Program} {w : World} {mg : Str → Option Value} {base : Heap} {A : Around} {outer : List Env} {s s' : Shared} {as : List Addr} {E : XK} {u : Value} (c : CelsAt H as) (e0 : Env0 P w K mg base A outer s H)
    (z : L2.CX P w outer (cutH as H) s E u s') : L2.CX P w outer H s (fun cls d H'' => ∃ H', (∀ a ∈ as, H' a = none) ∧ H'' = addH as H H' ∧ E cls d H') u s' := by
  obtain ⟨a, B, H', cls, d, rfl, fl, hok, ub, na, os, ag, hE⟩ := z
  have hp : ∀ a ∈ as, ∃ o, s.heap.get? a = some o := fun a i => by
    obtain ⟨oc, v, z⟩ := c a i
    exact ⟨oc, (e0.hok a _ z).1⟩
  have nn : ∀ a ∈ as, H' a = none := fun a i => by
    obtain ⟨o, h⟩ := hp a i
    exact ub.free a o h (cutH_in i)
  have nf : ∀ a ∈ as, a ∉ frs outer := fun a i j => by
    obtain ⟨oc, v, z⟩ := c a i
    rw [e0.frf a j] at z
    cases z
  have kp : ∀ a o, a ∈ as → s.heap.get? a = some o → B.get? a = some o := fun a o i h => ub.keep a o h (cutH_in i) (nf a i)
  have ct : ∀ b, H b = none → cutH as H b = none := fun b n => by
    by_cases i : b ∈ as
    · exact cutH_in i
    · rw [cutH_out i]
      exact n
  refine ⟨a, B, addH as H H', cls, d, rfl, fl, add_cell c e0.hok kp hok nn, ?_, ?_, os, ag, H', nn, rfl, hE⟩
  · exact {
      keep := fun b o e n hb => ub.keep b o e (ct b n) hb
      slot := ub.slot
      free := fun b o e n => by
        by_cases i : b ∈ as
        · rw [addH_in i]
          exact n
        · rw [addH_out i]
          exact ub.free b o e (ct b n)
      there := ub.there
      tups := fun b xs h => by
        by_cases i : b ∈ as
        · rw [addH_in i]
          exact h
        · rw [addH_out i]
          exact ub.tups b xs (by rw [cutH_out i]; exact h)
      frzs := fun b o u h => by
        by_cases i : b ∈ as
        · rw [addH_in i]
          exact h
        · rw [addH_out i]
          exact ub.frzs b o u (by rw [cutH_out i]; exact h)
      tbls := fun b ps h => by
        by_cases i : b ∈ as
        · rw [addH_in i]
          exact ⟨#[], by rw [Array.append_empty]; exact h⟩
        · rw [addH_out i]
          exact ub.tbls b ps (by rw [cutH_out i]; exact h) }
  · by_cases i : a ∈ as
    · obtain ⟨o, h⟩ := hp a i
      have hb := kp a o i h
      exact absurd hb (by
        rw [fl.2.1]
        simp)
    · rw [addH_out i]
      exact na
end
end KP
end
section
set_option autoImplicit false
set_option linter.all false
set_option maxRecDepth 100000
set_option maxHeartbeats 4000000
/-! KApp2: a lambda's promise; what a name holds is called. -/
namespace KP
open PySem PySem.Spec PyProof.Rows L2

section
variable {X : Cx} {G : Glo} {K : PySem.W.Frag} {fld : Nat → List Str} {cx : Cc} {H H' : Hp} {ρ ρ' : List Addr} {st st' : So} {av : Addr → Prop} {σ : L2.St} {env : En}
theorem tabK_add {as : List Addr} {H0 : Hp} (h : ∀ a ∈ as, H a = none) {b : Addr} {q : Str} (t : LamX.TabS H b q) : LamX.TabS (addH as H0 H) b q := by
  have mv : ∀ a u, H a = some u → addH as H0 H a = some u := fun a u q => by
    by_cases e : a ∈ as
    · rw [h a e] at q
      cases q
    · rw [addH_out e]
      exact q
  obtain ⟨ps, t1, t2, t3⟩ := t
  refine ⟨ps, mv _ _ t1, t2, fun pos cv hc => ?_⟩
  obtain ⟨c, e1, e2⟩ := t3 pos cv hc
  exact ⟨c, e1, mv _ _ e2⟩
theorem Rel.back_app {as : List Addr} (R : Rel K G X ⟨cutH as H, ρ, false, av⟩ σ H' env st' ρ') (k : Keep (cutH as H) H') (nn : ∀ a ∈ as, H' a = none) (ca : CelsAt H as) (hix : ∀ a ∈ as, a ∈ ρ) (out : ∀ a, av a → a ∉ as)
    (cw : ∀ (i n : Nat) (d : D) (a : Addr), env[i]? = some (.cel n) → st'[n]? = some (.cel (some d)) → ρ'[n]? = some a → a ∈ as ∧ ∃ oc v, H a = some (.frz oc (CelO a v)) ∧ σ[i]? = some (some v))
    (inj : ∀ (i j n m : Nat) (d d' : D) (a : Addr), env[i]? = some (.cel n) → env[j]? = some (.cel m) → st'[n]? = some (.cel (some d)) → st'[m]? = some (.cel (some d')) → ρ'[n]? = some a → ρ'[m]? = some a → n = m) :
    Back K G av H ρ (addH as H H') st' ρ' := by
  have ka := add_keep (H0 := H) nn
  have mv : ∀ a u, H' a = some u → addH as H H' a = some u := fun a u q => by
    by_cases e : a ∈ as
    · rw [nn a e] at q
      cases q
    · rw [addH_out e]
      exact q
  have up : ∀ a u, H a = some u → (a ∉ as → H' a = some u) → addH as H H' a = some u := fun a u h f => by
    by_cases e : a ∈ as
    · rw [addH_in e]
      exact h
    · rw [addH_out e]
      exact f e
  have at_ : ∀ n, Sl.cel n ∈ env → ∃ i, env[i]? = some (Sl.cel n) := fun n h => by
    obtain ⟨i, hi, e⟩ := List.getElem_of_mem h
    exact ⟨i, by rw [List.getElem?_eq_getElem hi, e]⟩
  have gt : ∀ n a ob, Sl.cel n ∉ env → ρ'[n]? = some a → st'[n]? = some ob → a ∈ as → ob = .cel none := fun n a ob h1 h2 h3 h4 => (R.so n a ob h2 h3 h1).dead (nn a h4)
  exact {
    keep := {
      tups := fun b xs h => up b _ h fun e => k.tups b xs (by rw [cutH_out e]; exact h)
      frzs := fun b o u h hn => up b _ h fun e => k.frzs b o u (by rw [cutH_out e]; exact h) hn
      codes := fun b q h => up b _ h fun e => k.codes b q (by rw [cutH_out e]; exact h) }
    gr := {
      keep := fun a o h hn ht => up a o h fun e => R.gr.keep a o (by show cutH as H a = some o; rw [cutH_out e]; exact h) hn ht
      pre := R.gr.pre
      new := fun a h hn => by
        have e := R.gr.new a h hn
        have e : cutH as H a = none := e
        by_cases i : a ∈ as
        · exact absurd (hix a i) hn
        · rw [cutH_out i] at e
          exact e
      tbls := fun b ps h => by
        have i : b ∉ as := fun i => by
          obtain ⟨oc, v, z⟩ := ca b i
          rw [h] at z
          cases z
        rw [addH_out i]
        exact R.gr.tbls b ps (by show cutH as H b = _; rw [cutH_out i]; exact h)
      dom := fun a h => by
        by_cases i : a ∈ as
        · rw [addH_in i] at h
          exact h
        · rw [addH_out i] at h
          have e := R.gr.dom a h
          have e : cutH as H a = none := e
          rw [cutH_out i] at e
          exact e }
    sr := {
      len := R.len
      nd := fun n m a ob ob' h1 h2 h3 h4 h5 => by
        by_cases c1 : Sl.cel n ∈ env
        · obtain ⟨w, rfl⟩ := R.sc n ob h4 c1
          cases w with
          | none => exact .inl rfl
          | some d =>
            obtain ⟨i, hi⟩ := at_ n c1
            by_cases c2 : Sl.cel m ∈ env
            · obtain ⟨w', rfl⟩ := R.sc m ob' h5 c2
              cases w' with
              | none => exact .inr rfl
              | some d' =>
                obtain ⟨j, hj⟩ := at_ m c2
                exact absurd (inj i j n m d d' a hi hj h4 h5 h1 h2) h3
            · exact .inr (gt m a ob' c2 h2 h5 (cw i n d a hi h4 h1).1)
        · by_cases c2 : Sl.cel m ∈ env
          · obtain ⟨w', rfl⟩ := R.sc m ob' h5 c2
            cases w' with
            | none => exact .inr rfl
            | some d' =>
              obtain ⟨j, hj⟩ := at_ m c2
              exact .inl (gt n a ob c1 h1 h4 (cw j m d' a hj h5 h2).1)
          · exact R.nd n m a ob ob' h1 h2 h3 h4 h5 c1 c2
      so := fun n a ob h1 h2 => by
        by_cases c1 : Sl.cel n ∈ env
        · obtain ⟨w, rfl⟩ := R.sc n ob h2 c1
          cases w with
          | none => exact True.intro
          | some d =>
            obtain ⟨i, hi⟩ := at_ n c1
            obtain ⟨ia, oc, v, e1, e2⟩ := cw i n d a hi h2 h1
            obtain ⟨x, b, _, b2, _, b4⟩ := R.ec i n hi
            obtain ⟨_, v', q1, q2⟩ := b4 d h2
            rw [e2] at q1
            cases q1
            exact ⟨oc, v, by rw [addH_in ia]; exact e1, q2.keep ka (List.prefix_refl _)⟩
        · exact (R.so n a ob h1 h2 c1).move (fun u h => mv a u h) ka (List.prefix_refl _)
      tb := fun p hp => tabK_add nn (R.tb p hp)
      pt := fun a h ps e => by
        rw [addH_out (out a h)] at e
        obtain ⟨o, q1, q2, _⟩ := R.pv a h
        rw [q2] at e
        cases e
        exact R.pt a h ps q1
      pv := fun a h => by
        obtain ⟨o, h1, h2, h3⟩ := R.pv a h
        refine ⟨o, mv a o h2, fun n ob q1 q2 => ?_⟩
        by_cases c1 : Sl.cel n ∈ env
        · obtain ⟨w, rfl⟩ := R.sc n ob q2 c1
          cases w with
          | none => rfl
          | some d =>
            obtain ⟨i, hi⟩ := at_ n c1
            exact absurd (cw i n d a hi q2 q1).1 (out a h)
        · exact h3 n ob q1 q2 c1 }
    av := fun a h => by
      obtain ⟨o, h1, h2, _⟩ := R.pv a h
      rw [addH_out (out a h), h2]
      have h1 : cutH as H a = some o := h1
      rw [cutH_out (out a h)] at h1
      exact h1.symm }
/-- a callable's promise, for what it holds -/
def AppG (P : Program) (w : World) (K : PySem.W.Frag) (mg : Str → Option Value) (base : Heap) (G : Glo) (fld : Nat → List Str) (k : Nat) (g : D) (m : List D → So → Rc) : Prop :=
  ∀ (f : Addr) (A : Around) (outer : List Env) (s : Shared) (H : Hp) (us : List Value) (vs : List V) (Q : VK) (E : XK) (av : Addr → Prop) (ρ : List Addr) (st : So) (ds : List D), Room k A → A.guards = some [] → Env0 P w K mg base A outer s H → Vals vs us →
    SRel K G av H st ρ → Rep K G H ρ g (.ref f) → RepL K G H ρ ds vs → PostC K G fld av (m ds st) H ρ Q E → codeAny (model P w) A (.call (.ref f) ⟨us, []⟩) (CR (L2.CX P w) outer P w H s Q E) s
theorem appG_fn {P : Program} {w : World} {mg : Str → Option Value} {base : Heap} {k f : Nat} {m : List D → So → Rc} (F : FnG P w K mg base k (G.fnA f) (spC K G fld m)) : AppG P w K mg base G fld k (.fn f) m :=
  fun a A outer s H us vs Q E av ρ st ds hr hg e0 hv sr rg rs h => by
    cases rg
    exact F A outer s H us vs Q E hr hg e0 hv ⟨av, ρ, st, ds, sr, rs, h⟩
theorem appG_clo {P : Program} {w : World} {mg : Str → Option Value} {base : Heap} {k kk : Nat} {cs : List Nat} {l : Ld} (S : LamSc (G.lam kk)) (hnp : l.np = (G.lam kk).ps.length)
    (hbind : ∀ (us : List Value) (clos : List (Str × Addr)) (pm cdv ctv : Value), us.length = (G.lam kk).ps.length → bindArgs (PySem.W.kla_fn "<lambda>" (G.lam kk).qual (G.lam kk).params (G.lam kk).body (G.lam kk).scope clos pm cdv ctv) ⟨us, []⟩ = pure ((G.lam kk).ps.zip us))
    (hbody : ∀ (A : Around) (outer : List Env) (s : Shared) (H H0 : Hp) (E : XK) (B : Bs) (env : Env), Room k (A.deeper env) → A.guards = some [] → env.scope = (G.lam kk).scope → env.frame = some env.locals → B.nc = false →
      PEm (appCx P w K mg base ((G.lam kk).ps ++ (G.lam kk).caps) env A outer s H E) G B fld (wOf E) cx (G.lam kk).body l.body) :
    AppG P w K mg base G fld (k + 1) (.clo kk cs) (runL cx l cs) := by
  intro f A outer s H us vs Q E av ρ st ds hr hg e0 ru sr rg rs hq
  cases rg with
  | clo hf hc hlen hlook hin hinj =>
  rename_i c' pm ctv clos
  have hcond : ds.length = l.np ∧ l.np + cs.length = l.ns ∧ cs.Nodup ∧ cs.all (told1 st) = true := by
    unfold runL at hq
    split at hq
    · assumption
    · exact hq.elim
  unfold runL at hq
  rw [if_pos hcond] at hq
  obtain ⟨hd1, hd2, hd3, hd4⟩ := hcond
  obtain ⟨as, cv, hh⟩ := held_of sr cs hd4
  have ca := hh.cels
  have out : ∀ a, av a → a ∉ as := fun a h i => by
    obtain ⟨n, d, _, q2, q3⟩ := hh.ix i
    obtain ⟨o, _, q⟩ := sr.pv a h
    cases q n _ q2 q3
  have ho := (e0.hok f _ hf).1
  obtain ⟨⟨oc, vs', t, hoc, hdc, hvc⟩, _, _⟩ := e0.hok c' _ hc
  have kin : K.In s.heap := e0.mod.kin.keeps fun b o e => (e0.bs b o e).1
  have lim : s.heap.NoLimit := e0.mod.nolimit.keeps fun b o e => (e0.bs b o e).1
  have hdl : ds.length = (G.lam kk).ps.length := hd1.trans hnp
  have hvl : vs.length = (G.lam kk).ps.length := by rw [← rs.length, hdl]
  have hul : us.length = (G.lam kk).ps.length := by rw [← ru.length, hvl]
  have hcl : cs.length = (G.lam kk).caps.length := hlen
  -- what each captured name is
  have hcap : ∀ (j : Nat) (x : Str), (G.lam kk).caps[j]? = some x → ∃ b v d, clos.lookup x = some b ∧ as[j]? = some b ∧ cv[j]? = some v ∧ ∃ oc, H b = some (.frz oc (CelO b v)) := fun j x hx => by
    have hj : j < cs.length := by
      rw [hcl]
      exact (List.getElem?_eq_some_iff.mp hx).1
    obtain ⟨a, v, d, a1, a2, a3, a4, a5, a6⟩ := hh.at_ j _ (List.getElem?_eq_getElem hj)
    obtain ⟨b, b1, b2⟩ := hlook j _ x (List.getElem?_eq_getElem hj) hx
    rw [a3] at b1
    cases b1
    exact ⟨a, v, d, b2, a1, a2, a6⟩
  refine PySem.W.kla_callFunE hr.depth ho rfl S.co S.gen rfl ⟨c', oc, vs', t, rfl, hoc, hdc, hvc⟩ ?_
  rw [hbind us _ _ _ _ hul]
  refine wpAny_pure (wpAny_newFunctionEnv S.nocell (fun y hy => S.par y.1 (List.of_mem_zip hy).1) (fun h₁ hns hsb => ⟨lim.fresh _ hsb, ?_⟩) S.kind)
  show codeAny _ _ (.expr (G.lam kk).body (PySem.W.envX (G.lam kk).qual (G.lam kk).scope s.heap.objs.size f (.ref c') clos)) _ _
  have kp : ∀ b o, s.heap.get? b = some o → h₁.get? b = some o := fun b o e => hsb.extBut b o (Nat.ne_of_lt (Heap.lt_size e)) (Heap.get?_push_of_some _ e)
  let lenv : Env := PySem.W.envX (G.lam kk).qual (G.lam kk).scope s.heap.objs.size f (.ref c') clos
  let Ec : XK := fun cls d H' => (∀ a ∈ as, H' a = none) → E cls d (addH as H H')
  have J := inv_app (P := P) (w := w) (K := K) (mg := mg) (base := base) (A := A) (outer := outer) (s := s) (E := Ec) (L := G.lam kk) (as := as) (us := us) (vs := vs) (cv := cv) (clos := clos) (env := lenv) (h1 := h₁) (tk := s.toks + ((G.lam kk).ps.zip us).length) (H := H) S (cut_env0 ca e0) hr.hd rfl rfl rfl rfl rfl rfl hinj hin
    (fun j x hx => by
      obtain ⟨b, v, d, b1, b2, b3, oc, b4⟩ := hcap j x hx
      obtain ⟨_, ⟨u, r, z⟩, _, _⟩ := e0.hok b _ b4
      exact ⟨b, v, u, b1, List.mem_of_getElem? b2, b3, r, z⟩) ru hul (by rw [hh.lv, hcl]) hns kp
  have R0 := rel_app (P := P) (w := w) (K := K) (mg := mg) (base := base) (A := A) (outer := outer) (s := s) (E := Ec) (L := G.lam kk) (clos := clos) (env := lenv) S e0 sr hh rs rfl rfl rfl rfl hdl hcl hd3 hlook
  -- at the end
  have fin : ∀ {H' : Hp} {e' : En} {st' : So} {ρ' : List Addr}, (∀ a ∈ as, H' a = none) → Keep (cutH as H) H' → Rel K G (appCx P w K mg base ((G.lam kk).ps ++ (G.lam kk).caps) lenv A outer s (cutH as H) Ec) ⟨cutH as H, ρ, false, av⟩ (vs.map some ++ cv.map some) H' e' st' ρ' → Back K G av H ρ (addH as H H') st' ρ' := by
    intro H' e' st' ρ' nn k0 R'
    have key : ∀ (i n : Nat) (d : D) (a : Addr), e'[i]? = some (.cel n) → st'[n]? = some (.cel (some d)) → ρ'[n]? = some a → ∃ x, ((G.lam kk).ps ++ (G.lam kk).caps)[i]? = some x ∧ clos.lookup x = some a := fun i n d a h1 h2 h3 => by
      obtain ⟨x, b, q1, q2, q3, q4⟩ := R'.ec i n h1
      rw [h3] at q2
      cases q2
      exact ⟨x, q1, (q3 (q4 d h2).1).1⟩
    have posn : ∀ {i j : Nat} {x : Str}, ((G.lam kk).ps ++ (G.lam kk).caps)[i]? = some x → (G.lam kk).caps[j]? = some x → i = (G.lam kk).ps.length + j := fun {i j x} h1 h2 => by
      have h3 : ((G.lam kk).ps ++ (G.lam kk).caps)[(G.lam kk).ps.length + j]? = some x := by
        rw [List.getElem?_append_right (Nat.le_add_right _ _), Nat.add_sub_cancel_left]
        exact h2
      obtain ⟨l1, e1⟩ := List.getElem?_eq_some_iff.mp h1
      obtain ⟨l2, e2⟩ := List.getElem?_eq_some_iff.mp h3
      exact (List.getElem_inj S.nd).mp (e1.trans e2.symm)
    refine R'.back_app k0 nn ca (fun a i => ?_) out (fun i n d a h1 h2 h3 => ?_) fun i j n m d d' a h1 h2 h3 h4 h5 h6 => ?_
    · obtain ⟨n, d, _, q2, _⟩ := hh.ix i
      exact List.mem_of_getElem? q2
    · obtain ⟨x, x1, x2⟩ := key i n d a h1 h2 h3
      obtain ⟨j, hj, ej⟩ := List.getElem_of_mem (hin x a x2)
      have hxj : (G.lam kk).caps[j]? = some x := by rw [List.getElem?_eq_getElem hj, ej]
      obtain ⟨b, v, d', b1, b2, b3, oc, b4⟩ := hcap j x hxj
      rw [x2] at b1
      cases b1
      refine ⟨List.mem_of_getElem? b2, oc, v, b4, ?_⟩
      rw [posn x1 hxj, List.getElem?_append_right (by rw [List.length_map, hvl]; exact Nat.le_add_right _ _), List.length_map, hvl, Nat.add_sub_cancel_left, List.getElem?_map, b3]
      rfl
    · obtain ⟨x, x1, x2⟩ := key i n d a h1 h3 h5
      obtain ⟨y, y1, y2⟩ := key j m d' a h2 h4 h6
      have exy := hinj x y a x2 y2
      subst exy
      have eij : i = j := by
        obtain ⟨l1, e1⟩ := List.getElem?_eq_some_iff.mp x1
        obtain ⟨l2, e2⟩ := List.getElem?_eq_some_iff.mp y1
        exact (List.getElem_inj S.nd).mp (e1.trans e2.symm)
      subst eij
      rw [h1] at h2
      cases h2
      rfl
  have kc : Keep H (cutH as H) := cut_keep ca
  let Qc : VK := fun v H' => (∀ a ∈ as, H' a = none) → Q v (addH as H H')
  have hb := hbody A outer s (cutH as H) H Ec ⟨cutH as H, ρ, false, av⟩ lenv (hr.deeper _) hg rfl rfl rfl
  have ht : tOf K G (appCx P w K mg base ((G.lam kk).ps ++ (G.lam kk).caps) lenv A outer s (cutH as H) Ec) ⟨cutH as H, ρ, false, av⟩ fld (wOf Ec) (KP.E cx l.body) (vs.map some ++ cv.map some) (cutH as H) Qc := by
    refine ⟨_, _, ρ, R0, ?_⟩
    show Post _ _ _ _ _ _ (KP.E cx l.body (lamE ds cs) st) _ _ _ _
    have hq : PostC K G fld av (finE (KP.E cx l.body (lamE ds cs) st)) H ρ Q E := hq
    cases q : KP.E cx l.body (lamE ds cs) st with
    | ok d e' st' =>
      rw [q] at hq
      intro H' ρ' k0 p0 R' v rv nn
      exact hq _ ρ' v (fin nn k0 R') (rv.keep (add_keep nn) (List.prefix_refl _))
    | exc x e' st' =>
      rw [q] at hq
      intro cls dd H' ρ' k0 p0 R' xr nn
      refine hq cls dd _ ρ' (fin nn k0 R') ?_
      obtain ⟨e1, e2, d0, fs, e3, e4, e5⟩ := xr
      refine ⟨e1, e2, d0, fs, e3, ?_, fun i nm q g1 g2 => let ⟨v, z1, z2⟩ := e5 i nm q g1 g2; ⟨v, z1, z2.keep (add_keep nn) (List.prefix_refl _)⟩⟩
      by_cases z : d0 ∈ as
      · rw [nn d0 z] at e4
        cases e4
      · rw [addH_out z]
        exact e4
    | stuck =>
      rw [q] at hq
      exact hq.elim
  have hX : ∀ e' s'', L2.CX P w outer (cutH as H) s Ec e' s'' → L2.CX P w outer H s E e' s'' := fun e' s'' z => by
    obtain ⟨a, B, H', cls, d, g1, g2, g3, g4, g5, g6, g7, H0, nn, rfl, hE⟩ := add_CX ca e0 z
    exact ⟨a, B, _, cls, d, g1, g2, g3, g4, g5, g6, g7, hE nn⟩
  refine PySem.W.kla_codeExpr (wpAny_mono (hb.run [] _ _ (cutH as H) Qc J ht) (fun u s' hq => ?_) fun e s' hq => wpAny_mono hq (fun _ s'' z => hX e s'' z) fun e' s'' z => hX e' s'' z)
  obtain ⟨v, H', J', rv, q⟩ := hq
  obtain ⟨v', H'', g1, g2, g3, g4, g5, H0, nn, rfl, hQ⟩ := add_CE ca e0 ⟨v, H', J'.os, J'.bare, J'.base, J'.hok, rv, q⟩
  exact ⟨v', _, g1, g2, g3, g4, g5, hQ nn⟩
end
end KP
end
section
set_option autoImplicit false
set_option linter.all false
set_option maxRecDepth 100000
set_option maxHeartbeats 4000000
/-! KApp3: what a name holds is called. -/
namespace KP
open PySem PySem.Spec PyProof.Rows L2

section
variable {X : Cx} {G : Glo} {B : Bs} {fld : Nat → List Str} {W : WX} {cx : Cc} {pos p : Pos} {σ : L2.St} {H : Hp} {ρ : List Addr} {env : En} {st : So}
theorem run_app {pins : List (Addr × Obj)} {s : Shared} {k : Nat} {f : Addr} {g : D} {m : List D → So → Rc} {ds : List D} {vs : List V} {us : List Value} {Q : VK} (C : Cok X) (tk : Takes X W) (hr : Room k X.A) (F : AppG X.prog X.w X.K X.mg X.base G fld k g m)
    (R : Rel X.K G X B σ H env st ρ) (I : Inv X pins σ H s) (rg : Rep X.K G H ρ g (.ref f)) (rs : RepL X.K G H ρ ds vs) (ru : Vals vs us)
    (h : Post X.K G X B fld W (KP.R.back env st (m ds st)) σ H ρ fun d H' ρ' _ _ => ∀ v, Rep X.K G H' ρ' d v → Q v H') : wpAny (model X.prog X.w) X.A (call (.ref f) us) (EP X pins σ Q) X.xe s := by
  have x := R.xp I
  let Q' : VK := fun v H' => ∀ H'', Told (xpOf env st σ ρ) s.heap H H' H'' → Q v H''
  let E' : XK := fun cls d H' => ∀ H'', Told (xpOf env st σ ρ) s.heap H H' H'' → W cls d σ H''
  have pc : PostC X.K G fld (avOf B env σ) (m ds st) (plusH s.heap (xpOf env st σ ρ) H) ρ Q' E' := by
    cases q : m ds st with
    | ok d st' =>
      rw [q] at h
      intro H' ρ' v b rv H'' t
      unfold KP.R.back at h
      simp only at h
      split at h
      · rename_i hc
        obtain ⟨k0, p0, R'⟩ := R.back C.nd I t b hc
        refine h H'' ρ' k0 p0 R' v ?_
        have t1 := t.st
        subst t1
        exact rv.keep t.keepS (List.prefix_refl _)
      · exact h.elim
    | exc xx st' =>
      rw [q] at h
      intro cls dd H' ρ' b xr H'' t
      unfold KP.R.back at h
      simp only at h
      split at h
      · rename_i hc
        obtain ⟨k0, p0, R'⟩ := R.back C.nd I t b hc
        refine h cls dd H'' ρ' k0 p0 R' ?_
        obtain ⟨e1, e0, d0, fs, e2, e3, e4⟩ := xr
        have t1 := t.st
        subst t1
        have k' : Keep H' (strip (xpOf env st σ ρ) H') := t.keepS
        refine ⟨e1, e0, d0, fs, e2, ?_, fun i nm q g1 g2 => let ⟨v, z1, z2⟩ := e4 i nm q g1 g2; ⟨v, z1, z2.keep k' (List.prefix_refl _)⟩⟩
        cases z : xpOf env st σ ρ d0 with
        | none => rw [strip_none z]; exact e3
        | some v =>
          rw [t.kept d0 v z] at e3
          cases e3
      · exact h.elim
    | stuck =>
      rw [q] at h
      exact h.elim
  refine wpAny_call (codeAny_mono (F f X.A X.stack s _ us vs Q' E' _ ρ st ds hr C.guards (x.env0 I.env0) ru (R.srel C.nd I) (rg.same x.same) (rs.same x.same) pc) fun r s' hq => ?_)
  cases r with
  | error e => exact tk e s' (XE.of_call I (fun cls d H' z => let ⟨H1, t, e⟩ := z; e H' t) (strip_CX x hq))
  | ok fl =>
    cases fl with
    | ret u =>
      obtain ⟨v, H1, I1, r1, H2, t, q⟩ := I.after (strip_CE x hq)
      exact ⟨v, H1, I1, r1, q H1 t⟩
    | next => exact False.elim hq
    | brk => exact False.elim hq
    | cont => exact False.elim hq
/-- what may be called, at calls that go k deep -/
structure AppOk (X : Cx) (G : Glo) (fld : Nat → List Str) (cx : Cc) (k : Nat) : Prop where
  fn : ∀ f, FnG X.prog X.w X.K X.mg X.base k (G.fnA f) (spC X.K G fld (cx.call f))
  clo : ∀ kk cs, AppG X.prog X.w X.K X.mg X.base G fld k (.clo kk cs) (cx.app kk cs)
  at_ : ∀ f, ∃ oc od fd sl, X.K.lookup (G.fnA f) = some ⟨oc, od, .func fd, sl⟩
theorem rep_fnAt {pins : List (Addr × Obj)} {s : Shared} {k : Nat} (A : AppOk X G fld cx k) (I : Inv X pins σ H s) {g : D} {v : V} {u : Value} (r : Rep X.K G H ρ g v) (ru : RelV v u) (hg : (∃ f, g = .fn f) ∨ ∃ kk cs, g = .clo kk cs) : ∃ a, v = .ref a ∧ u = .ref a ∧ PySem.W.FnAt a s.heap := by
  rcases hg with ⟨f, rfl⟩ | ⟨kk, cs, rfl⟩
  · cases r
    obtain ⟨oc, od, fd, sl, e⟩ := A.at_ f
    exact ⟨_, rfl, ru, oc, od, fd, sl, I.kIn _ _ e⟩
  · cases r with
    | clo hf hc _ _ _ _ => exact ⟨_, rfl, ru, _, _, _, _, (I.hok _ _ hf).1⟩
def callee : D → Bool
  | .fn _ => true
  | .clo _ _ => true
  | _ => false
theorem callee_or {g : D} (h : callee g = true) : (∃ f, g = .fn f) ∨ ∃ kk cs, g = .clo kk cs := by
  cases g with
  | fn f => exact .inl ⟨f, rfl⟩
  | clo k cs => exact .inr ⟨k, cs, rfl⟩
  | _ => cases h
def goApp (cx : Cc) (as : Exs) (g : D) (e : En) (s : So) : KP.R D := match g with
  | .fn f => (Es cx as e s).bind fun xs e s => KP.R.back e s (cx.call f xs s)
  | .clo k cs => (Es cx as e s).bind fun xs e s => KP.R.back e s (cx.app k cs xs s)
  | _ => .stuck
def mOf (cx : Cc) (g : D) : List D → So → Rc := match g with
  | .fn f => cx.call f
  | .clo k cs => cx.app k cs
  | _ => fun _ _ => .stuck
theorem goApp_ok {as : Exs} {g : D} {e : En} {s : So} (h : goApp cx as g e s ≠ .stuck) : callee g = true ∧ goApp cx as g e s = (Es cx as e s).bind fun xs e s => KP.R.back e s (mOf cx g xs s) := by
  cases g with
  | fn f => exact ⟨rfl, rfl⟩
  | clo k cs => exact ⟨rfl, rfl⟩
  | _ => exact absurd rfl h
theorem post_ns {α : Type} {K : PySem.W.Frag} {r : KP.R α} {ψ : α → Hp → List Addr → En → So → Prop} (h : Post K G X B fld W r σ H ρ ψ) : r ≠ .stuck := fun e => by
  rw [e] at h
  exact h.elim
theorem appG_of {k : Nat} (A : AppOk X G fld cx k) {g : D} (h : callee g = true) : AppG X.prog X.w X.K X.mg X.base G fld k g (mOf cx g) := by
  rcases callee_or h with ⟨f, rfl⟩ | ⟨kk, cs, rfl⟩
  · exact appG_fn (A.fn f)
  · exact A.clo kk cs
theorem em_app {k i : Nat} {x : Str} {e : Expr} {es : List Expr} {as : Exs} (C : Cok X) (tk : Takes X W) (hr : Room k X.A) (A : AppOk X G fld cx k) (hf : PEm X G B fld W cx (.Name x p) (.v i)) (ha : PAm X G B fld W cx (e :: es) as)
    (he : starEach (e :: es) X.env = (false, eval e X.env) :: starEach es X.env) (hpl : (backTo pos (starEach es X.env)).any (·.1) = false) : PEm X G B fld W cx (.Call (.Name x p) (e :: es) [] pos) (.app (.v i) as) := by
  refine ⟨fun pins s σ H Q I ⟨env, st, ρ, R, h⟩ => ?_⟩
  have h : Post X.K G X B fld W ((KP.E cx (.v i) env st).bind (goApp cx as)) σ H ρ fun d H' ρ' _ _ => ∀ v, Rep X.K G H' ρ' d v → Q v H' := by
    rw [E] at h
    exact h
  refine wpAny_Call_Name_kw (thn (hf.run pins s σ H (fun v H1 => ∃ env1 st1 ρ1 g, Rel X.K G X B σ H1 env1 st1 ρ1 ∧ Rep X.K G H1 ρ1 g v ∧ Post X.K G X B fld W (goApp cx as g env1 st1) σ H1 ρ1 fun d H' ρ' _ _ => ∀ v, Rep X.K G H' ρ' d v → Q v H') I
    ⟨env, st, ρ, R, (Post.bind h).imp fun d H1 ρ1 e1 s1 k1 p1 R1 h1 v rv => ⟨e1, s1, ρ1, d, R1, rv, h1⟩⟩) fun u s1 ⟨v, H1, I1, ru, e1, st1, ρ1, g, R1, rg, h1⟩ => ?_)
  obtain ⟨hg, eg⟩ := goApp_ok (post_ns h1)
  rw [eg] at h1
  obtain ⟨a, rfl, rfl, hat⟩ := rep_fnAt A I1 rg ru (callee_or hg)
  refine PySem.W.callWith_F hat (thn (ha.run pos pins s1 σ H1 (fun vs H2 => ∃ e2 st2 ρ2 ds, Rel X.K G X B σ H2 e2 st2 ρ2 ∧ RepL X.K G H2 ρ2 ds vs ∧ Rep X.K G H2 ρ2 g (.ref a) ∧ Post X.K G X B fld W (KP.R.back e2 st2 (mOf cx g ds st2)) σ H2 ρ2 fun d H' ρ' _ _ => ∀ v, Rep X.K G H' ρ' d v → Q v H') I1
    ⟨e1, st1, ρ1, R1, (Post.bind h1).imp fun ds H2 ρ2 e2 s2 k2 p2 R2 h2 vs rs => ⟨e2, s2, ρ2, ds, R2, rs, rg.keep k2 p2, h2⟩⟩) fun us s2 ⟨vs, H2, I2, ru2, e2, st2, ρ2, ds, R2, rs, rg2, h2⟩ => ?_) he hpl
  obtain ⟨a', e', _, hat2⟩ := rep_fnAt A I2 rg2 (rfl : RelV (.ref a) (.ref a)) (callee_or hg)
  cases e'
  exact ⟨hat2, run_app C tk hr (appG_of A hg) R2 I2 rg2 rs ru2 h2⟩
theorem em_app0 {k i : Nat} {x : Str} (C : Cok X) (tk : Takes X W) (hr : Room k X.A) (A : AppOk X G fld cx k) (hf : PEm X G B fld W cx (.Name x p) (.v i)) : PEm X G B fld W cx (.Call (.Name x p) [] [] pos) (.app (.v i) .nil) := by
  refine ⟨fun pins s σ H Q I ⟨env, st, ρ, R, h⟩ => ?_⟩
  have h : Post X.K G X B fld W ((KP.E cx (.v i) env st).bind (goApp cx .nil)) σ H ρ fun d H' ρ' _ _ => ∀ v, Rep X.K G H' ρ' d v → Q v H' := by
    rw [E] at h
    exact h
  refine wpAny_Call_Name_kw (thn (hf.run pins s σ H (fun v H1 => ∃ env1 st1 ρ1 g, Rel X.K G X B σ H1 env1 st1 ρ1 ∧ Rep X.K G H1 ρ1 g v ∧ Post X.K G X B fld W (goApp cx .nil g env1 st1) σ H1 ρ1 fun d H' ρ' _ _ => ∀ v, Rep X.K G H' ρ' d v → Q v H') I
    ⟨env, st, ρ, R, (Post.bind h).imp fun d H1 ρ1 e1 s1 k1 p1 R1 h1 v rv => ⟨e1, s1, ρ1, d, R1, rv, h1⟩⟩) fun u s1 ⟨v, H1, I1, ru, e1, st1, ρ1, g, R1, rg, h1⟩ => ?_)
  obtain ⟨hg, eg⟩ := goApp_ok (post_ns h1)
  rw [eg, Es, KP.R.bind_ok] at h1
  obtain ⟨a, rfl, rfl, hat⟩ := rep_fnAt A I1 rg ru (callee_or hg)
  exact PySem.W.callWith_F0 hat (run_app (us := []) (vs := []) (ds := []) C tk hr (appG_of A hg) R1 I1 rg .nil .nil h1)
end
end KP
end
section
set_option autoImplicit false
set_option linter.all false
set_option maxRecDepth 100000
set_option maxHeartbeats 4000000
/-! KMat: does a term of KCore fit a tree of the program? A test, and that the test is right: expressions. -/
namespace KP
open PySem PySem.Spec PyProof.Rows L2

abbrev LI := List (Nat × LamD)
abbrev M := Option LI
def gd (b : Bool) : M := if b then some [] else none
def M.and (a b : M) : M := match a with
  | some x => (match b with
    | some y => some (x ++ y)
    | none => none)
  | none => none
theorem gd_some {b : Bool} {l : LI} (h : gd b = some l) : b = true := by
  unfold gd at h
  split at h
  · assumption
  · cases h
theorem and_some {a b : M} {l : LI} (h : M.and a b = some l) : ∃ x y, a = some x ∧ b = some y ∧ l = x ++ y := by
  unfold M.and at h
  split at h
  · split at h
    · cases h
      exact ⟨_, _, rfl, rfl, rfl⟩
    · cases h
  · cases h
/-- a test ahead -/
def M.wh (b : Bool) (a : M) : M := if b then a else none
theorem wh_some {b : Bool} {a : M} {l : LI} (h : M.wh b a = some l) : b = true ∧ a = some l := by
  unfold M.wh at h
  split at h
  · exact ⟨by assumption, h⟩
  · cases h

/-- what a module's name is -/
inductive GK where
  | fn (f : Nat)
  | cls (c : Nat)
  | ty (n : Nat)
  | bt (id : String)
  | bf (id : String)
  | no
  deriving DecidableEq
/-- what is known of a frame -/
structure Sx where
  N : List Str
  sc : Scope
  g : List (Str × GK)
  qual : Str := ⟨#[]⟩
  lam : Bool := false
  fnc : Bool := true
  fl : List (List Str) := []
def okd (x : Str) : Bool := !(x == ("__debug__" : Str)) && !(x == ("__classdict__" : Str))
def vis (S : Sx) (i : Nat) (x : Str) : Bool := decide (S.N[i]? = some x) && (match S.sc.names.lookup x with
  | some .local => true
  | some .cell => true
  | some .free => true
  | _ => false) && okd x
def glb (S : Sx) (x : Str) : Option GK := if (decide (S.sc.names.lookup x = some .globalImplicit) && okd x) = true then S.g.lookup x else none
def nst : Expr → Bool
  | .Starred .. => false
  | _ => true
def nsl : Expr → Bool
  | .Slice .. => false
  | _ => true
def ncp : Expr → Bool
  | .ListComp .. => false
  | .SetComp .. => false
  | .DictComp .. => false
  | _ => true
def nset : Expr → Bool
  | .Set .. => false
  | _ => true
/-- no super() -/
def nsup : Expr → Bool
  | .Call _ [] _ _ => false
  | _ => true
/-- truth asked of the value -/
def ntst : Expr → Bool
  | .UnaryOp .Not _ _ => false
  | .BoolOp .. => false
  | .IfExp .. => false
  | .Compare .. => false
  | _ => true
/-- jobs -/
inductive Jb where
  | e (e : Expr) (a : Ex)
  | t (e : Expr) (a : Ex)
  | ar (es : List Expr) (as : Exs)
  | o (e : Option Expr) (a : Exo)
  | i (e : Expr) (w : Wk) (as : Exs)
  | f (es : List Expr) (a : Exo)
  | d (ks : List (Option Expr)) (vs : List Expr) (ys : List Ky) (as : Exs)
  | g (e : Expr) (t : Tg)
  | gs (es : List Expr) (ts : List Tg)

section
variable (r : Sx → Jb → M) (S : Sx)
def mConst (c : Const) (a : Ex) : M := match c, a with
  | .int i, .c (.int j) => gd (decide (i = j))
  | .bool b, .c (.bl c) => gd (b == c)
  | .none, .c .non => some []
  | .str x, .c (.str y) => gd (decide (x = y))
  | _, _ => none
def mName (x : Str) (a : Ex) : M := match a with
  | .v i => gd (vis S i x)
  | .c (.fn f) => gd (decide (glb S x = some (.fn f)))
  | .c (.ty n) => gd (decide (glb S x = some (.ty n)))
  | _ => none
def mBool (op : BoolOp) (vs : List Expr) (pos : Pos) (a : Ex) : M := match vs with
  | [] => none
  | [l] => r S (.e l a)
  | l :: b :: rest => (match op, a with
    | .And, .and x y => (r S (.e l x)).and (r S (.e (.BoolOp .And (b :: rest) pos) y))
    | .Or, .or x y => (r S (.e l x)).and (r S (.e (.BoolOp .Or (b :: rest) pos) y))
    | _, _ => none)
def mTBool (op : BoolOp) (vs : List Expr) (pos : Pos) (a : Ex) : M := match vs with
  | [] => none
  | [l] => r S (.t l a)
  | l :: b :: rest => (match op, a with
    | .And, .and x y => (r S (.t l x)).and (r S (.t (.BoolOp .And (b :: rest) pos) y))
    | .Or, .or x y => (r S (.t l x)).and (r S (.t (.BoolOp .Or (b :: rest) pos) y))
    | _, _ => none)
def mCmp (l : Expr) (ops : List CmpOp) (rs : List Expr) (a : Ex) : M := match ops, rs, a with
  | [op], [x], .cmp o u v => M.wh (decide (op = coOf o) && !behindInMarks (coOf o) x) ((r S (.e l u)).and (r S (.e x v)))
  | [op], [.Name x _], .inv o u i => M.wh (decide (op = coOf o) && (decide (o = .isin) || decide (o = .notin)) && vis S i x) (r S (.e l u))
  | [op, op'], [x, y], .cmp2 o o' u v w => M.wh (decide (op = coOf o) && decide (op' = coOf o') && !lastMarks [coOf o, coOf o'] [x, y]) ((r S (.e l u)).and ((r S (.e x v)).and (r S (.e y w))))
  | _, _, _ => none
/-- tests have no inv -/
def mTCmp (l : Expr) (ops : List CmpOp) (rs : List Expr) (a : Ex) : M := match ops, rs, a with
  | [op], [x], .cmp o u v => M.wh (decide (op = coOf o) && !behindInMarks (coOf o) x) ((r S (.e l u)).and (r S (.e x v)))
  | [op, op'], [x, y], .cmp2 o o' u v w => M.wh (decide (op = coOf o) && decide (op' = coOf o') && !lastMarks [coOf o, coOf o'] [x, y]) ((r S (.e l u)).and ((r S (.e x v)).and (r S (.e y w))))
  | _, _, _ => none
def mBack (s : Expr) : Bool := match s with
  | .Slice none none (some (.UnaryOp .USub (.Constant (.int i) _ _) _)) _ => decide (i = 1)
  | _ => false
def mSub (l s : Expr) (a : Ex) : M := match a with
  | .slc x ol oh => (match s with
    | .Slice lo hi none _ => (r S (.e l x)).and ((r S (.o lo ol)).and (r S (.o hi oh)))
    | _ => none)
  | .back x => M.wh (mBack s) (r S (.e l x))
  | .ix x y => M.wh (nsl s) ((r S (.e l x)).and (r S (.e s y)))
  | .ixv i y => (match l with
    | .Name x _ => M.wh (nsl s && vis S i x) (r S (.e s y))
    | _ => none)
  | _ => none
def biId : Bi → Option GK
  | .len => some (.bt "len")
  | .abs => some (.bt "abs")
  | .max2 => some (.bt "max")
  | .min2 => some (.bt "min")
  | .all => some (.bt "all")
  | .any => some (.bt "any")
  | .repr => some (.bt "repr")
  | .isinst => some (.bt "isinstance")
  | .gcd => some (.bf "math.gcd")
  | .int => some (.ty 0)
  | .list => some (.ty 3)
  | .tuple => some (.ty 4)
  | _ => none
def nilB : List Expr → Exs → Bool
  | [], .nil => true
  | [], .cons _ _ => false
  | _ :: _, _ => true
def mCallN (x : Str) (args : List Expr) (a : Ex) : M := match a with
  | .call f as => M.wh (decide (glb S x = some (.fn f)) && nilB args as) (r S (.ar args as))
  | .app (.v i) as => M.wh (vis S i x && nilB args as) (r S (.ar args as))
  | .bi b as => M.wh (decide (glb S x = biId b) && (biId b).isSome && !args.isEmpty) (r S (.ar args as))
  | .lenv i => (match args with
    | [.Name y _] => gd (decide (glb S x = some (.bt "len")) && vis S i y)
    | _ => none)
  | _ => none
def mCallA (o : Expr) (at_ : Str) (apos pos : Pos) (args : List Expr) (a : Ex) : M := match args, a with
  | [], .bi .bits (.cons y .nil) => M.wh (decide (at_ = "bit_length") && nsup o && (apos.endLine == pos.line)) (r S (.e o y))
  | _, _ => none
def mCall (f : Expr) (args : List Expr) (kws : List Keyword) (pos : Pos) (a : Ex) : M := match kws with
  | [] => (match f with
    | .Name x _ => mCallN r S x args a
    | .Attribute o at_ apos => mCallA r S o at_ apos pos args a
    | _ => none)
  | _ => none
def ownN (own : List Nat) : List (Str × Nat) := own.map fun i => (S.N[i]?.getD default, i)
def Sx.blk (scope : Scope) : Sx := { S with sc := relS scope S.sc, lam := false, fnc := false }
def blkB (scope : Scope) (own : List Nat) : Bool :=
  decide (scope.kind = .function) && scope.names.all (fun y => decide (scope.names.lookup y.1 = some y.2)) && own.all (fun i => decide (i < S.N.length)) &&
    scope.names.all (fun y => !decide (y.2 = .free) || decide (S.sc.names.lookup y.1 = some .cell) || decide (S.sc.names.lookup y.1 = some .free)) &&
    scope.names.all (fun y => !(decide (y.2 = .local) || decide (y.2 = .cell)) || decide (y.1 ∈ (ownN S own).map (·.1)) || decide (y.1 ∉ S.N))
def mComp (elt : Expr) (gens : List Comprehension) (scope : Scope) (a : Ex) : M := match gens, a with
  | [⟨tg, iter, ifs, k⟩], .comp own t w as oi x => M.wh (decide (k = 0) && nset iter && blkB S scope own && t.ixs.all (fun i => decide (i ∈ own)))
    ((r S (.i iter w as)).and ((r (S.blk scope) (.g tg t)).and ((r (S.blk scope) (.f ifs oi)).and (r (S.blk scope) (.e elt x)))))
  | _, _ => none
def noArgs : Arguments → Bool
  | ⟨[], [], none, [], [], none, []⟩ => true
  | _ => false
/-- a lambda as it is written: no parameters here -/
def lamOf (params : Arguments) (body : Expr) (scope : Scope) (cs : List Nat) : LamD := ⟨params, body, scope, S.qual ++ "<lambda>", [], cs.map fun i => S.N[i]?.getD default⟩
def lamB (scope : Scope) (caps : List Str) : Bool :=
  decide (scope.kind = .function) && !scope.isCoroutine && !scope.isGenerator && scope.names.all (fun y => !decide (y.2 = .cell) && !decide (y.2 = .local)) &&
    caps.all (fun x => decide (scope.names.lookup x = some .free)) && scope.names.all (fun y => !decide (y.2 = .free) || decide (y.1 ∈ caps)) && decide caps.Nodup
def mLam (params : Arguments) (body : Expr) (scope : Scope) (a : Ex) : M := match a with
  | .lam k cs => M.wh (S.lam && noArgs params && cs.all (fun i => decide (i < S.N.length)) && lamB scope (cs.map fun i => S.N[i]?.getD default) &&
      scope.names.all (fun y => !decide (y.2 = .free) || decide (S.sc.names.lookup y.1 = some .cell) || decide (S.sc.names.lookup y.1 = some .free))) (some [(k, lamOf S params body scope cs)])
  | _ => none
def mDict (ks : List (Option Expr)) (vs : List Expr) (a : Ex) : M := match a with
  | .dic ys as => M.wh (decide (ks.length ≤ 15)) (match ks with
    | [] => (match vs, ys, as with
      | [], [], .nil => some []
      | _, _, _ => none)
    | _ :: _ => r S (.d ks vs ys as))
  | .dct ys as => (match ks, vs, ys, as with
    | [], [], [], .nil => some []
    | _, _, _, _ => none)
  | _ => none
def mE (e : Expr) (a : Ex) : M := match e with
  | .Constant c _ _ => mConst c a
  | .Name x _ => mName S x a
  | .BoolOp op vs pos => mBool r S op vs pos a
  | .BinOp l op x _ => (match a with
    | .bin o u v => M.wh (decide (op = opOf o)) ((r S (.e l u)).and (r S (.e x v)))
    | _ => none)
  | .UnaryOp op l _ => (match op, a with
    | .USub, .neg u => r S (.e l u)
    | .Not, .not u => r S (.e l u)
    | _, _ => none)
  | .Compare l ops rs _ => mCmp r S l ops rs a
  | .IfExp t x y _ => (match a with
    | .ite c u v => (r S (.t t c)).and ((r S (.e x u)).and (r S (.e y v)))
    | _ => none)
  | .Tuple es _ _ => (match a with
    | .tup as => M.wh (Nat.ble as.len 10000) (r S (.ar es as))
    | _ => none)
  | .List es _ => (match a with
    | .lst as => M.wh (Nat.ble as.len 10000) (r S (.ar es as))
    | _ => none)
  | .Subscript l s _ => mSub r S l s a
  | .Call f args kws pos => mCall r S f args kws pos a
  | .ListComp elt gens scope _ => mComp r S elt gens scope a
  | .Lambda params body scope _ => mLam S params body scope a
  | .Dict ks vs _ => mDict r S ks vs a
  | _ => none
def mT (e : Expr) (a : Ex) : M := match e with
  | .UnaryOp .Not l _ => (match a with
    | .not u => r S (.t l u)
    | _ => none)
  | .BoolOp op vs pos => mTBool r S op vs pos a
  | .Compare l ops rs _ => mTCmp r S l ops rs a
  | e => M.wh (ntst e) (r S (.e e a))
def mAr (es : List Expr) (as : Exs) : M := match es, as with
  | [], .nil => some []
  | e :: es, .cons a as => M.wh (nst e) ((r S (.e e a)).and (r S (.ar es as)))
  | _, _ => none
def mO (e : Option Expr) (a : Exo) : M := match e, a with
  | none, .no => some []
  | some e, .so a => r S (.e e a)
  | _, _ => none
def mI (e : Expr) (w : Wk) (as : Exs) : M := match w with
  | .val => (match as with
    | .cons a .nil => r S (.e e a)
    | _ => none)
  | .rng1 => (match e with
    | .Call (.Name x _) [a] [] _ => M.wh (decide (x = "range") && decide (glb S x = some .no) && nst a) (r S (.ar [a] as))
    | _ => none)
  | .rng2 => (match e with
    | .Call (.Name x _) [a, b] [] _ => M.wh (decide (x = "range") && decide (glb S x = some .no) && nst a && nst b) (r S (.ar [a, b] as))
    | _ => none)
  | _ => none
def mF (es : List Expr) (a : Exo) : M := match es, a with
  | [], .no => some []
  | [c], .so x => r S (.t c x)
  | _, _ => none
def mD (ks : List (Option Expr)) (vs : List Expr) (ys : List Ky) (as : Exs) : M := match ks, vs, ys, as with
  | [], [], [], .nil => some []
  | some (.Constant (.str x) _ _) :: ks, v :: vs, .inr y :: ys, .cons a as => M.wh (decide (x = y)) ((r S (.e v a)).and (r S (.d ks vs ys as)))
  | some (.Constant (.int x) _ _) :: ks, v :: vs, .inl y :: ys, .cons a as => M.wh (decide (x = y)) ((r S (.e v a)).and (r S (.d ks vs ys as)))
  | _, _, _, _ => none
def mG (e : Expr) (t : Tg) : M := match e, t with
  | .Name x _, .nm i => gd (decide (S.N[i]? = some x) && (decide (S.sc.names.lookup x = some .local) || (S.fnc && decide (S.sc.names.lookup x = some .cell))))
  | .Tuple es _ _, .tup ts => M.wh (es.length == ts.length && es.all nst) (r S (.gs es ts))
  | _, _ => none
def mGs (es : List Expr) (ts : List Tg) : M := match es, ts with
  | [], [] => some []
  | e :: es, t :: ts => M.wh (nst e) ((r S (.g e t)).and (r S (.gs es ts)))
  | _, _ => none
end
def mJ : Nat → Sx → Jb → M
  | 0, _, _ => none
  | n + 1, S, j => match j with
    | .e e a => mE (mJ n) S e a
    | .t e a => mT (mJ n) S e a
    | .ar es as => mAr (mJ n) S es as
    | .o e a => mO (mJ n) S e a
    | .i e w as => mI (mJ n) S e w as
    | .f es a => mF (mJ n) S es a
    | .d ks vs ys as => mD (mJ n) S ks vs ys as
    | .g e t => mG (mJ n) S e t
    | .gs es ts => mGs (mJ n) S es ts
end KP
end
section
set_option autoImplicit false
set_option linter.all false
set_option maxRecDepth 100000
set_option maxHeartbeats 4000000
/-! KMat2: the test of expressions is right. -/
namespace KP
open PySem PySem.Spec PyProof.Rows L2

theorem star_cons {e : Expr} {r : List Expr} {env : Env} (h : nst e = true) : starEach (e :: r) env = (false, eval e env) :: starEach r env := by
  cases e <;> first | rfl | cases h
theorem star_any : ∀ {es : List Expr} {env : Env} {pos : Pos}, es.all nst = true → (backTo pos (starEach es env)).any (·.1) = false
  | [], _, _, _ => rfl
  | e :: es, env, pos, h => by
    rw [List.all_cons, Bool.and_eq_true] at h
    have ih := star_any (env := env) (pos := pos) h.2
    rw [star_cons h.1]
    show (false || (backTo pos (starEach es env)).any (·.1)) = false
    rw [ih]
    rfl
theorem plainIx_of {e : Expr} (h : nsl e = true) : PlainIx e := fun o i => by
  cases e <;> first | rfl | cases h
theorem isTrue_of {e : Expr} {env : Env} (h : ntst e = true) : ∀ whole, isTrue e env whole = (do let v ← whole; standAt e.pos; holding [v] (truthy v)) := fun whole => by
  cases e with
  | UnaryOp op x p =>
    cases op with
    | Not => cases h
    | _ => rfl
  | BoolOp _ _ _ => cases h
  | IfExp _ _ _ _ => cases h
  | Compare _ _ _ _ => cases h
  | _ => rfl
theorem folded_of {e : Expr} {env : Env} (h : nset e = true) : ∀ x, foldedSetIterable e env x = pure x := fun x => by
  cases e <;> first | rfl | cases h
theorem attr_of {o : Expr} {at_ : Str} {env : Env} {whole : Sem Value} (h : nsup o = true) : attributeBase o at_ env whole = whole := by
  cases o with
  | Call f args kws p =>
    cases args with
    | nil => cases h
    | cons a as => cases f <;> rfl
  | _ => rfl
theorem swaps_of {e : Expr} {t : Option Expr} {ln : Nat} {env : Env} (h : ncp e = true) : swapsWith e t ln env = pure false := by
  cases e <;> first | rfl | cases h

def isBool : Expr → Bool
  | .BoolOp .. => true
  | _ => false
def GkOk (G : Glo) (X : Cx) (x : Str) : GK → Prop
  | .fn f => X.mg x = some (.ref (G.fnA f)) ∧ PySem.W.keepIn X.K (.ref (G.fnA f)) = true
  | .cls c => X.mg x = some (.ref (G.clA c)) ∧ c < G.nC
  | .ty n => X.mg x = none ∧ bootBuiltins x = some (.type (tyN n)) ∧ x ≠ "__name__"
  | .bt id => X.mg x = none ∧ bootBuiltins x = some (.builtin id) ∧ x ≠ "__name__"
  | .bf id => X.mg x = some (.builtin id)
  | .no => X.mg x = none
section
variable (G : Glo) (fld : Nat → List Str) (cx : Cc) (k : Nat)
/-- a frame as it is known -/
structure XOk (X : Cx) (S : Sx) (W : WX) : Prop where
  cok : Cok X
  N : X.N = S.N
  sc : X.env.scope = S.sc
  fnc : S.fnc = true → ∀ x, S.sc.names.lookup x = some .cell → X.fn x = true
  gl : ∀ x gk, S.g.lookup x = some gk → GkOk G X x gk
  tk : Takes X W
  room : Room k X.A
  r3 : 3 ≤ k
  app : AppOk X G fld cx k
  lam : S.lam = true → X.env.qual = S.qual ∧ ∃ (c P : Addr), LamX.TabB X.base X.mg c P ∧ X.env.code = .ref c ∧ (P, X.env.qual ++ "<lambda>") ∈ G.T ∧ ∀ p ∈ G.T, p.1 = P → p.2 = X.env.qual ++ "<lambda>"
def Rd (X : Cx) (W : WX) : Jb → Prop
  | .e e a => ∀ B, PEm X G B fld W cx e a
  | .t e a => ∀ B, PTm X G B fld W cx e a ∧ (isBool e = true → PWm X G B fld W cx e a)
  | .ar es as => (∀ B, PAm X G B fld W cx es as) ∧ es.all nst = true
  | .o e a => ∀ B, POm X G B fld W cx e a
  | .i e w as => ∀ B tg, PI X tg e (iOf X G B fld W w (Es cx as))
  | .f es a => ∀ B, PTs X es (tOfT X.K G X B fld W (To cx a))
  | .d ks vs ys as => ∀ nc pos, PDm X G nc fld W cx pos ks vs ys as
  | .g e t => ∀ B, PG X e (gOf X G B t)
  | .gs es ts => ∀ B, PGs X es (gOfs X G B ts)
def Gd (S : Sx) (j : Jb) (l : LI) : Prop := (∀ p ∈ l, G.lam p.1 = p.2) → ∀ (X : Cx) (W : WX), XOk G fld cx k X S W → Rd G fld cx X W j
end

section
variable {G : Glo} {fld : Nat → List Str} {cx : Cc} {k : Nat} {X : Cx} {S : Sx} {W : WX} {r : Sx → Jb → M} {l : LI} {B : Bs} {pos : Pos}
theorem okd_some {x : Str} (h : okd x = true) : (x == ("__debug__" : Str)) = false ∧ (x == ("__classdict__" : Str)) = false := by
  unfold okd at h
  rw [Bool.and_eq_true, Bool.not_eq_true', Bool.not_eq_true'] at h
  exact h
theorem vis_some (o : XOk G fld cx k X S W) {i : Nat} {x : Str} (h : vis S i x = true) : X.N[i]? = some x ∧ Vis X.env.scope x ∧ (x == ("__debug__" : Str)) = false ∧ (x == ("__classdict__" : Str)) = false := by
  unfold vis at h
  rw [Bool.and_eq_true, Bool.and_eq_true, decide_eq_true_eq] at h
  obtain ⟨⟨h1, h2⟩, h3⟩ := h
  refine ⟨by rw [o.N]; exact h1, ?_, okd_some h3⟩
  show Vis X.env.scope x
  rw [o.sc]
  unfold Vis
  split at h2
  · exact .inl (by assumption)
  · exact .inr (.inl (by assumption))
  · exact .inr (.inr (by assumption))
  · cases h2
theorem glb_some (o : XOk G fld cx k X S W) {x : Str} {gk : GK} (h : glb S x = some gk) : Gl X x ∧ GkOk G X x gk ∧ (x == ("__debug__" : Str)) = false := by
  unfold glb at h
  split at h
  · rename_i hc
    rw [Bool.and_eq_true, decide_eq_true_eq] at hc
    refine ⟨?_, o.gl x gk h, (okd_some hc.2).1⟩
    show X.env.scope.names.lookup x = _
    rw [o.sc]
    exact hc.1
  · cases h
theorem lams_l {x y : LI} (h : ∀ p ∈ x ++ y, G.lam p.1 = p.2) : ∀ p ∈ x, G.lam p.1 = p.2 := fun p hp => h p (List.mem_append_left _ hp)
theorem lams_r {x y : LI} (h : ∀ p ∈ x ++ y, G.lam p.1 = p.2) : ∀ p ∈ y, G.lam p.1 = p.2 := fun p hp => h p (List.mem_append_right _ hp)
theorem units_of (o : XOk G fld cx k X S W) : X.A.units + 65 < cLine ∧ X.A.units + 1 < cLine := by
  have := o.cok.units
  omega
theorem big_le {n : Nat} (h : Nat.ble n 10000 = true) : n ≤ sizeLine := by
  have := Nat.le_of_ble_eq_true h
  unfold sizeLine
  omega

/-- the recursion is right -/
abbrev Rec (G : Glo) (fld : Nat → List Str) (cx : Cc) (k : Nat) (r : Sx → Jb → M) : Prop := ∀ S j l, r S j = some l → Gd G fld cx k S j l
theorem c_const {c : Const} {j : Nat} {a : Ex} (h : mConst c a = some l) : PEm X G B fld W cx (.Constant c j pos) a := by
  unfold mConst at h
  split at h
  · have e := of_decide_eq_true (gd_some h)
    subst e
    exact em_int
  · have e := gd_some h
    rw [beq_iff_eq] at e
    subst e
    exact em_bl
  · exact em_non
  · have e := of_decide_eq_true (gd_some h)
    subst e
    exact em_str
  · cases h
theorem c_name (o : XOk G fld cx k X S W) {x : Str} {a : Ex} (h : mName S x a = some l) : PEm X G B fld W cx (.Name x pos) a := by
  unfold mName at h
  split at h
  · obtain ⟨h1, h2, h3, h4⟩ := vis_some o (gd_some h)
    exact em_v h1 h2 h3 h4
  · obtain ⟨h1, h2, h3⟩ := glb_some o (of_decide_eq_true (gd_some h))
    exact em_fnN h1 h2.1 h3
  · obtain ⟨h1, h2, h3⟩ := glb_some o (of_decide_eq_true (gd_some h))
    exact em_tyN h1 h2.1 h2.2.1 h2.2.2 h3
  · cases h
theorem c_bool (hr : Rec G fld cx k r) (hl : ∀ p ∈ l, G.lam p.1 = p.2) (o : XOk G fld cx k X S W) {op : BoolOp} {vs : List Expr} {a : Ex} (h : mBool r S op vs pos a = some l) : PEm X G B fld W cx (.BoolOp op vs pos) a := by
  unfold mBool at h
  split at h
  · cases h
  · exact em_one (hr _ _ _ h hl X W o B)
  · split at h
    · obtain ⟨u, v, h1, h2, rfl⟩ := and_some h
      exact em_and (hr _ _ _ h1 (lams_l hl) X W o B) (hr _ _ _ h2 (lams_r hl) X W o B)
    · obtain ⟨u, v, h1, h2, rfl⟩ := and_some h
      exact em_or (hr _ _ _ h1 (lams_l hl) X W o B) (hr _ _ _ h2 (lams_r hl) X W o B)
    · cases h
theorem c_cmp (hr : Rec G fld cx k r) (hl : ∀ p ∈ l, G.lam p.1 = p.2) (o : XOk G fld cx k X S W) {x : Expr} {ops : List CmpOp} {rs : List Expr} {a : Ex} (h : mCmp r S x ops rs a = some l) : PEm X G B fld W cx (.Compare x ops rs pos) a := by
  unfold mCmp at h
  split at h
  · obtain ⟨h0, h⟩ := wh_some h
    rw [Bool.and_eq_true, decide_eq_true_eq, Bool.not_eq_true'] at h0
    obtain ⟨u, v, h1, h2, rfl⟩ := and_some h
    rw [h0.1]
    exact em_cmp (units_of o).1 (hr _ _ _ h1 (lams_l hl) X W o B) (hr _ _ _ h2 (lams_r hl) X W o B) h0.2
  · obtain ⟨h0, h⟩ := wh_some h
    rw [Bool.and_eq_true, Bool.and_eq_true, Bool.or_eq_true, decide_eq_true_eq, decide_eq_true_eq, decide_eq_true_eq] at h0
    obtain ⟨v1, v2, v3, v4⟩ := vis_some o h0.2
    rw [h0.1.1]
    exact em_inv h0.1.2 (units_of o).1 v1 v2 v3 v4 (hr _ _ _ h hl X W o B) rfl
  · obtain ⟨h0, h⟩ := wh_some h
    rw [Bool.and_eq_true, Bool.and_eq_true, decide_eq_true_eq, decide_eq_true_eq, Bool.not_eq_true'] at h0
    obtain ⟨u, v, h1, h2, rfl⟩ := and_some h
    obtain ⟨u', v', h3, h4, rfl⟩ := and_some h2
    rw [h0.1.1, h0.1.2]
    exact em_cmp2 (units_of o).1 (hr _ _ _ h1 (lams_l hl) X W o B) (hr _ _ _ h3 (lams_l (lams_r hl)) X W o B) (hr _ _ _ h4 (lams_r (lams_r hl)) X W o B) h0.2
  · cases h
theorem c_tcmp (hr : Rec G fld cx k r) (hl : ∀ p ∈ l, G.lam p.1 = p.2) (o : XOk G fld cx k X S W) {x : Expr} {ops : List CmpOp} {rs : List Expr} {a : Ex} (h : mTCmp r S x ops rs a = some l) : PTm X G B fld W cx (.Compare x ops rs pos) a := by
  unfold mTCmp at h
  split at h
  · obtain ⟨h0, h⟩ := wh_some h
    rw [Bool.and_eq_true, decide_eq_true_eq, Bool.not_eq_true'] at h0
    obtain ⟨u, v, h1, h2, rfl⟩ := and_some h
    rw [h0.1]
    exact tm_cmp (units_of o).1 (hr _ _ _ h1 (lams_l hl) X W o B) (hr _ _ _ h2 (lams_r hl) X W o B) h0.2
  · obtain ⟨h0, h⟩ := wh_some h
    rw [Bool.and_eq_true, Bool.and_eq_true, decide_eq_true_eq, decide_eq_true_eq, Bool.not_eq_true'] at h0
    obtain ⟨u, v, h1, h2, rfl⟩ := and_some h
    obtain ⟨u', v', h3, h4, rfl⟩ := and_some h2
    rw [h0.1.1, h0.1.2]
    exact tm_cmp2 (units_of o).1 (hr _ _ _ h1 (lams_l hl) X W o B) (hr _ _ _ h3 (lams_l (lams_r hl)) X W o B) (hr _ _ _ h4 (lams_r (lams_r hl)) X W o B) h0.2
  · cases h
theorem mBack_some {s : Expr} (h : mBack s = true) : ∃ j p1 p2 p3, s = .Slice none none (some (.UnaryOp .USub (.Constant (.int 1) j p1) p2)) p3 := by
  unfold mBack at h
  split at h
  · rw [decide_eq_true_eq] at h
    subst h
    exact ⟨_, _, _, _, rfl⟩
  · cases h
theorem c_sub (hr : Rec G fld cx k r) (hl : ∀ p ∈ l, G.lam p.1 = p.2) (o : XOk G fld cx k X S W) {x s : Expr} {a : Ex} (h : mSub r S x s a = some l) : PEm X G B fld W cx (.Subscript x s pos) a := by
  unfold mSub at h
  split at h
  · split at h
    · obtain ⟨u, v, h1, h2, rfl⟩ := and_some h
      obtain ⟨u', v', h3, h4, rfl⟩ := and_some h2
      exact em_slc (hr _ _ _ h1 (lams_l hl) X W o B) (hr _ _ _ h3 (lams_l (lams_r hl)) X W o B) (hr _ _ _ h4 (lams_r (lams_r hl)) X W o B)
    · cases h
  · obtain ⟨h0, h⟩ := wh_some h
    obtain ⟨j, p1, p2, p3, rfl⟩ := mBack_some h0
    exact em_backL (hr _ _ _ h hl X W o B)
  · obtain ⟨h0, h⟩ := wh_some h
    obtain ⟨u, v, h1, h2, rfl⟩ := and_some h
    exact em_ix (units_of o).2 (hr _ _ _ h1 (lams_l hl) X W o B) (hr _ _ _ h2 (lams_r hl) X W o B) (plainIx_of h0)
  · split at h
    · obtain ⟨h0, h⟩ := wh_some h
      rw [Bool.and_eq_true] at h0
      obtain ⟨v1, v2, v3, v4⟩ := vis_some o h0.2
      exact em_ixv (units_of o).2 v1 v2 v3 v4 (hr _ _ _ h hl X W o B) (plainIx_of h0.1)
    · cases h
  · cases h
theorem bi_callR (C : Cok X) (b : Bi) : (∀ id, biId b = some (.bt id) → CallR X (.builtin id) (rBi X G B b)) ∧ (∀ id, biId b = some (.bf id) → CallR X (.builtin id) (rBi X G B b)) ∧ (∀ n, biId b = some (.ty n) → CallR X (.type (tyN n)) (rBi X G B b)) := by
  cases b <;> refine ⟨fun id e => ?_, fun id e => ?_, fun n e => ?_⟩ <;> first | (cases e; done) | skip
  · cases e; exact cr_len
  · cases e; exact cr_abs
  · cases e; exact cr_allB C
  · cases e; exact cr_anyB C
  · cases e; exact cr_max2 C
  · cases e; exact cr_min2 C
  · cases e; exact cr_gcdm
  · cases e; exact cr_repr C
  · cases e; exact cr_int
  · cases e; exact cr_list
  · cases e; exact cr_tuple
  · cases e; exact cr_isinst
theorem biId_or {b : Bi} {gk : GK} (h : biId b = some gk) : (∃ id, gk = .bt id) ∨ (∃ id, gk = .bf id) ∨ ∃ n, gk = .ty n := by
  cases b <;> first | (cases h; done) | skip
  all_goals cases h
  all_goals first | exact .inl ⟨_, rfl⟩ | exact .inr (.inl ⟨_, rfl⟩) | exact .inr (.inr ⟨_, rfl⟩)
theorem c_callN (hr : Rec G fld cx k r) (hl : ∀ p ∈ l, G.lam p.1 = p.2) (o : XOk G fld cx k X S W) {x : Str} {p : Pos} {args : List Expr} {a : Ex} (h : mCallN r S x args a = some l) : PEm X G B fld W cx (.Call (.Name x p) args [] pos) a := by
  unfold mCallN at h
  split at h
  · rename_i f as
    obtain ⟨h0, h⟩ := wh_some h
    rw [Bool.and_eq_true] at h0
    obtain ⟨g1, g2, g3⟩ := glb_some o (of_decide_eq_true h0.1)
    obtain ⟨ha, hn⟩ := hr _ _ _ h hl X W o
    cases args with
    | nil =>
      cases as with
      | nil => exact em_call0 o.cok o.tk o.room (o.app.fn _) g1 g2.1 g2.2 g3
      | cons _ _ => exact absurd h0.2 (by simp [nilB])
    | cons e es =>
      rw [List.all_cons, Bool.and_eq_true] at hn
      exact em_call o.cok o.tk o.room (o.app.fn _) g1 g2.1 g2.2 (ha B) g3 (star_cons hn.1) (star_any hn.2)
  · rename_i i as
    obtain ⟨h0, h⟩ := wh_some h
    rw [Bool.and_eq_true] at h0
    obtain ⟨v1, v2, v3, v4⟩ := vis_some o h0.1
    obtain ⟨ha, hn⟩ := hr _ _ _ h hl X W o
    cases args with
    | nil =>
      cases as with
      | nil => exact em_app0 o.cok o.tk o.room o.app (em_v v1 v2 v3 v4)
      | cons _ _ => exact absurd h0.2 (by simp [nilB])
    | cons e es =>
      rw [List.all_cons, Bool.and_eq_true] at hn
      exact em_app o.cok o.tk o.room o.app (em_v v1 v2 v3 v4) (ha B) (star_cons hn.1) (star_any hn.2)
  · rename_i b as
    obtain ⟨h0, h⟩ := wh_some h
    rw [Bool.and_eq_true, Bool.and_eq_true, decide_eq_true_eq] at h0
    obtain ⟨gk, hq⟩ := Option.isSome_iff_exists.mp h0.1.2
    obtain ⟨g1, g2, g3⟩ := glb_some o (h0.1.1.trans hq)
    obtain ⟨ha, hn⟩ := hr _ _ _ h hl X W o
    obtain ⟨c1, c2, c3⟩ := bi_callR (G := G) (B := B) o.cok b
    cases args with
    | nil => exact absurd h0.2 (by simp)
    | cons e es =>
      rw [List.all_cons, Bool.and_eq_true] at hn
      rcases biId_or hq with ⟨id, rfl⟩ | ⟨id, rfl⟩ | ⟨n, rfl⟩
      · exact em_biB (c1 id hq) g1 g2.1 g2.2.1 (ha B) g2.2.2 g3 (star_cons hn.1) (star_any hn.2)
      · exact em_biF (c2 id hq) g1 g2 (ha B) g3 (star_cons hn.1) (star_any hn.2)
      · exact em_biT (c3 n hq) g1 g2.1 g2.2.1 (ha B) g2.2.2 g3 (star_cons hn.1) (star_any hn.2)
  · split at h
    · have h0 := gd_some h
      rw [Bool.and_eq_true, decide_eq_true_eq] at h0
      obtain ⟨g1, g2, g3⟩ := glb_some o h0.1
      obtain ⟨v1, v2, v3, v4⟩ := vis_some o h0.2
      exact em_lenv v1 v2 v3 v4 g1 g2.1 g2.2.1 g2.2.2 g3 rfl rfl
    · cases h
  · cases h
theorem c_call (hr : Rec G fld cx k r) (hl : ∀ p ∈ l, G.lam p.1 = p.2) (o : XOk G fld cx k X S W) {f : Expr} {args : List Expr} {kws : List Keyword} {a : Ex} (h : mCall r S f args kws pos a = some l) : PEm X G B fld W cx (.Call f args kws pos) a := by
  unfold mCall at h
  split at h
  · split at h
    · exact c_callN hr hl o h
    · unfold mCallA at h
      split at h
      · obtain ⟨h0, h'⟩ := wh_some h
        clear h
        have h := h'
        clear h'
        rw [Bool.and_eq_true, Bool.and_eq_true, decide_eq_true_eq] at h0
        obtain ⟨⟨h1, h2⟩, h3⟩ := h0
        subst h1
        exact em_bits (hr _ _ _ h hl X W o B) (attr_of h2) h3
      · cases h
    · cases h
  · cases h
theorem blk_ok (o : XOk G fld cx k X S W) {scope : Scope} {own : List Nat} (h : blkB S scope own = true) : BlkOk X.N X.env.scope scope (ownN S own) := by
  unfold blkB at h
  simp only [Bool.and_eq_true, List.all_eq_true, decide_eq_true_eq, Bool.or_eq_true, Bool.not_eq_true', decide_eq_false_iff_not, Bool.or_eq_false_iff] at h
  obtain ⟨⟨⟨⟨h1, h2⟩, h3⟩, h4⟩, h5⟩ := h
  refine ⟨h1, h2, fun p hp => ?_, fun y hy e => ?_, fun y hy e => ?_⟩
  · obtain ⟨i, hi, rfl⟩ := List.mem_map.mp hp
    rw [o.N]
    show S.N[i]? = some (S.N[i]?.getD default)
    rw [List.getElem?_eq_getElem (h3 i hi)]
    rfl
  · rw [o.sc]
    rcases h4 y hy with (z | z) | z
    · exact absurd e z
    · exact .inl z
    · exact .inr z
  · rw [o.N]
    rcases h5 y hy with (z | z) | z
    · rcases e with e | e
      · exact absurd e z.1
      · exact absurd e z.2
    · exact .inl z
    · exact .inr z
theorem own_ix (own : List Nat) : (ownN S own).map (·.2) = own := by
  unfold ownN
  rw [List.map_map]
  exact List.map_id _
theorem takes_blk {X : Cx} {s : Shared} {H : Hp} {scope : Scope} {cenv : Env} {fp : List Addr} : Takes (X.blk s H scope cenv fp) W0 := fun u s' ⟨_, _, _, _, _, _, _, _, _, _, _, _, _, _, _, _, w⟩ => w
theorem xok_blk (o : XOk G fld cx k X S W) (s : Shared) (H : Hp) (scope : Scope) (cl : List (Str × Addr)) (C : Addr) (fp : List Addr) : XOk G fld cx k (X.blk s H scope (compEnvC scope cl C X.env) fp) (S.blk scope) W0 where
  cok := ⟨o.cok.calm, o.cok.guards, o.cok.units, o.cok.nd, o.cok.sys⟩
  N := o.N
  sc := by
    show relS scope X.env.scope = relS scope S.sc
    rw [o.sc]
  fnc := fun z => by cases z
  gl := fun x gk h => by
    have z := o.gl x gk h
    cases gk <;> exact z
  tk := takes_blk
  room := o.room
  r3 := o.r3
  app := ⟨o.app.fn, o.app.clo, o.app.at_⟩
  lam := fun z => by cases z
theorem c_comp (hr : Rec G fld cx k r) (hl : ∀ p ∈ l, G.lam p.1 = p.2) (o : XOk G fld cx k X S W) {elt : Expr} {gens : List Comprehension} {scope : Scope} {a : Ex} (h : mComp r S elt gens scope a = some l) : PEm X G B fld W cx (.ListComp elt gens scope pos) a := by
  unfold mComp at h
  split at h
  · rename_i tg iter ifs kk own t w as oi x
    obtain ⟨h0, h'⟩ := wh_some h
    clear h
    rw [Bool.and_eq_true, Bool.and_eq_true, Bool.and_eq_true, decide_eq_true_eq] at h0
    obtain ⟨⟨⟨h1, h2⟩, h3⟩, h4⟩ := h0
    subst h1
    obtain ⟨u1, v1, g1, g2, rfl⟩ := and_some h'
    obtain ⟨u2, v2, g3, g4, rfl⟩ := and_some g2
    obtain ⟨u3, v3, g5, g6, rfl⟩ := and_some g4
    have e1 := hr _ _ _ g1 (lams_l hl) X W o
    have z := em_comp (B := B) (pos := pos) (scope := scope) (elt := elt) (a := x) o.cok (e1 B tg) (blk_ok o h3) (t := t) (fun i hi => by
      rw [own_ix]
      rw [List.all_eq_true] at h4
      exact of_decide_eq_true (h4 i hi)) (fun s H C cl fp B' _ => hr _ _ _ g3 (lams_l (lams_r hl)) _ _ (xok_blk o s H scope cl C fp) B')
      (fun s H C cl fp B' _ => hr _ _ _ g5 (lams_l (lams_r (lams_r hl))) _ _ (xok_blk o s H scope cl C fp) B') (fun s H C cl fp B' _ => hr _ _ _ g6 (lams_r (lams_r (lams_r hl))) _ _ (xok_blk o s H scope cl C fp) B') (folded_of h2)
    rw [own_ix] at z
    exact z
  · cases h
theorem c_lam (hl : ∀ p ∈ l, G.lam p.1 = p.2) (o : XOk G fld cx k X S W) {params : Arguments} {body : Expr} {scope : Scope} {a : Ex} (h : mLam S params body scope a = some l) : PEm X G B fld W cx (.Lambda params body scope pos) a := by
  unfold mLam at h
  split at h
  · rename_i kk cs
    obtain ⟨h0, h⟩ := wh_some h
    cases h
    simp only [Bool.and_eq_true, List.all_eq_true, decide_eq_true_eq, Bool.or_eq_true, Bool.not_eq_true', decide_eq_false_iff_not] at h0
    obtain ⟨⟨⟨⟨h1, h2⟩, h3⟩, h4⟩, h5⟩ := h0
    have hg := hl _ (List.mem_singleton_self _)
    have hg : G.lam kk = lamOf S params body scope cs := hg
    obtain ⟨q1, q2⟩ := o.lam h1
    unfold lamB at h4
    simp only [Bool.and_eq_true, List.all_eq_true, decide_eq_true_eq, Bool.or_eq_true, Bool.not_eq_true', decide_eq_false_iff_not] at h4
    obtain ⟨⟨⟨⟨⟨⟨b1, b2⟩, b3⟩, b4⟩, b5⟩, b6⟩, b7⟩ := h4
    refine em_lam {
      ex := q2
      lam := by rw [hg, q1]; exact ⟨rfl, rfl, rfl, rfl⟩
      dfl := by
        unfold noArgs at h2
        split at h2
        · rfl
        · cases h2
      free := fun y hy e => by
        rw [o.sc]
        rcases h5 y hy with (z | z) | z
        · exact absurd e z
        · exact .inl z
        · exact .inr z
      len := by
        rw [hg]
        show cs.length = (cs.map _).length
        rw [List.length_map]
      all := fun y hy e => by
        rw [hg]
        rcases b6 y hy with z | z
        · exact absurd e z
        · exact z
      caps := fun j i hj => by
        rw [hg]
        have hi : i ∈ cs := List.mem_of_getElem? hj
        have hN : S.N[i]? = some (S.N[i]?.getD default) := by
          rw [List.getElem?_eq_getElem (h3 i hi)]
          rfl
        refine ⟨S.N[i]?.getD default, ?_, by rw [o.N]; exact hN, PySem.mem_of_lookup (b5 _ (List.mem_map_of_mem hi))⟩
        show (cs.map _)[j]? = _
        rw [List.getElem?_map, hj]
        rfl }
  · cases h
theorem c_dict (hr : Rec G fld cx k r) (hl : ∀ p ∈ l, G.lam p.1 = p.2) (o : XOk G fld cx k X S W) {ks : List (Option Expr)} {vs : List Expr} {a : Ex} (h : mDict r S ks vs a = some l) : PEm X G B fld W cx (.Dict ks vs pos) a := by
  unfold mDict at h
  split at h
  · obtain ⟨h0, h⟩ := wh_some h
    split at h
    · split at h
      · exact em_dic0
      · cases h
    · exact em_dic (hr _ _ _ h hl X W o B.nc pos) (by simp) (of_decide_eq_true h0)
  · split at h
    · exact em_dct0
    · cases h
  · cases h
theorem c_e (hr : Rec G fld cx k r) (hl : ∀ p ∈ l, G.lam p.1 = p.2) (o : XOk G fld cx k X S W) {e : Expr} {a : Ex} (h : mE r S e a = some l) : PEm X G B fld W cx e a := by
  unfold mE at h
  split at h
  · exact c_const h
  · exact c_name o h
  · exact c_bool hr hl o h
  · split at h
    · obtain ⟨h0, h⟩ := wh_some h
      rw [of_decide_eq_true h0]
      obtain ⟨u, v, h1, h2, rfl⟩ := and_some h
      exact em_bin (hr _ _ _ h1 (lams_l hl) X W o B) (hr _ _ _ h2 (lams_r hl) X W o B)
    · cases h
  · split at h
    · exact em_neg (hr _ _ _ h hl X W o B)
    · exact em_not (hr _ _ _ h hl X W o B)
    · cases h
  · exact c_cmp hr hl o h
  · split at h
    · obtain ⟨u, v, h1, h2, rfl⟩ := and_some h
      obtain ⟨u', v', h3, h4, rfl⟩ := and_some h2
      exact em_ite (hr _ _ _ h1 (lams_l hl) X W o B).1 (hr _ _ _ h3 (lams_l (lams_r hl)) X W o B) (hr _ _ _ h4 (lams_r (lams_r hl)) X W o B)
    · cases h
  · split at h
    · obtain ⟨h0, h⟩ := wh_some h
      exact em_tup ((hr _ _ _ h hl X W o).1 B) (big_le h0)
    · cases h
  · split at h
    · obtain ⟨h0, h⟩ := wh_some h
      exact em_lst ((hr _ _ _ h hl X W o).1 B) (big_le h0)
    · cases h
  · exact c_sub hr hl o h
  · exact c_call hr hl o h
  · exact c_comp hr hl o h
  · exact c_lam hl o h
  · exact c_dict hr hl o h
  · cases h
theorem c_tbool (hr : Rec G fld cx k r) (hl : ∀ p ∈ l, G.lam p.1 = p.2) (o : XOk G fld cx k X S W) {op : BoolOp} {vs : List Expr} {a : Ex} (h : mTBool r S op vs pos a = some l) : PWm X G B fld W cx (.BoolOp op vs pos) a := by
  unfold mTBool at h
  split at h
  · cases h
  · have z := (hr _ _ _ h hl X W o B).1
    cases op with
    | And => exact wm_and1 z
    | Or => exact wm_or1 z
  · split at h
    · obtain ⟨u, v, h1, h2, rfl⟩ := and_some h
      exact wm_and (hr _ _ _ h1 (lams_l hl) X W o B).1 ((hr _ _ _ h2 (lams_r hl) X W o B).2 rfl)
    · obtain ⟨u, v, h1, h2, rfl⟩ := and_some h
      exact wm_or (hr _ _ _ h1 (lams_l hl) X W o B).1 ((hr _ _ _ h2 (lams_r hl) X W o B).2 rfl)
    · cases h
theorem c_t (hr : Rec G fld cx k r) (hl : ∀ p ∈ l, G.lam p.1 = p.2) (o : XOk G fld cx k X S W) {e : Expr} {a : Ex} (h : mT r S e a = some l) : PTm X G B fld W cx e a ∧ (isBool e = true → PWm X G B fld W cx e a) := by
  unfold mT at h
  split at h
  · split at h
    · exact ⟨tm_not (hr _ _ _ h hl X W o B).1, fun z => by cases z⟩
    · cases h
  · have z := c_tbool (B := B) hr hl o h
    exact ⟨z.pt, fun _ => z⟩
  · exact ⟨c_tcmp hr hl o h, fun z => by cases z⟩
  · obtain ⟨h0, h⟩ := wh_some h
    refine ⟨tm_truth (hr _ _ _ h hl X W o B) (isTrue_of h0), fun z => ?_⟩
    unfold isBool at z
    split at z
    · cases h0
    · cases z
theorem c_i (hr : Rec G fld cx k r) (hl : ∀ p ∈ l, G.lam p.1 = p.2) (o : XOk G fld cx k X S W) {e tg : Expr} {w : Wk} {as : Exs} (h : mI r S e w as = some l) : PI X tg e (iOf X G B fld W w (Es cx as)) := by
  unfold mI at h
  split at h
  · split at h
    · exact im_val (hr _ _ _ h hl X W o B)
    · cases h
  · split at h
    · obtain ⟨h0, h'⟩ := wh_some h
      clear h
      rw [Bool.and_eq_true, Bool.and_eq_true, decide_eq_true_eq, decide_eq_true_eq] at h0
      obtain ⟨⟨h1, h2⟩, h3⟩ := h0
      subst h1
      obtain ⟨g1, g2, g3⟩ := glb_some o h2
      exact im_rng1 g1 g2 ((hr _ _ _ h' hl X W o).1 B) (star_cons h3)
    · cases h
  · split at h
    · obtain ⟨h0, h'⟩ := wh_some h
      clear h
      rw [Bool.and_eq_true, Bool.and_eq_true, Bool.and_eq_true, decide_eq_true_eq, decide_eq_true_eq] at h0
      obtain ⟨⟨⟨h1, h2⟩, h3⟩, h4⟩ := h0
      subst h1
      obtain ⟨g1, g2, g3⟩ := glb_some o h2
      exact im_rng2 g1 g2 ((hr _ _ _ h' hl X W o).1 B) (by rw [star_cons h3, star_cons h4]; rfl) (star_cons h4)
    · cases h
  · cases h
theorem c_d (hr : Rec G fld cx k r) (hl : ∀ p ∈ l, G.lam p.1 = p.2) (o : XOk G fld cx k X S W) {nc : Bool} {ks : List (Option Expr)} {vs : List Expr} {ys : List Ky} {as : Exs} (h : mD r S ks vs ys as = some l) : PDm X G nc fld W cx pos ks vs ys as := by
  unfold mD at h
  split at h
  · exact dm_nil
  · obtain ⟨h0, h'⟩ := wh_some h
    clear h
    rw [decide_eq_true_eq] at h0
    subst h0
    obtain ⟨u, v, h1, h2, rfl⟩ := and_some h'
    exact dm_cons pe_str (fun B _ => hr _ _ _ h1 (lams_l hl) X W o B) (hr _ _ _ h2 (lams_r hl) X W o nc pos)
  · obtain ⟨h0, h'⟩ := wh_some h
    clear h
    rw [decide_eq_true_eq] at h0
    subst h0
    obtain ⟨u, v, h1, h2, rfl⟩ := and_some h'
    exact dm_cons pe_int (fun B _ => hr _ _ _ h1 (lams_l hl) X W o B) (hr _ _ _ h2 (lams_r hl) X W o nc pos)
  · cases h
theorem asg_cons {e : Expr} {es : List Expr} {env : Env} (h : nst e = true) : assignEach (e :: es) env = (false, assign e env) :: assignEach es env := by
  cases e <;> first | rfl | cases h
theorem asg_len : ∀ {es : List Expr} {env : Env}, es.all nst = true → (assignEach es env).length = es.length ∧ (assignEach es env).findIdx? (·.1) = none
  | [], _, _ => ⟨rfl, rfl⟩
  | e :: es, env, h => by
    rw [List.all_cons, Bool.and_eq_true] at h
    obtain ⟨h1, h2⟩ := asg_len (env := env) h.2
    rw [asg_cons h.1]
    refine ⟨congrArg Nat.succ h1, ?_⟩
    rw [List.findIdx?_cons, h2]
    rfl
theorem c_g (hr : Rec G fld cx k r) (hl : ∀ p ∈ l, G.lam p.1 = p.2) (o : XOk G fld cx k X S W) {e : Expr} {t : Tg} (h : mG r S e t = some l) : PG X e (gOf X G B t) := by
  unfold mG at h
  split at h
  · have h0 := gd_some h
    rw [Bool.and_eq_true, Bool.or_eq_true, Bool.and_eq_true, decide_eq_true_eq, decide_eq_true_eq, decide_eq_true_eq] at h0
    obtain ⟨h1, h2⟩ := h0
    refine gm_nm o.cok.nd (by rw [o.N]; exact h1) ?_ ?_
    · rw [o.sc]
      exact h2.imp id fun z => z.2
    · rcases h2 with z | z
      · exact .inr (by rw [o.sc]; exact z)
      · exact .inl (o.fnc z.1 _ z.2)
  · obtain ⟨h0, h⟩ := wh_some h
    rw [Bool.and_eq_true, beq_iff_eq] at h0
    obtain ⟨q1, q2⟩ := asg_len (env := X.env) h0.2
    exact gm_tup o.cok.calm (hr _ _ _ h hl X W o B) (q1.trans h0.1) q2
  · cases h
theorem c_gs (hr : Rec G fld cx k r) (hl : ∀ p ∈ l, G.lam p.1 = p.2) (o : XOk G fld cx k X S W) {es : List Expr} {ts : List Tg} (h : mGs r S es ts = some l) : PGs X es (gOfs X G B ts) := by
  unfold mGs at h
  split at h
  · exact gms_nil
  · obtain ⟨h0, h⟩ := wh_some h
    obtain ⟨u, v, h1, h2, rfl⟩ := and_some h
    exact gms_cons (hr _ _ _ h1 (lams_l hl) X W o B) (hr _ _ _ h2 (lams_r hl) X W o B) (by rw [asg_cons h0]; rfl)
  · cases h
theorem mJ_ok : ∀ n, Rec G fld cx k (mJ n)
  | 0 => fun S j l h => by cases h
  | n + 1 => fun S j l h hl X W o => by
    have hr := mJ_ok n
    cases j with
    | e e a => exact fun B => c_e hr hl o h
    | t e a => exact fun B => c_t hr hl o h
    | ar es as =>
      have h : mAr (mJ n) S es as = some l := h
      unfold mAr at h
      split at h
      · exact ⟨fun B => am_nil, rfl⟩
      · obtain ⟨h0, h⟩ := wh_some h
        obtain ⟨u, v, h1, h2, rfl⟩ := and_some h
        have z := hr _ _ _ h2 (lams_r hl) X W o
        exact ⟨fun B => am_cons (hr _ _ _ h1 (lams_l hl) X W o B) (z.1 B) (star_cons h0), by rw [List.all_cons, h0, z.2]; rfl⟩
      · cases h
    | o e a =>
      have h : mO (mJ n) S e a = some l := h
      unfold mO at h
      split at h
      · exact fun B => po_no
      · exact fun B => po_so (hr _ _ _ h hl X W o B)
      · cases h
    | i e w as => exact fun B tg => c_i hr hl o h
    | f es a =>
      have h : mF (mJ n) S es a = some l := h
      unfold mF at h
      split at h
      · exact fun B => pts_no
      · exact fun B => pts_so (hr _ _ _ h hl X W o B).1
      · cases h
    | d ks vs ys as => exact fun nc pos => c_d hr hl o h
    | g e t => exact fun B => c_g hr hl o h
    | gs es ts => exact fun B => c_gs hr hl o h
end
end KP
end
section
set_option autoImplicit false
set_option linter.all false
set_option maxRecDepth 100000
set_option maxHeartbeats 4000000
/-! KMat3: the test of statements, and that it is right. -/
namespace KP
open PySem PySem.Spec PyProof.Rows L2

def bkOf (sc : Scope) : ScopeKind := if sc.kind.isAnnotationScope then .function else sc.kind
def swN (sc : Scope) (ts : List Expr) : List Str := ts.filterMap fun
  | .Name id pos => if sc.names.lookup id == some .local && pos.line == (ts.head?.map (·.pos.line)).getD 0 then some id else none
  | _ => none
/-- how a tuple is stored, by the scope alone; none: not known -/
def swp (sc : Scope) (targets : List Expr) (value : Expr) : Option (Option (List Str)) :=
  match (match targets, value with
    | [.Tuple ts _ _], .Tuple vs _ _ => some (ts, vs)
    | [.List ts _], .Tuple vs _ _ => some (ts, vs)
    | _, _ => none) with
  | none => some none
  | some (ts, vs) =>
    if (!(ts.length == 2 || ts.length == 3) || vs.length != ts.length || bkOf sc != .function) = true then some none
    else if (vs.any fun | .Starred .. => true | _ => false) = true then some none
    else if ((swN sc ts).length != ts.length || (swN sc ts).eraseDups.length != (swN sc ts).length) = true then some none
    else if vs.all (foldedForSure 8) = true then some none
    else if vs.all (constantsAlone 8) = true then none
    else some (some (swN sc ts))
theorem swp_ok {env : Env} {ts : List Expr} {v : Expr} {r : Option (List Str)} (h : swp env.scope ts v = some r) : swappedStores ts v env = pure r := by
  unfold swp at h
  unfold swappedStores
  split at h
  · rename_i q
    cases h
    split
    · rename_i heq
      exact absurd (q.symm.trans heq) (by simp)
    · rfl
  · rename_i ts' vs' q
    split
    · rename_i ts2 vs2 heq
      have e : some (ts', vs') = some (ts2, vs2) := q.symm.trans heq
      cases e
      simp only [pure_bind, Env.kindOf, show env.blockKind = bkOf env.scope from rfl]
      split at h
      · rename_i c1
        cases h
        exact if_pos c1
      · rename_i c1
        refine (if_neg c1).trans ?_
        split at h
        · rename_i c2
          cases h
          exact if_pos c2
        · rename_i c2
          refine (if_neg c2).trans ?_
          split at h
          · rename_i c3
            cases h
            exact if_pos c3
          · rename_i c3
            refine (if_neg c3).trans ?_
            split at h
            · rename_i c4
              cases h
              exact if_pos c4
            · rename_i c4
              refine (if_neg c4).trans ?_
              split at h
              · cases h
              · rename_i c5
                cases h
                refine (if_neg c5).trans ?_
                rfl
    · rename_i heq
      exact absurd q (by
        intro q
        exact heq _ _ q)
inductive Js where
  | s (st : Stmt) (a : KP.St)
  | ss (l : List Stmt) (b : Sts)
def elB (names : List Str) (n : Str) : List Expr → List (Sum D Nat) → Bool
  | [], [] => true
  | .Constant (.str x) _ _ :: es, .inl (.str y) :: r => decide (x = y) && elB names n es r
  | .Attribute (.Name m _) f _ :: es, .inr i :: r => decide (m = n) && decide (names[i]? = some f) && decide (i < names.length) && elB names n es r
  | _, _ => false
def hsB (S : Sx) : List ExceptHandler → List (Nat × List (Sum D Nat)) → Bool
  | [], [] => true
  | .ExceptHandler (some (.Name x _)) (some n) [.Return (some (.Tuple es _ _)) _] _ :: hs, (c, its) :: cs =>
    decide (S.N[S.N.idxOf n]? = some n) && decide (S.sc.names.lookup n = some .local) && okd n && decide (glb S x = some (.cls c)) && elB (S.fl[c]?.getD []) n es its && Nat.ble its.length 10000 && hsB S hs cs
  | _, _ => false
section
variable (e : Jb → M) (r : Js → M) (S : Sx)
def mAsg (tg v : Expr) (pos : Pos) (a : KP.St) : M := match a with
  | .set t x => M.wh (nst tg && ncp v && decide (swp S.sc [tg] v = some none)) ((e (.e v x)).and (e (.g tg t)))
  | .own i x => (match tg, v, x with
    | .Name y _, .List es _, .lst as => M.wh (decide (S.N[i]? = some y) && decide (S.sc.names.lookup y = some .local) && Nat.ble as.len 10000) (e (.ar es as))
    | _, _, _ => none)
  | .par [i, j] as => (match tg, v with
    | .Tuple [.Name x px, .Name y py] kt pt, .Tuple [u, w] k2 pt2 => M.wh (decide (S.N[i]? = some x) && decide (S.N[j]? = some y) && !(i == j) && decide (S.sc.names.lookup x = some .local) && decide (S.sc.names.lookup y = some .local) &&
        decide (swp S.sc [.Tuple [.Name x px, .Name y py] kt pt] (.Tuple [u, w] k2 pt2) = some (some [x, y]))) (e (.ar [u, w] as))
    | _, _ => none)
  | .setix x y z => (match tg with
    | .Subscript l q _ => M.wh (ncp v) ((e (.e l x)).and ((e (.e q y)).and (e (.e v z))))
    | _ => none)
  | _ => none
def mEx (v : Expr) (a : KP.St) : M := match a with
  | .pass => (match v with
    | .Constant (.str _) _ _ => some []
    | _ => none)
  | .ex x => M.wh (ncp v) (e (.e v x))
  | .app i x => (match v with
    | .Call (.Attribute (.Name y _) at_ apos) [u] [] cpos => M.wh (decide (at_ = "append") && vis S i y && nst u && (apos.endLine == cpos.line)) (e (.e u x))
    | _ => none)
  | _ => none
def mS (st : Stmt) (a : KP.St) : M := match st with
  | .Pass _ => (match a with
    | .pass => some []
    | _ => none)
  | .Expr v _ => mEx e S v a
  | .Break _ => (match a with
    | .brk => some []
    | _ => none)
  | .Continue _ => (match a with
    | .cont => some []
    | _ => none)
  | .Return (some v) _ => (match a with
    | .ret x => e (.e v x)
    | _ => none)
  | .Return none _ => (match a with
    | .ret (.c .non) => some []
    | _ => none)
  | .Assign [tg] v pos => mAsg e S tg v pos a
  | .If c p q _ => (match a with
    | .ite x u v => (e (.t c x)).and ((r (.ss p u)).and (r (.ss q v)))
    | _ => none)
  | .For tg it b [] _ => (match a with
    | .loop t w as u => M.wh (nset it) ((e (.i it w as)).and ((e (.g tg t)).and (r (.ss b u))))
    | _ => none)
  | .While c b [] _ => (match a with
    | .whl x u => (e (.t c x)).and (r (.ss b u))
    | _ => none)
  | .Raise (some (.Call (.Name x _) (y :: ys) [] _)) none _ => (match a with
    | .rais c as => M.wh (decide (glb S x = some (.cls c)) && decide (as.len = (S.fl[c]?.getD []).length)) (e (.ar (y :: ys) as))
    | _ => none)
  | .Try b (h :: hs) [] [] _ => (match a with
    | .tri u cs => M.wh (hsB S (h :: hs) cs) (r (.ss b u))
    | _ => none)
  | _ => none
def mSs (l : List Stmt) (b : Sts) : M := match l, b with
  | [], .nil => some []
  | s :: l, .cons a b => (r (.s s a)).and (r (.ss l b))
  | _, _ => none
end
def mK (n0 : Nat) (S : Sx) : Nat → Js → M
  | 0, _ => none
  | n + 1, j => match j with
    | .s st a => mS (mJ n0 S) (mK n0 S n) S st a
    | .ss l b => mSs (mK n0 S n) l b

section
variable (G : Glo) (fld : Nat → List Str) (cx : Cc) (k : Nat)
structure YOk (X : Cx) (S : Sx) (W : WX) : Prop where
  x : XOk G fld cx k X S W
  ps : PassesOwn (model X.prog X.w) X.A X.env X.xe
  stk : X.stack = X.env :: X.outer
  frm : X.env.frame = some X.env.locals
  fl : ∀ c, fld c = S.fl[c]?.getD []
  er : ∀ c, c < G.nC → ErrC X.prog X.w X.K X.mg X.base (G.clA c) (fld c) 2
  xf : ∀ c, c < G.nC → XfC X.K (G.clA c)
  exm : ∀ c c', c < G.nC → c' < G.nC → PySem.W.exmOne X.K (.ref (G.clA c')) (.ref (G.clA c)) = some (decide (c = c'))
  hno : ∀ c f, c < G.nC → f ∈ fld c → PySem.W.findIn X.K (.ref (G.clA c)) f = some none
def Rs (X : Cx) (W : WX) : Js → Prop
  | .s st a => ∀ B, PSm X G B fld W cx st a
  | .ss l b => ∀ B, PSsm X G B fld W cx l b
def Gs (S : Sx) (j : Js) (l : LI) : Prop := (∀ p ∈ l, G.lam p.1 = p.2) → ∀ (X : Cx) (W : WX), YOk G fld cx k X S W → Rs G fld cx X W j
end
section
variable {G : Glo} {fld : Nat → List Str} {cx : Cc} {k : Nat} {X : Cx} {S : Sx} {W : WX} {e : Jb → M} {r : Js → M} {l : LI} {B : Bs} {pos : Pos}
abbrev RecE (G : Glo) (fld : Nat → List Str) (cx : Cc) (k : Nat) (S : Sx) (e : Jb → M) : Prop := ∀ j l, e j = some l → Gd G fld cx k S j l
abbrev RecS (G : Glo) (fld : Nat → List Str) (cx : Cc) (k : Nat) (S : Sx) (r : Js → M) : Prop := ∀ j l, r j = some l → Gs G fld cx k S j l
theorem lp_set {tg : Expr} {env : Env} (h : nst tg = true) : (assignEach [tg] env).map (·.2) = [assign tg env] := by
  rw [asg_cons h]
  rfl
theorem y_asg (he : RecE G fld cx k S e) (hl : ∀ p ∈ l, G.lam p.1 = p.2) (o : YOk G fld cx k X S W) {tg v : Expr} {a : KP.St} (h : mAsg e S tg v pos a = some l) : PSm X G B fld W cx (.Assign [tg] v pos) a := by
  have ox := o.x
  unfold mAsg at h
  split at h
  · obtain ⟨h0, h'⟩ := wh_some h
    clear h
    rw [Bool.and_eq_true, Bool.and_eq_true, decide_eq_true_eq] at h0
    obtain ⟨⟨h1, h2⟩, h3⟩ := h0
    obtain ⟨u, w, g1, g2, rfl⟩ := and_some h'
    exact sm_set (he _ _ g1 (lams_l hl) X W ox B) (he _ _ g2 (lams_r hl) X W ox B) (swaps_of h2) (swp_ok (by rw [ox.sc]; exact h3)) (lp_set h1)
  · split at h
    · obtain ⟨h0, h'⟩ := wh_some h
      clear h
      rw [Bool.and_eq_true, Bool.and_eq_true, decide_eq_true_eq, decide_eq_true_eq] at h0
      obtain ⟨⟨h1, h2⟩, h3⟩ := h0
      rw [← ox.sc] at h2
      have hlc := h2
      exact sm_own ox.cok (by rw [ox.N]; exact h1) (.inl hlc) (.inr hlc) (fm_lst ((he _ _ h' hl X W ox).1 B) (big_le h3)) (fun env st => by rw [E]) rfl
    · cases h
  · split at h
    · obtain ⟨h0, h'⟩ := wh_some h
      clear h
      simp only [Bool.and_eq_true, decide_eq_true_eq, Bool.not_eq_true', beq_eq_false_iff_ne] at h0
      obtain ⟨⟨⟨⟨⟨h1, h2⟩, h3⟩, h4⟩, h5⟩, h6⟩ := h0
      exact sm_par ox.cok (by rw [ox.N]; exact h1) (by rw [ox.N]; exact h2) h3 (by rw [ox.sc]; exact h4) (by rw [ox.sc]; exact h5) ((he _ _ h' hl X W ox).1 B) (swp_ok (by rw [ox.sc]; exact h6)) rfl
    · cases h
  · split at h
    · obtain ⟨h0, h'⟩ := wh_some h
      clear h
      obtain ⟨u, w, g1, g2, rfl⟩ := and_some h'
      obtain ⟨u', w', g3, g4, rfl⟩ := and_some g2
      exact sm_setix (units_of ox).2 (he _ _ g1 (lams_l hl) X W ox B) (he _ _ g3 (lams_l (lams_r hl)) X W ox B) (he _ _ g4 (lams_r (lams_r hl)) X W ox B) (swaps_of h0)
    · cases h
  · cases h
theorem y_ex (he : RecE G fld cx k S e) (hl : ∀ p ∈ l, G.lam p.1 = p.2) (o : YOk G fld cx k X S W) {v : Expr} {a : KP.St} (h : mEx e S v a = some l) : PSm X G B fld W cx (.Expr v pos) a := by
  have ox := o.x
  unfold mEx at h
  split at h
  · split at h
    · exact sm_doc
    · cases h
  · obtain ⟨h0, h'⟩ := wh_some h
    exact sm_ex (he _ _ h' hl X W ox B) (swaps_of h0)
  · split at h
    · obtain ⟨h0, h'⟩ := wh_some h
      clear h
      rw [Bool.and_eq_true, Bool.and_eq_true, Bool.and_eq_true, decide_eq_true_eq] at h0
      obtain ⟨⟨⟨h1, h2⟩, h3⟩, h4⟩ := h0
      subst h1
      obtain ⟨v1, v2, v3, v4⟩ := vis_some ox h2
      refine sm_app v1 v2 v3 v4 (he _ _ h' hl X W ox B) (star_cons h3) rfl ?_ h4 rfl rfl
      rw [star_cons h3]
      rfl
    · cases h
  · cases h
theorem el_ok (o : YOk G fld cx k X S W) {c i : Nat} {n : Str} (hc : c < G.nC) : ∀ {es : List Expr} {its : List (Sum D Nat)}, elB (fld c) n es its = true → ElOk X (G.clA c) i n (fld c) es its ∧ (∀ q ∈ its, plainIt q = true) ∧ ∀ m, Sum.inr m ∈ its → m < (fld c).length := by
  intro es
  induction es with
  | nil =>
    intro its h
    cases its with
    | nil => exact ⟨.nil, fun q hq => by simp at hq, fun m hm => by simp at hm⟩
    | cons _ _ => simp [elB] at h
  | cons x es ih =>
    intro its h
    unfold elB at h
    split at h
    · rename_i heq1
      cases heq1
    · rename_i x' _ _ es' y r' heq1
      cases heq1
      rw [Bool.and_eq_true, decide_eq_true_eq] at h
      obtain ⟨h1, h2⟩ := h
      subst h1
      obtain ⟨q1, q2, q3⟩ := ih h2
      refine ⟨.str q1, fun q hq => ?_, fun m hm => ?_⟩
      · rcases List.mem_cons.mp hq with z | z
        · rw [z]; rfl
        · exact q2 q z
      · rcases List.mem_cons.mp hm with z | z
        · cases z
        · exact q3 m z
    · rename_i m' _ f _ es' j r' heq1
      cases heq1
      rw [Bool.and_eq_true, Bool.and_eq_true, Bool.and_eq_true, decide_eq_true_eq, decide_eq_true_eq, decide_eq_true_eq] at h
      obtain ⟨⟨⟨h1, h2⟩, h3⟩, h4⟩ := h
      subst h1
      obtain ⟨q1, q2, q3⟩ := ih h4
      refine ⟨.fld h2 (o.hno c f hc (List.mem_of_getElem? h2)) q1, fun q hq => ?_, fun m hm => ?_⟩
      · rcases List.mem_cons.mp hq with z | z
        · rw [z]; rfl
        · exact q2 q z
      · rcases List.mem_cons.mp hm with z | z
        · cases z
          exact h3
        · exact q3 m z
    · cases h
theorem hs_ok (o : YOk G fld cx k X S W) : ∀ {hs : List ExceptHandler} {cs : List (Nat × List (Sum D Nat))}, hsB S hs cs = true → ∃ l, HsOk X G fld hs cs l := by
  intro hs
  induction hs with
  | nil =>
    intro cs h
    cases cs with
    | nil => exact ⟨_, .nil⟩
    | cons _ _ => simp [hsB] at h
  | cons x hs ih =>
    intro cs h
    unfold hsB at h
    split at h
    · rename_i heq1
      cases heq1
    · rename_i x' _ n es _ _ _ _ hs' c its cs' heq1
      cases heq1
      simp only [Bool.and_eq_true, decide_eq_true_eq] at h
      obtain ⟨⟨⟨⟨⟨⟨h1, h2⟩, h3⟩, h4⟩, h5⟩, h6⟩, h7⟩ := h
      obtain ⟨l, hl⟩ := ih h7
      obtain ⟨g1, g2, g3⟩ := glb_some o.x h4
      rw [← o.fl c] at h5
      obtain ⟨e1, e2, e3⟩ := el_ok (i := S.N.idxOf n) o g2.2 h5
      exact ⟨_, .cons (by rw [o.x.N]; exact h1) (by show X.env.scope.names.lookup n = _; rw [o.x.sc]; exact h2) (okd_some h3).1 (okd_some h3).2 ⟨g1, g3, .inl g2.1⟩ (o.xf c g2.2) e1 (big_le h6) e2 e3 (fun c' hc' => o.exm c c' g2.2 hc') hl⟩
    · cases h
theorem yok_tr (o : YOk G fld cx k X S W) {V : WX} {pn : List (Addr × Obj)} {xe : Value → Shared → Prop} (tk : Takes (X.tr pn xe) V) (ps : PassesOwn (model X.prog X.w) X.A X.env xe) : YOk G fld cx k (X.tr pn xe) S V where
  x := {
    cok := ⟨o.x.cok.calm, o.x.cok.guards, o.x.cok.units, o.x.cok.nd, o.x.cok.sys⟩
    N := o.x.N
    sc := o.x.sc
    fnc := o.x.fnc
    gl := fun x gk h => by
      have z := o.x.gl x gk h
      cases gk <;> exact z
    tk := tk
    room := o.x.room
    r3 := o.x.r3
    app := ⟨o.x.app.fn, o.x.app.clo, o.x.app.at_⟩
    lam := o.x.lam }
  ps := ps
  stk := o.stk
  frm := o.frm
  fl := o.fl
  er := o.er
  xf := o.xf
  exm := o.exm
  hno := o.hno
theorem y_s (he : RecE G fld cx k S e) (hr : RecS G fld cx k S r) (hl : ∀ p ∈ l, G.lam p.1 = p.2) (o : YOk G fld cx k X S W) {st : Stmt} {a : KP.St} (h : mS e r S st a = some l) : PSm X G B fld W cx st a := by
  have ox := o.x
  unfold mS at h
  split at h
  · split at h
    · exact sm_pass
    · cases h
  · exact y_ex he hl o h
  · split at h
    · exact sm_brk
    · cases h
  · split at h
    · exact sm_cont
    · cases h
  · split at h
    · exact sm_ret (he _ _ h hl X W ox B)
    · cases h
  · split at h
    · exact sm_retN
    · cases h
  · exact y_asg he hl o h
  · split at h
    · obtain ⟨u, w, g1, g2, rfl⟩ := and_some h
      obtain ⟨u', w', g3, g4, rfl⟩ := and_some g2
      exact sm_ite (he _ _ g1 (lams_l hl) X W ox B).1 (hr _ _ g3 (lams_l (lams_r hl)) X W o B) (hr _ _ g4 (lams_r (lams_r hl)) X W o B)
    · cases h
  · split at h
    · obtain ⟨h0, h'⟩ := wh_some h
      clear h
      obtain ⟨u, w, g1, g2, rfl⟩ := and_some h'
      obtain ⟨u', w', g3, g4, rfl⟩ := and_some g2
      exact sm_loop ox.cok o.ps (he _ _ g1 (lams_l hl) X W ox B _) (he _ _ g3 (lams_l (lams_r hl)) X W ox B) (hr _ _ g4 (lams_r (lams_r hl)) X W o B) (folded_of h0)
    · cases h
  · split at h
    · obtain ⟨u, w, g1, g2, rfl⟩ := and_some h
      exact sm_whl o.ps (he _ _ g1 (lams_l hl) X W ox B).1 (hr _ _ g2 (lams_r hl) X W o B)
    · cases h
  · split at h
    · obtain ⟨h0, h'⟩ := wh_some h
      clear h
      rw [Bool.and_eq_true, decide_eq_true_eq, decide_eq_true_eq] at h0
      obtain ⟨g1, g2, g3⟩ := glb_some ox h0.1
      obtain ⟨ha, hn⟩ := he _ _ h' hl X W ox
      rw [List.all_cons, Bool.and_eq_true] at hn
      exact sm_rais (k := 2) ox.cok ox.tk (ox.room.mono ox.r3) (o.er _ g2.2) g1 g2.1 (ha B) (by rw [o.fl]; exact h0.2) g2.2 g3 (star_cons hn.1) (star_any hn.2)
    · cases h
  · split at h
    · obtain ⟨h0, h'⟩ := wh_some h
      clear h
      obtain ⟨lc, hh⟩ := hs_ok o h0
      exact sm_tri ox.cok o.stk o.frm ox.tk (fun V pn xe tk ps => hr _ _ h' hl _ _ (yok_tr o tk ps) B) hh
    · cases h
  · cases h
theorem mK_ok {n0 : Nat} : ∀ n, RecS G fld cx k S (mK n0 S n)
  | 0 => fun j l h => by cases h
  | n + 1 => fun j l h hl X W o => by
    have hr := mK_ok (n0 := n0) n
    have he : RecE G fld cx k S (mJ n0 S) := fun j l h => mJ_ok n0 S j l h
    cases j with
    | s st a => exact fun B => y_s he hr hl o h
    | ss st b =>
      have h : mSs (mK n0 S n) st b = some l := h
      unfold mSs at h
      split at h
      · exact fun B => sm_nil
      · obtain ⟨u, w, g1, g2, rfl⟩ := and_some h
        exact fun B => sm_cons (hr _ _ g1 (lams_l hl) X W o B) (hr _ _ g2 (lams_r hl) X W o B)
      · cases h
end
end KP
end
section
set_option autoImplicit false
set_option linter.all false
set_option maxRecDepth 100000
set_option maxHeartbeats 4000000
/-! KProg: all defs and lambdas of a program keep what KCore says, at calls of every depth. -/
namespace KP
open PySem PySem.Spec PyProof.Rows L2

/-- a def as it is written, and as KCore has it -/
structure DefI where
  N : List Str
  ps : List Str
  body : List Stmt
  scope : Scope
  qual : Str
  lam : Bool
  F : Fd
/-- what is known of all frames -/
structure Gx where
  g : List (Str × GK)
  fl : List (List Str)
  n0 : Nat
  n1 : Nat
def DefI.sx (d : DefI) (z : Gx) : Sx := ⟨d.N, d.scope, z.g, d.qual ++ ".<locals>.", d.lam, true, z.fl⟩
def DefI.m (d : DefI) (z : Gx) : M := mK z.n0 (d.sx z) z.n1 (.ss d.body d.F.body)
/-- the test of a def -/
def DefI.ok (d : DefI) (z : Gx) : Bool := (d.m z).isSome && (d.F.np == d.ps.length) && (d.F.ns == d.N.length) && decide d.F.cells.Nodup && d.F.cells.all (fun i => decide (i < d.N.length) && decide (d.scope.names.lookup (d.N[i]?.getD default) = some .cell)) && Nat.ble d.ps.length d.N.length &&
  decide (d.scope.kind = .function) && !d.scope.isCoroutine && !d.scope.isGenerator && decide d.N.Nodup && decide (d.N.take d.ps.length = d.ps) && d.ps.all (fun x => decide (d.scope.names.lookup x = some .local) || decide (d.scope.names.lookup x = some .cell)) && d.scope.names.all (fun y => !decide (y.2 = .free))
/-- the lambdas of a program, as they are written -/
def lamsOf (ds : List DefI) (z : Gx) : LI := ds.flatMap fun d => (d.m z).getD []
def lamSx (L : LamD) (z : Gx) : Sx := ⟨L.ps ++ L.caps, L.scope, z.g, ⟨#[]⟩, false, false, z.fl⟩
def lamM (L : LamD) (z : Gx) (l : Ld) : M := mJ z.n0 (lamSx L z) (.e L.body l.body)
def lamOkB (L : LamD) (z : Gx) (l : Ld) : Bool := L.ps.isEmpty && noArgs L.params && lamB L.scope L.caps && (l.np == 0) && (match lamM L z l with
  | some [] => true
  | _ => false)
theorem lookup_of {α : Type} : ∀ {l : List (Nat × α)} {k : Nat} {a : α}, (l.map (·.1)).Nodup → (k, a) ∈ l → l.lookup k = some a
  | [], _, _, _, h => by cases h
  | (j, b) :: l, k, a, hn, h => by
    rw [List.map_cons, List.nodup_cons] at hn
    rw [List.lookup_cons]
    rcases List.mem_cons.mp h with e | h
    · cases e
      rw [beq_self_eq_true]
    · have ne : (k == j) = false := beq_false_of_ne fun e => hn.1 (List.mem_map.mpr ⟨(k, a), h, e⟩)
      rw [ne]
      exact lookup_of hn.2 h
theorem scope_ok {d : DefI} {z : Gx} (h : d.ok z = true) : FnScope d.N d.ps d.scope := by
  unfold DefI.ok at h
  simp only [Bool.and_eq_true, decide_eq_true_eq, List.all_eq_true, Bool.not_eq_true', Bool.or_eq_true, decide_eq_false_iff_not] at h
  obtain ⟨⟨⟨⟨⟨⟨⟨_, h1⟩, h2⟩, h3⟩, h4⟩, h5⟩, h6⟩, h7⟩ := h
  exact ⟨h1, h2, h3, h4, h5, h6, h7⟩
section
variable (P : Program) (w : World) (K : PySem.W.Frag) (mg : Str → Option Value) (base : Heap) (G : Glo) (fld : Nat → List Str) (z : Gx) (ds : List DefI) (ls : List Ld)
/-- what is known of the module -/
structure Wf : Prop where
  sys : ∃ o, base.get? sysModules = some o ∧ o.cls = .type "dict"
  gl : ∀ (X : Cx), X.mg = mg → X.K = K → ∀ x gk, z.g.lookup x = some gk → GkOk G X x gk
  fl : ∀ c, fld c = z.fl[c]?.getD []
  er : ∀ c, c < G.nC → ErrC P w K mg base (G.clA c) (fld c) 2
  xf : ∀ c, c < G.nC → XfC K (G.clA c)
  exm : ∀ c c', c < G.nC → c' < G.nC → PySem.W.exmOne K (.ref (G.clA c')) (.ref (G.clA c)) = some (decide (c = c'))
  hno : ∀ c f, c < G.nC → f ∈ fld c → PySem.W.findIn K (.ref (G.clA c)) f = some none
  at_ : ∀ f, ∃ oc od fd sl, K.lookup (G.fnA f) = some ⟨oc, od, .func fd, sl⟩
  defs : ∀ (f : Nat) (d : DefI), ds[f]? = some d → d.ok z = true ∧ ∃ cdv fd, DefS K (G.fnA f) d.N d.ps d.body d.scope d.qual cdv fd ∧
    (d.lam = true → ∃ c Pt : Addr, cdv = .ref c ∧ LamX.TabB base mg c Pt ∧ (Pt, d.qual ++ ".<locals>." ++ "<lambda>") ∈ G.T ∧ ∀ p ∈ G.T, p.1 = Pt → p.2 = d.qual ++ ".<locals>." ++ "<lambda>")
  lam : ∀ k, G.lam k = ((lamsOf ds z).lookup k).getD default
  lnd : ((lamsOf ds z).map (·.1)).Nodup
  lams : ∀ (k : Nat) (l : Ld), ls[k]? = some l → lamOkB (G.lam k) z l = true
end
section
variable {P : Program} {w : World} {K : PySem.W.Frag} {mg : Str → Option Value} {base : Heap} {G : Glo} {fld : Nat → List Str} {z : Gx} {ds : List DefI} {ls : List Ld}
theorem lams_def (wf : Wf P w K mg base G fld z ds ls) {f : Nat} {d : DefI} (hd : ds[f]? = some d) {l : LI} (hl : d.m z = some l) : ∀ p ∈ l, G.lam p.1 = p.2 := fun p hp => by
  have hm : (p.1, p.2) ∈ lamsOf ds z := List.mem_flatMap.mpr ⟨d, List.mem_of_getElem? hd, by rw [hl]; exact hp⟩
  rw [wf.lam, lookup_of wf.lnd hm]
  rfl
theorem stuck_fn {f : Addr} {k : Nat} : FnG P w K mg base k f (spC K G fld fun _ _ => .stuck) := fun A outer s H us vs Q E _ _ _ _ ⟨_, _, _, _, _, _, h⟩ => h.elim
theorem stuck_app {g : D} {k : Nat} : AppG P w K mg base G fld k g fun _ _ => .stuck := fun f A outer s H us vs Q E av ρ st ds _ _ _ _ _ _ _ h => h.elim
/-- the def's context, known -/
theorem yok_def (wf : Wf P w K mg base G fld z ds ls) {cx : Cc} {k f : Nat} {d : DefI} (hd : ds[f]? = some d) {cdv : Value} (hok : d.ok z = true) (hk : 3 ≤ k)
    (hlam : d.lam = true → ∃ c Pt : Addr, cdv = .ref c ∧ LamX.TabB base mg c Pt ∧ (Pt, d.qual ++ ".<locals>." ++ "<lambda>") ∈ G.T ∧ ∀ p ∈ G.T, p.1 = Pt → p.2 = d.qual ++ ".<locals>." ++ "<lambda>")
    (hfn : ∀ f, FnG P w K mg base k (G.fnA f) (spC K G fld (cx.call f))) (happ : ∀ kk cs, AppG P w K mg base G fld k (.clo kk cs) (cx.app kk cs))
    {A : Around} {outer : List Env} {s : Shared} {H : Hp} {E : XK} (hr : Room k (A.deeper (envOfC d.qual d.scope s.heap.objs.size (G.fnA f) cdv))) (hg : A.guards = some []) :
    YOk G fld cx k (bodyCx P w K mg base d.N d.qual d.scope (G.fnA f) cdv A outer s H E) (d.sx z) (wOf E) where
  x := {
    cok := ⟨rfl, hg, by have := hr.un; show (A.deeper (envOfC d.qual d.scope s.heap.objs.size (G.fnA f) cdv)).units + 100 < cLine; omega, (scope_ok hok).nd, wf.sys⟩
    N := rfl
    sc := rfl
    fnc := fun _ _ _ => rfl
    gl := fun x gk h => wf.gl _ rfl rfl x gk h
    tk := body_takes
    room := hr
    r3 := hk
    app := ⟨hfn, happ, wf.at_⟩
    lam := fun q => by
      obtain ⟨c, Pt, e1, e2, e3, e4⟩ := hlam q
      exact ⟨rfl, c, Pt, e2, e1, e3, e4⟩ }
  ps := body_passes
  stk := rfl
  frm := rfl
  fl := wf.fl
  er := wf.er
  xf := wf.xf
  exm := wf.exm
  hno := wf.hno
theorem lamB_sc {L : LamD} (hp : L.ps = []) (h : lamB L.scope L.caps = true) : LamSc L := by
  unfold lamB at h
  simp only [Bool.and_eq_true, List.all_eq_true, decide_eq_true_eq, Bool.or_eq_true, Bool.not_eq_true', decide_eq_false_iff_not] at h
  obtain ⟨⟨⟨⟨⟨⟨b1, b2⟩, b3⟩, b4⟩, b5⟩, b6⟩, b7⟩ := h
  exact {
    kind := b1
    co := b2
    gen := b3
    nocell := fun y hy => (b4 y hy).1
    par := fun x hx => by rw [hp] at hx; cases hx
    cap := b5
    free := fun y hy e => by
      rcases b6 y hy with q | q
      · exact absurd e q
      · exact q
    loc := fun y hy e => absurd e (b4 y hy).2
    nd := by rw [hp]; exact b7 }
theorem levels (wf : Wf P w K mg base G fld z ds ls) {fuel : Nat} : ∀ n : Nat, (∀ f, FnG P w K mg base (n + 5) (G.fnA f) (spC K G fld ((cc ⟨ds.map (·.F), ls⟩ fuel n).call f))) ∧ ∀ kk cs, AppG P w K mg base G fld (n + 5) (.clo kk cs) ((cc ⟨ds.map (·.F), ls⟩ fuel n).app kk cs)
  | 0 => ⟨fun f => stuck_fn, fun kk cs => stuck_app⟩
  | n + 1 => by
    obtain ⟨ih1, ih2⟩ := levels wf (fuel := fuel) n
    refine ⟨fun f => ?_, fun kk cs => ?_⟩
    · have e : (cc ⟨ds.map (·.F), ls⟩ fuel (n + 1)).call f = fun args s => match (ds.map (·.F))[f]? with
        | some fd => runF (cc ⟨ds.map (·.F), ls⟩ fuel n) fd args s
        | none => .stuck := rfl
      rw [e, List.getElem?_map]
      cases hd : ds[f]? with
      | none => exact stuck_fn
      | some d =>
        obtain ⟨hok, cdv, fd, D, hlam⟩ := wf.defs f d hd
        have h := hok
        unfold DefI.ok at h
        simp only [Bool.and_eq_true, decide_eq_true_eq, List.all_eq_true, beq_iff_eq] at h
        obtain ⟨⟨⟨⟨⟨⟨⟨⟨⟨⟨⟨⟨h1, h2⟩, h3⟩, h4⟩, h5⟩, h6⟩, _⟩, _⟩, _⟩, _⟩, _⟩, _⟩, _⟩ := h
        obtain ⟨l, hl⟩ := Option.isSome_iff_exists.mp h1
        refine fnG_of (F := d.F) (k := n + 5) D h2 h3 h4 (fun i hi => ?_) (Nat.le_of_ble_eq_true h6) fun A outer s H E B hr hg _ => ?_
        · obtain ⟨q1, q2⟩ := h5 i hi
          refine ⟨d.N[i]?.getD default, ?_, q2⟩
          rw [List.getElem?_eq_getElem q1]
          rfl
        · exact mK_ok z.n1 _ l hl (lams_def wf hd hl) _ _ (yok_def wf hd hok (by omega) hlam ih1 ih2 hr hg) B
    · have e : (cc ⟨ds.map (·.F), ls⟩ fuel (n + 1)).app kk cs = fun args s => match ls[kk]? with
        | some l => runL (cc ⟨ds.map (·.F), ls⟩ fuel n) l cs args s
        | none => .stuck := rfl
      rw [e]
      cases hd : ls[kk]? with
      | none => exact stuck_app
      | some l =>
        have h := wf.lams kk l hd
        unfold lamOkB at h
        simp only [Bool.and_eq_true, beq_iff_eq, List.isEmpty_iff] at h
        obtain ⟨⟨⟨⟨h1, h2⟩, h3⟩, h4⟩, h5⟩ := h
        have hm : lamM (G.lam kk) z l = some [] := by
          split at h5
          · assumption
          · cases h5
        have S := lamB_sc h1 h3
        refine appG_clo (k := n + 5) S (by rw [h4, h1]; rfl) (fun us clos pm cdv ctv hu => ?_) fun A outer s H H0 E B env hr hg hs hf _ => ?_
        · rw [h1] at hu
          obtain rfl : us = [] := List.length_eq_zero_iff.mp hu
          unfold noArgs at h2
          split at h2
          · rename_i q
            rw [h1, q]
            rfl
          · cases h2
        · exact mJ_ok z.n0 (lamSx (G.lam kk) z) (.e (G.lam kk).body l.body) [] hm (fun p hp => by cases hp) _ _ {
            cok := ⟨rfl, hg, by have := hr.un; show (A.deeper env).units + 100 < cLine; omega, S.nd, wf.sys⟩
            N := rfl
            sc := hs
            fnc := fun q => by cases q
            gl := fun x gk h => wf.gl _ rfl rfl x gk h
            tk := takes_of (X := appCx P w K mg base ((G.lam kk).ps ++ (G.lam kk).caps) env A outer s H E) (E := E) rfl hf rfl rfl
            room := hr
            r3 := by omega
            app := ⟨ih1, ih2, wf.at_⟩
            lam := fun q => by cases q } B
end
end KP
end
section
set_option autoImplicit false
set_option linter.all false
set_option maxRecDepth 100000
set_option maxHeartbeats 4000000
/-! KErr: the classes of errors, by tests of what the module's top leaves. -/
namespace KP
open PySem PySem.Spec PyProof.Rows L2

theorem hcal_of (env : Env) (x t : Str) (k : Nat) (p1 p2 p3 p4 p5 : Pos) (h : (p2.endLine == p5.line) = true) : ∃ pl : Sem Bool, eval (.Call (.Attribute (.Name x p1) "__init__" p2) [.Name "self" p3, .Constant (.str t) k p4] [] p5) env = (do
      let ov ← eval (.Name x p1) env
      standAt p2.atName
      let (f, first) ← holding [ov] (getMethod ov "__init__" pl)
      callWith p5 f first (backTo p5 (starEach [.Name "self" p3, .Constant (.str t) k p4] env)) (backToKw p5 (keywordEach [] env))) := by
  refine ⟨(do return (← importBound (.Name x p1) env).getD true), ?_⟩
  refine mcall_of rfl fun ov => ?_
  have e : methodCallForm ([Expr.Name "self" p3, .Constant (.str t) k p4].length + ([] : List Keyword).length) (backTo p5 (starEach [.Name "self" p3, .Constant (.str t) k p4] env)) (backToKw p5 (keywordEach [] env)) = true := rfl
  unfold methodCall
  rw [e]
  unfold calleeOf methodCallPos
  rw [h]
  simp only [Bool.or_true, if_true, pure_bind]
/-- a class of errors as it is written -/
structure ErrI where
  name : Str
  fields : List Str
  base : Str
  d : He.DefD
def setsB : List Stmt → List Str → Bool
  | [], [] => true
  | .Assign [.Attribute (.Name s _) f _] (.Name g _) _ :: r, n :: ns => decide (s = "self") && decide (f = n) && decide (g = n) && okd n && setsB r ns
  | _, _ => false
def iniB (body : List Stmt) (x : Str) (names : List Str) : Bool := match body with
  | .Expr (.Call (.Attribute (.Name y _) m p2) [.Name s _, .Constant (.str _) _ _] [] p5) _ :: rest => decide (y = x) && decide (m = "__init__") && decide (s = "self") && (p2.endLine == p5.line) && setsB rest names
  | _ => false
/-- an own class over ValueError's -/
def oexB (K : PySem.W.Frag) (C : Addr) : Bool := (match K.lookup C with
    | some ⟨.type t, _, .cls cd, sl⟩ => (match cd.mro, sl.toList with
      | .ref C' :: bm, [_, _, _, _, some (.builtin n), _] => decide (t = "type") && decide (C' = C) && decide (n = "ValueError.__new__") && !cd.hasDel && cd.hasDict && PySem.HandSPX.refsVE bm
      | _, _ => false)
    | _ => false) && (He.eqO (PySem.W.findIn K (.ref C) "__setattr__") (some (some (.builtin "object.__setattr__"))) && (decide (PySem.W.subIn K (.ref C) (.type "BaseException") = some true) && (decide (PySem.W.typeIn K (.ref C) = some (.type "type")) && PySem.W.keepIn K (.ref C))))
theorem oexB_ok {K : PySem.W.Frag} {C : Addr} (h : oexB K C = true) : OexC K C := by
  unfold oexB at h
  simp only [Bool.and_eq_true, decide_eq_true_eq] at h
  obtain ⟨h0, h1, h2, h3, h4⟩ := h
  refine ⟨?_, He.eqO_ok h1, h2, h3, h4⟩
  split at h0
  · rename_i t dd cd sl ho
    split at h0
    · rename_i C' bm k0 k1 k2 k3 n k5 hm hs
      simp only [Bool.and_eq_true, decide_eq_true_eq, Bool.not_eq_true'] at h0
      obtain ⟨⟨⟨⟨⟨q1, q2⟩, q3⟩, q4⟩, q5⟩, q6⟩ := h0
      obtain ⟨nm, bs, mro, ns, qn, hd, sn, sub, ab, col, del⟩ := cd
      dsimp only at hm q4 q5
      subst q1 q2 q3 q4 q5 hm
      have e : sl = #[k0, k1, k2, k3, some (.builtin "ValueError.__new__"), k5] := by
        obtain ⟨l⟩ := sl
        simp only at hs
        rw [hs]
      subst e
      exact ⟨nm, qn, ns, bs, bm, sn, sub, ab, col, dd, k0, k1, k2, k3, k5, ho, q6⟩
    · cases h0
  · cases h0
def baseB (K : PySem.W.Frag) (C : Addr) : Bool := He.eqO (PySem.W.specialIn K (.ref C) "__getattribute__") (some (some (.builtin "type.__getattribute__"))) && (PySem.W.readsIn K C (.type "type") && (match PySem.W.findCls K (.ref C) (.type "type") "__init__" with
  | some (.val (.builtin i)) => decide (i = "ValueError.__init__")
  | _ => false))
theorem baseB_ok {K : PySem.W.Frag} {C : Addr} (h : baseB K C = true) : BaseC K C := by
  unfold baseB at h
  simp only [Bool.and_eq_true] at h
  obtain ⟨h1, h2, h3⟩ := h
  refine ⟨He.eqO_ok h1, h2, ?_⟩
  split at h3
  · rename_i i e
    rw [of_decide_eq_true h3] at e
    exact e
  · cases h3
def ErrI.ps (e : ErrI) : List Str := "self" :: e.fields
/-- what the text says -/
def ErrI.okT (e : ErrI) : Bool := iniB e.d.body e.base e.fields && (!e.fields.isEmpty && (Nat.ble e.fields.length 100 && (decide e.ps.Nodup && (e.fields.all okd && (decide (e.d.scope.kind = .function) && (!e.d.scope.isCoroutine && (!e.d.scope.isGenerator &&
  (e.ps.all (fun x => decide (e.d.scope.names.lookup x = some .local)) && (e.d.scope.names.all (fun y => !decide (y.2 = .free)) && (decide (e.d.scope.names.lookup e.base = some .globalImplicit) && (okd e.base && (decide (e.d.at_ = (e.name, some ("__init__" : Str))) && (e.d.dfl.isEmpty && e.d.kwd.isEmpty)))))))))))))
/-- what the heap says -/
def ErrI.okK (K : PySem.W.Frag) (e : ErrI) : Bool := oexB K (He.ga K e.name) && (He.eqO (PySem.W.nsIn K mainGlobals e.name) (some (some (.ref (He.ga K e.name)))) && (He.eqO (PySem.W.findIn K (.ref (He.ga K e.name)) "__init__") (some (some (.ref (He.ma K (He.ga K e.name) "__init__")))) &&
  (decide (PySem.W.typeIn K (.ref (He.ma K (He.ga K e.name) "__init__")) = some (.type "function")) && (He.eqO (PySem.W.nsIn K mainGlobals e.base) (some (some (.ref (He.ga K e.base)))) && (baseB K (He.ga K e.base) && (e.fields.all (fun f => He.eqO (PySem.W.findIn K (.ref (He.ga K e.name)) f) (some none)) && (xfB K (He.ga K e.name) && e.d.ok K)))))))
theorem sets_of {X : Cx} {C : Addr} (h0 : X.N[0]? = some ("self" : Str)) (hv0 : Vis X.env.scope "self") : ∀ {sts : List Stmt} {ns : List Str} {j : Nat}, setsB sts ns = true → (∀ (i : Nat) (f : Str), ns[i]? = some f → X.N[j + i]? = some f ∧ Vis X.env.scope f ∧ PySem.W.findIn X.K (.ref C) f = some none) →
    Sets X C sts (ns.zip ((List.range ns.length).map (· + j)))
  | sts, [], j, h, hx => by
    unfold setsB at h
    split at h
    · exact .nil
    · rename_i heq
      cases heq
    · cases h
  | sts, n :: ns, j, h, hx => by
    unfold setsB at h
    split at h
    · rename_i heq
      cases heq
    · rename_i s q1 f q2 g q3 q4 r n' ns' heq
      cases heq
      simp only [Bool.and_eq_true, decide_eq_true_eq] at h
      obtain ⟨⟨⟨⟨e1, e2⟩, e3⟩, e4⟩, e5⟩ := h
      subst e1 e2 e3
      obtain ⟨x1, x2, x3⟩ := hx 0 _ rfl
      have ih := sets_of h0 hv0 (j := j + 1) e5 fun i f hf => by
        have z := hx (i + 1) f (by simpa using hf)
        have e : j + 1 + i = j + (i + 1) := by omega
        rw [e]
        exact z
      have e : ((g :: ns).zip ((List.range (g :: ns).length).map (· + j))) = (g, j) :: ns.zip ((List.range ns.length).map (· + (j + 1))) := by
        rw [List.length_cons, List.range_succ_eq_map, List.map_cons, List.zip_cons_cons, List.map_map]
        have e1 : 0 + j = j := Nat.zero_add j
        rw [e1]
        congr 2
        apply List.map_congr_left
        intro a _
        show a + 1 + j = a + (j + 1)
        omega
      rw [e]
      exact .cons h0 hv0 (by simpa using x1) x2 (okd_some e4).1 (okd_some e4).2 x3 ih
    · cases h
section
variable {P : Program} {w : World} {K : PySem.W.Frag} {h : Heap} {mg : Str → Option Value} {base : Heap} {e : ErrI}
theorem errC_of (X : K.In h) (Gn : h.Ns mainGlobals mg) (ht : e.okT = true) (hk : e.okK K = true) (hv : He.fnW K e.d.at_ = e.d.val)
    (hbind : ∀ (kV doc pm : Value) (an : Option Addr) (cdv ct : Value) (us : List Value), us.length = e.ps.length → bindArgs (PySem.W.fnOf e.d.name e.d.qual e.d.params e.d.body e.d.scope .none kV doc pm an cdv ct) ⟨us, []⟩ = pure (e.ps.zip us)) :
    ErrC P w K mg base (He.ga K e.name) e.fields 2 ∧ XfC K (He.ga K e.name) ∧ mg e.name = some (.ref (He.ga K e.name)) ∧ ∀ f ∈ e.fields, PySem.W.findIn K (.ref (He.ga K e.name)) f = some none := by
  unfold ErrI.okT at ht
  simp only [Bool.and_eq_true, decide_eq_true_eq, List.all_eq_true, Bool.not_eq_true', decide_eq_false_iff_not, List.isEmpty_iff] at ht
  obtain ⟨t1, t2, t3, t4, t5, t6, t7, t8, t9, t10, t11, t12, t13, t14, t15⟩ := ht
  unfold ErrI.okK at hk
  simp only [Bool.and_eq_true, decide_eq_true_eq, List.all_eq_true] at hk
  obtain ⟨k1, k2, k3, k4, k5, k6, k7, k8, k9⟩ := hk
  have hno : ∀ f ∈ e.fields, PySem.W.findIn K (.ref (He.ga K e.name)) f = some none := fun f hf => He.eqO_ok (k7 f hf)
  have T := oexB_ok k1
  have lkp := He.eqO_ok k3
  refine ⟨⟨T, ⟨He.ma K (He.ga K e.name) "__init__", ?_⟩, (List.nodup_cons.mp t4).2, Nat.le_trans (Nat.le_of_ble_eq_true t3) (by decide)⟩, xfB_ok k8, PySem.W.mg_of X Gn (He.eqO_ok k2), hno⟩
  obtain ⟨fd, F⟩ := He.DefD.funD hv k9
  have hat : He.fAd K e.d.at_ = He.ma K (He.ga K e.name) "__init__" := by
    rw [t13]
    rfl
  rw [hat] at F
  have dn : e.d.dvs K = [] := by
    unfold He.DefD.dvs
    rw [t14]
    rfl
  rw [dn] at F
  have S : FnScope e.ps e.ps e.d.scope := ⟨t6, t7, t8, t4, List.take_length, fun x hx => .inl (t9 x hx), t10⟩
  refine ⟨fd, lkp, k4, F.ok S (fun vs H Q E hh => ?_) (fun cdv A outer s H vs Q E hr hh => ?_), F.bindsN hbind⟩
  · obtain ⟨a, ws, rfl, hl, _⟩ := hh
    show (V.ref a :: ws).length = (("self" : Str) :: e.fields).length
    rw [List.length_cons, List.length_cons, hl]
  · have hlen : vs.length ≤ e.ps.length := by
      obtain ⟨a, ws, rfl, hl, _⟩ := hh
      show (V.ref a :: ws).length ≤ (("self" : Str) :: e.fields).length
      rw [List.length_cons, List.length_cons, hl]
      exact Nat.le_refl _
    refine init_ok (X := cxOf (L2.CX P w) P w K mg base e.ps e.d.qual e.d.scope (He.ma K (He.ga K e.name) "__init__") cdv A outer s H E) T ⟨?_⟩ hh hlen
    unfold iniB at t1
    split at t1
    · rename_i y p1 m p2 s' p3 t kk p4 p5 p6 rest hbody
      simp only [Bool.and_eq_true, decide_eq_true_eq] at t1
      obtain ⟨⟨⟨⟨i1, i2⟩, i3⟩, i4⟩, i5⟩ := t1
      rw [i1, i2, i3] at hbody
      have hself : Vis e.d.scope ("self" : Str) := .inl (t9 _ (List.mem_cons_self ..))
      have hz := sets_of (X := cxOf (L2.CX P w) P w K mg base e.ps e.d.qual e.d.scope (He.ma K (He.ga K e.name) "__init__") cdv A outer s H E) (C := He.ga K e.name) (j := 1) rfl hself i5 fun i f hf => by
        refine ⟨?_, .inl (t9 f (List.mem_cons_of_mem _ (List.mem_of_getElem? hf))), hno f (List.mem_of_getElem? hf)⟩
        show (("self" : Str) :: e.fields)[1 + i]? = some f
        rw [Nat.add_comm, List.getElem?_cons_succ]
        exact hf
      have lz : ((List.range e.fields.length).map (· + 1)).length = e.fields.length := by rw [List.length_map, List.length_range]
      refine ⟨e.base, He.ga K e.base, t, kk, p1, p2, p3, p4, p5, p6, rest, _, hbody, t11, PySem.W.mg_of X Gn (He.eqO_ok k5), baseB_ok k6, (okd_some t12).1, hz, ?_, ?_, ?_, Nat.le_trans (Nat.le_of_ble_eq_true t3) (by decide), rfl, hself, hcal_of _ _ _ _ _ _ _ _ _ i4⟩
      · rw [List.map_fst_zip (by rw [lz]; exact Nat.le_refl _)]
      · rw [List.map_snd_zip (by rw [lz]; exact Nat.le_refl _)]
      · intro z
        rw [z] at t2
        cases t2
    · cases t1
end
end KP
end
section
set_option autoImplicit false
set_option linter.all false
set_option maxRecDepth 100000
set_option maxHeartbeats 4000000
/-! KEnd: a law's module as its top leaves it; what is asked of it, as a test. -/
namespace KP
open PySem PySem.Spec PyProof.Rows L2

/-- a def of the module -/
structure DefT where
  dd : He.DefD
  N : List Str
  ps : List Str
  lam : Bool := false
  F : Fd
def DefT.i (t : DefT) : DefI := ⟨t.N, t.ps, t.dd.body, t.dd.scope, t.dd.qual, t.lam, t.F⟩
instance : Inhabited DefT := ⟨⟨⟨(⟨#[]⟩, none), ⟨#[]⟩, ⟨#[]⟩, ⟨[], [], none, [], [], none, []⟩, [], ⟨.function, [], false, false, []⟩, [], []⟩, [], [], false, ⟨0, 0, [], .nil⟩⟩⟩
/-- a law's module -/
structure Mo where
  z : Gx
  ts : List DefT
  es : List ErrI
  ls : List Ld
def codeP (K : PySem.W.Frag) (p : Str × Option Str) : Option (Addr × Addr) := match K.lookup (He.fAd K p) with
  | some ⟨_, _, .func fd, _⟩ => (match fd.code with
    | .ref c => (match K.lookup c with
      | some ⟨_, _, .fields vs, _⟩ => (match (vs[11]? : Option Value) with
        | some (.ref P) => some (c, P)
        | _ => none)
      | _ => none)
    | _ => none)
  | _ => none
def isStr : Value → Bool
  | .str _ _ => true
  | _ => false
def isInt : Value → Bool
  | .int _ _ => true
  | _ => false
def isBl : Value → Bool
  | .bool _ => true
  | _ => false
def headB (K : PySem.W.Frag) (c P : Addr) : Bool := match K.lookup c with
  | some ⟨.type t, _, .fields vs, _⟩ => decide (t = "code") && (decide (vs[11]? = some (.ref P)) && (isStr (vs.getD 18 .none) && (isInt (vs.getD 7 .none) && (isBl (vs.getD 9 .none) && (isInt (vs.getD 10 .none) && decide (c ≠ P))))))
  | _ => false
theorem headB_ok {K : PySem.W.Frag} {h : Heap} {c P : Addr} (X : K.In h) (q : headB K c P = true) : PySem.W.CodeHd h c P := by
  unfold headB at q
  split at q
  · rename_i t dd vs sl ho
    simp only [Bool.and_eq_true, decide_eq_true_eq] at q
    obtain ⟨q1, q2, q3, q4, q5, q6, q7⟩ := q
    subst q1
    have e11 : vs.getD 11 .none = .ref P := by
      rw [Array.getD_eq_getD_getElem?, q2]
      rfl
    cases e18 : vs.getD 18 .none with
    | str file tf =>
      cases e7 : vs.getD 7 .none with
      | int flags tg =>
        cases e9 : vs.getD 9 .none with
        | bool inF =>
          cases e10 : vs.getD 10 .none with
          | int text tt => exact ⟨_, vs, file, tf, flags, tg, inF, text, tt, X _ _ ho, rfl, rfl, q2, e11, e18, e7, e9, e10, q7⟩
          | _ => rw [e10] at q6; cases q6
        | _ => rw [e9] at q5; cases q5
      | _ => rw [e7] at q4; cases q4
    | _ => rw [e18] at q3; cases q3
  · cases q
def isTab : Option Obj → Bool
  | some ⟨.none, none, .fields vs, sl⟩ => decide (vs = #[]) && decide (sl = #[])
  | _ => false
theorem isTab_ok {o : Option Obj} (h : isTab o = true) : o = some { cls := .none, data := .fields #[] } := by
  unfold isTab at h
  split at h
  · rw [Bool.and_eq_true, decide_eq_true_eq, decide_eq_true_eq] at h
    obtain ⟨rfl, rfl⟩ := h
    rfl
  · cases h
section
variable (m : Mo) (K : PySem.W.Frag)
def Mo.at_ (f : Nat) : Str × Option Str := ((m.ts[f]?).getD (m.ts.headD default)).dd.at_
def Mo.lamQ (t : DefT) : Str := t.dd.qual ++ ".<locals>." ++ "<lambda>"
def Mo.cs : List (Addr × Addr) := m.ts.filterMap fun t => if t.lam then codeP K t.dd.at_ else none
def Mo.T : List (Addr × Str) := m.ts.filterMap fun t => if t.lam then (codeP K t.dd.at_).map fun q => (q.2, Mo.lamQ t) else none
def Mo.lamT : LI := lamsOf (m.ts.map (·.i)) m.z
def Mo.glo : Glo := ⟨fun f => He.fAd K (m.at_ f), fun c => He.ga K ((m.es[c]?.map (·.name)).getD ⟨#[]⟩), m.es.length, fun k => (m.lamT.lookup k).getD default, m.T K⟩
def Mo.fld : Nat → List Str := fun c => m.z.fl[c]?.getD []
/-- what the text must be -/
def Mo.okT : Bool := m.ts.all (fun t => t.i.ok m.z && (t.dd.dfl.isEmpty && (t.dd.kwd.isEmpty && decide (t.dd.at_.2 = none)))) && (decide (m.lamT.map (·.1)).Nodup && ((List.range m.ls.length).all (fun k => match m.ls[k]? with
    | some l => lamOkB ((m.lamT.lookup k).getD default) m.z l
    | none => false) && (m.es.all (·.okT) && (decide (m.z.fl = m.es.map (·.fields)) && !m.ts.isEmpty))))
def gkB (x : Str) : GK → Bool
  | .fn f => decide (m.ts[f]?.map (·.dd.at_) = some (x, none)) && He.eqO (PySem.W.nsIn K mainGlobals x) (some (some (.ref (He.ga K x))))
  | .cls c => decide (m.es[c]?.map (·.name) = some x) && He.eqO (PySem.W.nsIn K mainGlobals x) (some (some (.ref (He.ga K x))))
  | .ty n => He.eqO (PySem.W.nsIn K mainGlobals x) (some none) && (decide (bootBuiltins x = some (.type (tyN n))) && decide (x ≠ "__name__"))
  | .bt id => He.eqO (PySem.W.nsIn K mainGlobals x) (some none) && (decide (bootBuiltins x = some (.builtin id)) && decide (x ≠ "__name__"))
  | .bf id => He.eqO (PySem.W.nsIn K mainGlobals x) (some (some (.builtin id)))
  | .no => He.eqO (PySem.W.nsIn K mainGlobals x) (some none)
/-- what the heap must be: tabs, the tables in it -/
def Mo.okK (tabs : List Addr) : Bool := m.z.g.all (fun p => gkB m K p.1 p.2) && (m.es.all (·.okK K) && (m.es.all (fun a => m.es.all fun b => decide (PySem.W.exmOne K (.ref (He.ga K a.name)) (.ref (He.ga K b.name)) = some (decide (a.name = b.name)))) && (decide (m.es.map (·.name)).Nodup &&
  (m.ts.all (fun t => t.dd.ok K) && (m.ts.all (fun t => !t.lam || (match codeP K t.dd.at_ with
    | some (c, P) => headB K c P && tabs.contains P
    | none => false)) && (decide ((m.T K).map (·.1)).Nodup && (match K.lookup sysModules with
    | some ⟨.type t, _, _, _⟩ => decide (t = "dict")
    | _ => false)))))))
/-- the names of defs and __init__s -/
def Mo.dds : List He.DefD := m.ts.map (·.dd) ++ m.es.map (·.d)
end
theorem nodup_T {α β : Type} : ∀ {l : List (α × β)} {p q : α × β}, (l.map (·.1)).Nodup → p ∈ l → q ∈ l → p.1 = q.1 → p = q
  | [], _, _, _, h, _, _ => by cases h
  | a :: l, p, q, hn, hp, hq, e => by
    rw [List.map_cons, List.nodup_cons] at hn
    rcases List.mem_cons.mp hp with rfl | hp
    · rcases List.mem_cons.mp hq with e2 | hq
      · exact e2.symm
      · exact absurd (List.mem_map.mpr ⟨q, hq, e.symm⟩) hn.1
    · rcases List.mem_cons.mp hq with e2 | hq
      · rw [e2] at e
        exact absurd (List.mem_map.mpr ⟨p, hp, e⟩) hn.1
      · exact nodup_T hn.2 hp hq e
section
variable {m : Mo} {K : PySem.W.Frag} {P : Program} {w : World} {h : Heap} {mg : Str → Option Value} {base : Heap} {tabs : List Addr}
/-- the arguments of a def are bound as they stand -/
def BindD (d : He.DefD) (ps : List Str) : Prop := ∀ (kV doc pm : Value) (an : Option Addr) (cdv ct : Value) (us : List Value), us.length = ps.length → bindArgs (PySem.W.fnOf d.name d.qual d.params d.body d.scope .none kV doc pm an cdv ct) ⟨us, []⟩ = pure (ps.zip us)
/-- the facts of the module, at a base -/
theorem wf_of (X : K.In h) (Gn : h.Ns mainGlobals mg) (Xb : K.In base) (ht : m.okT = true) (hk : m.okK K tabs = true) (hv : m.dds.map (fun d => He.fnW K d.at_) = m.dds.map He.DefD.val)
    (hbd : ∀ t ∈ m.ts, BindD t.dd t.ps) (hbe : ∀ e ∈ m.es, BindD e.d e.ps) (hTB : ∀ p ∈ m.cs K, LamX.TabB base mg p.1 p.2) : Wf P w K mg base (m.glo K) m.fld m.z (m.ts.map (·.i)) m.ls := by
  unfold Mo.okT at ht
  simp only [Bool.and_eq_true, decide_eq_true_eq, List.all_eq_true, List.isEmpty_iff, Bool.not_eq_true'] at ht
  obtain ⟨t1, t2, t3, t4, t5, t6⟩ := ht
  unfold Mo.okK at hk
  simp only [Bool.and_eq_true, decide_eq_true_eq, List.all_eq_true, Bool.or_eq_true, Bool.not_eq_true'] at hk
  obtain ⟨k1, k2, k3, k4, k5, k6, k7, k8⟩ := hk
  have hvd : ∀ d ∈ m.dds, He.fnW K d.at_ = d.val := fun d hd => by
    obtain ⟨j, hj, ej⟩ := List.getElem_of_mem hd
    have z : (m.dds.map (fun d => He.fnW K d.at_))[j]? = (m.dds.map He.DefD.val)[j]? := by rw [hv]
    rw [List.getElem?_map, List.getElem?_map, List.getElem?_eq_getElem hj, ej] at z
    exact Option.some.inj z
  have hne : ∃ t0 r, m.ts = t0 :: r := by
    cases q : m.ts with
    | nil => rw [q] at t6; cases t6
    | cons t0 r => exact ⟨t0, r, rfl⟩
  have fun_ : ∀ t ∈ m.ts, ∃ fd, FunD K t.dd.name t.dd.qual t.dd.params t.dd.body t.dd.scope [] [] (He.fAd K t.dd.at_) fd := fun t hm => by
    obtain ⟨fd, F⟩ := He.DefD.funD (hvd t.dd (List.mem_append_left _ (List.mem_map_of_mem hm))) (k5 t hm)
    have a1 : t.dd.dvs K = [] := by
      unfold He.DefD.dvs
      rw [(t1 t hm).2.1]
      rfl
    have a2 : t.dd.kws K = [] := by
      unfold He.DefD.kws
      rw [(t1 t hm).2.2.1]
      rfl
    rw [a1, a2] at F
    exact ⟨fd, F⟩
  have atf : ∀ f, ∃ t ∈ m.ts, m.at_ f = t.dd.at_ := fun f => by
    unfold Mo.at_
    cases q : m.ts[f]? with
    | some t => exact ⟨t, List.mem_of_getElem? q, rfl⟩
    | none =>
      obtain ⟨t0, r, e⟩ := hne
      refine ⟨t0, by rw [e]; exact List.mem_cons_self .., ?_⟩
      rw [e]
      rfl
  have err : ∀ (c : Nat) (e : ErrI), m.es[c]? = some e → ErrC P w K mg base (He.ga K e.name) e.fields 2 ∧ XfC K (He.ga K e.name) ∧ mg e.name = some (.ref (He.ga K e.name)) ∧ ∀ f ∈ e.fields, PySem.W.findIn K (.ref (He.ga K e.name)) f = some none := fun c e he => by
    have hm := List.mem_of_getElem? he
    exact errC_of X Gn (t4 e hm) (k2 e hm) (hvd e.d (List.mem_append_right _ (List.mem_map_of_mem hm))) (hbe e hm)
  have clA : ∀ (c : Nat) (e : ErrI), m.es[c]? = some e → (m.glo K).clA c = He.ga K e.name := fun c e he => by
    show He.ga K ((m.es[c]?.map (·.name)).getD ⟨#[]⟩) = _
    rw [he]
    rfl
  have fl : ∀ (c : Nat) (e : ErrI), m.es[c]? = some e → m.fld c = e.fields := fun c e he => by
    unfold Mo.fld
    rw [t5, List.getElem?_map, he]
    rfl
  have ge : ∀ c, c < (m.glo K).nC → ∃ e, m.es[c]? = some e := fun c hc => ⟨_, List.getElem?_eq_getElem hc⟩
  exact {
    sys := by
      split at k8
      · rename_i t dd dt sl ho
        rw [decide_eq_true_eq] at k8
        subst k8
        exact ⟨_, Xb _ _ ho, rfl⟩
      · cases k8
    gl := fun Y hY1 hY2 x gk hl => by
      have hmm := k1 (x, gk) (PySem.mem_of_lookup hl)
      cases gk with
      | fn f =>
        have hmm : (decide (m.ts[f]?.map (·.dd.at_) = some (x, none)) && He.eqO (PySem.W.nsIn K mainGlobals x) (some (some (.ref (He.ga K x))))) = true := hmm
        rw [Bool.and_eq_true, decide_eq_true_eq] at hmm
        obtain ⟨q1, q2⟩ := hmm
        obtain ⟨t, qt, qa⟩ := Option.map_eq_some_iff.mp q1
        have e : (m.glo K).fnA f = He.ga K x := by
          show He.fAd K (m.at_ f) = _
          unfold Mo.at_
          rw [qt]
          show He.fAd K t.dd.at_ = _
          rw [qa]
          rfl
        obtain ⟨fd, F⟩ := fun_ t (List.mem_of_getElem? qt)
        have kp := F.kp
        rw [qa] at kp
        refine ⟨by rw [hY1, e]; exact PySem.W.mg_of X Gn (He.eqO_ok q2), ?_⟩
        rw [hY2, e]
        exact kp
      | cls c =>
        have hmm : (decide (m.es[c]?.map (·.name) = some x) && He.eqO (PySem.W.nsIn K mainGlobals x) (some (some (.ref (He.ga K x))))) = true := hmm
        rw [Bool.and_eq_true, decide_eq_true_eq] at hmm
        obtain ⟨q1, q2⟩ := hmm
        obtain ⟨e, qt, qa⟩ := Option.map_eq_some_iff.mp q1
        refine ⟨?_, (List.getElem?_eq_some_iff.mp qt).1⟩
        rw [hY1, clA c e qt, qa]
        exact PySem.W.mg_of X Gn (He.eqO_ok q2)
      | ty n =>
        have hmm : (He.eqO (PySem.W.nsIn K mainGlobals x) (some none) && (decide (bootBuiltins x = some (.type (tyN n))) && decide (x ≠ "__name__"))) = true := hmm
        rw [Bool.and_eq_true, Bool.and_eq_true, decide_eq_true_eq, decide_eq_true_eq] at hmm
        exact ⟨by rw [hY1]; exact PySem.W.mg_none_of X Gn (He.eqO_ok hmm.1), hmm.2.1, hmm.2.2⟩
      | bt id =>
        have hmm : (He.eqO (PySem.W.nsIn K mainGlobals x) (some none) && (decide (bootBuiltins x = some (.builtin id)) && decide (x ≠ "__name__"))) = true := hmm
        rw [Bool.and_eq_true, Bool.and_eq_true, decide_eq_true_eq, decide_eq_true_eq] at hmm
        exact ⟨by rw [hY1]; exact PySem.W.mg_none_of X Gn (He.eqO_ok hmm.1), hmm.2.1, hmm.2.2⟩
      | bf id =>
        show Y.mg x = some (.builtin id)
        rw [hY1]
        exact PySem.W.mg_of X Gn (He.eqO_ok hmm)
      | no =>
        show Y.mg x = none
        rw [hY1]
        exact PySem.W.mg_none_of X Gn (He.eqO_ok hmm)
    fl := fun c => rfl
    er := fun c hc => by
      obtain ⟨e, he⟩ := ge c hc
      rw [clA c e he, fl c e he]
      exact (err c e he).1
    xf := fun c hc => by
      obtain ⟨e, he⟩ := ge c hc
      rw [clA c e he]
      exact (err c e he).2.1
    exm := fun c c' hc hc' => by
      obtain ⟨e, he⟩ := ge c hc
      obtain ⟨e', he'⟩ := ge c' hc'
      rw [clA c e he, clA c' e' he', k3 e' (List.mem_of_getElem? he') e (List.mem_of_getElem? he)]
      have iff : (e'.name = e.name) ↔ (c = c') := by
        constructor
        · intro q
          have l1 : (m.es.map (·.name))[c]? = some e.name := by rw [List.getElem?_map, he]; rfl
          have l2 : (m.es.map (·.name))[c']? = some e.name := by rw [List.getElem?_map, he']; exact congrArg some q
          obtain ⟨a1, a2⟩ := List.getElem?_eq_some_iff.mp l1
          obtain ⟨b1, b2⟩ := List.getElem?_eq_some_iff.mp l2
          exact (List.getElem_inj k4).mp (a2.trans b2.symm)
        · intro q
          subst q
          rw [he] at he'
          cases he'
          rfl
      rw [decide_eq_decide.mpr iff]
    hno := fun c f hc hf => by
      obtain ⟨e, he⟩ := ge c hc
      rw [fl c e he] at hf
      rw [clA c e he]
      exact (err c e he).2.2.2 f hf
    at_ := fun f => by
      obtain ⟨t, hm, e⟩ := atf f
      obtain ⟨fd, F⟩ := fun_ t hm
      obtain ⟨oc, od, dV, kV, doc, pm, an, cdv, ct, osl, rfl, lk, _⟩ := F.ex
      have e2 : (m.glo K).fnA f = He.fAd K t.dd.at_ := by
        show He.fAd K (m.at_ f) = _
        rw [e]
      rw [← e2] at lk
      exact ⟨_, _, _, _, lk⟩
    defs := fun f d hd => by
      rw [List.getElem?_map] at hd
      obtain ⟨t, ht', rfl⟩ := Option.map_eq_some_iff.mp hd
      have hm := List.mem_of_getElem? ht'
      obtain ⟨fd, F⟩ := fun_ t hm
      have eA : (m.glo K).fnA f = He.fAd K t.dd.at_ := by
        show He.fAd K (m.at_ f) = _
        unfold Mo.at_
        rw [ht']
        rfl
      have hb := F.bindsN (hbd t hm)
      obtain ⟨oc, od, dV, kV, doc, pm, an, cdv, ct, osl, rfl, lk, hcd, _, _⟩ := F.ex
      have lk0 := lk
      rw [← eA] at lk
      refine ⟨(t1 t hm).1, cdv, _, ⟨⟨oc, od, t.dd.name, t.dd.params, dV, kV, doc, pm, an, ct, osl, rfl, lk⟩, hcd, scope_ok (t1 t hm).1, hb⟩, fun hl => ?_⟩
      · have hl : t.lam = true := hl
        rcases k6 t hm with z | z
        · rw [hl] at z
          cases z
        · split at z
          · rename_i c Pt hc
            have hcs : (c, Pt) ∈ m.cs K := List.mem_filterMap.mpr ⟨t, hm, by rw [if_pos hl]; exact hc⟩
            have hT : (Pt, Mo.lamQ t) ∈ m.T K := List.mem_filterMap.mpr ⟨t, hm, by rw [if_pos hl, hc]; rfl⟩
            refine ⟨c, Pt, ?_, hTB _ hcs, hT, fun p hp e => ?_⟩
            · unfold codeP at hc
              rw [lk0] at hc
              simp only at hc
              split at hc
              · split at hc
                · split at hc
                  · cases hc
                    rfl
                  · cases hc
                · cases hc
              · cases hc
            · exact congrArg (·.2) (nodup_T k7 hp hT e)
          · cases z
    lam := fun k => rfl
    lnd := t2
    lams := fun k l hl => by
      have z := t3 k (List.mem_range.mpr (List.getElem?_eq_some_iff.mp hl).1)
      rw [hl] at z
      exact z }
end
end KP
end
section
set_option autoImplicit false
set_option linter.all false
set_option maxRecDepth 100000
set_option maxHeartbeats 4000000
/-! KLaw: from the module's facts to a law's end. -/
namespace KP
open PySem PySem.Spec PyProof.Rows L2

/-! ### what is looked at behind the top -/
def seenA (n : Nat) (g : Addr → Option Obj) : List Addr := sysModules :: cStatics :: He.asD g n
theorem frG_mem {g : Addr → Option Obj} {a : Addr} {o : Obj} : ∀ {as : List Addr}, (He.frG g as).lookup a = some o → a ∈ as
  | [], e => nomatch (show (none : Option Obj) = some o from e)
  | b :: r, e => by
    unfold He.frG at e
    rw [List.filterMap_cons] at e
    cases hb : g b with
    | none =>
      rw [hb] at e
      exact List.mem_cons_of_mem _ (frG_mem (as := r) e)
    | some ob =>
      rw [hb] at e
      have e : ((b, ob) :: He.frG g r).lookup a = some o := e
      rw [List.lookup_cons] at e
      cases q : (a == b) with
      | true =>
        rw [beq_iff_eq.mp q]
        exact List.mem_cons_self ..
      | false =>
        rw [q] at e
        exact List.mem_cons_of_mem _ (frG_mem e)
section
variable (m : Mo) (n : Nat)
def Mo.kOf (g : Addr → Option Obj) : PySem.W.Frag := He.frG g ((seenA n g).filter fun a => !isTab (g a))
def Mo.tabOf (g : Addr → Option Obj) : List Addr := (seenA n g).filter fun a => isTab (g a)
def Mo.obs (g : Addr → Option Obj) : Bool × List He.FnW := (m.okK (Mo.kOf n g) (Mo.tabOf n g), m.dds.map fun d => He.fnW (Mo.kOf n g) d.at_)
def Mo.says (h : Heap) : Prop := ∃ (K : PySem.W.Frag) (tabs : List Addr), K.In h ∧ (∀ a ∈ tabs, h.get? a = some { cls := .none, data := .fields #[] } ∧ K.lookup a = none) ∧ m.okK K tabs = true ∧ m.dds.map (fun d => He.fnW K d.at_) = m.dds.map He.DefD.val
def Mo.hook : PySem.W.Hook where
  α := Bool × List He.FnW
  obs := fun s => m.obs n s.heap.get?
  val := fun _ => (true, m.dds.map He.DefD.val)
  says := fun _ h => m.says h
  of := fun _ s e => by
    refine ⟨Mo.kOf n s.heap.get?, Mo.tabOf n s.heap.get?, He.frG_in, fun a ha => ⟨?_, ?_⟩, congrArg (·.1) e, congrArg (·.2) e⟩
    · exact isTab_ok (List.mem_filter.mp ha).2
    · cases q : (Mo.kOf n s.heap.get?).lookup a with
      | none => rfl
      | some o =>
        have z := (List.mem_filter.mp (frG_mem q)).2
        rw [(List.mem_filter.mp ha).2] at z
        cases z
  keeps := fun _ h h' ⟨K, tabs, kin, ht, r⟩ k => ⟨K, tabs, PySem.W.Frag.In.keeps kin k, fun a ha => ⟨k _ _ (ht a ha).1, (ht a ha).2⟩, r⟩
end
/-! ### the law's def is called -/
section
variable {m : Mo} {P : Program} {w : World}
/-- the heap as KCore sees it at the law's start -/
def lawH (K : PySem.W.Frag) (a : Addr) (o : Obj) (xs : List V) (ts : List Addr) : Hp := fun b => if b = a then (match K.lookup a with
  | some _ => none
  | none => some (.frz o (.lst xs))) else if b ∈ ts then some (.tbl #[]) else none
theorem lawH_some {K : PySem.W.Frag} {a b : Addr} {o : Obj} {xs : List V} {ts : List Addr} {u : HO} (h : lawH K a o xs ts b = some u) : (b = a ∧ K.lookup a = none ∧ u = .frz o (.lst xs)) ∨ (b ≠ a ∧ b ∈ ts ∧ u = .tbl #[]) := by
  unfold lawH at h
  split at h
  · rename_i e
    split at h
    · cases h
    · rename_i q
      cases h
      exact .inl ⟨e, q, rfl⟩
  · rename_i e
    split at h
    · rename_i i
      cases h
      exact .inr ⟨e, i, rfl⟩
    · cases h
theorem lawH_tab {K : PySem.W.Frag} {a b : Addr} {o : Obj} {xs : List V} {ts : List Addr} (h : b ≠ a) (i : b ∈ ts) : lawH K a o xs ts b = some (.tbl #[]) := by
  unfold lawH
  rw [if_neg h, if_pos i]
theorem rep_ints {K : PySem.W.Frag} {G : Glo} {H : Hp} {ρ : List Addr} : ∀ ns : List Int, RepL K G H ρ (ns.map D.int) (ns.map V.int)
  | [] => .nil
  | i :: r => .cons (.int i) (rep_ints r)
theorem law_run {K : PySem.W.Frag} {tabs : List Addr} {f fuel lvl : Nat} {mg mb : Str → Option Value} {fa a : Addr} {s₁ : Shared} {vs : List Value} {ns : List Int} {x : Str}
    (ht : m.okT = true) (hk : m.okK K tabs = true) (hv : m.dds.map (fun d => He.fnW K d.at_) = m.dds.map He.DefD.val) (hbd : ∀ t ∈ m.ts, BindD t.dd t.ps) (hbe : ∀ e ∈ m.es, BindD e.d e.ps)
    (kin : K.In s₁.heap) (htb : ∀ a ∈ tabs, s₁.heap.get? a = some { cls := .none, data := .fields #[] } ∧ K.lookup a = none)
    (gns : s₁.heap.Ns mainGlobals mg) (bns : s₁.heap.Ns builtinsNs mb) (bbs : ∀ x : Str, x ≠ "__name__" → mb x = bootBuiltins x) (lim : s₁.heap.NoLimit) (ngen : s₁.gens = #[])
    (bmn : ∃ (bm : Addr) (ob : Obj), mg "__builtins__" = some (.ref bm) ∧ bm ≠ builtinsNs ∧ s₁.heap.get? bm = some ob ∧ ob.cls = .type "module" ∧ ob.dict = some builtinsNs ∧ ob.data = .plain)
    (hobj : s₁.heap.get? a = some { cls := .type "list", data := .seq vs.toArray }) (hin : IntsAre vs ns) (hle : ns.length ≤ sizeLine) (hr : Room (lvl + 5) callerA)
    (hx : m.z.g.lookup x = some (.fn f)) (hfa : mg x = some (.ref fa)) (hlaw : ∃ st', (cc ⟨(m.ts.map (·.i)).map (·.F), m.ls⟩ fuel lvl).call f [.lst (ns.map .int)] [] = .ok (.bl true) st') :
    codeAny (model P w) callerA (.call (.ref fa) ⟨[.ref a], []⟩) (fun r s' => r = .ok (.ret (.bool true)) ∧ OldK s₁.heap s'.heap ∧ s'.os = s₁.os ∧ AllBare s'.gens) s₁ := by
  have rv := vals_ints hin
  have hlv := hin.length
  -- the tables of the defs that make lambdas
  have tin : ∀ p ∈ m.cs K, p.2 ∈ tabs ∧ headB K p.1 p.2 = true := fun p hp => by
    obtain ⟨t, hm, e⟩ := List.mem_filterMap.mp hp
    have hk2 := hk
    unfold Mo.okK at hk2
    simp only [Bool.and_eq_true, List.all_eq_true, Bool.or_eq_true, Bool.not_eq_true'] at hk2
    have z := hk2.2.2.2.2.2.1 t hm
    split at e
    · rename_i hl
      rcases z with z | z
      · rw [hl] at z
        cases z
      · rw [e] at z
        simp only [Bool.and_eq_true] at z
        exact ⟨List.contains_iff_mem.mp z.2, z.1⟩
    · cases e
  have ntab : ∀ b ∈ (m.cs K).map (·.2), s₁.heap.get? b = some { cls := .none, data := .fields #[] } ∧ K.lookup b = none := fun b hb => by
    obtain ⟨p, hp, rfl⟩ := List.mem_map.mp hb
    exact htb _ (tin p hp).1
  have na : ∀ b ∈ (m.cs K).map (·.2), b ≠ a := fun b hb e => by
    have z := (ntab b hb).1
    rw [e, hobj] at z
    cases z
  obtain ⟨H0, hH0⟩ : ∃ H0, H0 = lawH K a { cls := .type "list", data := .seq vs.toArray } (ns.map V.int) ((m.cs K).map (·.2)) := ⟨_, rfl⟩
  have hsm : ∀ b u, H0 b = some u → (b = a ∧ K.lookup a = none ∧ u = .frz { cls := .type "list", data := .seq vs.toArray } (.lst (ns.map V.int))) ∨ (b ≠ a ∧ b ∈ (m.cs K).map (·.2) ∧ u = .tbl #[]) := fun b u e => by
    rw [hH0] at e
    exact lawH_some e
  have hT0 : ∀ b ∈ (m.cs K).map (·.2), H0 b = some (.tbl #[]) := fun b hb => by
    rw [hH0]
    exact lawH_tab (na b hb) hb
  -- what is neither a list nor a table is not tracked
  have free : ∀ {b : Addr} {o : Obj}, s₁.heap.get? b = some o → (∀ us k, o.data ≠ .seq us k) → o.data ≠ .fields #[] → H0 b = none := fun {b o} e h1 h2 => by
    cases q : H0 b with
    | none => rfl
    | some u =>
      rcases hsm b u q with ⟨rfl, _⟩ | ⟨_, hb, _⟩
      · rw [hobj] at e
        cases e
        exact absurd rfl (h1 _ _)
      · rw [(ntab b hb).1] at e
        cases e
        exact absurd rfl h2
  obtain ⟨base, hbase⟩ : ∃ base, base = hidT s₁.heap H0 := ⟨_, rfl⟩
  have toB : ∀ {b : Addr} {o : Obj}, s₁.heap.get? b = some o → H0 b = none → base.get? b = some o := fun e n => by
    rw [hbase]
    exact hidT_get e n
  have ofB : ∀ b o, base.get? b = some o → s₁.heap.get? b = some o ∧ H0 b = none := fun b o e => by
    rw [hbase] at e
    exact of_hidT e
  have kinB : K.In base := fun b o e => toB (kin b o e) (by
    cases q : H0 b with
    | none => rfl
    | some u =>
      rcases hsm b u q with ⟨rfl, z, _⟩ | ⟨_, hb, _⟩
      · rw [z] at e
        cases e
      · rw [(ntab b hb).2] at e
        cases e)
  have nsB : ∀ {b : Addr} {g : Str → Option Value}, s₁.heap.Ns b g → base.Ns b g := fun {b g} ⟨o, es, ep, e, d, rest⟩ => ⟨o, es, ep, toB e (free e (fun us k z => by rw [d] at z; cases z) fun z => by rw [d] at z; cases z), d, rest⟩
  have modB : L2.Mod K mg base := ⟨kinB, nsB gns, ⟨mb, nsB bns, bbs⟩, let ⟨g, l1, l2⟩ := lim; ⟨g, nsB l1, l2⟩⟩
  have TB : ∀ p ∈ m.cs K, LamX.TabB base mg p.1 p.2 := fun p hp => by
    have htp := (ntab p.2 (List.mem_map_of_mem hp)).1
    refine ⟨headB_ok kinB (tin p hp).2, ?_, fun z => ?_⟩
    · obtain ⟨bm, ob, c1, c2, c3, c4, c5, c6⟩ := bmn
      have g1 : bm ≠ mainGlobals := fun q => by
        obtain ⟨o, es, ep, e, hd, _⟩ := gns
        rw [← q, c3] at e
        cases e
        rw [c6] at hd
        cases hd
      have g2 : bm ≠ p.2 := fun q => by
        rw [q, htp] at c3
        cases c3
        cases c6
      exact ⟨bm, ob, c1, c2, g1, g2, toB c3 (free c3 (fun us k z => by rw [c6] at z; cases z) fun z => by rw [c6] at z; cases z), c4, c5, c6⟩
    · obtain ⟨o, es, ep, e, hd, _⟩ := gns
      rw [z, htp] at e
      cases e
      cases hd
  have wf := wf_of (P := P) (w := w) kin gns kinB ht hk hv hbd hbe TB
  have e0 : Env0 P w K mg base callerA [] s₁ H0 := ⟨rfl, modB, ofB, by rw [hbase]; exact Nat.le_of_eq (hidT_size _ _), trivial, fun b hb => absurd (show b ∈ ([] : List Addr) from hb) (by simp), fun b u e => by
    rcases hsm b u e with ⟨rfl, _, rfl⟩ | ⟨_, hb, rfl⟩
    · exact ⟨hobj, by rw [List.length_map]; exact hle, vs, _, rv, hobj⟩
    · exact (ntab b hb).1, .of_eq ngen⟩
  have hfa2 : (m.glo K).fnA f = fa := by
    have z := (wf.gl (appCx P w K mg base [] default callerA [] s₁ H0 fun _ _ _ => False) rfl rfl x _ hx).1
    have z : mg x = some (.ref ((m.glo K).fnA f)) := z
    rw [hfa] at z
    cases z
    rfl
  have sr : SRel K (m.glo K) (fun _ => False) H0 [] [] := {
    len := rfl
    nd := fun _ _ _ _ _ h => by simp at h
    so := fun _ _ _ h => by simp at h
    tb := fun p hp => by
      obtain ⟨t, hm, e⟩ := List.mem_filterMap.mp hp
      split at e
      · rename_i hl
        obtain ⟨q, q1, q2⟩ := Option.map_eq_some_iff.mp e
        subst q2
        have hq : q ∈ m.cs K := List.mem_filterMap.mpr ⟨t, hm, by rw [if_pos hl]; exact q1⟩
        exact ⟨#[], hT0 _ (List.mem_map_of_mem hq), trivial, fun pos cv z => by cases z⟩
      · cases e
    pt := fun _ h => h.elim
    pv := fun _ h => h.elim }
  have fr : FrL K H0 a (ns.map V.int) := by
    cases q : K.lookup a with
    | none => exact .inl ⟨{ cls := .type "list", data := .seq vs.toArray }, by rw [hH0]; unfold lawH; rw [if_pos rfl, q]⟩
    | some o =>
      have z := kin a o q
      rw [hobj] at z
      cases z
      exact .inr ⟨vs, _, q, by rw [← hlv] at hle; exact hle, rv⟩
  obtain ⟨st', hc⟩ := hlaw
  have F := (levels wf (fuel := fuel) lvl).1 f
  rw [hfa2] at F
  refine codeAny_mono (F callerA [] s₁ H0 [.ref a] [.ref a] (fun v _ => v = .bl true) (fun _ _ _ => False) hr rfl e0 (.cons rfl .nil) ⟨fun _ => False, [], [], _, sr, .cons (.lst fr (rep_ints ns)) .nil, ?_⟩) fun r s' z => ?_
  · rw [hc]
    intro H' ρ' v _ r
    cases r
    rfl
  · cases r with
    | error e =>
      obtain ⟨_, _, _, _, _, _, _, _, _, _, _, _, no⟩ := z
      exact no.elim
    | ok fl =>
      cases fl with
      | next => exact False.elim z
      | brk => exact False.elim z
      | cont => exact False.elim z
      | ret u =>
        obtain ⟨v, H', os, bare, un, hok', ru, q⟩ := z
        have q : v = .bl true := q
        subst q
        obtain rfl : u = Value.bool true := ru
        have still : ∀ b o, b ∉ (m.cs K).map (·.2) → s₁.heap.get? b = some o → s'.heap.get? b = some o := fun b o nb e => by
          cases q : H0 b with
          | none => exact un.keep b o e q (fun i => absurd (show b ∈ ([] : List Addr) from i) (by simp)) (by simp)
          | some u =>
            rcases hsm b u q with ⟨rfl, _, rfl⟩ | ⟨_, hb, _⟩
            · have z1 := (e0.hok _ _ q).1
              have z2 := (hok' _ _ (un.frzs _ _ _ q)).1
              rw [e] at z1
              cases z1
              exact z2
            · exact absurd hb nb
        have more : ∀ p ∈ m.cs K, ∃ us : Array Value, s'.heap.get? p.2 = some { cls := .none, data := .fields us } := fun p hp => by
          obtain ⟨us, z⟩ := un.tbls p.2 #[] (hT0 _ (List.mem_map_of_mem hp))
          exact ⟨_, hok' p.2 _ z⟩
        refine ⟨rfl, ⟨fun b o e => ?_, fun b o e => ?_⟩, os, bare⟩
        · by_cases hb : b ∈ (m.cs K).map (·.2)
          · obtain ⟨p, hp, rfl⟩ := List.mem_map.mp hb
            obtain ⟨us, hu⟩ := more p hp
            have htp := (ntab p.2 hb).1
            rw [htp] at e
            cases e
            have tabC := ((headB_ok kin (tin p hp).2).tab htp).isCodeTable
            exact .inr (.inl ⟨tabC, rfl, #[], us, rfl, hu.trans (by rw [Array.empty_append])⟩)
          · exact .inl (still b o hb e)
        · by_cases hb : b ∈ (m.cs K).map (·.2)
          · obtain ⟨p, hp, rfl⟩ := List.mem_map.mp hb
            obtain ⟨us, hu⟩ := more p hp
            exact ⟨_, hu⟩
          · exact ⟨o, still b o hb e⟩
end
/-- a law's walk, from what KCore says of it -/
theorem walk_law {l : PySem.W.OpenLaw} {m : Mo} {nH n f fuel lvl : Nat} {q : Program} {loose : List Str} {XP : (Str → Option Value) → Heap → Prop} {d : DefRec} (hn : l.most = some n) (hn2 : n ≤ sizeLine) (hdf : d.params.defaults = []) (hr : Room (lvl + 5) callerA)
    (ht : m.okT = true) (hbd : ∀ t ∈ m.ts, BindD t.dd t.ps) (hbe : ∀ e ∈ m.es, BindD e.d e.ps) (hx : m.z.g.lookup d.name = some (.fn f))
    (law : ∀ ns : List Int, ns.length ≤ n → (∀ z ∈ ns, Builtin.Int.intBits z ≤ 1048576) → ∃ st', (cc ⟨(m.ts.map (·.i)).map (·.F), m.ls⟩ fuel lvl).call f [.lst (ns.map .int)] [] = .ok (.bl true) st') :
    PySem.W.WalkO q loose XP (m.hook nH).says l.row.toRowW d [] (fun f vs => PySem.call f vs) := by
  refine Att.attach_callB hn hdf fun w s₀ s₁ mg mb fa o pm cd doc a vs ns G Y ho hd hcd hmg hobj hints hlen hbits hg => ?_
  obtain ⟨K, tabs, kin, htb, hk, hv⟩ := Y
  exact law_run ht hk hv hbd hbe kin htb G.T.g G.T.b G.T.builtins G.T.nolimit hg G.T.bmain hobj hints (Nat.le_trans hlen hn2) hr hx hmg (law ns hlen hbits)
end KP
end
section
set_option autoImplicit false
set_option linter.all false
set_option maxRecDepth 100000
set_option maxHeartbeats 4000000
/-! KEval: KCore is run by rewriting: rules that fire only where the values are seen. -/
namespace KP
open PySem

def rdv (o : Option Sl) (i : Nat) (e : En) (s : So) : KP.R D := match o with
  | some (.v d) => .ok d e s
  | some (.own xs) => .ok (.lst xs) (e.set i (.v (.lst xs))) s
  | some (.cel n) => (match s[n]? with
    | some (.cel (some d)) => .ok d e s
    | _ => .stuck)
  | _ => .stuck
theorem rd_eq (i : Nat) (e : En) (s : So) : rd i e s = rdv e[i]? i e s := rfl
theorem rdv_v (d : D) (i : Nat) (e : En) (s : So) : rdv (some (.v d)) i e s = .ok d e s := rfl
theorem rdv_own (xs : List D) (i : Nat) (e : En) (s : So) : rdv (some (.own xs)) i e s = .ok (.lst xs) (e.set i (.v (.lst xs))) s := rfl
def rdc (o : Option Ob) (e : En) (s : So) : KP.R D := match o with
  | some (.cel (some d)) => .ok d e s
  | _ => .stuck
theorem rdv_cel (n i : Nat) (e : En) (s : So) : rdv (some (.cel n)) i e s = rdc s[n]? e s := rfl
theorem rdc_some (d : D) (e : En) (s : So) : rdc (some (.cel (some d))) e s = .ok d e s := rfl
/-! builtins -/
theorem bi_len_tup (s : So) (xs : List D) : bi s .len [.tup xs] = some (.int xs.length) := rfl
theorem bi_len_lst (s : So) (xs : List D) : bi s .len [.lst xs] = some (.int xs.length) := rfl
theorem bi_abs (s : So) (i : Int) : bi s .abs [.int i] = some (.int i.natAbs) := rfl
theorem bi_all (s : So) (xs : List D) : bi s .all [.lst xs] = (bools xs).map fun bs => .bl (bs.all id) := rfl
theorem bi_any (s : So) (xs : List D) : bi s .any [.lst xs] = (bools xs).map fun bs => .bl (bs.any id) := rfl
theorem bi_max2 (s : So) (i j : Int) : bi s .max2 [.int i, .int j] = some (.int (if j > i then j else i)) := rfl
theorem bi_min2 (s : So) (i j : Int) : bi s .min2 [.int i, .int j] = some (.int (if j < i then j else i)) := rfl
theorem bi_gcd (s : So) (i j : Int) : bi s .gcd [.int i, .int j] = some (.int (Nat.gcd i.natAbs j.natAbs : Nat)) := rfl
theorem bi_repr (s : So) (d : D) : bi s .repr [d] = (reprD d).map .str := rfl
theorem bi_int (s : So) (i : Int) : bi s .int [.int i] = some (.int i) := rfl
theorem bi_list_l (s : So) (xs : List D) : bi s .list [.lst xs] = some (.lst xs) := rfl
theorem bi_list_t (s : So) (xs : List D) : bi s .list [.tup xs] = some (.lst xs) := rfl
theorem bi_tuple_l (s : So) (xs : List D) : bi s .tuple [.lst xs] = some (.tup xs) := rfl
theorem bi_tuple_t (s : So) (xs : List D) : bi s .tuple [.tup xs] = some (.tup xs) := rfl
theorem bi_bits (s : So) (i : Int) : bi s .bits [.int i] = some (.int (Builtin.Int.intBits i : Nat)) := rfl
def isT (t : Option Nat) (u : Nat) : Option D := match t with
  | some t => if u ≤ 6 then some (.bl (subTy t u)) else none
  | none => none
def isTs (t : Option Nat) (us : List D) : Option D := match t with
  | some t => (isAny t us).map D.bl
  | none => none
theorem bi_isinst (s : So) (d : D) (u : Nat) : bi s .isinst [d, .ty u] = isT (tyOf s d) u := rfl
theorem bi_isinsts (s : So) (d : D) (us : List D) : bi s .isinst [d, .tup us] = isTs (tyOf s d) us := rfl
theorem isT_some (t u : Nat) (h : u ≤ 6) : isT (some t) u = some (.bl (subTy t u)) := if_pos h
theorem isTs_some (t : Nat) (us : List D) : isTs (some t) us = (isAny t us).map D.bl := rfl
theorem isAny_nil (t : Nat) : isAny t [] = some false := rfl
theorem isAny_cons (t u : Nat) (r : List D) (h : u ≤ 6) : isAny t (D.ty u :: r) = if subTy t u = true then some true else isAny t r := if_pos h
theorem tyOf_int (s : So) (i : Int) : tyOf s (.int i) = some 0 := rfl
theorem tyOf_bl (s : So) (i : Bool) : tyOf s (.bl i) = some 1 := rfl
theorem tyOf_str (s : So) (i : Str) : tyOf s (.str i) = some 2 := rfl
theorem tyOf_lst (s : So) (i : List D) : tyOf s (.lst i) = some 3 := rfl
theorem tyOf_tup (s : So) (i : List D) : tyOf s (.tup i) = some 4 := rfl
theorem tyOf_non (s : So) : tyOf s .non = some 6 := rfl
theorem tyOf_dct (s : So) (k : List Str) (i : List D) : tyOf s (.dct k i) = some 5 := rfl
/-! operators -/
theorem bo_add (i j : Int) : bo .add (.int i) (.int j) = some (.int (i + j)) := rfl
theorem bo_sub (i j : Int) : bo .sub (.int i) (.int j) = some (.int (i - j)) := rfl
theorem bo_mul (i j : Int) (h : small i = true) (k : small j = true) : bo .mul (.int i) (.int j) = some (.int (i * j)) := by
  show (if small i && small j then some (D.int (i * j)) else none) = _
  rw [h, k]
  rfl
theorem bo_fdiv (i j : Int) (h : j ≠ 0) (k : small j = true) : bo .fdiv (.int i) (.int j) = some (.int (i.fdiv j)) := if_pos ⟨h, k⟩
theorem bo_mod (i j : Int) (h : j ≠ 0) : bo .mod (.int i) (.int j) = some (.int (i.fmod j)) := if_pos h
theorem bo_pow (i j : Int) (h : 0 ≤ j) (k : j ≤ 1000) (l : i.natAbs < 2 ^ 64) : bo .pow (.int i) (.int j) = some (.int (i ^ j.toNat)) := if_pos ⟨h, k, l⟩
theorem co_lt (i j : Int) : co .lt (.int i) (.int j) = some (decide (i < j)) := rfl
theorem co_le (i j : Int) : co .le (.int i) (.int j) = some (decide (i ≤ j)) := rfl
theorem co_gt (i j : Int) : co .gt (.int i) (.int j) = some (decide (j < i)) := rfl
theorem co_ge (i j : Int) : co .ge (.int i) (.int j) = some (decide (j ≤ i)) := rfl
theorem co_eq (x y : D) : co .eq x y = dataEq x y := rfl
theorem co_ne (x y : D) : co .ne x y = (dataEq x y).map (!·) := rfl
theorem co_is_bl (a b : Bool) : co .is (.bl a) (.bl b) = some (a == b) := rfl
theorem co_isnot_bl (a b : Bool) : co .isnot (.bl a) (.bl b) = some (!(a == b)) := rfl
theorem co_is_non (x : D) : co .is x .non = some (isNone x) := rfl
theorem co_isnot_non (x : D) : co .isnot x .non = some (!isNone x) := rfl
theorem eqv_int (i j : Int) : dataEq (.int i) (.int j) = some (decide (i = j)) := by
  show some (PyData.eqv (.int i) (.int j)) = _
  rfl
theorem shaped_str (x : Str) (h : PyData.strOk x = true) : SeqAt.shaped (.str x) = true := by
  unfold SeqAt.shaped
  rw [show PyData.canLay0 (.str x) = PyData.strOk x from rfl, h]
  rfl
theorem eqv_str (x y : Str) (h : PyData.strOk x = true) (k : PyData.strOk y = true) : dataEq (.str x) (.str y) = some (decide (x = y)) := by
  show (if (SeqAt.shaped (.str x) && SeqAt.shaped (.str y)) = true then some (PyData.eqv (.str x) (.str y)) else none) = _
  rw [shaped_str x h, shaped_str y k]
  rfl
/-! truth -/
theorem tru_non : tru .non = some false := rfl
theorem tru_bl (b : Bool) : tru (.bl b) = some b := rfl
theorem tru_int (i : Int) : tru (.int i) = some (i != 0) := rfl
theorem tru_tup (xs : List D) : tru (.tup xs) = some (!xs.isEmpty) := rfl
theorem tru_lst (xs : List D) : tru (.lst xs) = some (!xs.isEmpty) := rfl
theorem truR_eq (d : D) (e : En) (s : So) : truR d e s = R.of (tru d) e s := rfl
/-! items -/
theorem ix_tup (s : So) (xs : List D) (i : Int) : ix s (.tup xs) (.int i) = itemAt xs i := rfl
theorem ix_lst (s : So) (xs : List D) (i : Int) : ix s (.lst xs) (.int i) = itemAt xs i := rfl
def ixr (o : Option Ob) (i : D) : Option D := match o with
  | some (.lst xs) => (match i with
    | .int i => itemAt xs i
    | _ => none)
  | some (.dic kvs) => (match keyOf i with
    | some k => lookK kvs k
    | none => none)
  | _ => none
theorem ix_ref (s : So) (n : Nat) (i : D) : ix s (.ref n) i = ixr s[n]? i := by
  show (match s[n]? with
    | some (.lst xs) => (match i with
      | .int i => itemAt xs i
      | _ => none)
    | some (.dic kvs) => (match keyOf i with
      | some k => lookK kvs k
      | none => none)
    | _ => none) = _
  rfl
theorem ixr_str (kvs : List (Ky × D)) (x : Str) : ixr (some (.dic kvs)) (.str x) = lookK kvs (.inr x) := rfl
theorem ixr_int (kvs : List (Ky × D)) (x : Int) : ixr (some (.dic kvs)) (.int x) = lookK kvs (.inl x) := rfl
theorem itemAt_nat (xs : List D) (i : Nat) (h : i < xs.length) : itemAt xs (i : Int) = xs[i]? := by
  unfold itemAt ixAt
  rw [if_pos (Int.natCast_nonneg i), if_pos (Int.ofNat_lt.mpr h)]
  rfl
theorem item0 (x : D) (xs : List D) : itemAt (x :: xs) 0 = some x := itemAt_nat (x :: xs) 0 (Nat.succ_pos _)
theorem item1 (x y : D) (xs : List D) : itemAt (x :: y :: xs) 1 = some y := itemAt_nat (x :: y :: xs) 1 (by simp)
theorem item2 (x y z : D) (xs : List D) : itemAt (x :: y :: z :: xs) 2 = some z := itemAt_nat (x :: y :: z :: xs) 2 (by simp)
theorem lookK_cons (g k : Ky) (x : D) (r : List (Ky × D)) : lookK ((g, x) :: r) k = if g = k then some x else lookK r k := rfl
def putR (o : Option Ob) (s : So) (n : Nat) (k : Option Ky) (z : D) : Option So := match o, k with
  | some (.dic kvs), some k => if kvs.length < sizeLine then some (s.set n (.dic (putK kvs k z))) else none
  | _, _ => none
theorem putAt_ref (s : So) (n : Nat) (y z : D) : putAt s (.ref n) y z = putR s[n]? s n (keyOf y) z := rfl
theorem putR_dic (kvs : List (Ky × D)) (s : So) (n : Nat) (k : Ky) (z : D) (h : kvs.length < sizeLine) : putR (some (.dic kvs)) s n (some k) z = some (s.set n (.dic (putK kvs k z))) := if_pos h
theorem keyOf_str (x : Str) : keyOf (.str x) = some (.inr x) := rfl
theorem keyOf_int (x : Int) : keyOf (.int x) = some (.inl x) := rfl
/-! places take values -/
def wrv (o : Option Sl) (i : Nat) (d : D) (e : En) (s : So) : Option (En × So) := match o with
  | some (.cel n) => (match s[n]? with
    | some (.cel _) => some (e, s.set n (.cel (some d)))
    | _ => none)
  | some _ => some (e.set i (.v d), s)
  | none => none
theorem wr_eq (i : Nat) (d : D) (e : En) (s : So) : wr i d e s = wrv e[i]? i d e s := rfl
theorem wrv_no (i : Nat) (d : D) (e : En) (s : So) : wrv (some .no) i d e s = some (e.set i (.v d), s) := rfl
theorem wrv_v (x : D) (i : Nat) (d : D) (e : En) (s : So) : wrv (some (.v x)) i d e s = some (e.set i (.v d), s) := rfl
theorem wrv_own (x : List D) (i : Nat) (d : D) (e : En) (s : So) : wrv (some (.own x)) i d e s = some (e.set i (.v d), s) := rfl
def wrc (o : Option Ob) (n : Nat) (d : D) (e : En) (s : So) : Option (En × So) := match o with
  | some (.cel _) => some (e, s.set n (.cel (some d)))
  | _ => none
theorem wrv_cel (n i : Nat) (d : D) (e : En) (s : So) : wrv (some (.cel n)) i d e s = wrc s[n]? n d e s := rfl
theorem wrc_cel (v : Option D) (n : Nat) (d : D) (e : En) (s : So) : wrc (some (.cel v)) n d e s = some (e, s.set n (.cel (some d))) := rfl
theorem asg_nm (i : Nat) (d : D) (e : En) (s : So) : asgT (.nm i) d e s = wr i d e s := rfl
theorem asg_tup (ts : List Tg) (xs : List D) (e : En) (s : So) : asgT (.tup ts) (.tup xs) e s = asgTs ts xs e s := rfl
theorem asgs_nil (e : En) (s : So) : asgTs [] [] e s = some (e, s) := rfl
def asgK (ts : List Tg) (xs : List D) (o : Option (En × So)) : Option (En × So) := match o with
  | some (e, s) => asgTs ts xs e s
  | none => none
theorem asgs_cons (t : Tg) (ts : List Tg) (x : D) (xs : List D) (e : En) (s : So) : asgTs (t :: ts) (x :: xs) e s = asgK ts xs (asgT t x e s) := rfl
theorem asgK_some (ts : List Tg) (xs : List D) (e : En) (s : So) : asgK ts xs (some (e, s)) = asgTs ts xs e s := rfl
def parv (o : Option Sl) (i : Nat) (is : List Nat) (d : D) (ds : List D) (e : En) : Option En := match o with
  | some (.cel _) => none
  | none => none
  | some _ => parN is ds (e.set i (.v d))
theorem par_nil (e : En) : parN [] [] e = some e := rfl
theorem par_cons (i : Nat) (is : List Nat) (d : D) (ds : List D) (e : En) : parN (i :: is) (d :: ds) e = parv e[i]? i is d ds e := rfl
theorem parv_no (i : Nat) (is : List Nat) (d : D) (ds : List D) (e : En) : parv (some .no) i is d ds e = parN is ds (e.set i (.v d)) := rfl
theorem parv_v (x : D) (i : Nat) (is : List Nat) (d : D) (ds : List D) (e : En) : parv (some (.v x)) i is d ds e = parN is ds (e.set i (.v d)) := rfl
/-! calls -/
theorem back_ok (e : En) (s s' : So) (d : D) : R.back e s (.ok d s') = if cellsOn e s s' = true then .ok d e (openS e s s') else .stuck := rfl
theorem back_exc (e : En) (s s' : So) (x : Xn) : R.back e s (.exc x s') = if cellsOn e s s' = true then .exc x e (openS e s s') else .stuck := rfl
theorem cells_nil (s s' : So) : cellsOn [] s s' = true := rfl
theorem cells_v (d : D) (e : En) (s s' : So) : cellsOn (.v d :: e) s s' = cellsOn e s s' := rfl
theorem cells_no (e : En) (s s' : So) : cellsOn (.no :: e) s s' = cellsOn e s s' := rfl
theorem cells_own (d : List D) (e : En) (s s' : So) : cellsOn (.own d :: e) s s' = cellsOn e s s' := rfl
theorem open_nil (s s' : So) : openS [] s s' = s' := rfl
theorem open_v (d : D) (e : En) (s s' : So) : openS (.v d :: e) s s' = openS e s s' := rfl
theorem open_no (e : En) (s s' : So) : openS (.no :: e) s s' = openS e s s' := rfl
theorem open_own (d : List D) (e : En) (s s' : So) : openS (.own d :: e) s s' = openS e s s' := rfl
theorem shut_nil (s : So) : shutS [] s = s := rfl
theorem shut_v (d : D) (e : En) (s : So) : shutS (.v d :: e) s = shutS e s := rfl
theorem shut_no (e : En) (s : So) : shutS (.no :: e) s = shutS e s := rfl
theorem shut_own (d : List D) (e : En) (s : So) : shutS (.own d :: e) s = shutS e s := rfl
theorem lay_nil (e : En) (s : So) : layCells [] e s = (e, s) := rfl
theorem runF_eq (cx : Cc) (np ns : Nat) (b : Sts) (args : List D) (s : So) (h : args.length = np) : runF cx ⟨np, ns, [], b⟩ args s = fin (Ss cx b (env0 np ns args) s) := if_pos h
theorem env0_eq (np ns : Nat) (args : List D) : env0 np ns args = args.map .v ++ List.replicate (ns - np) .no := rfl
theorem T_run (cx : Cc) (a : Ex) (e : En) (s : So) : T cx a e s = (E cx a e s).bind truR := rfl
theorem cellsOn_same (e : En) (s : So) : cellsOn e s s = true := by
  unfold cellsOn
  rw [List.all_eq_true]
  intro sl _
  cases sl with
  | cel n =>
    show (match s[n]? with
      | some (.cel (some _)) => (match s[n]? with
        | some (.cel (some _)) => true
        | _ => false)
      | _ => true) = true
    cases s[n]? with
    | none => rfl
    | some o =>
      cases o with
      | cel v => cases v <;> rfl
      | _ => rfl
  | _ => rfl
theorem openS_same : ∀ (e : En) (s : So), (∀ n, Sl.cel n ∈ e → n < s.length) → openS e s s = s
  | [], s, _ => rfl
  | sl :: e, s, h => by
    have ih := openS_same e s fun n hn => h n (List.mem_cons_of_mem _ hn)
    cases sl with
    | cel n =>
      have hl := h n (List.mem_cons_self ..)
      show openS e s (s.set n (s[n]?.getD (.cel none))) = s
      rw [List.getElem?_eq_getElem hl]
      show openS e s (s.set n s[n]) = s
      rw [List.set_getElem_self]
      exact ih
    | _ => exact ih
/-- cells of a frame that stand at the store's start -/
def celsB (k : Nat) : En → Bool
  | [] => true
  | .cel n :: e => decide (n < k) && celsB k e
  | _ :: e => celsB k e
theorem celsB_ok {k : Nat} : ∀ {e : En}, celsB k e = true → ∀ n, Sl.cel n ∈ e → n < k
  | [], _, n, h => by cases h
  | sl :: e, hb, n, h => by
    cases sl with
    | cel m =>
      have hb : (decide (m < k) && celsB k e) = true := hb
      rw [Bool.and_eq_true, decide_eq_true_eq] at hb
      rcases List.mem_cons.mp h with q | q
      · cases q
        exact hb.1
      · exact celsB_ok hb.2 n q
    | no => exact celsB_ok (e := e) hb n ((List.mem_cons.mp h).resolve_left (by simp))
    | v d => exact celsB_ok (e := e) hb n ((List.mem_cons.mp h).resolve_left (by simp))
    | own d => exact celsB_ok (e := e) hb n ((List.mem_cons.mp h).resolve_left (by simp))
theorem back_same (e : En) (s : So) (d : D) (h : celsB s.length e = true) : R.back e s (.ok d s) = .ok d e s := by
  rw [back_ok, cellsOn_same, if_pos rfl, openS_same e s (celsB_ok h)]
theorem back_sameX (e : En) (s : So) (x : Xn) (h : celsB s.length e = true) : R.back e s (.exc x s) = .exc x e s := by
  rw [back_exc, cellsOn_same, if_pos rfl, openS_same e s (celsB_ok h)]
def celB (a b : Option Ob) : Bool := match a with
  | some (.cel (some _)) => (match b with
    | some (.cel (some _)) => true
    | _ => false)
  | _ => true
theorem cells_cel (n : Nat) (e : En) (s s' : So) : cellsOn (.cel n :: e) s s' = (celB s[n]? s'[n]? && cellsOn e s s') := rfl
theorem celB_some (d d' : D) : celB (some (.cel (some d))) (some (.cel (some d'))) = true := rfl
theorem celB_none (b : Option Ob) : celB (some (.cel none)) b = true := rfl
theorem open_cel (n : Nat) (e : En) (s s' : So) : openS (.cel n :: e) s s' = openS e s (s'.set n (s[n]?.getD (.cel none))) := rfl
theorem lenI_nil : ((([] : List D).length : Nat) : Int) = 0 := rfl
theorem lenI_cons (x : D) (xs : List D) : (((x :: xs).length : Nat) : Int) = ((xs.length : Nat) : Int) + 1 := rfl
/-! terms, one rule each (loops and comprehensions stay closed) -/
section
variable (cx : Cc) (e : En) (s : So)
theorem e_c (d : D) : E cx (.c d) e s = .ok d e s := by rw [E]
theorem e_v (i : Nat) : E cx (.v i) e s = rdv e[i]? i e s := by rw [E]; rfl
def negR (x : D) (e : En) (s : So) : KP.R D := match x with
  | .int i => .ok (.int (-i)) e s
  | _ => .stuck
theorem e_neg (a : Ex) : E cx (.neg a) e s = (E cx a e s).bind negR := by rw [E]; rfl
theorem negR_int (i : Int) : negR (.int i) e s = .ok (.int (-i)) e s := rfl
theorem e_not (a : Ex) : E cx (.not a) e s = (E cx a e s).bind fun x e s => (truR x e s).bind fun b e s => .ok (.bl (!b)) e s := by rw [E]
theorem e_bin (o : Bo) (a b : Ex) : E cx (.bin o a b) e s = (E cx a e s).bind fun x e s => (E cx b e s).bind fun y e s => R.of (bo o x y) e s := by rw [E]
theorem e_cmp (o : Co) (a b : Ex) : E cx (.cmp o a b) e s = (E cx a e s).bind fun x e s => (E cx b e s).bind fun y e s => R.of ((co o x y).map .bl) e s := by rw [E]
def andR (cx : Cc) (b : Ex) (x : D) (k : Bool) (e : En) (s : So) : KP.R D := match k with
  | true => E cx b e s
  | false => .ok x e s
def orR (cx : Cc) (b : Ex) (x : D) (k : Bool) (e : En) (s : So) : KP.R D := match k with
  | true => .ok x e s
  | false => E cx b e s
def iteR (cx : Cc) (a b : Ex) (k : Bool) (e : En) (s : So) : KP.R D := match k with
  | true => E cx a e s
  | false => E cx b e s
theorem e_and (a b : Ex) : E cx (.and a b) e s = (E cx a e s).bind fun x e s => (truR x e s).bind (andR cx b x) := by rw [E]; rfl
theorem e_or (a b : Ex) : E cx (.or a b) e s = (E cx a e s).bind fun x e s => (truR x e s).bind (orR cx b x) := by rw [E]; rfl
theorem e_ite (t a b : Ex) : E cx (.ite t a b) e s = (E cx t e s).bind fun x e s => (truR x e s).bind (iteR cx a b) := by rw [E]; rfl
theorem andR_t (b : Ex) (x : D) : andR cx b x true e s = E cx b e s := rfl
theorem andR_f (b : Ex) (x : D) : andR cx b x false e s = .ok x e s := rfl
theorem orR_t (b : Ex) (x : D) : orR cx b x true e s = .ok x e s := rfl
theorem orR_f (b : Ex) (x : D) : orR cx b x false e s = E cx b e s := rfl
theorem iteR_t (a b : Ex) : iteR cx a b true e s = E cx a e s := rfl
theorem iteR_f (a b : Ex) : iteR cx a b false e s = E cx b e s := rfl
theorem e_tup (as : Exs) : E cx (.tup as) e s = (Es cx as e s).bind fun xs e s => .ok (.tup xs) e s := by rw [E]
theorem e_lst (as : Exs) : E cx (.lst as) e s = (Es cx as e s).bind fun xs e s => .ok (.lst xs) e s := by rw [E]
theorem e_dic (ks : List Ky) (as : Exs) : E cx (.dic ks as) e s = (Es cx as e s).bind fun xs e s => if ks.length = xs.length ∧ ks.Nodup then .ok (.ref s.length) e (s ++ [.dic (ks.zip xs)]) else .stuck := by rw [E]
theorem e_dct (ks : List Str) (as : Exs) : E cx (.dct ks as) e s = (Es cx as e s).bind fun xs e s => if ks.length = xs.length ∧ ks.Nodup then .ok (.dct ks xs) e s else .stuck := by rw [E]
theorem e_ix (a b : Ex) : E cx (.ix a b) e s = (E cx a e s).bind fun x e s => (E cx b e s).bind fun y e s => R.of (ix s x y) e s := by rw [E]
theorem e_slc (a : Ex) (lo hi : Exo) : E cx (.slc a lo hi) e s = (E cx a e s).bind fun x e s => (Eo cx lo e s).bind fun l e s => (R.of (bnd l) e s).bind fun l e s => (Eo cx hi e s).bind fun h e s => (R.of (bnd h) e s).bind fun h e s => R.of (slc x l h) e s := by rw [E]
theorem e_call (f : Nat) (as : Exs) : E cx (.call f as) e s = (Es cx as e s).bind fun xs e s => R.back e s (cx.call f xs s) := by rw [E]
theorem e_app (a : Ex) (as : Exs) : E cx (.app a as) e s = (E cx a e s).bind (goApp cx as) := by rw [E]; rfl
theorem goApp_fn (as : Exs) (f : Nat) : goApp cx as (.fn f) e s = (Es cx as e s).bind fun xs e s => R.back e s (cx.call f xs s) := rfl
theorem goApp_clo (as : Exs) (k : Nat) (cs : List Nat) : goApp cx as (.clo k cs) e s = (Es cx as e s).bind fun xs e s => R.back e s (cx.app k cs xs s) := rfl
theorem e_bi (b : Bi) (as : Exs) : E cx (.bi b as) e s = (Es cx as e s).bind fun xs e s => R.of (bi s b xs) e s := by rw [E]
theorem e_lam (k : Nat) (cs : List Nat) : E cx (.lam k cs) e s = (R.of (cellsOf e cs) e s).bind fun ns e s => .ok (.clo k ns) e s := by rw [E]
def cofK (n : Option Nat) (r : Option (List Nat)) : Option (List Nat) := match n, r with
  | some n, some ns => some (n :: ns)
  | _, _ => none
def cofV (o : Option Sl) : Option Nat := match o with
  | some (.cel n) => some n
  | _ => none
theorem cellsOf_nil : cellsOf e [] = some [] := rfl
theorem cellsOf_cons (i : Nat) (r : List Nat) : cellsOf e (i :: r) = cofK (cofV e[i]?) (cellsOf e r) := rfl
theorem cofV_cel (n : Nat) : cofV (some (.cel n)) = some n := rfl
theorem cofK_some (n : Nat) (r : List Nat) : cofK (some n) (some r) = some (n :: r) := rfl
theorem es_nil : Es cx .nil e s = .ok [] e s := by rw [Es]
theorem es_cons (a : Ex) (r : Exs) : Es cx (.cons a r) e s = (E cx a e s).bind fun x e s => (Es cx r e s).bind fun xs e s => .ok (x :: xs) e s := by rw [Es]
theorem eo_no : Eo cx .no e s = .ok none e s := by rw [Eo]
theorem eo_so (a : Ex) : Eo cx (.so a) e s = (E cx a e s).bind fun x e s => .ok (some x) e s := by rw [Eo]
/-- a loop's turn -/
def lp (cx : Cc) (t : Tg) (b : Sts) (x : D) (e : En) (s : So) : KP.R Fl := (R.of (asgT t x e s) e s).bind fun q _ _ => Ss cx b q.1 q.2
theorem lp_eq (t : Tg) (b : Sts) (x : D) : lp cx t b x e s = (R.of (asgT t x e s) e s).bind fun q _ _ => Ss cx b q.1 q.2 := rfl
theorem s_pass : S cx .pass e s = .ok .nx e s := by rw [S]
theorem s_ex (a : Ex) : S cx (.ex a) e s = (E cx a e s).bind fun _ e s => .ok .nx e s := by rw [S]
theorem s_set (t : Tg) (a : Ex) : S cx (.set t a) e s = (E cx a e s).bind fun x e s => (R.of (asgT t x e s) e s).bind fun q _ _ => .ok .nx q.1 q.2 := by rw [S]
theorem s_par (is : List Nat) (as : Exs) : S cx (.par is as) e s = (Es cx as e s).bind fun ds e s => (R.of (parN is ds e) e s).bind fun e' _ _ => .ok .nx e' s := by rw [S]
def ownR (i : Nat) (x : D) (e : En) (s : So) : KP.R Fl := match x, e[i]? with
  | .lst _, some (.cel _) => .stuck
  | .lst xs, some _ => .ok .nx (e.set i (.own xs)) s
  | _, _ => .stuck
def ownV (o : Option Sl) (i : Nat) (xs : List D) (e : En) (s : So) : KP.R Fl := match o with
  | some (.cel _) => .stuck
  | some _ => .ok .nx (e.set i (.own xs)) s
  | none => .stuck
theorem s_own (i : Nat) (a : Ex) (h : a.fresh = true) : S cx (.own i a) e s = (E cx a e s).bind (ownR i) := by
  rw [S, if_pos h]
  rfl
theorem ownR_lst (i : Nat) (xs : List D) : ownR i (.lst xs) e s = ownV e[i]? i xs e s := by
  unfold ownR ownV
  cases e[i]? with
  | none => rfl
  | some sl => cases sl <;> rfl
theorem ownV_no (i : Nat) (xs : List D) : ownV (some .no) i xs e s = .ok .nx (e.set i (.own xs)) s := rfl
theorem ownV_v (d : D) (i : Nat) (xs : List D) : ownV (some (.v d)) i xs e s = .ok .nx (e.set i (.own xs)) s := rfl
theorem ownV_own (d : List D) (i : Nat) (xs : List D) : ownV (some (.own d)) i xs e s = .ok .nx (e.set i (.own xs)) s := rfl
theorem s_setix (a b c : Ex) : S cx (.setix a b c) e s = (E cx c e s).bind fun z e s => (E cx a e s).bind fun x e s => (E cx b e s).bind fun y e s => (R.of (putAt s x y z) e s).bind fun s' e _ => .ok .nx e s' := by rw [S]
def ownO (o : Option Sl) : Option (List D) := match o with
  | some (.own xs) => some xs
  | _ => none
theorem ownO_own (xs : List D) : ownO (some (.own xs)) = some xs := rfl
def appK (i : Nat) (z : D) (xs : List D) (e : En) (s : So) : KP.R Fl := if xs.length < sizeLine then .ok .nx (e.set i (.own (xs ++ [z]))) s else .stuck
theorem appK_ok (i : Nat) (z : D) (xs : List D) (h : xs.length < sizeLine) : appK i z xs e s = .ok .nx (e.set i (.own (xs ++ [z]))) s := if_pos h
def appR (i : Nat) (z : D) (e : En) (s : So) : KP.R Fl := (R.of (ownO e[i]?) e s).bind fun xs _ _ => appK i z xs e s
theorem appR_eq (i : Nat) (z : D) : appR i z e s = (R.of (ownO e[i]?) e s).bind fun xs _ _ => appK i z xs e s := rfl
theorem s_app (i : Nat) (a : Ex) : S cx (.app i a) e s = (R.of (ownO e[i]?) e s).bind fun _ _ _ => (E cx a e s).bind (appR i) := by rw [S]; rfl
def ifR (cx : Cc) (a b : Sts) (k : Bool) (e : En) (s : So) : KP.R Fl := match k with
  | true => Ss cx a e s
  | false => Ss cx b e s
theorem s_ite (t : Ex) (a b : Sts) : S cx (.ite t a b) e s = (T cx t e s).bind (ifR cx a b) := by rw [S]; rfl
theorem ifR_t (a b : Sts) : ifR cx a b true e s = Ss cx a e s := rfl
theorem ifR_f (a b : Sts) : ifR cx a b false e s = Ss cx b e s := rfl
theorem s_loop (t : Tg) (w : Wk) (as : Exs) (b : Sts) : S cx (.loop t w as b) e s = (Es cx as e s).bind fun ws e s => (R.of (walk w ws) e s).bind fun items e s => forGo (lp cx t b) items e s := by rw [S]; rfl
theorem s_ret (a : Ex) : S cx (.ret a) e s = (E cx a e s).bind fun d e s => .ok (.rt d) e s := by rw [S]
theorem s_brk : S cx .brk e s = .ok .bk e s := by rw [S]
theorem s_cont : S cx .cont e s = .ok .ct e s := by rw [S]
theorem s_rais (c : Nat) (as : Exs) : S cx (.rais c as) e s = (Es cx as e s).bind fun xs e s => .exc ⟨c, xs⟩ e s := by rw [S]
def triR (hs : List (Nat × List (Sum D Nat))) (r : KP.R Fl) : KP.R Fl := match r with
  | .ok f e s => .ok f e s
  | .exc x e s => (match caught hs x with
    | true => (R.of (hdl hs x) e s).bind fun d e s => .ok (.rt d) e s
    | false => .exc x e s)
  | .stuck => .stuck
theorem s_tri (b : Sts) (hs : List (Nat × List (Sum D Nat))) : S cx (.tri b hs) e s = triR hs (Ss cx b e s) := by rw [S]; rfl
theorem triR_ok (hs : List (Nat × List (Sum D Nat))) (f : Fl) : triR hs (.ok f e s) = .ok f e s := rfl
theorem triR_exc (hs : List (Nat × List (Sum D Nat))) (x : Xn) (d : D) (h : caught hs x = true) (k : hdl hs x = some d) : triR hs (.exc x e s) = .ok (.rt d) e s := by
  unfold triR
  simp only [h, k, R.of_some, R.bind_ok]
def seqR (cx : Cc) (r : Sts) (f : Fl) (e : En) (s : So) : KP.R Fl := match f with
  | .nx => Ss cx r e s
  | f => .ok f e s
theorem ss_nil : Ss cx .nil e s = .ok .nx e s := by rw [Ss]
theorem ss_cons (a : KP.St) (r : Sts) : Ss cx (.cons a r) e s = (S cx a e s).bind (seqR cx r) := by
  rw [Ss]
  congr 1
theorem seqR_nx (r : Sts) : seqR cx r .nx e s = Ss cx r e s := rfl
theorem seqR_rt (r : Sts) (d : D) : seqR cx r (.rt d) e s = .ok (.rt d) e s := rfl
theorem seqR_bk (r : Sts) : seqR cx r .bk e s = .ok .bk e s := rfl
theorem seqR_ct (r : Sts) : seqR cx r .ct e s = .ok .ct e s := rfl
end
/-! loops -/
theorem for_nil (st : D → En → So → KP.R Fl) (e : En) (s : So) : forGo st [] e s = .ok .nx e s := rfl
/-- a loop that always goes on -/
theorem for_inv {I : Nat → En → So → Prop} {st : D → En → So → KP.R Fl} : ∀ (xs : List D) (k : Nat) (e : En) (s : So), I k e s → (∀ (j : Nat) (x : D) (e : En) (s : So), xs[j]? = some x → I (k + j) e s → ∃ e' s', st x e s = .ok .nx e' s' ∧ I (k + j + 1) e' s') → ∃ e' s', forGo st xs e s = .ok .nx e' s' ∧ I (k + xs.length) e' s'
  | [], k, e, s, h, _ => ⟨e, s, rfl, h⟩
  | x :: xs, k, e, s, h, g => by
    obtain ⟨e1, s1, h1, h2⟩ := g 0 x e s rfl h
    obtain ⟨e2, s2, h3, h4⟩ := for_inv xs (k + 1) e1 s1 h2 fun j y e s hy hi => by
      have q : k + 1 + j = k + (j + 1) := by omega
      rw [q] at hi ⊢
      exact g (j + 1) y e s (by simpa using hy) hi
    refine ⟨e2, s2, ?_, ?_⟩
    · rw [forGo, h1, KP.R.bind_ok]
      exact h3
    · rw [List.length_cons]
      have q : k + (xs.length + 1) = k + 1 + xs.length := by omega
      rw [q]
      exact h4
theorem walk_val_l (xs : List D) : walk .val [.lst xs] = some xs := rfl
theorem walk_val_t (xs : List D) : walk .val [.tup xs] = some xs := rfl
theorem wk_rng1 (j : Int) (h : -(2 ^ 62) ≤ j) (k : j ≤ 1000000) : walk .rng1 [.int j] = some (rng 0 j) := by
  show (if (smallR j && decide (j ≤ 1000000)) = true then some (rng 0 j) else none) = _
  rw [if_pos]
  unfold smallR
  simp
  omega
theorem rngL (i j : Int) : (rng i j).length = (j - i).toNat := by
  unfold rng
  rw [List.length_map, List.length_range]
theorem small_of {i : Int} (h : i.natAbs < 1152921504606846976) : small i = true := by
  unfold small
  rw [decide_eq_true_eq]
  by_cases z : i.natAbs = 0
  · rw [z]
    decide
  · have h2 : i.natAbs.log2 < 60 := (Nat.log2_lt z).mpr h
    omega
theorem small_nat {k : Nat} (h : k ≤ 1000000) : small ((k : Nat) : Int) = true := small_of (by omega)
theorem small_abs {i : Int} (h : small i = true) : small ((i.natAbs : Nat) : Int) = true := h
/-- a small number has few bits -/
theorem bits_ok {k : Nat} (h : small ((k : Nat) : Int) = true) : Builtin.Int.intBits ((k : Nat) : Int) ≤ 8000 ∧ k < 2 ^ Builtin.Int.intBits ((k : Nat) : Int) := by
  unfold small at h
  rw [decide_eq_true_eq, Int.natAbs_natCast] at h
  unfold Builtin.Int.intBits
  by_cases z : k = 0
  · subst z
    exact ⟨by decide, by decide⟩
  · have e : (((k : Nat) : Int) == 0) = false := by
      rw [beq_eq_false_iff_ne]
      omega
    rw [e]
    have h3 : k < 2 ^ (k.log2 + 1) := Nat.lt_log2_self
    refine ⟨?_, ?_⟩
    · show (((k : Nat) : Int).natAbs.log2 + 1) ≤ 8000
      rw [Int.natAbs_natCast]
      omega
    · show k < 2 ^ (((k : Nat) : Int).natAbs.log2 + 1)
      rw [Int.natAbs_natCast]
      exact h3
end KP
end
section
set_option autoImplicit false
set_option linter.all false
set_option maxRecDepth 100000
set_option maxHeartbeats 4000000
/-! KShown: repr of plain values is there, and is a text that == takes. -/
namespace KP
open PySem

/-- all signs are in Unicode's range -/
def AllC (x : Str) : Prop := ∀ c ∈ x.cps.toList, c < 0x110000
theorem strOk_of {x : Str} (h : AllC x) : PyData.strOk x = true := by
  unfold PyData.strOk
  rw [Array.all_eq_true']
  intro c hc
  exact decide_eq_true (h c (by simpa using hc))
theorem of_strOk {x : Str} (h : PyData.strOk x = true) : AllC x := by
  unfold PyData.strOk at h
  rw [Array.all_eq_true'] at h
  intro c hc
  exact of_decide_eq_true (h c (by simpa using hc))
theorem allC_app {x y : Str} (h : AllC x) (k : AllC y) : AllC (x ++ y) := by
  intro c hc
  have e : (x ++ y).cps.toList = x.cps.toList ++ y.cps.toList := by
    show (x.cps ++ y.cps).toList = _
    rw [Array.toList_append]
  rw [e] at hc
  exact (List.mem_append.mp hc).elim (h c) (k c)
theorem allC_int (i : Int) : AllC (Str.ofString (toString i)) := fun c hc => by
  by_cases q : c < 0x110000
  · exact q
  · exact absurd hc (PyProof.Rows.int_text_free' c ⟨by omega, by omega⟩ i)
theorem allC_join : ∀ ts : List Str, (∀ t ∈ ts, AllC t) → AllC (Str.join (.ofString ", ") ts)
  | [], _ => fun c hc => by cases hc
  | [x], h => h x (List.mem_cons_self ..)
  | x :: y :: r, h => by
    show AllC (x ++ .ofString ", " ++ Str.join (.ofString ", ") (y :: r))
    exact allC_app (allC_app (h x (List.mem_cons_self ..)) (of_strOk (by decide +kernel))) (allC_join (y :: r) fun t ht => h t (List.mem_cons_of_mem _ ht))
def sumN : List Str → Nat
  | [] => 0
  | x :: r => x.length + 2 + sumN r
theorem join_len : ∀ ts : List Str, (Str.join (.ofString ", ") ts).length ≤ sumN ts
  | [] => Nat.zero_le _
  | [x] => by show x.length ≤ x.length + 2 + 0; omega
  | x :: y :: r => by
    show (x ++ .ofString ", " ++ Str.join (.ofString ", ") (y :: r)).length ≤ _
    have ih := join_len (y :: r)
    rw [strLen_append, strLen_append]
    show x.length + 2 + _ ≤ x.length + 2 + sumN (y :: r)
    omega
theorem textFrom_ok : ∀ (ts : List Str) (k : Nat) (acc : Str), (∀ t ∈ ts, AllC t) → AllC acc → AllC (textFrom k acc ts) ∧ (textFrom k acc ts).length ≤ acc.length + sumN ts
  | [], k, acc, _, ha => ⟨ha, Nat.le_refl _⟩
  | t :: ts, k, acc, h, ha => by
    have hs : AllC ((if k > 0 then ", " else "" : String) : Str) := by
      split <;> exact of_strOk (by decide +kernel)
    have hl : ((if k > 0 then ", " else "" : String) : Str).length ≤ 2 := by
      split <;> decide +kernel
    obtain ⟨h1, h2⟩ := textFrom_ok ts (k + 1) (acc ++ ((if k > 0 then ", " else "" : String) : Str) ++ t) (fun u hu => h u (List.mem_cons_of_mem _ hu)) (allC_app (allC_app ha hs) (h t (List.mem_cons_self ..)))
    refine ⟨h1, ?_⟩
    rw [strLen_append, strLen_append] at h2
    show (textFrom (k + 1) (acc ++ ((if k > 0 then ", " else "" : String) : Str) ++ t) ts).length ≤ acc.length + (t.length + 2 + sumN ts)
    omega
theorem list_ok {ts : List Str} (h : ∀ t ∈ ts, AllC t) : AllC (listText ts) ∧ (listText ts).length ≤ 2 + sumN ts := by
  obtain ⟨h1, h2⟩ := textFrom_ok ts 0 (.ofString "[") h (of_strOk (by decide +kernel))
  unfold listText
  refine ⟨allC_app h1 (of_strOk (by decide +kernel)), ?_⟩
  rw [strLen_append]
  show _ + 1 ≤ _
  have : (Str.ofString "[").length = 1 := rfl
  omega
theorem tuple_ok {ts : List Str} (h : ∀ t ∈ ts, AllC t) : AllC (tupleText ts) ∧ (tupleText ts).length ≤ 3 + sumN ts := by
  have hs : AllC ((if ts.length == 1 then ",)" else ")" : String) : Str) := by
    split <;> exact of_strOk (by decide +kernel)
  have hl : ((if ts.length == 1 then ",)" else ")" : String) : Str).length ≤ 2 := by
    split <;> decide +kernel
  unfold tupleText
  refine ⟨allC_app (allC_app (of_strOk (by decide +kernel)) (allC_join ts h)) hs, ?_⟩
  rw [strLen_append, strLen_append]
  have h1 : (Str.ofString "(").length = 1 := rfl
  have := join_len ts
  omega
mutual
/-- plain data whose text is surely there -/
def shB : D → Bool
  | .non => true
  | .bl _ => true
  | .int i => decide (i.natAbs < 2 ^ 1900)
  | .str x => PyData.strOk (reprText x)
  | .tup xs => shBs xs
  | .lst xs => shBs xs
  | .dct ks xs => ks.isEmpty && xs.isEmpty
  | _ => false
def shBs : List D → Bool
  | [] => true
  | x :: r => shB x && shBs r
end
mutual
/-- how long it is at most -/
def shN : D → Nat
  | .int _ => 1921
  | .str x => (reprText x).length
  | .tup xs => 3 + shNs xs
  | .lst xs => 3 + shNs xs
  | _ => 5
def shNs : List D → Nat
  | [] => 0
  | x :: r => shN x + 2 + shNs r
end
mutual
def shD : D → Nat
  | .tup xs => shDs xs + 1
  | .lst xs => shDs xs + 1
  | .dct _ _ => 1
  | _ => 0
def shDs : List D → Nat
  | [] => 0
  | x :: r => max (shD x) (shDs r)
end
theorem lg_of {n : Nat} (h : n < 2 ^ 1900) : n.log2 < 1920 := by
  by_cases z : n = 0
  · rw [z]
    decide
  · have h2 : n.log2 < 1900 := (Nat.log2_lt z).mpr h
    omega
mutual
theorem sh_ok : ∀ d : D, shB d = true → ∃ p, d.py = some p ∧ p.showable = true ∧ AllC p.shown ∧ p.shown.length ≤ shN d ∧ p.depth ≤ shD d
  | .non, _ => ⟨_, rfl, rfl, of_strOk (by decide +kernel), by decide +kernel, Nat.le_refl _⟩
  | .bl b, _ => ⟨_, rfl, rfl, by cases b <;> exact of_strOk (by decide +kernel), by cases b <;> decide +kernel, Nat.le_refl _⟩
  | .int i, h => by
    have h1 : i.natAbs < 2 ^ 1900 := of_decide_eq_true h
    have h2 := lg_of h1
    exact ⟨_, rfl, decide_eq_true h2, allC_int i, PyProof.Rows.int_text_len_1921 h2, Nat.le_refl _⟩
  | .str x, h => ⟨_, rfl, rfl, of_strOk h, Nat.le_refl _, Nat.le_refl _⟩
  | .tup xs, h => by
    obtain ⟨ps, h1, h2, h3, h4, h5⟩ := shs_ok xs h
    obtain ⟨t1, t2⟩ := tuple_ok h3
    exact ⟨.tuple ps, by rw [D.py, h1]; rfl, h2, t1, by show (tupleText (PyData.shownAll ps)).length ≤ 3 + shNs xs; omega, Nat.succ_le_succ h5⟩
  | .lst xs, h => by
    obtain ⟨ps, h1, h2, h3, h4, h5⟩ := shs_ok xs h
    obtain ⟨t1, t2⟩ := list_ok h3
    exact ⟨.list ps, by rw [D.py, h1]; rfl, h2, t1, by show (listText (PyData.shownAll ps)).length ≤ 3 + shNs xs; omega, Nat.succ_le_succ h5⟩
  | .dct ks xs, h => by
    have h : (ks.isEmpty && xs.isEmpty) = true := h
    rw [Bool.and_eq_true, List.isEmpty_iff, List.isEmpty_iff] at h
    obtain ⟨rfl, rfl⟩ := h
    exact ⟨.dict [], rfl, rfl, of_strOk (by decide +kernel), by decide +kernel, Nat.le_refl _⟩
  | .ty _, h => by cases h
  | .ref _, h => by cases h
  | .fn _, h => by cases h
  | .cls _, h => by cases h
  | .clo _ _, h => by cases h
  | .ins _ _, h => by cases h
theorem shs_ok : ∀ ds : List D, shBs ds = true → ∃ ps, pyAll ds = some ps ∧ PyData.showableAll ps = true ∧ (∀ t ∈ PyData.shownAll ps, AllC t) ∧ sumN (PyData.shownAll ps) ≤ shNs ds ∧ PyData.depthAll ps ≤ shDs ds
  | [], _ => ⟨[], rfl, rfl, fun t ht => (by cases ht), Nat.le_refl _, Nat.le_refl _⟩
  | x :: r, h => by
    have h : (shB x && shBs r) = true := h
    rw [Bool.and_eq_true] at h
    obtain ⟨p, h1, h2, h3, h4, h5⟩ := sh_ok x h.1
    obtain ⟨ps, g1, g2, g3, g4, g5⟩ := shs_ok r h.2
    refine ⟨p :: ps, by rw [pyAll, h1, g1], ?_, fun t ht => ?_, ?_, ?_⟩
    · show (p.showable && PyData.showableAll ps) = true
      rw [h2, g2]
      rfl
    · rcases List.mem_cons.mp ht with e | e
      · rw [e]
        exact h3
      · exact g3 t e
    · show p.shown.length + 2 + sumN (PyData.shownAll ps) ≤ shN x + 2 + shNs r
      omega
    · show max p.depth (PyData.depthAll ps) ≤ max (shD x) (shDs r)
      omega
end
/-- repr of such a value, and that == takes it -/
theorem repr_ok {d : D} (h : shB d = true) (n : shN d ≤ 1000000) (k : shD d ≤ 60) : ∃ x, reprD d = some x ∧ PyData.strOk x = true := by
  obtain ⟨p, h1, h2, h3, h4, h5⟩ := sh_ok d h
  refine ⟨p.shown, ?_, strOk_of h3⟩
  unfold reprD
  rw [h1]
  show (if (p.showable && decide (p.shown.length ≤ sizeLine) && decide (p.depth ≤ 64)) = true then some p.shown else none) = _
  rw [if_pos]
  rw [h2, decide_eq_true (show p.shown.length ≤ sizeLine by unfold sizeLine; omega), decide_eq_true (show p.depth ≤ 64 by omega)]
  rfl
theorem same_str {x : Str} (h : PyData.strOk x = true) : dataEq (.str x) (.str x) = some true := by
  rw [eqv_str x x h h, decide_eq_true rfl]
end KP
end
section
set_option autoImplicit false
set_option linter.all false
set_option maxRecDepth 100000
set_option maxHeartbeats 4000000
namespace K02
open PySem PySem.Spec PyProof.Rows L2 KP
/-! ### the module, def by def -/
abbrev rw_ : PySem.W.OpenLaw := PySem.Challenge.rw_beampapers_k02_ratios
def stA (i : Nat) : Stmt := PySem.Challenge.pw_beampapers_k02_ratios.main.body.getD i (.Pass ⟨0, 0, 0, 0⟩)
def stM (i j : Nat) : Stmt := match stA i with
  | .ClassDef _ _ _ b _ _ _ _ _ _ _ => b.getD j (.Pass ⟨0, 0, 0, 0⟩)
  | s => s
/-- is_whole -/
def f0 : Fd := ⟨1, 1, [], .cons (.ret (.and (.bi .isinst (.cons (.v 0) (.cons (.c (.ty 0)) .nil))) (.not (.bi .isinst (.cons (.v 0) (.cons (.c (.ty 1)) .nil)))))) .nil⟩
def d0 : DefT := ⟨⟨((.ofString "is_whole"), none), (.ofString "is_whole"), (.ofString "is_whole"), defArgs (stA 9), defBody (stA 9), defScope (stA 9), [], []⟩, [(.ofString "value")], [(.ofString "value")], false, f0⟩
/-- is_pair -/
def f1 : Fd := ⟨1, 1, [], .cons (.ite (.or (.not (.bi .isinst (.cons (.v 0) (.cons (.tup (.cons (.c (.ty 4)) (.cons (.c (.ty 3)) .nil))) .nil)))) (.cmp .ne (.bi .len (.cons (.v 0) .nil)) (.c (.int 2)))) (.cons (.ret (.c (.bl false))) .nil) (.nil)) (.cons (.ret (.and (.call 0 (.cons (.ix (.v 0) (.c (.int 0))) .nil)) (.and (.call 0 (.cons (.ix (.v 0) (.c (.int 1))) .nil)) (.cmp .gt (.ix (.v 0) (.c (.int 1))) (.c (.int 0)))))) .nil)⟩
def d1 : DefT := ⟨⟨((.ofString "is_pair"), none), (.ofString "is_pair"), (.ofString "is_pair"), defArgs (stA 11), defBody (stA 11), defScope (stA 11), [], []⟩, [(.ofString "value")], [(.ofString "value")], false, f1⟩
/-- is_ratio -/
def f2 : Fd := ⟨1, 1, [], .cons (.ret (.or (.call 0 (.cons (.v 0) .nil)) (.and (.bi .isinst (.cons (.v 0) (.cons (.c (.ty 4)) .nil))) (.call 1 (.cons (.v 0) .nil))))) .nil⟩
def d2 : DefT := ⟨⟨((.ofString "is_ratio"), none), (.ofString "is_ratio"), (.ofString "is_ratio"), defArgs (stA 12), defBody (stA 12), defScope (stA 12), [], []⟩, [(.ofString "value")], [(.ofString "value")], false, f2⟩
/-- lowest -/
def f3 : Fd := ⟨2, 3, [], .cons (.set (.nm 2) (.ite (.cmp .gt (.v 1) (.c (.int 0))) (.bi .gcd (.cons (.v 0) (.cons (.v 1) .nil))) (.neg (.bi .gcd (.cons (.v 0) (.cons (.v 1) .nil)))))) (.cons (.ret (.tup (.cons (.bin .fdiv (.v 0) (.v 2)) (.cons (.bin .fdiv (.v 1) (.v 2)) .nil)))) .nil)⟩
def d3 : DefT := ⟨⟨((.ofString "lowest"), none), (.ofString "lowest"), (.ofString "lowest"), defArgs (stA 13), defBody (stA 13), defScope (stA 13), [], []⟩, [(.ofString "top"), (.ofString "bottom"), (.ofString "by")], [(.ofString "top"), (.ofString "bottom")], false, f3⟩
/-- told -/
def f4 : Fd := ⟨1, 1, [], .cons (.ite (.call 0 (.cons (.v 0) .nil)) (.cons (.ret (.tup (.cons (.v 0) (.cons (.c (.int 1)) .nil)))) .nil) (.nil)) (.cons (.ite (.not (.call 1 (.cons (.v 0) .nil))) (.cons (.rais 2 (.cons (.v 0) .nil)) .nil) (.nil)) (.cons (.ret (.call 3 (.cons (.ix (.v 0) (.c (.int 0))) (.cons (.ix (.v 0) (.c (.int 1))) .nil)))) .nil))⟩
def d4 : DefT := ⟨⟨((.ofString "told"), none), (.ofString "told"), (.ofString "told"), defArgs (stA 14), defBody (stA 14), defScope (stA 14), [], []⟩, [(.ofString "ratio")], [(.ofString "ratio")], false, f4⟩
/-- summed -/
def f5 : Fd := ⟨2, 2, [], .cons (.ret (.call 3 (.cons (.bin .add (.bin .mul (.ix (.v 0) (.c (.int 0))) (.ix (.v 1) (.c (.int 1)))) (.bin .mul (.ix (.v 1) (.c (.int 0))) (.ix (.v 0) (.c (.int 1))))) (.cons (.bin .mul (.ix (.v 0) (.c (.int 1))) (.ix (.v 1) (.c (.int 1)))) .nil)))) .nil⟩
def d5 : DefT := ⟨⟨((.ofString "summed"), none), (.ofString "summed"), (.ofString "summed"), defArgs (stA 15), defBody (stA 15), defScope (stA 15), [], []⟩, [(.ofString "one"), (.ofString "other")], [(.ofString "one"), (.ofString "other")], false, f5⟩
/-- lessened -/
def f6 : Fd := ⟨2, 2, [], .cons (.ret (.call 3 (.cons (.bin .sub (.bin .mul (.ix (.v 0) (.c (.int 0))) (.ix (.v 1) (.c (.int 1)))) (.bin .mul (.ix (.v 1) (.c (.int 0))) (.ix (.v 0) (.c (.int 1))))) (.cons (.bin .mul (.ix (.v 0) (.c (.int 1))) (.ix (.v 1) (.c (.int 1)))) .nil)))) .nil⟩
def d6 : DefT := ⟨⟨((.ofString "lessened"), none), (.ofString "lessened"), (.ofString "lessened"), defArgs (stA 16), defBody (stA 16), defScope (stA 16), [], []⟩, [(.ofString "one"), (.ofString "other")], [(.ofString "one"), (.ofString "other")], false, f6⟩
/-- scaled -/
def f7 : Fd := ⟨2, 2, [], .cons (.ret (.call 3 (.cons (.bin .mul (.ix (.v 0) (.c (.int 0))) (.ix (.v 1) (.c (.int 0)))) (.cons (.bin .mul (.ix (.v 0) (.c (.int 1))) (.ix (.v 1) (.c (.int 1)))) .nil)))) .nil⟩
def d7 : DefT := ⟨⟨((.ofString "scaled"), none), (.ofString "scaled"), (.ofString "scaled"), defArgs (stA 17), defBody (stA 17), defScope (stA 17), [], []⟩, [(.ofString "one"), (.ofString "other")], [(.ofString "one"), (.ofString "other")], false, f7⟩
/-- parted -/
def f8 : Fd := ⟨2, 2, [], .cons (.ret (.call 3 (.cons (.bin .mul (.ix (.v 0) (.c (.int 0))) (.ix (.v 1) (.c (.int 1)))) (.cons (.bin .mul (.ix (.v 0) (.c (.int 1))) (.ix (.v 1) (.c (.int 0)))) .nil)))) .nil⟩
def d8 : DefT := ⟨⟨((.ofString "parted"), none), (.ofString "parted"), (.ofString "parted"), defArgs (stA 18), defBody (stA 18), defScope (stA 18), [], []⟩, [(.ofString "one"), (.ofString "other")], [(.ofString "one"), (.ofString "other")], false, f8⟩
/-- below -/
def f9 : Fd := ⟨2, 2, [], .cons (.ret (.cmp .lt (.bin .mul (.ix (.v 0) (.c (.int 0))) (.ix (.v 1) (.c (.int 1)))) (.bin .mul (.ix (.v 1) (.c (.int 0))) (.ix (.v 0) (.c (.int 1)))))) .nil⟩
def d9 : DefT := ⟨⟨((.ofString "below"), none), (.ofString "below"), (.ofString "below"), defArgs (stA 19), defBody (stA 19), defScope (stA 19), [], []⟩, [(.ofString "one"), (.ofString "other")], [(.ofString "one"), (.ofString "other")], false, f9⟩
/-- plus -/
def f10 : Fd := ⟨2, 4, [], .cons (.par [2, 3] (.cons (.call 4 (.cons (.v 0) .nil)) (.cons (.call 4 (.cons (.v 1) .nil)) .nil))) (.cons (.ret (.call 5 (.cons (.v 2) (.cons (.v 3) .nil)))) .nil)⟩
def d10 : DefT := ⟨⟨((.ofString "plus"), none), (.ofString "plus"), (.ofString "plus"), defArgs (stA 20), defBody (stA 20), defScope (stA 20), [], []⟩, [(.ofString "one"), (.ofString "other"), (.ofString "first"), (.ofString "second")], [(.ofString "one"), (.ofString "other")], false, f10⟩
/-- minus -/
def f11 : Fd := ⟨2, 4, [], .cons (.par [2, 3] (.cons (.call 4 (.cons (.v 0) .nil)) (.cons (.call 4 (.cons (.v 1) .nil)) .nil))) (.cons (.ret (.call 6 (.cons (.v 2) (.cons (.v 3) .nil)))) .nil)⟩
def d11 : DefT := ⟨⟨((.ofString "minus"), none), (.ofString "minus"), (.ofString "minus"), defArgs (stA 21), defBody (stA 21), defScope (stA 21), [], []⟩, [(.ofString "one"), (.ofString "other"), (.ofString "first"), (.ofString "second")], [(.ofString "one"), (.ofString "other")], false, f11⟩
/-- times -/
def f12 : Fd := ⟨2, 4, [], .cons (.par [2, 3] (.cons (.call 4 (.cons (.v 0) .nil)) (.cons (.call 4 (.cons (.v 1) .nil)) .nil))) (.cons (.ret (.call 7 (.cons (.v 2) (.cons (.v 3) .nil)))) .nil)⟩
def d12 : DefT := ⟨⟨((.ofString "times"), none), (.ofString "times"), (.ofString "times"), defArgs (stA 22), defBody (stA 22), defScope (stA 22), [], []⟩, [(.ofString "one"), (.ofString "other"), (.ofString "first"), (.ofString "second")], [(.ofString "one"), (.ofString "other")], false, f12⟩
/-- share -/
def f13 : Fd := ⟨2, 4, [], .cons (.par [2, 3] (.cons (.call 4 (.cons (.v 0) .nil)) (.cons (.call 4 (.cons (.v 1) .nil)) .nil))) (.cons (.ite (.cmp .eq (.ix (.v 3) (.c (.int 0))) (.c (.int 0))) (.cons (.rais 0 (.cons (.c (.str (.ofString "share"))) (.cons (.c (.int 0)) .nil))) .nil) (.nil)) (.cons (.ret (.call 8 (.cons (.v 2) (.cons (.v 3) .nil)))) .nil))⟩
def d13 : DefT := ⟨⟨((.ofString "share"), none), (.ofString "share"), (.ofString "share"), defArgs (stA 23), defBody (stA 23), defScope (stA 23), [], []⟩, [(.ofString "one"), (.ofString "other"), (.ofString "first"), (.ofString "second")], [(.ofString "one"), (.ofString "other")], false, f13⟩
/-- less -/
def f14 : Fd := ⟨2, 4, [], .cons (.par [2, 3] (.cons (.call 4 (.cons (.v 0) .nil)) (.cons (.call 4 (.cons (.v 1) .nil)) .nil))) (.cons (.ret (.call 9 (.cons (.v 2) (.cons (.v 3) .nil)))) .nil)⟩
def d14 : DefT := ⟨⟨((.ofString "less"), none), (.ofString "less"), (.ofString "less"), defArgs (stA 24), defBody (stA 24), defScope (stA 24), [], []⟩, [(.ofString "one"), (.ofString "other"), (.ofString "first"), (.ofString "second")], [(.ofString "one"), (.ofString "other")], false, f14⟩
/-- _law_pen -/
def f15 : Fd := ⟨1, 3, [], .cons (.set (.nm 1) (.c (.int 0))) (.cons (.loop (.nm 2) .val (.cons (.v 0) .nil) (.cons (.set (.nm 1) (.bin .mod (.bi .int (.cons (.bin .add (.bin .mul (.v 1) (.c (.int 179))) (.v 2)) .nil)) (.c (.int 999999193)))) .nil)) (.cons (.ret (.dic [.inr (.ofString "cells"), .inr (.ofString "at"), .inr (.ofString "digits"), .inr (.ofString "count"), .inr (.ofString "fold")] (.cons (.bi .list (.cons (.v 0) .nil)) (.cons (.c (.int 0)) (.cons (.c (.int 0)) (.cons (.c (.int 0)) (.cons (.v 1) .nil))))))) .nil))⟩
def d15 : DefT := ⟨⟨((.ofString "_law_pen"), none), (.ofString "_law_pen"), (.ofString "_law_pen"), defArgs (stA 26), defBody (stA 26), defScope (stA 26), [], []⟩, [(.ofString "script"), (.ofString "fold"), (.ofString "cell")], [(.ofString "script")], false, f15⟩
/-- _law_draw -/
def f16 : Fd := ⟨2, 5, [], .cons (.setix (.v 0) (.c (.str (.ofString "count"))) (.bin .add (.ix (.v 0) (.c (.str (.ofString "count")))) (.c (.int 1)))) (.cons (.ite (.and (.cmp .eq (.ix (.v 0) (.c (.str (.ofString "digits")))) (.c (.int 0))) (.cmp .lt (.ix (.v 0) (.c (.str (.ofString "at")))) (.bi .len (.cons (.ix (.v 0) (.c (.str (.ofString "cells")))) .nil)))) (.cons (.set (.nm 2) (.ix (.ix (.v 0) (.c (.str (.ofString "cells")))) (.ix (.v 0) (.c (.str (.ofString "at")))))) (.cons (.setix (.v 0) (.c (.str (.ofString "at"))) (.bin .add (.ix (.v 0) (.c (.str (.ofString "at")))) (.c (.int 1)))) (.cons (.ite (.cmp .ge (.v 2) (.bin .pow (.c (.int 10)) (.c (.int 18)))) (.cons (.setix (.v 0) (.c (.str (.ofString "digits"))) (.bin .sub (.v 2) (.bin .pow (.c (.int 10)) (.c (.int 18))))) .nil) (.cons (.setix (.v 0) (.c (.str (.ofString "fold"))) (.bin .mod (.bi .int (.cons (.bin .add (.bin .mul (.ix (.v 0) (.c (.str (.ofString "fold")))) (.c (.int 28001))) (.v 2)) .nil)) (.c (.int 2147482943)))) .nil)) .nil))) (.nil)) (.cons (.ite (.cmp .gt (.ix (.v 0) (.c (.str (.ofString "digits")))) (.c (.int 0))) (.cons (.set (.nm 3) (.bin .mod (.bi .int (.cons (.ix (.v 0) (.c (.str (.ofString "digits")))) .nil)) (.v 1))) (.cons (.setix (.v 0) (.c (.str (.ofString "digits"))) (.bin .fdiv (.ix (.v 0) (.c (.str (.ofString "digits")))) (.v 1))) (.cons (.ret (.v 3)) .nil))) (.nil)) (.cons (.set (.nm 4) (.bin .add (.bin .add (.ix (.v 0) (.c (.str (.ofString "fold")))) (.bin .mul (.ix (.v 0) (.c (.str (.ofString "count")))) (.c (.int 6007)))) (.c (.int 173)))) (.cons (.ret (.bin .mod (.bin .fdiv (.bi .int (.cons (.bin .mod (.bin .pow (.v 4) (.c (.int 63))) (.c (.int 2305843009213693951))) .nil)) (.c (.int 512))) (.v 1))) .nil))))⟩
def d16 : DefT := ⟨⟨((.ofString "_law_draw"), none), (.ofString "_law_draw"), (.ofString "_law_draw"), defArgs (stA 27), defBody (stA 27), defScope (stA 27), [], []⟩, [(.ofString "pen"), (.ofString "many"), (.ofString "cell"), (.ofString "digit"), (.ofString "blend")], [(.ofString "pen"), (.ofString "many")], false, f16⟩
/-- _law_pick -/
def f17 : Fd := ⟨2, 2, [], .cons (.ret (.ix (.v 1) (.call 16 (.cons (.v 0) (.cons (.bi .len (.cons (.v 1) .nil)) .nil))))) .nil⟩
def d17 : DefT := ⟨⟨((.ofString "_law_pick"), none), (.ofString "_law_pick"), (.ofString "_law_pick"), defArgs (stA 28), defBody (stA 28), defScope (stA 28), [], []⟩, [(.ofString "pen"), (.ofString "some")], [(.ofString "pen"), (.ofString "some")], false, f17⟩
/-- _law_gcd -/
def f18 : Fd := ⟨2, 3, [], .cons (.par [0, 1] (.cons (.bi .abs (.cons (.v 0) .nil)) (.cons (.bi .abs (.cons (.v 1) .nil)) .nil))) (.cons (.loop (.nm 2) .rng1 (.cons (.bin .add (.c (.int 4)) (.bin .mul (.c (.int 2)) (.bi .bits (.cons (.bi .int (.cons (.v 1) .nil)) .nil)))) .nil) (.cons (.ite (.cmp .eq (.v 1) (.c (.int 0))) (.cons (.brk) .nil) (.nil)) (.cons (.par [0, 1] (.cons (.v 1) (.cons (.bin .mod (.bi .int (.cons (.v 0) .nil)) (.v 1)) .nil))) .nil))) (.cons (.ret (.v 0)) .nil))⟩
def d18 : DefT := ⟨⟨((.ofString "_law_gcd"), none), (.ofString "_law_gcd"), (.ofString "_law_gcd"), defArgs (stA 29), defBody (stA 29), defScope (stA 29), [], []⟩, [(.ofString "one"), (.ofString "two"), (.ofString "lap")], [(.ofString "one"), (.ofString "two")], false, f18⟩
/-- _law_q -/
def f19 : Fd := ⟨2, 3, [], .cons (.set (.nm 2) (.call 18 (.cons (.v 0) (.cons (.v 1) .nil)))) (.cons (.set (.nm 2) (.ite (.cmp .lt (.v 1) (.c (.int 0))) (.neg (.v 2)) (.v 2))) (.cons (.ret (.tup (.cons (.bin .fdiv (.v 0) (.v 2)) (.cons (.bin .fdiv (.v 1) (.v 2)) .nil)))) .nil))⟩
def d19 : DefT := ⟨⟨((.ofString "_law_q"), none), (.ofString "_law_q"), (.ofString "_law_q"), defArgs (stA 30), defBody (stA 30), defScope (stA 30), [], []⟩, [(.ofString "top"), (.ofString "bottom"), (.ofString "by")], [(.ofString "top"), (.ofString "bottom")], false, f19⟩
/-- _law_plus -/
def f20 : Fd := ⟨2, 2, [], .cons (.ret (.call 19 (.cons (.bin .add (.bin .mul (.ix (.v 0) (.c (.int 0))) (.ix (.v 1) (.c (.int 1)))) (.bin .mul (.ix (.v 1) (.c (.int 0))) (.ix (.v 0) (.c (.int 1))))) (.cons (.bin .mul (.ix (.v 0) (.c (.int 1))) (.ix (.v 1) (.c (.int 1)))) .nil)))) .nil⟩
def d20 : DefT := ⟨⟨((.ofString "_law_plus"), none), (.ofString "_law_plus"), (.ofString "_law_plus"), defArgs (stA 31), defBody (stA 31), defScope (stA 31), [], []⟩, [(.ofString "one"), (.ofString "two")], [(.ofString "one"), (.ofString "two")], false, f20⟩
/-- _law_times -/
def f21 : Fd := ⟨2, 2, [], .cons (.ret (.call 19 (.cons (.bin .mul (.ix (.v 0) (.c (.int 0))) (.ix (.v 1) (.c (.int 0)))) (.cons (.bin .mul (.ix (.v 0) (.c (.int 1))) (.ix (.v 1) (.c (.int 1)))) .nil)))) .nil⟩
def d21 : DefT := ⟨⟨((.ofString "_law_times"), none), (.ofString "_law_times"), (.ofString "_law_times"), defArgs (stA 32), defBody (stA 32), defScope (stA 32), [], []⟩, [(.ofString "one"), (.ofString "two")], [(.ofString "one"), (.ofString "two")], false, f21⟩
/-- _law_less -/
def f22 : Fd := ⟨2, 2, [], .cons (.ret (.cmp .lt (.bin .mul (.ix (.v 0) (.c (.int 0))) (.ix (.v 1) (.c (.int 1)))) (.bin .mul (.ix (.v 1) (.c (.int 0))) (.ix (.v 0) (.c (.int 1)))))) .nil⟩
def d22 : DefT := ⟨⟨((.ofString "_law_less"), none), (.ofString "_law_less"), (.ofString "_law_less"), defArgs (stA 33), defBody (stA 33), defScope (stA 33), [], []⟩, [(.ofString "one"), (.ofString "two")], [(.ofString "one"), (.ofString "two")], false, f22⟩
/-- _law_minus -/
def f23 : Fd := ⟨2, 2, [], .cons (.ret (.call 19 (.cons (.bin .sub (.bin .mul (.ix (.v 0) (.c (.int 0))) (.ix (.v 1) (.c (.int 1)))) (.bin .mul (.ix (.v 1) (.c (.int 0))) (.ix (.v 0) (.c (.int 1))))) (.cons (.bin .mul (.ix (.v 0) (.c (.int 1))) (.ix (.v 1) (.c (.int 1)))) .nil)))) .nil⟩
def d23 : DefT := ⟨⟨((.ofString "_law_minus"), none), (.ofString "_law_minus"), (.ofString "_law_minus"), defArgs (stA 34), defBody (stA 34), defScope (stA 34), [], []⟩, [(.ofString "one"), (.ofString "two")], [(.ofString "one"), (.ofString "two")], false, f23⟩
/-- _law_share -/
def f24 : Fd := ⟨2, 2, [], .cons (.ret (.call 19 (.cons (.bin .mul (.ix (.v 0) (.c (.int 0))) (.ix (.v 1) (.c (.int 1)))) (.cons (.bin .mul (.ix (.v 0) (.c (.int 1))) (.ix (.v 1) (.c (.int 0)))) .nil)))) .nil⟩
def d24 : DefT := ⟨⟨((.ofString "_law_share"), none), (.ofString "_law_share"), (.ofString "_law_share"), defArgs (stA 35), defBody (stA 35), defScope (stA 35), [], []⟩, [(.ofString "one"), (.ofString "two")], [(.ofString "one"), (.ofString "two")], false, f24⟩
/-- _law_number -/
def f25 : Fd := ⟨2, 3, [], .cons (.set (.nm 2) (.bin .sub (.call 16 (.cons (.v 0) (.cons (.bin .add (.bin .mul (.c (.int 2)) (.v 1)) (.c (.int 1))) .nil))) (.v 1))) (.cons (.ret (.call 19 (.cons (.v 2) (.cons (.call 17 (.cons (.v 0) (.cons (.lst (.cons (.c (.int 1)) (.cons (.c (.int 1)) (.cons (.c (.int 1)) (.cons (.c (.int 2)) (.cons (.c (.int 3)) .nil)))))) .nil))) .nil)))) .nil)⟩
def d25 : DefT := ⟨⟨((.ofString "_law_number"), none), (.ofString "_law_number"), (.ofString "_law_number"), defArgs (stA 36), defBody (stA 36), defScope (stA 36), [], []⟩, [(.ofString "pen"), (.ofString "most"), (.ofString "top")], [(.ofString "pen"), (.ofString "most")], false, f25⟩
/-- _law_handed -/
def f26 : Fd := ⟨2, 3, [], .cons (.ite (.and (.cmp .eq (.ix (.v 1) (.c (.int 1))) (.c (.int 1))) (.cmp .eq (.call 16 (.cons (.v 0) (.cons (.c (.int 2)) .nil))) (.c (.int 0)))) (.cons (.ret (.ix (.v 1) (.c (.int 0)))) .nil) (.nil)) (.cons (.set (.nm 2) (.call 17 (.cons (.v 0) (.cons (.lst (.cons (.c (.int 1)) (.cons (.c (.int 1)) (.cons (.c (.int 2)) (.cons (.c (.int 5)) .nil))))) .nil)))) (.cons (.ret (.call 17 (.cons (.v 0) (.cons (.lst (.cons (.tup (.cons (.bin .mul (.ix (.v 1) (.c (.int 0))) (.v 2)) (.cons (.bin .mul (.ix (.v 1) (.c (.int 1))) (.v 2)) .nil))) (.cons (.lst (.cons (.bin .mul (.ix (.v 1) (.c (.int 0))) (.v 2)) (.cons (.bin .mul (.ix (.v 1) (.c (.int 1))) (.v 2)) .nil))) .nil))) .nil)))) .nil))⟩
def d26 : DefT := ⟨⟨((.ofString "_law_handed"), none), (.ofString "_law_handed"), (.ofString "_law_handed"), defArgs (stA 37), defBody (stA 37), defScope (stA 37), [], []⟩, [(.ofString "pen"), (.ofString "ratio"), (.ofString "by")], [(.ofString "pen"), (.ofString "ratio")], false, f26⟩
/-- _law_fault -/
def f27 : Fd := ⟨1, 2, [], .cons (.tri (.cons (.ex (.app (.v 0) (.nil))) (.cons (.ret (.c .non)) .nil)) [(1, [.inl (.str (.ofString "text")), .inr 0, .inr 1]), (0, [.inl (.str (.ofString "number")), .inr 0, .inr 1]), (2, [.inl (.str (.ofString "row")), .inr 0]), (4, [.inl (.str (.ofString "many")), .inr 0, .inr 1, .inr 2]), (3, [.inl (.str (.ofString "unlike")), .inr 0])]) .nil⟩
def d27 : DefT := ⟨⟨((.ofString "_law_fault"), none), (.ofString "_law_fault"), (.ofString "_law_fault"), defArgs (stA 38), defBody (stA 38), defScope (stA 38), [], []⟩, [(.ofString "action"), (.ofString "error")], [(.ofString "action")], false, f27⟩
/-- _law_are_due -/
def f28 : Fd := ⟨1, 3, [], .cons (.ret (.bi .all (.cons (.comp [1, 2] (.tup [.nm 1, .nm 2]) .val (.cons (.v 0) .nil) (.no) (.cmp .eq (.bi .repr (.cons (.call 27 (.cons (.v 1) .nil)) .nil)) (.bi .repr (.cons (.v 2) .nil)))) .nil))) .nil⟩
def d28 : DefT := ⟨⟨((.ofString "_law_are_due"), none), (.ofString "_law_are_due"), (.ofString "_law_are_due"), defArgs (stA 39), defBody (stA 39), defScope (stA 39), [], []⟩, [(.ofString "tries"), (.ofString "action"), (.ofString "due")], [(.ofString "tries")], false, f28⟩
/-- law -/
def f29 : Fd := ⟨1, 12, [9, 10, 11], .cons (.set (.nm 1) (.call 15 (.cons (.v 0) .nil))) (.cons (.loop (.nm 2) .rng1 (.cons (.c (.int 6)) .nil) (.cons (.par [3, 4] (.cons (.call 25 (.cons (.v 1) (.cons (.call 17 (.cons (.v 1) (.cons (.lst (.cons (.c (.int 4)) (.cons (.c (.int 99999)) .nil))) .nil))) .nil))) (.cons (.call 25 (.cons (.v 1) (.cons (.c (.int 9)) .nil))) .nil))) (.cons (.ite (.cmp .eq (.call 16 (.cons (.v 1) (.cons (.c (.int 3)) .nil))) (.c (.int 0))) (.cons (.set (.nm 3) (.call 19 (.cons (.bin .sub (.bin .mul (.ix (.v 3) (.c (.int 0))) (.c (.int 5))) (.c (.int 3))) (.cons (.c (.int 999959)) .nil)))) .nil) (.nil)) (.cons (.par [5, 6] (.cons (.call 26 (.cons (.v 1) (.cons (.v 3) .nil))) (.cons (.call 26 (.cons (.v 1) (.cons (.v 4) .nil))) .nil))) (.cons (.set (.nm 7) (.lst (.cons (.v 3) (.cons (.call 20 (.cons (.v 3) (.cons (.v 4) .nil))) (.cons (.call 23 (.cons (.v 3) (.cons (.v 4) .nil))) (.cons (.call 21 (.cons (.v 3) (.cons (.v 4) .nil))) (.cons (.call 22 (.cons (.v 3) (.cons (.v 4) .nil))) .nil))))))) (.cons (.ite (.cmp .ne (.bi .repr (.cons (.lst (.cons (.call 4 (.cons (.v 5) .nil)) (.cons (.call 10 (.cons (.v 5) (.cons (.v 6) .nil))) (.cons (.call 11 (.cons (.v 5) (.cons (.v 6) .nil))) (.cons (.call 12 (.cons (.v 5) (.cons (.v 6) .nil))) (.cons (.call 14 (.cons (.v 5) (.cons (.v 6) .nil))) .nil)))))) .nil)) (.bi .repr (.cons (.v 7) .nil))) (.cons (.ret (.c (.bl false))) .nil) (.nil)) (.cons (.ite (.cmp .ne (.bi .repr (.cons (.call 2 (.cons (.v 5) .nil)) .nil)) (.bi .repr (.cons (.not (.bi .isinst (.cons (.v 5) (.cons (.c (.ty 3)) .nil)))) .nil))) (.cons (.ret (.c (.bl false))) .nil) (.nil)) (.cons (.ite (.and (.cmp .ne (.ix (.v 4) (.c (.int 0))) (.c (.int 0))) (.cmp .ne (.bi .repr (.cons (.call 13 (.cons (.v 5) (.cons (.v 6) .nil))) .nil)) (.bi .repr (.cons (.call 24 (.cons (.v 3) (.cons (.v 4) .nil))) .nil)))) (.cons (.ret (.c (.bl false))) .nil) (.nil)) .nil)))))))) (.cons (.set (.nm 9) (.call 17 (.cons (.v 1) (.cons (.lst (.cons (.c .non) (.cons (.c (.str (.ofString "1"))) (.cons (.tup (.cons (.c (.int 1)) .nil)) (.cons (.tup (.cons (.c (.int 1)) (.cons (.c (.int 0)) .nil))) (.cons (.tup (.cons (.c (.int 1)) (.cons (.neg (.c (.int 2))) .nil))) (.cons (.tup (.cons (.c (.bl true)) (.cons (.c (.int 2)) .nil))) (.cons (.tup (.cons (.c (.int 1)) (.cons (.c (.bl true)) .nil))) (.cons (.c (.bl true)) (.cons (.tup (.cons (.c (.int 1)) (.cons (.c (.int 2)) (.cons (.c (.int 3)) .nil)))) (.cons (.lst (.nil)) (.cons (.dct [] .nil) .nil)))))))))))) .nil)))) (.cons (.set (.tup [.nm 10, .nm 11]) (.tup (.cons (.call 17 (.cons (.v 1) (.cons (.lst (.cons (.c (.str (.ofString "x"))) (.cons (.tup (.cons (.c (.int 0)) (.cons (.c (.int 0)) .nil))) (.cons (.c .non) .nil)))) .nil))) (.cons (.call 17 (.cons (.v 1) (.cons (.lst (.cons (.c (.int 0)) (.cons (.tup (.cons (.c (.int 0)) (.cons (.c (.int 6)) .nil))) .nil))) .nil))) .nil)))) (.cons (.own 8 (.lst (.cons (.tup (.cons (.lam 0 [9]) (.cons (.tup (.cons (.c (.str (.ofString "row"))) (.cons (.v 9) .nil))) .nil))) .nil))) (.cons (.app 8 (.tup (.cons (.lam 1 [9, 10]) (.cons (.tup (.cons (.c (.str (.ofString "row"))) (.cons (.v 9) .nil))) .nil)))) (.cons (.app 8 (.tup (.cons (.lam 2 [9]) (.cons (.tup (.cons (.c (.str (.ofString "row"))) (.cons (.v 9) .nil))) .nil)))) (.cons (.app 8 (.tup (.cons (.lam 3 [9, 10]) (.cons (.tup (.cons (.c (.str (.ofString "row"))) (.cons (.v 10) .nil))) .nil)))) (.cons (.app 8 (.tup (.cons (.lam 4 [9]) (.cons (.tup (.cons (.c (.str (.ofString "row"))) (.cons (.v 9) .nil))) .nil)))) (.cons (.app 8 (.tup (.cons (.lam 5 [9]) (.cons (.tup (.cons (.c (.str (.ofString "row"))) (.cons (.v 9) .nil))) .nil)))) (.cons (.app 8 (.tup (.cons (.lam 6 [9]) (.cons (.tup (.cons (.c (.str (.ofString "row"))) (.cons (.v 9) .nil))) .nil)))) (.cons (.app 8 (.tup (.cons (.lam 7 [11]) (.cons (.tup (.cons (.c (.str (.ofString "number"))) (.cons (.c (.str (.ofString "share"))) (.cons (.c (.int 0)) .nil)))) .nil)))) (.cons (.ret (.and (.cmp .is (.call 2 (.cons (.v 9) .nil)) (.c (.bl false))) (.call 28 (.cons (.v 8) .nil)))) .nil))))))))))))⟩
def d29 : DefT := ⟨⟨((.ofString "law"), none), (.ofString "law"), (.ofString "law"), defArgs (stA 40), defBody (stA 40), defScope (stA 40), [], []⟩, [(.ofString "script"), (.ofString "pen"), (.ofString "lap"), (.ofString "one"), (.ofString "two"), (.ofString "a"), (.ofString "b"), (.ofString "due"), (.ofString "tries"), (.ofString "bad"), (.ofString "odd"), (.ofString "zero")], [(.ofString "script")], true, f29⟩
def e0 : ErrI := ⟨(.ofString "BadNumber"), [(.ofString "what"), (.ofString "number")], (.ofString "BeamError"), ⟨((.ofString "BadNumber"), some (.ofString "__init__")), (.ofString "__init__"), (.ofString "BadNumber.__init__"), defArgs (stM 3 0), defBody (stM 3 0), defScope (stM 3 0), [], []⟩⟩
def e1 : ErrI := ⟨(.ofString "BadText"), [(.ofString "line"), (.ofString "column")], (.ofString "BeamError"), ⟨((.ofString "BadText"), some (.ofString "__init__")), (.ofString "__init__"), (.ofString "BadText.__init__"), defArgs (stM 4 0), defBody (stM 4 0), defScope (stM 4 0), [], []⟩⟩
def e2 : ErrI := ⟨(.ofString "BadRow"), [(.ofString "row")], (.ofString "BeamError"), ⟨((.ofString "BadRow"), some (.ofString "__init__")), (.ofString "__init__"), (.ofString "BadRow.__init__"), defArgs (stM 5 0), defBody (stM 5 0), defScope (stM 5 0), [], []⟩⟩
def e3 : ErrI := ⟨(.ofString "Unlike"), [(.ofString "what")], (.ofString "BeamError"), ⟨((.ofString "Unlike"), some (.ofString "__init__")), (.ofString "__init__"), (.ofString "Unlike.__init__"), defArgs (stM 6 0), defBody (stM 6 0), defScope (stM 6 0), [], []⟩⟩
def e4 : ErrI := ⟨(.ofString "TooMany"), [(.ofString "what"), (.ofString "many"), (.ofString "limit")], (.ofString "BeamError"), ⟨((.ofString "TooMany"), some (.ofString "__init__")), (.ofString "__init__"), (.ofString "TooMany.__init__"), defArgs (stM 7 0), defBody (stM 7 0), defScope (stM 7 0), [], []⟩⟩
def l0 : Ld := ⟨0, 1, .call 4 (.cons (.v 0) .nil)⟩
def l1 : Ld := ⟨0, 2, .call 10 (.cons (.v 0) (.cons (.v 1) .nil))⟩
def l2 : Ld := ⟨0, 1, .call 11 (.cons (.c (.int 1)) (.cons (.v 0) .nil))⟩
def l3 : Ld := ⟨0, 2, .call 12 (.cons (.v 1) (.cons (.v 0) .nil))⟩
def l4 : Ld := ⟨0, 1, .call 14 (.cons (.tup (.cons (.c (.int 1)) (.cons (.c (.int 2)) .nil))) (.cons (.v 0) .nil))⟩
def l5 : Ld := ⟨0, 1, .call 13 (.cons (.v 0) (.cons (.c (.int 0)) .nil))⟩
def l6 : Ld := ⟨0, 1, .call 13 (.cons (.c (.int 1)) (.cons (.v 0) .nil))⟩
def l7 : Ld := ⟨0, 1, .call 13 (.cons (.c (.int 3)) (.cons (.v 0) .nil))⟩
def gks : List (Str × GK) := [((.ofString "BadNumber"), .cls 0), ((.ofString "BadRow"), .cls 2), ((.ofString "BadText"), .cls 1), ((.ofString "TooMany"), .cls 4), ((.ofString "Unlike"), .cls 3), ((.ofString "_law_are_due"), .fn 28), ((.ofString "_law_draw"), .fn 16), ((.ofString "_law_fault"), .fn 27), ((.ofString "_law_gcd"), .fn 18), ((.ofString "_law_handed"), .fn 26), ((.ofString "_law_less"), .fn 22), ((.ofString "_law_minus"), .fn 23), ((.ofString "_law_number"), .fn 25), ((.ofString "_law_pen"), .fn 15), ((.ofString "_law_pick"), .fn 17), ((.ofString "_law_plus"), .fn 20), ((.ofString "_law_q"), .fn 19), ((.ofString "_law_share"), .fn 24), ((.ofString "_law_times"), .fn 21), ((.ofString "abs"), .bt "abs"), ((.ofString "all"), .bt "all"), ((.ofString "below"), .fn 9), ((.ofString "bool"), .ty 1), ((.ofString "gcd"), .bf "math.gcd"), ((.ofString "int"), .ty 0), ((.ofString "is_pair"), .fn 1), ((.ofString "is_ratio"), .fn 2), ((.ofString "is_whole"), .fn 0), ((.ofString "isinstance"), .bt "isinstance"), ((.ofString "law"), .fn 29), ((.ofString "len"), .bt "len"), ((.ofString "less"), .fn 14), ((.ofString "lessened"), .fn 6), ((.ofString "list"), .ty 3), ((.ofString "lowest"), .fn 3), ((.ofString "minus"), .fn 11), ((.ofString "parted"), .fn 8), ((.ofString "plus"), .fn 10), ((.ofString "range"), .no), ((.ofString "repr"), .bt "repr"), ((.ofString "scaled"), .fn 7), ((.ofString "share"), .fn 13), ((.ofString "summed"), .fn 5), ((.ofString "times"), .fn 12), ((.ofString "told"), .fn 4), ((.ofString "tuple"), .ty 4)]
def mo : Mo := ⟨⟨gks, [[(.ofString "what"), (.ofString "number")], [(.ofString "line"), (.ofString "column")], [(.ofString "row")], [(.ofString "what")], [(.ofString "what"), (.ofString "many"), (.ofString "limit")]], 60, 200⟩, [d0, d1, d2, d3, d4, d5, d6, d7, d8, d9, d10, d11, d12, d13, d14, d15, d16, d17, d18, d19, d20, d21, d22, d23, d24, d25, d26, d27, d28, d29], [e0, e1, e2, e3, e4], [l0, l1, l2, l3, l4, l5, l6, l7]⟩
theorem b0 : BindD d0.dd d0.ps := fun _ _ _ _ _ _ us hl => match us, hl with
  | [_], _ => rfl
theorem b1 : BindD d1.dd d1.ps := fun _ _ _ _ _ _ us hl => match us, hl with
  | [_], _ => rfl
theorem b2 : BindD d2.dd d2.ps := fun _ _ _ _ _ _ us hl => match us, hl with
  | [_], _ => rfl
theorem b3 : BindD d3.dd d3.ps := fun _ _ _ _ _ _ us hl => match us, hl with
  | [_, _], _ => rfl
theorem b4 : BindD d4.dd d4.ps := fun _ _ _ _ _ _ us hl => match us, hl with
  | [_], _ => rfl
theorem b5 : BindD d5.dd d5.ps := fun _ _ _ _ _ _ us hl => match us, hl with
  | [_, _], _ => rfl
theorem b6 : BindD d6.dd d6.ps := fun _ _ _ _ _ _ us hl => match us, hl with
  | [_, _], _ => rfl
theorem b7 : BindD d7.dd d7.ps := fun _ _ _ _ _ _ us hl => match us, hl with
  | [_, _], _ => rfl
theorem b8 : BindD d8.dd d8.ps := fun _ _ _ _ _ _ us hl => match us, hl with
  | [_, _], _ => rfl
theorem b9 : BindD d9.dd d9.ps := fun _ _ _ _ _ _ us hl => match us, hl with
  | [_, _], _ => rfl
theorem b10 : BindD d10.dd d10.ps := fun _ _ _ _ _ _ us hl => match us, hl with
  | [_, _], _ => rfl
theorem b11 : BindD d11.dd d11.ps := fun _ _ _ _ _ _ us hl => match us, hl with
  | [_, _], _ => rfl
theorem b12 : BindD d12.dd d12.ps := fun _ _ _ _ _ _ us hl => match us, hl with
  | [_, _], _ => rfl
theorem b13 : BindD d13.dd d13.ps := fun _ _ _ _ _ _ us hl => match us, hl with
  | [_, _], _ => rfl
theorem b14 : BindD d14.dd d14.ps := fun _ _ _ _ _ _ us hl => match us, hl with
  | [_, _], _ => rfl
theorem b15 : BindD d15.dd d15.ps := fun _ _ _ _ _ _ us hl => match us, hl with
  | [_], _ => rfl
theorem b16 : BindD d16.dd d16.ps := fun _ _ _ _ _ _ us hl => match us, hl with
  | [_, _], _ => rfl
theorem b17 : BindD d17.dd d17.ps := fun _ _ _ _ _ _ us hl => match us, hl with
  | [_, _], _ => rfl
theorem b18 : BindD d18.dd d18.ps := fun _ _ _ _ _ _ us hl => match us, hl with
  | [_, _], _ => rfl
theorem b19 : BindD d19.dd d19.ps := fun _ _ _ _ _ _ us hl => match us, hl with
  | [_, _], _ => rfl
theorem b20 : BindD d20.dd d20.ps := fun _ _ _ _ _ _ us hl => match us, hl with
  | [_, _], _ => rfl
theorem b21 : BindD d21.dd d21.ps := fun _ _ _ _ _ _ us hl => match us, hl with
  | [_, _], _ => rfl
theorem b22 : BindD d22.dd d22.ps := fun _ _ _ _ _ _ us hl => match us, hl with
  | [_, _], _ => rfl
theorem b23 : BindD d23.dd d23.ps := fun _ _ _ _ _ _ us hl => match us, hl with
  | [_, _], _ => rfl
theorem b24 : BindD d24.dd d24.ps := fun _ _ _ _ _ _ us hl => match us, hl with
  | [_, _], _ => rfl
theorem b25 : BindD d25.dd d25.ps := fun _ _ _ _ _ _ us hl => match us, hl with
  | [_, _], _ => rfl
theorem b26 : BindD d26.dd d26.ps := fun _ _ _ _ _ _ us hl => match us, hl with
  | [_, _], _ => rfl
theorem b27 : BindD d27.dd d27.ps := fun _ _ _ _ _ _ us hl => match us, hl with
  | [_], _ => rfl
theorem b28 : BindD d28.dd d28.ps := fun _ _ _ _ _ _ us hl => match us, hl with
  | [_], _ => rfl
theorem b29 : BindD d29.dd d29.ps := fun _ _ _ _ _ _ us hl => match us, hl with
  | [_], _ => rfl
theorem be0 : BindD e0.d e0.ps := fun _ _ _ _ _ _ us hl => match us, hl with
  | [_, _, _], _ => rfl
theorem be1 : BindD e1.d e1.ps := fun _ _ _ _ _ _ us hl => match us, hl with
  | [_, _, _], _ => rfl
theorem be2 : BindD e2.d e2.ps := fun _ _ _ _ _ _ us hl => match us, hl with
  | [_, _], _ => rfl
theorem be3 : BindD e3.d e3.ps := fun _ _ _ _ _ _ us hl => match us, hl with
  | [_, _], _ => rfl
theorem be4 : BindD e4.d e4.ps := fun _ _ _ _ _ _ us hl => match us, hl with
  | [_, _, _, _], _ => rfl
theorem bds : ∀ t ∈ mo.ts, BindD t.dd t.ps := by
  show ∀ t ∈ [d0, d1, d2, d3, d4, d5, d6, d7, d8, d9, d10, d11, d12, d13, d14, d15, d16, d17, d18, d19, d20, d21, d22, d23, d24, d25, d26, d27, d28, d29], BindD t.dd t.ps
  simp only [List.mem_cons, List.not_mem_nil, or_false, forall_eq_or_imp, forall_eq]
  exact ⟨b0, b1, b2, b3, b4, b5, b6, b7, b8, b9, b10, b11, b12, b13, b14, b15, b16, b17, b18, b19, b20, b21, b22, b23, b24, b25, b26, b27, b28, b29⟩
theorem bes : ∀ e ∈ mo.es, BindD e.d e.ps := by
  show ∀ e ∈ [e0, e1, e2, e3, e4], BindD e.d e.ps
  simp only [List.mem_cons, List.not_mem_nil, or_false, forall_eq_or_imp, forall_eq]
  exact ⟨be0, be1, be2, be3, be4⟩
end K02
end
section
set_option maxRecDepth 100000
set_option maxHeartbeats 0
namespace K02
open PySem PySem.Spec PyProof.Rows L2 KP
theorem okT : mo.okT = true := by decide +kernel
end K02
end
section
set_option autoImplicit false
set_option linter.all false
set_option maxRecDepth 100000
set_option maxHeartbeats 4000000
namespace K02
open PySem KP
abbrev pg : Prg := ⟨(mo.ts.map (·.i)).map (·.F), mo.ls⟩
abbrev CX (n : Nat) : Cc := cc pg 1000 n
theorem call_eq (n f : Nat) (fd : Fd) (h : pg.fns[f]? = some fd) (a : List D) (s : So) : (CX (n + 1)).call f a s = runF (CX n) fd a s := by
  show (match pg.fns[f]? with
    | some fd => runF (CX n) fd a s
    | none => .stuck) = _
  rw [h]
theorem whole_int (n : Nat) (hn : 1 ≤ n) (i : Int) (s : So) : (CX n).call 0 [.int i] s = .ok (.bl true) s := by
  obtain ⟨m, rfl⟩ : ∃ m, n = m + 1 := ⟨n - 1, by omega⟩
  rw [call_eq m 0 f0 rfl]
  unfold f0
  refine (runF_eq _ _ _ _ _ _ (by rfl)).trans ?_
  simp (disch := first | assumption | omega | exact small_of (by decide) | rfl | decide) only [e_c, e_v, e_neg, negR_int, e_not, e_bin, e_cmp, e_and, e_or, e_ite, andR_t, andR_f, orR_t, orR_f, iteR_t, iteR_f, e_tup, e_lst, e_ix, e_call, e_app, goApp_fn, goApp_clo, e_bi, e_lam, cellsOf_nil, cellsOf_cons, cofV_cel, cofK_some, es_nil, es_cons, s_pass, s_ex, s_set, s_par, s_own, ownR_lst, ownV_no, ownV_v, s_setix, ownO_own, appK_ok, appR_eq, s_app, s_ite, ifR_t, ifR_f, s_loop, s_ret, s_brk, s_cont, s_rais, s_tri, triR_ok, ss_nil, ss_cons, seqR_nx, seqR_rt, seqR_bk, seqR_ct, R.bind_ok, R.bind_exc, R.of_some, rd_eq, rdv_v, rdv_cel, rdc_some, bi_len_tup, bi_len_lst, bi_abs, bi_max2, bi_min2, bi_gcd, bi_repr, bi_int, bi_list_l, bi_list_t, bi_bits, bi_isinst, bi_isinsts, isT_some, isTs_some, isAny_nil, isAny_cons,
    tyOf_int, tyOf_bl, tyOf_str, tyOf_lst, tyOf_tup, tyOf_non, tyOf_dct, bo_add, bo_sub, bo_mul, bo_fdiv, bo_mod, bo_pow, co_lt, co_le, co_gt, co_ge, co_eq, co_ne, co_is_bl, eqv_int, tru_non, tru_bl, tru_int, tru_tup, tru_lst, truR_eq, ix_tup, ix_lst, ix_ref, ixr_str, item0, item1, item2, lookK_cons,
    putAt_ref, putR_dic, keyOf_str, wr_eq, wrv_no, wrv_v, wrv_cel, wrc_cel, asg_nm, asg_tup, asgs_nil, asgs_cons, asgK_some, par_nil, par_cons, back_same, back_sameX, cells_cel, celB_some, celB_none, open_cel, parv_no, parv_v, back_ok, back_exc, cells_nil, cells_v, cells_no, open_nil, open_v, open_no, cells_own, open_own, shut_own, shut_nil, shut_v, shut_no, T_run, for_nil, walk_val_l, walk_val_t,
    fin_rt, fin_nx, fin_exc, env0_eq, List.map_cons, List.map_nil, List.replicate, List.cons_append, List.nil_append, List.append_nil, List.getElem?_cons_zero, List.getElem?_cons_succ, List.set_cons_zero, List.set_cons_succ, Option.map_some, if_true, Nat.reduceSub, Nat.reduceAdd, subTy, Nat.reduceLeDiff, reduceIte, Bool.not_true, Bool.not_false, Nat.reduceBEq, Bool.false_eq_true, Bool.or_false, Bool.or_true, Bool.false_or, Bool.true_or, Bool.and_true, Bool.true_and, Bool.and_false, Bool.false_and, lenI_nil, lenI_cons, Int.reduceAdd, Int.reduceEq, Int.reduceLT, Int.reduceLE, Int.reduceNeg, decide_true, decide_false, eq_self, not_true_eq_false, not_false_eq_true]
theorem whole_tup (n : Nat) (hn : 1 ≤ n) (i : List D) (s : So) : (CX n).call 0 [.tup i] s = .ok (.bl false) s := by
  obtain ⟨m, rfl⟩ : ∃ m, n = m + 1 := ⟨n - 1, by omega⟩
  rw [call_eq m 0 f0 rfl]
  unfold f0
  refine (runF_eq _ _ _ _ _ _ (by rfl)).trans ?_
  simp (disch := first | assumption | omega | exact small_of (by decide) | rfl | decide) only [e_c, e_v, e_neg, negR_int, e_not, e_bin, e_cmp, e_and, e_or, e_ite, andR_t, andR_f, orR_t, orR_f, iteR_t, iteR_f, e_tup, e_lst, e_ix, e_call, e_app, goApp_fn, goApp_clo, e_bi, e_lam, cellsOf_nil, cellsOf_cons, cofV_cel, cofK_some, es_nil, es_cons, s_pass, s_ex, s_set, s_par, s_own, ownR_lst, ownV_no, ownV_v, s_setix, ownO_own, appK_ok, appR_eq, s_app, s_ite, ifR_t, ifR_f, s_loop, s_ret, s_brk, s_cont, s_rais, s_tri, triR_ok, ss_nil, ss_cons, seqR_nx, seqR_rt, seqR_bk, seqR_ct, R.bind_ok, R.bind_exc, R.of_some, rd_eq, rdv_v, rdv_cel, rdc_some, bi_len_tup, bi_len_lst, bi_abs, bi_max2, bi_min2, bi_gcd, bi_repr, bi_int, bi_list_l, bi_list_t, bi_bits, bi_isinst, bi_isinsts, isT_some, isTs_some, isAny_nil, isAny_cons,
    tyOf_int, tyOf_bl, tyOf_str, tyOf_lst, tyOf_tup, tyOf_non, tyOf_dct, bo_add, bo_sub, bo_mul, bo_fdiv, bo_mod, bo_pow, co_lt, co_le, co_gt, co_ge, co_eq, co_ne, co_is_bl, eqv_int, tru_non, tru_bl, tru_int, tru_tup, tru_lst, truR_eq, ix_tup, ix_lst, ix_ref, ixr_str, item0, item1, item2, lookK_cons,
    putAt_ref, putR_dic, keyOf_str, wr_eq, wrv_no, wrv_v, wrv_cel, wrc_cel, asg_nm, asg_tup, asgs_nil, asgs_cons, asgK_some, par_nil, par_cons, back_same, back_sameX, cells_cel, celB_some, celB_none, open_cel, parv_no, parv_v, back_ok, back_exc, cells_nil, cells_v, cells_no, open_nil, open_v, open_no, cells_own, open_own, shut_own, shut_nil, shut_v, shut_no, T_run, for_nil, walk_val_l, walk_val_t,
    fin_rt, fin_nx, fin_exc, env0_eq, List.map_cons, List.map_nil, List.replicate, List.cons_append, List.nil_append, List.append_nil, List.getElem?_cons_zero, List.getElem?_cons_succ, List.set_cons_zero, List.set_cons_succ, Option.map_some, if_true, Nat.reduceSub, Nat.reduceAdd, subTy, Nat.reduceLeDiff, reduceIte, Bool.not_true, Bool.not_false, Nat.reduceBEq, Bool.false_eq_true, Bool.or_false, Bool.or_true, Bool.false_or, Bool.true_or, Bool.and_true, Bool.true_and, Bool.and_false, Bool.false_and, lenI_nil, lenI_cons, Int.reduceAdd, Int.reduceEq, Int.reduceLT, Int.reduceLE, Int.reduceNeg, decide_true, decide_false, eq_self, not_true_eq_false, not_false_eq_true]
theorem whole_lst (n : Nat) (hn : 1 ≤ n) (i : List D) (s : So) : (CX n).call 0 [.lst i] s = .ok (.bl false) s := by
  obtain ⟨m, rfl⟩ : ∃ m, n = m + 1 := ⟨n - 1, by omega⟩
  rw [call_eq m 0 f0 rfl]
  unfold f0
  refine (runF_eq _ _ _ _ _ _ (by rfl)).trans ?_
  simp (disch := first | assumption | omega | exact small_of (by decide) | rfl | decide) only [e_c, e_v, e_neg, negR_int, e_not, e_bin, e_cmp, e_and, e_or, e_ite, andR_t, andR_f, orR_t, orR_f, iteR_t, iteR_f, e_tup, e_lst, e_ix, e_call, e_app, goApp_fn, goApp_clo, e_bi, e_lam, cellsOf_nil, cellsOf_cons, cofV_cel, cofK_some, es_nil, es_cons, s_pass, s_ex, s_set, s_par, s_own, ownR_lst, ownV_no, ownV_v, s_setix, ownO_own, appK_ok, appR_eq, s_app, s_ite, ifR_t, ifR_f, s_loop, s_ret, s_brk, s_cont, s_rais, s_tri, triR_ok, ss_nil, ss_cons, seqR_nx, seqR_rt, seqR_bk, seqR_ct, R.bind_ok, R.bind_exc, R.of_some, rd_eq, rdv_v, rdv_cel, rdc_some, bi_len_tup, bi_len_lst, bi_abs, bi_max2, bi_min2, bi_gcd, bi_repr, bi_int, bi_list_l, bi_list_t, bi_bits, bi_isinst, bi_isinsts, isT_some, isTs_some, isAny_nil, isAny_cons,
    tyOf_int, tyOf_bl, tyOf_str, tyOf_lst, tyOf_tup, tyOf_non, tyOf_dct, bo_add, bo_sub, bo_mul, bo_fdiv, bo_mod, bo_pow, co_lt, co_le, co_gt, co_ge, co_eq, co_ne, co_is_bl, eqv_int, tru_non, tru_bl, tru_int, tru_tup, tru_lst, truR_eq, ix_tup, ix_lst, ix_ref, ixr_str, item0, item1, item2, lookK_cons,
    putAt_ref, putR_dic, keyOf_str, wr_eq, wrv_no, wrv_v, wrv_cel, wrc_cel, asg_nm, asg_tup, asgs_nil, asgs_cons, asgK_some, par_nil, par_cons, back_same, back_sameX, cells_cel, celB_some, celB_none, open_cel, parv_no, parv_v, back_ok, back_exc, cells_nil, cells_v, cells_no, open_nil, open_v, open_no, cells_own, open_own, shut_own, shut_nil, shut_v, shut_no, T_run, for_nil, walk_val_l, walk_val_t,
    fin_rt, fin_nx, fin_exc, env0_eq, List.map_cons, List.map_nil, List.replicate, List.cons_append, List.nil_append, List.append_nil, List.getElem?_cons_zero, List.getElem?_cons_succ, List.set_cons_zero, List.set_cons_succ, Option.map_some, if_true, Nat.reduceSub, Nat.reduceAdd, subTy, Nat.reduceLeDiff, reduceIte, Bool.not_true, Bool.not_false, Nat.reduceBEq, Bool.false_eq_true, Bool.or_false, Bool.or_true, Bool.false_or, Bool.true_or, Bool.and_true, Bool.true_and, Bool.and_false, Bool.false_and, lenI_nil, lenI_cons, Int.reduceAdd, Int.reduceEq, Int.reduceLT, Int.reduceLE, Int.reduceNeg, decide_true, decide_false, eq_self, not_true_eq_false, not_false_eq_true]
theorem whole_bl (n : Nat) (hn : 1 ≤ n) (i : Bool) (s : So) : (CX n).call 0 [.bl i] s = .ok (.bl false) s := by
  obtain ⟨m, rfl⟩ : ∃ m, n = m + 1 := ⟨n - 1, by omega⟩
  rw [call_eq m 0 f0 rfl]
  unfold f0
  refine (runF_eq _ _ _ _ _ _ (by rfl)).trans ?_
  simp (disch := first | assumption | omega | exact small_of (by decide) | rfl | decide) only [e_c, e_v, e_neg, negR_int, e_not, e_bin, e_cmp, e_and, e_or, e_ite, andR_t, andR_f, orR_t, orR_f, iteR_t, iteR_f, e_tup, e_lst, e_ix, e_call, e_app, goApp_fn, goApp_clo, e_bi, e_lam, cellsOf_nil, cellsOf_cons, cofV_cel, cofK_some, es_nil, es_cons, s_pass, s_ex, s_set, s_par, s_own, ownR_lst, ownV_no, ownV_v, s_setix, ownO_own, appK_ok, appR_eq, s_app, s_ite, ifR_t, ifR_f, s_loop, s_ret, s_brk, s_cont, s_rais, s_tri, triR_ok, ss_nil, ss_cons, seqR_nx, seqR_rt, seqR_bk, seqR_ct, R.bind_ok, R.bind_exc, R.of_some, rd_eq, rdv_v, rdv_cel, rdc_some, bi_len_tup, bi_len_lst, bi_abs, bi_max2, bi_min2, bi_gcd, bi_repr, bi_int, bi_list_l, bi_list_t, bi_bits, bi_isinst, bi_isinsts, isT_some, isTs_some, isAny_nil, isAny_cons,
    tyOf_int, tyOf_bl, tyOf_str, tyOf_lst, tyOf_tup, tyOf_non, tyOf_dct, bo_add, bo_sub, bo_mul, bo_fdiv, bo_mod, bo_pow, co_lt, co_le, co_gt, co_ge, co_eq, co_ne, co_is_bl, eqv_int, tru_non, tru_bl, tru_int, tru_tup, tru_lst, truR_eq, ix_tup, ix_lst, ix_ref, ixr_str, item0, item1, item2, lookK_cons,
    putAt_ref, putR_dic, keyOf_str, wr_eq, wrv_no, wrv_v, wrv_cel, wrc_cel, asg_nm, asg_tup, asgs_nil, asgs_cons, asgK_some, par_nil, par_cons, back_same, back_sameX, cells_cel, celB_some, celB_none, open_cel, parv_no, parv_v, back_ok, back_exc, cells_nil, cells_v, cells_no, open_nil, open_v, open_no, cells_own, open_own, shut_own, shut_nil, shut_v, shut_no, T_run, for_nil, walk_val_l, walk_val_t,
    fin_rt, fin_nx, fin_exc, env0_eq, List.map_cons, List.map_nil, List.replicate, List.cons_append, List.nil_append, List.append_nil, List.getElem?_cons_zero, List.getElem?_cons_succ, List.set_cons_zero, List.set_cons_succ, Option.map_some, if_true, Nat.reduceSub, Nat.reduceAdd, subTy, Nat.reduceLeDiff, reduceIte, Bool.not_true, Bool.not_false, Nat.reduceBEq, Bool.false_eq_true, Bool.or_false, Bool.or_true, Bool.false_or, Bool.true_or, Bool.and_true, Bool.true_and, Bool.and_false, Bool.false_and, lenI_nil, lenI_cons, Int.reduceAdd, Int.reduceEq, Int.reduceLT, Int.reduceLE, Int.reduceNeg, decide_true, decide_false, eq_self, not_true_eq_false, not_false_eq_true]
theorem whole_str (n : Nat) (hn : 1 ≤ n) (i : Str) (s : So) : (CX n).call 0 [.str i] s = .ok (.bl false) s := by
  obtain ⟨m, rfl⟩ : ∃ m, n = m + 1 := ⟨n - 1, by omega⟩
  rw [call_eq m 0 f0 rfl]
  unfold f0
  refine (runF_eq _ _ _ _ _ _ (by rfl)).trans ?_
  simp (disch := first | assumption | omega | exact small_of (by decide) | rfl | decide) only [e_c, e_v, e_neg, negR_int, e_not, e_bin, e_cmp, e_and, e_or, e_ite, andR_t, andR_f, orR_t, orR_f, iteR_t, iteR_f, e_tup, e_lst, e_ix, e_call, e_app, goApp_fn, goApp_clo, e_bi, e_lam, cellsOf_nil, cellsOf_cons, cofV_cel, cofK_some, es_nil, es_cons, s_pass, s_ex, s_set, s_par, s_own, ownR_lst, ownV_no, ownV_v, s_setix, ownO_own, appK_ok, appR_eq, s_app, s_ite, ifR_t, ifR_f, s_loop, s_ret, s_brk, s_cont, s_rais, s_tri, triR_ok, ss_nil, ss_cons, seqR_nx, seqR_rt, seqR_bk, seqR_ct, R.bind_ok, R.bind_exc, R.of_some, rd_eq, rdv_v, rdv_cel, rdc_some, bi_len_tup, bi_len_lst, bi_abs, bi_max2, bi_min2, bi_gcd, bi_repr, bi_int, bi_list_l, bi_list_t, bi_bits, bi_isinst, bi_isinsts, isT_some, isTs_some, isAny_nil, isAny_cons,
    tyOf_int, tyOf_bl, tyOf_str, tyOf_lst, tyOf_tup, tyOf_non, tyOf_dct, bo_add, bo_sub, bo_mul, bo_fdiv, bo_mod, bo_pow, co_lt, co_le, co_gt, co_ge, co_eq, co_ne, co_is_bl, eqv_int, tru_non, tru_bl, tru_int, tru_tup, tru_lst, truR_eq, ix_tup, ix_lst, ix_ref, ixr_str, item0, item1, item2, lookK_cons,
    putAt_ref, putR_dic, keyOf_str, wr_eq, wrv_no, wrv_v, wrv_cel, wrc_cel, asg_nm, asg_tup, asgs_nil, asgs_cons, asgK_some, par_nil, par_cons, back_same, back_sameX, cells_cel, celB_some, celB_none, open_cel, parv_no, parv_v, back_ok, back_exc, cells_nil, cells_v, cells_no, open_nil, open_v, open_no, cells_own, open_own, shut_own, shut_nil, shut_v, shut_no, T_run, for_nil, walk_val_l, walk_val_t,
    fin_rt, fin_nx, fin_exc, env0_eq, List.map_cons, List.map_nil, List.replicate, List.cons_append, List.nil_append, List.append_nil, List.getElem?_cons_zero, List.getElem?_cons_succ, List.set_cons_zero, List.set_cons_succ, Option.map_some, if_true, Nat.reduceSub, Nat.reduceAdd, subTy, Nat.reduceLeDiff, reduceIte, Bool.not_true, Bool.not_false, Nat.reduceBEq, Bool.false_eq_true, Bool.or_false, Bool.or_true, Bool.false_or, Bool.true_or, Bool.and_true, Bool.true_and, Bool.and_false, Bool.false_and, lenI_nil, lenI_cons, Int.reduceAdd, Int.reduceEq, Int.reduceLT, Int.reduceLE, Int.reduceNeg, decide_true, decide_false, eq_self, not_true_eq_false, not_false_eq_true]
theorem whole_non (n : Nat) (hn : 1 ≤ n) (s : So) : (CX n).call 0 [.non] s = .ok (.bl false) s := by
  obtain ⟨m, rfl⟩ : ∃ m, n = m + 1 := ⟨n - 1, by omega⟩
  rw [call_eq m 0 f0 rfl]
  unfold f0
  refine (runF_eq _ _ _ _ _ _ (by rfl)).trans ?_
  simp (disch := first | assumption | omega | exact small_of (by decide) | rfl | decide) only [e_c, e_v, e_neg, negR_int, e_not, e_bin, e_cmp, e_and, e_or, e_ite, andR_t, andR_f, orR_t, orR_f, iteR_t, iteR_f, e_tup, e_lst, e_ix, e_call, e_app, goApp_fn, goApp_clo, e_bi, e_lam, cellsOf_nil, cellsOf_cons, cofV_cel, cofK_some, es_nil, es_cons, s_pass, s_ex, s_set, s_par, s_own, ownR_lst, ownV_no, ownV_v, s_setix, ownO_own, appK_ok, appR_eq, s_app, s_ite, ifR_t, ifR_f, s_loop, s_ret, s_brk, s_cont, s_rais, s_tri, triR_ok, ss_nil, ss_cons, seqR_nx, seqR_rt, seqR_bk, seqR_ct, R.bind_ok, R.bind_exc, R.of_some, rd_eq, rdv_v, rdv_cel, rdc_some, bi_len_tup, bi_len_lst, bi_abs, bi_max2, bi_min2, bi_gcd, bi_repr, bi_int, bi_list_l, bi_list_t, bi_bits, bi_isinst, bi_isinsts, isT_some, isTs_some, isAny_nil, isAny_cons,
    tyOf_int, tyOf_bl, tyOf_str, tyOf_lst, tyOf_tup, tyOf_non, tyOf_dct, bo_add, bo_sub, bo_mul, bo_fdiv, bo_mod, bo_pow, co_lt, co_le, co_gt, co_ge, co_eq, co_ne, co_is_bl, eqv_int, tru_non, tru_bl, tru_int, tru_tup, tru_lst, truR_eq, ix_tup, ix_lst, ix_ref, ixr_str, item0, item1, item2, lookK_cons,
    putAt_ref, putR_dic, keyOf_str, wr_eq, wrv_no, wrv_v, wrv_cel, wrc_cel, asg_nm, asg_tup, asgs_nil, asgs_cons, asgK_some, par_nil, par_cons, back_same, back_sameX, cells_cel, celB_some, celB_none, open_cel, parv_no, parv_v, back_ok, back_exc, cells_nil, cells_v, cells_no, open_nil, open_v, open_no, cells_own, open_own, shut_own, shut_nil, shut_v, shut_no, T_run, for_nil, walk_val_l, walk_val_t,
    fin_rt, fin_nx, fin_exc, env0_eq, List.map_cons, List.map_nil, List.replicate, List.cons_append, List.nil_append, List.append_nil, List.getElem?_cons_zero, List.getElem?_cons_succ, List.set_cons_zero, List.set_cons_succ, Option.map_some, if_true, Nat.reduceSub, Nat.reduceAdd, subTy, Nat.reduceLeDiff, reduceIte, Bool.not_true, Bool.not_false, Nat.reduceBEq, Bool.false_eq_true, Bool.or_false, Bool.or_true, Bool.false_or, Bool.true_or, Bool.and_true, Bool.true_and, Bool.and_false, Bool.false_and, lenI_nil, lenI_cons, Int.reduceAdd, Int.reduceEq, Int.reduceLT, Int.reduceLE, Int.reduceNeg, decide_true, decide_false, eq_self, not_true_eq_false, not_false_eq_true]
theorem whole_dct (n : Nat) (hn : 1 ≤ n) (k : List Str) (i : List D) (s : So) : (CX n).call 0 [.dct k i] s = .ok (.bl false) s := by
  obtain ⟨m, rfl⟩ : ∃ m, n = m + 1 := ⟨n - 1, by omega⟩
  rw [call_eq m 0 f0 rfl]
  unfold f0
  refine (runF_eq _ _ _ _ _ _ (by rfl)).trans ?_
  simp (disch := first | assumption | omega | exact small_of (by decide) | rfl | decide) only [e_c, e_v, e_neg, negR_int, e_not, e_bin, e_cmp, e_and, e_or, e_ite, andR_t, andR_f, orR_t, orR_f, iteR_t, iteR_f, e_tup, e_lst, e_ix, e_call, e_app, goApp_fn, goApp_clo, e_bi, e_lam, cellsOf_nil, cellsOf_cons, cofV_cel, cofK_some, es_nil, es_cons, s_pass, s_ex, s_set, s_par, s_own, ownR_lst, ownV_no, ownV_v, s_setix, ownO_own, appK_ok, appR_eq, s_app, s_ite, ifR_t, ifR_f, s_loop, s_ret, s_brk, s_cont, s_rais, s_tri, triR_ok, ss_nil, ss_cons, seqR_nx, seqR_rt, seqR_bk, seqR_ct, R.bind_ok, R.bind_exc, R.of_some, rd_eq, rdv_v, rdv_cel, rdc_some, bi_len_tup, bi_len_lst, bi_abs, bi_max2, bi_min2, bi_gcd, bi_repr, bi_int, bi_list_l, bi_list_t, bi_bits, bi_isinst, bi_isinsts, isT_some, isTs_some, isAny_nil, isAny_cons,
    tyOf_int, tyOf_bl, tyOf_str, tyOf_lst, tyOf_tup, tyOf_non, tyOf_dct, bo_add, bo_sub, bo_mul, bo_fdiv, bo_mod, bo_pow, co_lt, co_le, co_gt, co_ge, co_eq, co_ne, co_is_bl, eqv_int, tru_non, tru_bl, tru_int, tru_tup, tru_lst, truR_eq, ix_tup, ix_lst, ix_ref, ixr_str, item0, item1, item2, lookK_cons,
    putAt_ref, putR_dic, keyOf_str, wr_eq, wrv_no, wrv_v, wrv_cel, wrc_cel, asg_nm, asg_tup, asgs_nil, asgs_cons, asgK_some, par_nil, par_cons, back_same, back_sameX, cells_cel, celB_some, celB_none, open_cel, parv_no, parv_v, back_ok, back_exc, cells_nil, cells_v, cells_no, open_nil, open_v, open_no, cells_own, open_own, shut_own, shut_nil, shut_v, shut_no, T_run, for_nil, walk_val_l, walk_val_t,
    fin_rt, fin_nx, fin_exc, env0_eq, List.map_cons, List.map_nil, List.replicate, List.cons_append, List.nil_append, List.append_nil, List.getElem?_cons_zero, List.getElem?_cons_succ, List.set_cons_zero, List.set_cons_succ, Option.map_some, if_true, Nat.reduceSub, Nat.reduceAdd, subTy, Nat.reduceLeDiff, reduceIte, Bool.not_true, Bool.not_false, Nat.reduceBEq, Bool.false_eq_true, Bool.or_false, Bool.or_true, Bool.false_or, Bool.true_or, Bool.and_true, Bool.true_and, Bool.and_false, Bool.false_and, lenI_nil, lenI_cons, Int.reduceAdd, Int.reduceEq, Int.reduceLT, Int.reduceLE, Int.reduceNeg, decide_true, decide_false, eq_self, not_true_eq_false, not_false_eq_true]
theorem pair_tup (n : Nat) (hn : 2 ≤ n) (i j : Int) (s : So) : (CX n).call 1 [.tup [.int i, .int j]] s = .ok (.bl (decide (0 < j))) s := by
  obtain ⟨m, rfl⟩ : ∃ m, n = m + 1 := ⟨n - 1, by omega⟩
  rw [call_eq m 1 f1 rfl]
  unfold f1
  refine (runF_eq _ _ _ _ _ _ (by rfl)).trans ?_
  simp (disch := first | assumption | omega | exact small_of (by decide) | rfl | decide) only [e_c, e_v, e_neg, negR_int, e_not, e_bin, e_cmp, e_and, e_or, e_ite, andR_t, andR_f, orR_t, orR_f, iteR_t, iteR_f, e_tup, e_lst, e_ix, e_call, e_app, goApp_fn, goApp_clo, e_bi, e_lam, cellsOf_nil, cellsOf_cons, cofV_cel, cofK_some, es_nil, es_cons, s_pass, s_ex, s_set, s_par, s_own, ownR_lst, ownV_no, ownV_v, s_setix, ownO_own, appK_ok, appR_eq, s_app, s_ite, ifR_t, ifR_f, s_loop, s_ret, s_brk, s_cont, s_rais, s_tri, triR_ok, ss_nil, ss_cons, seqR_nx, seqR_rt, seqR_bk, seqR_ct, R.bind_ok, R.bind_exc, R.of_some, rd_eq, rdv_v, rdv_cel, rdc_some, bi_len_tup, bi_len_lst, bi_abs, bi_max2, bi_min2, bi_gcd, bi_repr, bi_int, bi_list_l, bi_list_t, bi_bits, bi_isinst, bi_isinsts, isT_some, isTs_some, isAny_nil, isAny_cons,
    tyOf_int, tyOf_bl, tyOf_str, tyOf_lst, tyOf_tup, tyOf_non, tyOf_dct, bo_add, bo_sub, bo_mul, bo_fdiv, bo_mod, bo_pow, co_lt, co_le, co_gt, co_ge, co_eq, co_ne, co_is_bl, eqv_int, tru_non, tru_bl, tru_int, tru_tup, tru_lst, truR_eq, ix_tup, ix_lst, ix_ref, ixr_str, item0, item1, item2, lookK_cons,
    putAt_ref, putR_dic, keyOf_str, wr_eq, wrv_no, wrv_v, wrv_cel, wrc_cel, asg_nm, asg_tup, asgs_nil, asgs_cons, asgK_some, par_nil, par_cons, back_same, back_sameX, cells_cel, celB_some, celB_none, open_cel, parv_no, parv_v, back_ok, back_exc, cells_nil, cells_v, cells_no, open_nil, open_v, open_no, cells_own, open_own, shut_own, shut_nil, shut_v, shut_no, T_run, for_nil, walk_val_l, walk_val_t,
    fin_rt, fin_nx, fin_exc, env0_eq, List.map_cons, List.map_nil, List.replicate, List.cons_append, List.nil_append, List.append_nil, List.getElem?_cons_zero, List.getElem?_cons_succ, List.set_cons_zero, List.set_cons_succ, Option.map_some, if_true, Nat.reduceSub, Nat.reduceAdd, subTy, Nat.reduceLeDiff, reduceIte, Bool.not_true, Bool.not_false, Nat.reduceBEq, Bool.false_eq_true, Bool.or_false, Bool.or_true, Bool.false_or, Bool.true_or, Bool.and_true, Bool.true_and, Bool.and_false, Bool.false_and, lenI_nil, lenI_cons, Int.reduceAdd, Int.reduceEq, Int.reduceLT, Int.reduceLE, Int.reduceNeg, decide_true, decide_false, eq_self, not_true_eq_false, not_false_eq_true, whole_int, whole_tup, whole_lst, whole_bl, whole_str, whole_non, whole_dct]
theorem pair_lst (n : Nat) (hn : 2 ≤ n) (i j : Int) (s : So) : (CX n).call 1 [.lst [.int i, .int j]] s = .ok (.bl (decide (0 < j))) s := by
  obtain ⟨m, rfl⟩ : ∃ m, n = m + 1 := ⟨n - 1, by omega⟩
  rw [call_eq m 1 f1 rfl]
  unfold f1
  refine (runF_eq _ _ _ _ _ _ (by rfl)).trans ?_
  simp (disch := first | assumption | omega | exact small_of (by decide) | rfl | decide) only [e_c, e_v, e_neg, negR_int, e_not, e_bin, e_cmp, e_and, e_or, e_ite, andR_t, andR_f, orR_t, orR_f, iteR_t, iteR_f, e_tup, e_lst, e_ix, e_call, e_app, goApp_fn, goApp_clo, e_bi, e_lam, cellsOf_nil, cellsOf_cons, cofV_cel, cofK_some, es_nil, es_cons, s_pass, s_ex, s_set, s_par, s_own, ownR_lst, ownV_no, ownV_v, s_setix, ownO_own, appK_ok, appR_eq, s_app, s_ite, ifR_t, ifR_f, s_loop, s_ret, s_brk, s_cont, s_rais, s_tri, triR_ok, ss_nil, ss_cons, seqR_nx, seqR_rt, seqR_bk, seqR_ct, R.bind_ok, R.bind_exc, R.of_some, rd_eq, rdv_v, rdv_cel, rdc_some, bi_len_tup, bi_len_lst, bi_abs, bi_max2, bi_min2, bi_gcd, bi_repr, bi_int, bi_list_l, bi_list_t, bi_bits, bi_isinst, bi_isinsts, isT_some, isTs_some, isAny_nil, isAny_cons,
    tyOf_int, tyOf_bl, tyOf_str, tyOf_lst, tyOf_tup, tyOf_non, tyOf_dct, bo_add, bo_sub, bo_mul, bo_fdiv, bo_mod, bo_pow, co_lt, co_le, co_gt, co_ge, co_eq, co_ne, co_is_bl, eqv_int, tru_non, tru_bl, tru_int, tru_tup, tru_lst, truR_eq, ix_tup, ix_lst, ix_ref, ixr_str, item0, item1, item2, lookK_cons,
    putAt_ref, putR_dic, keyOf_str, wr_eq, wrv_no, wrv_v, wrv_cel, wrc_cel, asg_nm, asg_tup, asgs_nil, asgs_cons, asgK_some, par_nil, par_cons, back_same, back_sameX, cells_cel, celB_some, celB_none, open_cel, parv_no, parv_v, back_ok, back_exc, cells_nil, cells_v, cells_no, open_nil, open_v, open_no, cells_own, open_own, shut_own, shut_nil, shut_v, shut_no, T_run, for_nil, walk_val_l, walk_val_t,
    fin_rt, fin_nx, fin_exc, env0_eq, List.map_cons, List.map_nil, List.replicate, List.cons_append, List.nil_append, List.append_nil, List.getElem?_cons_zero, List.getElem?_cons_succ, List.set_cons_zero, List.set_cons_succ, Option.map_some, if_true, Nat.reduceSub, Nat.reduceAdd, subTy, Nat.reduceLeDiff, reduceIte, Bool.not_true, Bool.not_false, Nat.reduceBEq, Bool.false_eq_true, Bool.or_false, Bool.or_true, Bool.false_or, Bool.true_or, Bool.and_true, Bool.true_and, Bool.and_false, Bool.false_and, lenI_nil, lenI_cons, Int.reduceAdd, Int.reduceEq, Int.reduceLT, Int.reduceLE, Int.reduceNeg, decide_true, decide_false, eq_self, not_true_eq_false, not_false_eq_true, whole_int, whole_tup, whole_lst, whole_bl, whole_str, whole_non, whole_dct]
/-- what is no pair -/
def NoPair (x : D) : Prop := ∀ n s, 2 ≤ n → (CX n).call 1 [x] s = .ok (.bl false) s
def NoWhole (x : D) : Prop := ∀ n s, 1 ≤ n → (CX n).call 0 [x] s = .ok (.bl false) s
theorem np_non (n : Nat) (hn : 2 ≤ n) (s : So) : (CX n).call 1 [.non] s = .ok (.bl false) s := by
  obtain ⟨m, rfl⟩ : ∃ m, n = m + 1 := ⟨n - 1, by omega⟩
  rw [call_eq m 1 f1 rfl]
  unfold f1
  refine (runF_eq _ _ _ _ _ _ (by rfl)).trans ?_
  simp (disch := first | assumption | omega | exact small_of (by decide) | rfl | decide) only [e_c, e_v, e_neg, negR_int, e_not, e_bin, e_cmp, e_and, e_or, e_ite, andR_t, andR_f, orR_t, orR_f, iteR_t, iteR_f, e_tup, e_lst, e_ix, e_call, e_app, goApp_fn, goApp_clo, e_bi, e_lam, cellsOf_nil, cellsOf_cons, cofV_cel, cofK_some, es_nil, es_cons, s_pass, s_ex, s_set, s_par, s_own, ownR_lst, ownV_no, ownV_v, s_setix, ownO_own, appK_ok, appR_eq, s_app, s_ite, ifR_t, ifR_f, s_loop, s_ret, s_brk, s_cont, s_rais, s_tri, triR_ok, ss_nil, ss_cons, seqR_nx, seqR_rt, seqR_bk, seqR_ct, R.bind_ok, R.bind_exc, R.of_some, rd_eq, rdv_v, rdv_cel, rdc_some, bi_len_tup, bi_len_lst, bi_abs, bi_max2, bi_min2, bi_gcd, bi_repr, bi_int, bi_list_l, bi_list_t, bi_bits, bi_isinst, bi_isinsts, isT_some, isTs_some, isAny_nil, isAny_cons,
    tyOf_int, tyOf_bl, tyOf_str, tyOf_lst, tyOf_tup, tyOf_non, tyOf_dct, bo_add, bo_sub, bo_mul, bo_fdiv, bo_mod, bo_pow, co_lt, co_le, co_gt, co_ge, co_eq, co_ne, co_is_bl, eqv_int, tru_non, tru_bl, tru_int, tru_tup, tru_lst, truR_eq, ix_tup, ix_lst, ix_ref, ixr_str, item0, item1, item2, lookK_cons,
    putAt_ref, putR_dic, keyOf_str, wr_eq, wrv_no, wrv_v, wrv_cel, wrc_cel, asg_nm, asg_tup, asgs_nil, asgs_cons, asgK_some, par_nil, par_cons, back_same, back_sameX, cells_cel, celB_some, celB_none, open_cel, parv_no, parv_v, back_ok, back_exc, cells_nil, cells_v, cells_no, open_nil, open_v, open_no, cells_own, open_own, shut_own, shut_nil, shut_v, shut_no, T_run, for_nil, walk_val_l, walk_val_t,
    fin_rt, fin_nx, fin_exc, env0_eq, List.map_cons, List.map_nil, List.replicate, List.cons_append, List.nil_append, List.append_nil, List.getElem?_cons_zero, List.getElem?_cons_succ, List.set_cons_zero, List.set_cons_succ, Option.map_some, if_true, Nat.reduceSub, Nat.reduceAdd, subTy, Nat.reduceLeDiff, reduceIte, Bool.not_true, Bool.not_false, Nat.reduceBEq, Bool.false_eq_true, Bool.or_false, Bool.or_true, Bool.false_or, Bool.true_or, Bool.and_true, Bool.true_and, Bool.and_false, Bool.false_and, lenI_nil, lenI_cons, Int.reduceAdd, Int.reduceEq, Int.reduceLT, Int.reduceLE, Int.reduceNeg, decide_true, decide_false, eq_self, not_true_eq_false, not_false_eq_true, whole_int, whole_tup, whole_lst, whole_bl, whole_str, whole_non, whole_dct]
theorem np_s1 (n : Nat) (hn : 2 ≤ n) (s : So) : (CX n).call 1 [.str (.ofString "1")] s = .ok (.bl false) s := by
  obtain ⟨m, rfl⟩ : ∃ m, n = m + 1 := ⟨n - 1, by omega⟩
  rw [call_eq m 1 f1 rfl]
  unfold f1
  refine (runF_eq _ _ _ _ _ _ (by rfl)).trans ?_
  simp (disch := first | assumption | omega | exact small_of (by decide) | rfl | decide) only [e_c, e_v, e_neg, negR_int, e_not, e_bin, e_cmp, e_and, e_or, e_ite, andR_t, andR_f, orR_t, orR_f, iteR_t, iteR_f, e_tup, e_lst, e_ix, e_call, e_app, goApp_fn, goApp_clo, e_bi, e_lam, cellsOf_nil, cellsOf_cons, cofV_cel, cofK_some, es_nil, es_cons, s_pass, s_ex, s_set, s_par, s_own, ownR_lst, ownV_no, ownV_v, s_setix, ownO_own, appK_ok, appR_eq, s_app, s_ite, ifR_t, ifR_f, s_loop, s_ret, s_brk, s_cont, s_rais, s_tri, triR_ok, ss_nil, ss_cons, seqR_nx, seqR_rt, seqR_bk, seqR_ct, R.bind_ok, R.bind_exc, R.of_some, rd_eq, rdv_v, rdv_cel, rdc_some, bi_len_tup, bi_len_lst, bi_abs, bi_max2, bi_min2, bi_gcd, bi_repr, bi_int, bi_list_l, bi_list_t, bi_bits, bi_isinst, bi_isinsts, isT_some, isTs_some, isAny_nil, isAny_cons,
    tyOf_int, tyOf_bl, tyOf_str, tyOf_lst, tyOf_tup, tyOf_non, tyOf_dct, bo_add, bo_sub, bo_mul, bo_fdiv, bo_mod, bo_pow, co_lt, co_le, co_gt, co_ge, co_eq, co_ne, co_is_bl, eqv_int, tru_non, tru_bl, tru_int, tru_tup, tru_lst, truR_eq, ix_tup, ix_lst, ix_ref, ixr_str, item0, item1, item2, lookK_cons,
    putAt_ref, putR_dic, keyOf_str, wr_eq, wrv_no, wrv_v, wrv_cel, wrc_cel, asg_nm, asg_tup, asgs_nil, asgs_cons, asgK_some, par_nil, par_cons, back_same, back_sameX, cells_cel, celB_some, celB_none, open_cel, parv_no, parv_v, back_ok, back_exc, cells_nil, cells_v, cells_no, open_nil, open_v, open_no, cells_own, open_own, shut_own, shut_nil, shut_v, shut_no, T_run, for_nil, walk_val_l, walk_val_t,
    fin_rt, fin_nx, fin_exc, env0_eq, List.map_cons, List.map_nil, List.replicate, List.cons_append, List.nil_append, List.append_nil, List.getElem?_cons_zero, List.getElem?_cons_succ, List.set_cons_zero, List.set_cons_succ, Option.map_some, if_true, Nat.reduceSub, Nat.reduceAdd, subTy, Nat.reduceLeDiff, reduceIte, Bool.not_true, Bool.not_false, Nat.reduceBEq, Bool.false_eq_true, Bool.or_false, Bool.or_true, Bool.false_or, Bool.true_or, Bool.and_true, Bool.true_and, Bool.and_false, Bool.false_and, lenI_nil, lenI_cons, Int.reduceAdd, Int.reduceEq, Int.reduceLT, Int.reduceLE, Int.reduceNeg, decide_true, decide_false, eq_self, not_true_eq_false, not_false_eq_true, whole_int, whole_tup, whole_lst, whole_bl, whole_str, whole_non, whole_dct]
theorem np_t1 (n : Nat) (hn : 2 ≤ n) (s : So) : (CX n).call 1 [.tup [.int 1]] s = .ok (.bl false) s := by
  obtain ⟨m, rfl⟩ : ∃ m, n = m + 1 := ⟨n - 1, by omega⟩
  rw [call_eq m 1 f1 rfl]
  unfold f1
  refine (runF_eq _ _ _ _ _ _ (by rfl)).trans ?_
  simp (disch := first | assumption | omega | exact small_of (by decide) | rfl | decide) only [e_c, e_v, e_neg, negR_int, e_not, e_bin, e_cmp, e_and, e_or, e_ite, andR_t, andR_f, orR_t, orR_f, iteR_t, iteR_f, e_tup, e_lst, e_ix, e_call, e_app, goApp_fn, goApp_clo, e_bi, e_lam, cellsOf_nil, cellsOf_cons, cofV_cel, cofK_some, es_nil, es_cons, s_pass, s_ex, s_set, s_par, s_own, ownR_lst, ownV_no, ownV_v, s_setix, ownO_own, appK_ok, appR_eq, s_app, s_ite, ifR_t, ifR_f, s_loop, s_ret, s_brk, s_cont, s_rais, s_tri, triR_ok, ss_nil, ss_cons, seqR_nx, seqR_rt, seqR_bk, seqR_ct, R.bind_ok, R.bind_exc, R.of_some, rd_eq, rdv_v, rdv_cel, rdc_some, bi_len_tup, bi_len_lst, bi_abs, bi_max2, bi_min2, bi_gcd, bi_repr, bi_int, bi_list_l, bi_list_t, bi_bits, bi_isinst, bi_isinsts, isT_some, isTs_some, isAny_nil, isAny_cons,
    tyOf_int, tyOf_bl, tyOf_str, tyOf_lst, tyOf_tup, tyOf_non, tyOf_dct, bo_add, bo_sub, bo_mul, bo_fdiv, bo_mod, bo_pow, co_lt, co_le, co_gt, co_ge, co_eq, co_ne, co_is_bl, eqv_int, tru_non, tru_bl, tru_int, tru_tup, tru_lst, truR_eq, ix_tup, ix_lst, ix_ref, ixr_str, item0, item1, item2, lookK_cons,
    putAt_ref, putR_dic, keyOf_str, wr_eq, wrv_no, wrv_v, wrv_cel, wrc_cel, asg_nm, asg_tup, asgs_nil, asgs_cons, asgK_some, par_nil, par_cons, back_same, back_sameX, cells_cel, celB_some, celB_none, open_cel, parv_no, parv_v, back_ok, back_exc, cells_nil, cells_v, cells_no, open_nil, open_v, open_no, cells_own, open_own, shut_own, shut_nil, shut_v, shut_no, T_run, for_nil, walk_val_l, walk_val_t,
    fin_rt, fin_nx, fin_exc, env0_eq, List.map_cons, List.map_nil, List.replicate, List.cons_append, List.nil_append, List.append_nil, List.getElem?_cons_zero, List.getElem?_cons_succ, List.set_cons_zero, List.set_cons_succ, Option.map_some, if_true, Nat.reduceSub, Nat.reduceAdd, subTy, Nat.reduceLeDiff, reduceIte, Bool.not_true, Bool.not_false, Nat.reduceBEq, Bool.false_eq_true, Bool.or_false, Bool.or_true, Bool.false_or, Bool.true_or, Bool.and_true, Bool.true_and, Bool.and_false, Bool.false_and, lenI_nil, lenI_cons, Int.reduceAdd, Int.reduceEq, Int.reduceLT, Int.reduceLE, Int.reduceNeg, decide_true, decide_false, eq_self, not_true_eq_false, not_false_eq_true, whole_int, whole_tup, whole_lst, whole_bl, whole_str, whole_non, whole_dct]
theorem np_t10 (n : Nat) (hn : 2 ≤ n) (s : So) : (CX n).call 1 [.tup [.int 1, .int 0]] s = .ok (.bl false) s := by
  obtain ⟨m, rfl⟩ : ∃ m, n = m + 1 := ⟨n - 1, by omega⟩
  rw [call_eq m 1 f1 rfl]
  unfold f1
  refine (runF_eq _ _ _ _ _ _ (by rfl)).trans ?_
  simp (disch := first | assumption | omega | exact small_of (by decide) | rfl | decide) only [e_c, e_v, e_neg, negR_int, e_not, e_bin, e_cmp, e_and, e_or, e_ite, andR_t, andR_f, orR_t, orR_f, iteR_t, iteR_f, e_tup, e_lst, e_ix, e_call, e_app, goApp_fn, goApp_clo, e_bi, e_lam, cellsOf_nil, cellsOf_cons, cofV_cel, cofK_some, es_nil, es_cons, s_pass, s_ex, s_set, s_par, s_own, ownR_lst, ownV_no, ownV_v, s_setix, ownO_own, appK_ok, appR_eq, s_app, s_ite, ifR_t, ifR_f, s_loop, s_ret, s_brk, s_cont, s_rais, s_tri, triR_ok, ss_nil, ss_cons, seqR_nx, seqR_rt, seqR_bk, seqR_ct, R.bind_ok, R.bind_exc, R.of_some, rd_eq, rdv_v, rdv_cel, rdc_some, bi_len_tup, bi_len_lst, bi_abs, bi_max2, bi_min2, bi_gcd, bi_repr, bi_int, bi_list_l, bi_list_t, bi_bits, bi_isinst, bi_isinsts, isT_some, isTs_some, isAny_nil, isAny_cons,
    tyOf_int, tyOf_bl, tyOf_str, tyOf_lst, tyOf_tup, tyOf_non, tyOf_dct, bo_add, bo_sub, bo_mul, bo_fdiv, bo_mod, bo_pow, co_lt, co_le, co_gt, co_ge, co_eq, co_ne, co_is_bl, eqv_int, tru_non, tru_bl, tru_int, tru_tup, tru_lst, truR_eq, ix_tup, ix_lst, ix_ref, ixr_str, item0, item1, item2, lookK_cons,
    putAt_ref, putR_dic, keyOf_str, wr_eq, wrv_no, wrv_v, wrv_cel, wrc_cel, asg_nm, asg_tup, asgs_nil, asgs_cons, asgK_some, par_nil, par_cons, back_same, back_sameX, cells_cel, celB_some, celB_none, open_cel, parv_no, parv_v, back_ok, back_exc, cells_nil, cells_v, cells_no, open_nil, open_v, open_no, cells_own, open_own, shut_own, shut_nil, shut_v, shut_no, T_run, for_nil, walk_val_l, walk_val_t,
    fin_rt, fin_nx, fin_exc, env0_eq, List.map_cons, List.map_nil, List.replicate, List.cons_append, List.nil_append, List.append_nil, List.getElem?_cons_zero, List.getElem?_cons_succ, List.set_cons_zero, List.set_cons_succ, Option.map_some, if_true, Nat.reduceSub, Nat.reduceAdd, subTy, Nat.reduceLeDiff, reduceIte, Bool.not_true, Bool.not_false, Nat.reduceBEq, Bool.false_eq_true, Bool.or_false, Bool.or_true, Bool.false_or, Bool.true_or, Bool.and_true, Bool.true_and, Bool.and_false, Bool.false_and, lenI_nil, lenI_cons, Int.reduceAdd, Int.reduceEq, Int.reduceLT, Int.reduceLE, Int.reduceNeg, decide_true, decide_false, eq_self, not_true_eq_false, not_false_eq_true, whole_int, whole_tup, whole_lst, whole_bl, whole_str, whole_non, whole_dct]
theorem np_t1m2 (n : Nat) (hn : 2 ≤ n) (s : So) : (CX n).call 1 [.tup [.int 1, .int (-2)]] s = .ok (.bl false) s := by
  obtain ⟨m, rfl⟩ : ∃ m, n = m + 1 := ⟨n - 1, by omega⟩
  rw [call_eq m 1 f1 rfl]
  unfold f1
  refine (runF_eq _ _ _ _ _ _ (by rfl)).trans ?_
  simp (disch := first | assumption | omega | exact small_of (by decide) | rfl | decide) only [e_c, e_v, e_neg, negR_int, e_not, e_bin, e_cmp, e_and, e_or, e_ite, andR_t, andR_f, orR_t, orR_f, iteR_t, iteR_f, e_tup, e_lst, e_ix, e_call, e_app, goApp_fn, goApp_clo, e_bi, e_lam, cellsOf_nil, cellsOf_cons, cofV_cel, cofK_some, es_nil, es_cons, s_pass, s_ex, s_set, s_par, s_own, ownR_lst, ownV_no, ownV_v, s_setix, ownO_own, appK_ok, appR_eq, s_app, s_ite, ifR_t, ifR_f, s_loop, s_ret, s_brk, s_cont, s_rais, s_tri, triR_ok, ss_nil, ss_cons, seqR_nx, seqR_rt, seqR_bk, seqR_ct, R.bind_ok, R.bind_exc, R.of_some, rd_eq, rdv_v, rdv_cel, rdc_some, bi_len_tup, bi_len_lst, bi_abs, bi_max2, bi_min2, bi_gcd, bi_repr, bi_int, bi_list_l, bi_list_t, bi_bits, bi_isinst, bi_isinsts, isT_some, isTs_some, isAny_nil, isAny_cons,
    tyOf_int, tyOf_bl, tyOf_str, tyOf_lst, tyOf_tup, tyOf_non, tyOf_dct, bo_add, bo_sub, bo_mul, bo_fdiv, bo_mod, bo_pow, co_lt, co_le, co_gt, co_ge, co_eq, co_ne, co_is_bl, eqv_int, tru_non, tru_bl, tru_int, tru_tup, tru_lst, truR_eq, ix_tup, ix_lst, ix_ref, ixr_str, item0, item1, item2, lookK_cons,
    putAt_ref, putR_dic, keyOf_str, wr_eq, wrv_no, wrv_v, wrv_cel, wrc_cel, asg_nm, asg_tup, asgs_nil, asgs_cons, asgK_some, par_nil, par_cons, back_same, back_sameX, cells_cel, celB_some, celB_none, open_cel, parv_no, parv_v, back_ok, back_exc, cells_nil, cells_v, cells_no, open_nil, open_v, open_no, cells_own, open_own, shut_own, shut_nil, shut_v, shut_no, T_run, for_nil, walk_val_l, walk_val_t,
    fin_rt, fin_nx, fin_exc, env0_eq, List.map_cons, List.map_nil, List.replicate, List.cons_append, List.nil_append, List.append_nil, List.getElem?_cons_zero, List.getElem?_cons_succ, List.set_cons_zero, List.set_cons_succ, Option.map_some, if_true, Nat.reduceSub, Nat.reduceAdd, subTy, Nat.reduceLeDiff, reduceIte, Bool.not_true, Bool.not_false, Nat.reduceBEq, Bool.false_eq_true, Bool.or_false, Bool.or_true, Bool.false_or, Bool.true_or, Bool.and_true, Bool.true_and, Bool.and_false, Bool.false_and, lenI_nil, lenI_cons, Int.reduceAdd, Int.reduceEq, Int.reduceLT, Int.reduceLE, Int.reduceNeg, decide_true, decide_false, eq_self, not_true_eq_false, not_false_eq_true, whole_int, whole_tup, whole_lst, whole_bl, whole_str, whole_non, whole_dct]
theorem np_tT2 (n : Nat) (hn : 2 ≤ n) (s : So) : (CX n).call 1 [.tup [.bl true, .int 2]] s = .ok (.bl false) s := by
  obtain ⟨m, rfl⟩ : ∃ m, n = m + 1 := ⟨n - 1, by omega⟩
  rw [call_eq m 1 f1 rfl]
  unfold f1
  refine (runF_eq _ _ _ _ _ _ (by rfl)).trans ?_
  simp (disch := first | assumption | omega | exact small_of (by decide) | rfl | decide) only [e_c, e_v, e_neg, negR_int, e_not, e_bin, e_cmp, e_and, e_or, e_ite, andR_t, andR_f, orR_t, orR_f, iteR_t, iteR_f, e_tup, e_lst, e_ix, e_call, e_app, goApp_fn, goApp_clo, e_bi, e_lam, cellsOf_nil, cellsOf_cons, cofV_cel, cofK_some, es_nil, es_cons, s_pass, s_ex, s_set, s_par, s_own, ownR_lst, ownV_no, ownV_v, s_setix, ownO_own, appK_ok, appR_eq, s_app, s_ite, ifR_t, ifR_f, s_loop, s_ret, s_brk, s_cont, s_rais, s_tri, triR_ok, ss_nil, ss_cons, seqR_nx, seqR_rt, seqR_bk, seqR_ct, R.bind_ok, R.bind_exc, R.of_some, rd_eq, rdv_v, rdv_cel, rdc_some, bi_len_tup, bi_len_lst, bi_abs, bi_max2, bi_min2, bi_gcd, bi_repr, bi_int, bi_list_l, bi_list_t, bi_bits, bi_isinst, bi_isinsts, isT_some, isTs_some, isAny_nil, isAny_cons,
    tyOf_int, tyOf_bl, tyOf_str, tyOf_lst, tyOf_tup, tyOf_non, tyOf_dct, bo_add, bo_sub, bo_mul, bo_fdiv, bo_mod, bo_pow, co_lt, co_le, co_gt, co_ge, co_eq, co_ne, co_is_bl, eqv_int, tru_non, tru_bl, tru_int, tru_tup, tru_lst, truR_eq, ix_tup, ix_lst, ix_ref, ixr_str, item0, item1, item2, lookK_cons,
    putAt_ref, putR_dic, keyOf_str, wr_eq, wrv_no, wrv_v, wrv_cel, wrc_cel, asg_nm, asg_tup, asgs_nil, asgs_cons, asgK_some, par_nil, par_cons, back_same, back_sameX, cells_cel, celB_some, celB_none, open_cel, parv_no, parv_v, back_ok, back_exc, cells_nil, cells_v, cells_no, open_nil, open_v, open_no, cells_own, open_own, shut_own, shut_nil, shut_v, shut_no, T_run, for_nil, walk_val_l, walk_val_t,
    fin_rt, fin_nx, fin_exc, env0_eq, List.map_cons, List.map_nil, List.replicate, List.cons_append, List.nil_append, List.append_nil, List.getElem?_cons_zero, List.getElem?_cons_succ, List.set_cons_zero, List.set_cons_succ, Option.map_some, if_true, Nat.reduceSub, Nat.reduceAdd, subTy, Nat.reduceLeDiff, reduceIte, Bool.not_true, Bool.not_false, Nat.reduceBEq, Bool.false_eq_true, Bool.or_false, Bool.or_true, Bool.false_or, Bool.true_or, Bool.and_true, Bool.true_and, Bool.and_false, Bool.false_and, lenI_nil, lenI_cons, Int.reduceAdd, Int.reduceEq, Int.reduceLT, Int.reduceLE, Int.reduceNeg, decide_true, decide_false, eq_self, not_true_eq_false, not_false_eq_true, whole_int, whole_tup, whole_lst, whole_bl, whole_str, whole_non, whole_dct]
theorem np_t1T (n : Nat) (hn : 2 ≤ n) (s : So) : (CX n).call 1 [.tup [.int 1, .bl true]] s = .ok (.bl false) s := by
  obtain ⟨m, rfl⟩ : ∃ m, n = m + 1 := ⟨n - 1, by omega⟩
  rw [call_eq m 1 f1 rfl]
  unfold f1
  refine (runF_eq _ _ _ _ _ _ (by rfl)).trans ?_
  simp (disch := first | assumption | omega | exact small_of (by decide) | rfl | decide) only [e_c, e_v, e_neg, negR_int, e_not, e_bin, e_cmp, e_and, e_or, e_ite, andR_t, andR_f, orR_t, orR_f, iteR_t, iteR_f, e_tup, e_lst, e_ix, e_call, e_app, goApp_fn, goApp_clo, e_bi, e_lam, cellsOf_nil, cellsOf_cons, cofV_cel, cofK_some, es_nil, es_cons, s_pass, s_ex, s_set, s_par, s_own, ownR_lst, ownV_no, ownV_v, s_setix, ownO_own, appK_ok, appR_eq, s_app, s_ite, ifR_t, ifR_f, s_loop, s_ret, s_brk, s_cont, s_rais, s_tri, triR_ok, ss_nil, ss_cons, seqR_nx, seqR_rt, seqR_bk, seqR_ct, R.bind_ok, R.bind_exc, R.of_some, rd_eq, rdv_v, rdv_cel, rdc_some, bi_len_tup, bi_len_lst, bi_abs, bi_max2, bi_min2, bi_gcd, bi_repr, bi_int, bi_list_l, bi_list_t, bi_bits, bi_isinst, bi_isinsts, isT_some, isTs_some, isAny_nil, isAny_cons,
    tyOf_int, tyOf_bl, tyOf_str, tyOf_lst, tyOf_tup, tyOf_non, tyOf_dct, bo_add, bo_sub, bo_mul, bo_fdiv, bo_mod, bo_pow, co_lt, co_le, co_gt, co_ge, co_eq, co_ne, co_is_bl, eqv_int, tru_non, tru_bl, tru_int, tru_tup, tru_lst, truR_eq, ix_tup, ix_lst, ix_ref, ixr_str, item0, item1, item2, lookK_cons,
    putAt_ref, putR_dic, keyOf_str, wr_eq, wrv_no, wrv_v, wrv_cel, wrc_cel, asg_nm, asg_tup, asgs_nil, asgs_cons, asgK_some, par_nil, par_cons, back_same, back_sameX, cells_cel, celB_some, celB_none, open_cel, parv_no, parv_v, back_ok, back_exc, cells_nil, cells_v, cells_no, open_nil, open_v, open_no, cells_own, open_own, shut_own, shut_nil, shut_v, shut_no, T_run, for_nil, walk_val_l, walk_val_t,
    fin_rt, fin_nx, fin_exc, env0_eq, List.map_cons, List.map_nil, List.replicate, List.cons_append, List.nil_append, List.append_nil, List.getElem?_cons_zero, List.getElem?_cons_succ, List.set_cons_zero, List.set_cons_succ, Option.map_some, if_true, Nat.reduceSub, Nat.reduceAdd, subTy, Nat.reduceLeDiff, reduceIte, Bool.not_true, Bool.not_false, Nat.reduceBEq, Bool.false_eq_true, Bool.or_false, Bool.or_true, Bool.false_or, Bool.true_or, Bool.and_true, Bool.true_and, Bool.and_false, Bool.false_and, lenI_nil, lenI_cons, Int.reduceAdd, Int.reduceEq, Int.reduceLT, Int.reduceLE, Int.reduceNeg, decide_true, decide_false, eq_self, not_true_eq_false, not_false_eq_true, whole_int, whole_tup, whole_lst, whole_bl, whole_str, whole_non, whole_dct]
theorem np_T (n : Nat) (hn : 2 ≤ n) (s : So) : (CX n).call 1 [.bl true] s = .ok (.bl false) s := by
  obtain ⟨m, rfl⟩ : ∃ m, n = m + 1 := ⟨n - 1, by omega⟩
  rw [call_eq m 1 f1 rfl]
  unfold f1
  refine (runF_eq _ _ _ _ _ _ (by rfl)).trans ?_
  simp (disch := first | assumption | omega | exact small_of (by decide) | rfl | decide) only [e_c, e_v, e_neg, negR_int, e_not, e_bin, e_cmp, e_and, e_or, e_ite, andR_t, andR_f, orR_t, orR_f, iteR_t, iteR_f, e_tup, e_lst, e_ix, e_call, e_app, goApp_fn, goApp_clo, e_bi, e_lam, cellsOf_nil, cellsOf_cons, cofV_cel, cofK_some, es_nil, es_cons, s_pass, s_ex, s_set, s_par, s_own, ownR_lst, ownV_no, ownV_v, s_setix, ownO_own, appK_ok, appR_eq, s_app, s_ite, ifR_t, ifR_f, s_loop, s_ret, s_brk, s_cont, s_rais, s_tri, triR_ok, ss_nil, ss_cons, seqR_nx, seqR_rt, seqR_bk, seqR_ct, R.bind_ok, R.bind_exc, R.of_some, rd_eq, rdv_v, rdv_cel, rdc_some, bi_len_tup, bi_len_lst, bi_abs, bi_max2, bi_min2, bi_gcd, bi_repr, bi_int, bi_list_l, bi_list_t, bi_bits, bi_isinst, bi_isinsts, isT_some, isTs_some, isAny_nil, isAny_cons,
    tyOf_int, tyOf_bl, tyOf_str, tyOf_lst, tyOf_tup, tyOf_non, tyOf_dct, bo_add, bo_sub, bo_mul, bo_fdiv, bo_mod, bo_pow, co_lt, co_le, co_gt, co_ge, co_eq, co_ne, co_is_bl, eqv_int, tru_non, tru_bl, tru_int, tru_tup, tru_lst, truR_eq, ix_tup, ix_lst, ix_ref, ixr_str, item0, item1, item2, lookK_cons,
    putAt_ref, putR_dic, keyOf_str, wr_eq, wrv_no, wrv_v, wrv_cel, wrc_cel, asg_nm, asg_tup, asgs_nil, asgs_cons, asgK_some, par_nil, par_cons, back_same, back_sameX, cells_cel, celB_some, celB_none, open_cel, parv_no, parv_v, back_ok, back_exc, cells_nil, cells_v, cells_no, open_nil, open_v, open_no, cells_own, open_own, shut_own, shut_nil, shut_v, shut_no, T_run, for_nil, walk_val_l, walk_val_t,
    fin_rt, fin_nx, fin_exc, env0_eq, List.map_cons, List.map_nil, List.replicate, List.cons_append, List.nil_append, List.append_nil, List.getElem?_cons_zero, List.getElem?_cons_succ, List.set_cons_zero, List.set_cons_succ, Option.map_some, if_true, Nat.reduceSub, Nat.reduceAdd, subTy, Nat.reduceLeDiff, reduceIte, Bool.not_true, Bool.not_false, Nat.reduceBEq, Bool.false_eq_true, Bool.or_false, Bool.or_true, Bool.false_or, Bool.true_or, Bool.and_true, Bool.true_and, Bool.and_false, Bool.false_and, lenI_nil, lenI_cons, Int.reduceAdd, Int.reduceEq, Int.reduceLT, Int.reduceLE, Int.reduceNeg, decide_true, decide_false, eq_self, not_true_eq_false, not_false_eq_true, whole_int, whole_tup, whole_lst, whole_bl, whole_str, whole_non, whole_dct]
theorem np_t123 (n : Nat) (hn : 2 ≤ n) (s : So) : (CX n).call 1 [.tup [.int 1, .int 2, .int 3]] s = .ok (.bl false) s := by
  obtain ⟨m, rfl⟩ : ∃ m, n = m + 1 := ⟨n - 1, by omega⟩
  rw [call_eq m 1 f1 rfl]
  unfold f1
  refine (runF_eq _ _ _ _ _ _ (by rfl)).trans ?_
  simp (disch := first | assumption | omega | exact small_of (by decide) | rfl | decide) only [e_c, e_v, e_neg, negR_int, e_not, e_bin, e_cmp, e_and, e_or, e_ite, andR_t, andR_f, orR_t, orR_f, iteR_t, iteR_f, e_tup, e_lst, e_ix, e_call, e_app, goApp_fn, goApp_clo, e_bi, e_lam, cellsOf_nil, cellsOf_cons, cofV_cel, cofK_some, es_nil, es_cons, s_pass, s_ex, s_set, s_par, s_own, ownR_lst, ownV_no, ownV_v, s_setix, ownO_own, appK_ok, appR_eq, s_app, s_ite, ifR_t, ifR_f, s_loop, s_ret, s_brk, s_cont, s_rais, s_tri, triR_ok, ss_nil, ss_cons, seqR_nx, seqR_rt, seqR_bk, seqR_ct, R.bind_ok, R.bind_exc, R.of_some, rd_eq, rdv_v, rdv_cel, rdc_some, bi_len_tup, bi_len_lst, bi_abs, bi_max2, bi_min2, bi_gcd, bi_repr, bi_int, bi_list_l, bi_list_t, bi_bits, bi_isinst, bi_isinsts, isT_some, isTs_some, isAny_nil, isAny_cons,
    tyOf_int, tyOf_bl, tyOf_str, tyOf_lst, tyOf_tup, tyOf_non, tyOf_dct, bo_add, bo_sub, bo_mul, bo_fdiv, bo_mod, bo_pow, co_lt, co_le, co_gt, co_ge, co_eq, co_ne, co_is_bl, eqv_int, tru_non, tru_bl, tru_int, tru_tup, tru_lst, truR_eq, ix_tup, ix_lst, ix_ref, ixr_str, item0, item1, item2, lookK_cons,
    putAt_ref, putR_dic, keyOf_str, wr_eq, wrv_no, wrv_v, wrv_cel, wrc_cel, asg_nm, asg_tup, asgs_nil, asgs_cons, asgK_some, par_nil, par_cons, back_same, back_sameX, cells_cel, celB_some, celB_none, open_cel, parv_no, parv_v, back_ok, back_exc, cells_nil, cells_v, cells_no, open_nil, open_v, open_no, cells_own, open_own, shut_own, shut_nil, shut_v, shut_no, T_run, for_nil, walk_val_l, walk_val_t,
    fin_rt, fin_nx, fin_exc, env0_eq, List.map_cons, List.map_nil, List.replicate, List.cons_append, List.nil_append, List.append_nil, List.getElem?_cons_zero, List.getElem?_cons_succ, List.set_cons_zero, List.set_cons_succ, Option.map_some, if_true, Nat.reduceSub, Nat.reduceAdd, subTy, Nat.reduceLeDiff, reduceIte, Bool.not_true, Bool.not_false, Nat.reduceBEq, Bool.false_eq_true, Bool.or_false, Bool.or_true, Bool.false_or, Bool.true_or, Bool.and_true, Bool.true_and, Bool.and_false, Bool.false_and, lenI_nil, lenI_cons, Int.reduceAdd, Int.reduceEq, Int.reduceLT, Int.reduceLE, Int.reduceNeg, decide_true, decide_false, eq_self, not_true_eq_false, not_false_eq_true, whole_int, whole_tup, whole_lst, whole_bl, whole_str, whole_non, whole_dct]
theorem np_l (n : Nat) (hn : 2 ≤ n) (s : So) : (CX n).call 1 [.lst []] s = .ok (.bl false) s := by
  obtain ⟨m, rfl⟩ : ∃ m, n = m + 1 := ⟨n - 1, by omega⟩
  rw [call_eq m 1 f1 rfl]
  unfold f1
  refine (runF_eq _ _ _ _ _ _ (by rfl)).trans ?_
  simp (disch := first | assumption | omega | exact small_of (by decide) | rfl | decide) only [e_c, e_v, e_neg, negR_int, e_not, e_bin, e_cmp, e_and, e_or, e_ite, andR_t, andR_f, orR_t, orR_f, iteR_t, iteR_f, e_tup, e_lst, e_ix, e_call, e_app, goApp_fn, goApp_clo, e_bi, e_lam, cellsOf_nil, cellsOf_cons, cofV_cel, cofK_some, es_nil, es_cons, s_pass, s_ex, s_set, s_par, s_own, ownR_lst, ownV_no, ownV_v, s_setix, ownO_own, appK_ok, appR_eq, s_app, s_ite, ifR_t, ifR_f, s_loop, s_ret, s_brk, s_cont, s_rais, s_tri, triR_ok, ss_nil, ss_cons, seqR_nx, seqR_rt, seqR_bk, seqR_ct, R.bind_ok, R.bind_exc, R.of_some, rd_eq, rdv_v, rdv_cel, rdc_some, bi_len_tup, bi_len_lst, bi_abs, bi_max2, bi_min2, bi_gcd, bi_repr, bi_int, bi_list_l, bi_list_t, bi_bits, bi_isinst, bi_isinsts, isT_some, isTs_some, isAny_nil, isAny_cons,
    tyOf_int, tyOf_bl, tyOf_str, tyOf_lst, tyOf_tup, tyOf_non, tyOf_dct, bo_add, bo_sub, bo_mul, bo_fdiv, bo_mod, bo_pow, co_lt, co_le, co_gt, co_ge, co_eq, co_ne, co_is_bl, eqv_int, tru_non, tru_bl, tru_int, tru_tup, tru_lst, truR_eq, ix_tup, ix_lst, ix_ref, ixr_str, item0, item1, item2, lookK_cons,
    putAt_ref, putR_dic, keyOf_str, wr_eq, wrv_no, wrv_v, wrv_cel, wrc_cel, asg_nm, asg_tup, asgs_nil, asgs_cons, asgK_some, par_nil, par_cons, back_same, back_sameX, cells_cel, celB_some, celB_none, open_cel, parv_no, parv_v, back_ok, back_exc, cells_nil, cells_v, cells_no, open_nil, open_v, open_no, cells_own, open_own, shut_own, shut_nil, shut_v, shut_no, T_run, for_nil, walk_val_l, walk_val_t,
    fin_rt, fin_nx, fin_exc, env0_eq, List.map_cons, List.map_nil, List.replicate, List.cons_append, List.nil_append, List.append_nil, List.getElem?_cons_zero, List.getElem?_cons_succ, List.set_cons_zero, List.set_cons_succ, Option.map_some, if_true, Nat.reduceSub, Nat.reduceAdd, subTy, Nat.reduceLeDiff, reduceIte, Bool.not_true, Bool.not_false, Nat.reduceBEq, Bool.false_eq_true, Bool.or_false, Bool.or_true, Bool.false_or, Bool.true_or, Bool.and_true, Bool.true_and, Bool.and_false, Bool.false_and, lenI_nil, lenI_cons, Int.reduceAdd, Int.reduceEq, Int.reduceLT, Int.reduceLE, Int.reduceNeg, decide_true, decide_false, eq_self, not_true_eq_false, not_false_eq_true, whole_int, whole_tup, whole_lst, whole_bl, whole_str, whole_non, whole_dct]
theorem np_d (n : Nat) (hn : 2 ≤ n) (s : So) : (CX n).call 1 [.dct [] []] s = .ok (.bl false) s := by
  obtain ⟨m, rfl⟩ : ∃ m, n = m + 1 := ⟨n - 1, by omega⟩
  rw [call_eq m 1 f1 rfl]
  unfold f1
  refine (runF_eq _ _ _ _ _ _ (by rfl)).trans ?_
  simp (disch := first | assumption | omega | exact small_of (by decide) | rfl | decide) only [e_c, e_v, e_neg, negR_int, e_not, e_bin, e_cmp, e_and, e_or, e_ite, andR_t, andR_f, orR_t, orR_f, iteR_t, iteR_f, e_tup, e_lst, e_ix, e_call, e_app, goApp_fn, goApp_clo, e_bi, e_lam, cellsOf_nil, cellsOf_cons, cofV_cel, cofK_some, es_nil, es_cons, s_pass, s_ex, s_set, s_par, s_own, ownR_lst, ownV_no, ownV_v, s_setix, ownO_own, appK_ok, appR_eq, s_app, s_ite, ifR_t, ifR_f, s_loop, s_ret, s_brk, s_cont, s_rais, s_tri, triR_ok, ss_nil, ss_cons, seqR_nx, seqR_rt, seqR_bk, seqR_ct, R.bind_ok, R.bind_exc, R.of_some, rd_eq, rdv_v, rdv_cel, rdc_some, bi_len_tup, bi_len_lst, bi_abs, bi_max2, bi_min2, bi_gcd, bi_repr, bi_int, bi_list_l, bi_list_t, bi_bits, bi_isinst, bi_isinsts, isT_some, isTs_some, isAny_nil, isAny_cons,
    tyOf_int, tyOf_bl, tyOf_str, tyOf_lst, tyOf_tup, tyOf_non, tyOf_dct, bo_add, bo_sub, bo_mul, bo_fdiv, bo_mod, bo_pow, co_lt, co_le, co_gt, co_ge, co_eq, co_ne, co_is_bl, eqv_int, tru_non, tru_bl, tru_int, tru_tup, tru_lst, truR_eq, ix_tup, ix_lst, ix_ref, ixr_str, item0, item1, item2, lookK_cons,
    putAt_ref, putR_dic, keyOf_str, wr_eq, wrv_no, wrv_v, wrv_cel, wrc_cel, asg_nm, asg_tup, asgs_nil, asgs_cons, asgK_some, par_nil, par_cons, back_same, back_sameX, cells_cel, celB_some, celB_none, open_cel, parv_no, parv_v, back_ok, back_exc, cells_nil, cells_v, cells_no, open_nil, open_v, open_no, cells_own, open_own, shut_own, shut_nil, shut_v, shut_no, T_run, for_nil, walk_val_l, walk_val_t,
    fin_rt, fin_nx, fin_exc, env0_eq, List.map_cons, List.map_nil, List.replicate, List.cons_append, List.nil_append, List.append_nil, List.getElem?_cons_zero, List.getElem?_cons_succ, List.set_cons_zero, List.set_cons_succ, Option.map_some, if_true, Nat.reduceSub, Nat.reduceAdd, subTy, Nat.reduceLeDiff, reduceIte, Bool.not_true, Bool.not_false, Nat.reduceBEq, Bool.false_eq_true, Bool.or_false, Bool.or_true, Bool.false_or, Bool.true_or, Bool.and_true, Bool.true_and, Bool.and_false, Bool.false_and, lenI_nil, lenI_cons, Int.reduceAdd, Int.reduceEq, Int.reduceLT, Int.reduceLE, Int.reduceNeg, decide_true, decide_false, eq_self, not_true_eq_false, not_false_eq_true, whole_int, whole_tup, whole_lst, whole_bl, whole_str, whole_non, whole_dct]
theorem np_x (n : Nat) (hn : 2 ≤ n) (s : So) : (CX n).call 1 [.str (.ofString "x")] s = .ok (.bl false) s := by
  obtain ⟨m, rfl⟩ : ∃ m, n = m + 1 := ⟨n - 1, by omega⟩
  rw [call_eq m 1 f1 rfl]
  unfold f1
  refine (runF_eq _ _ _ _ _ _ (by rfl)).trans ?_
  simp (disch := first | assumption | omega | exact small_of (by decide) | rfl | decide) only [e_c, e_v, e_neg, negR_int, e_not, e_bin, e_cmp, e_and, e_or, e_ite, andR_t, andR_f, orR_t, orR_f, iteR_t, iteR_f, e_tup, e_lst, e_ix, e_call, e_app, goApp_fn, goApp_clo, e_bi, e_lam, cellsOf_nil, cellsOf_cons, cofV_cel, cofK_some, es_nil, es_cons, s_pass, s_ex, s_set, s_par, s_own, ownR_lst, ownV_no, ownV_v, s_setix, ownO_own, appK_ok, appR_eq, s_app, s_ite, ifR_t, ifR_f, s_loop, s_ret, s_brk, s_cont, s_rais, s_tri, triR_ok, ss_nil, ss_cons, seqR_nx, seqR_rt, seqR_bk, seqR_ct, R.bind_ok, R.bind_exc, R.of_some, rd_eq, rdv_v, rdv_cel, rdc_some, bi_len_tup, bi_len_lst, bi_abs, bi_max2, bi_min2, bi_gcd, bi_repr, bi_int, bi_list_l, bi_list_t, bi_bits, bi_isinst, bi_isinsts, isT_some, isTs_some, isAny_nil, isAny_cons,
    tyOf_int, tyOf_bl, tyOf_str, tyOf_lst, tyOf_tup, tyOf_non, tyOf_dct, bo_add, bo_sub, bo_mul, bo_fdiv, bo_mod, bo_pow, co_lt, co_le, co_gt, co_ge, co_eq, co_ne, co_is_bl, eqv_int, tru_non, tru_bl, tru_int, tru_tup, tru_lst, truR_eq, ix_tup, ix_lst, ix_ref, ixr_str, item0, item1, item2, lookK_cons,
    putAt_ref, putR_dic, keyOf_str, wr_eq, wrv_no, wrv_v, wrv_cel, wrc_cel, asg_nm, asg_tup, asgs_nil, asgs_cons, asgK_some, par_nil, par_cons, back_same, back_sameX, cells_cel, celB_some, celB_none, open_cel, parv_no, parv_v, back_ok, back_exc, cells_nil, cells_v, cells_no, open_nil, open_v, open_no, cells_own, open_own, shut_own, shut_nil, shut_v, shut_no, T_run, for_nil, walk_val_l, walk_val_t,
    fin_rt, fin_nx, fin_exc, env0_eq, List.map_cons, List.map_nil, List.replicate, List.cons_append, List.nil_append, List.append_nil, List.getElem?_cons_zero, List.getElem?_cons_succ, List.set_cons_zero, List.set_cons_succ, Option.map_some, if_true, Nat.reduceSub, Nat.reduceAdd, subTy, Nat.reduceLeDiff, reduceIte, Bool.not_true, Bool.not_false, Nat.reduceBEq, Bool.false_eq_true, Bool.or_false, Bool.or_true, Bool.false_or, Bool.true_or, Bool.and_true, Bool.true_and, Bool.and_false, Bool.false_and, lenI_nil, lenI_cons, Int.reduceAdd, Int.reduceEq, Int.reduceLT, Int.reduceLE, Int.reduceNeg, decide_true, decide_false, eq_self, not_true_eq_false, not_false_eq_true, whole_int, whole_tup, whole_lst, whole_bl, whole_str, whole_non, whole_dct]
theorem np_t00 (n : Nat) (hn : 2 ≤ n) (s : So) : (CX n).call 1 [.tup [.int 0, .int 0]] s = .ok (.bl false) s := by
  obtain ⟨m, rfl⟩ : ∃ m, n = m + 1 := ⟨n - 1, by omega⟩
  rw [call_eq m 1 f1 rfl]
  unfold f1
  refine (runF_eq _ _ _ _ _ _ (by rfl)).trans ?_
  simp (disch := first | assumption | omega | exact small_of (by decide) | rfl | decide) only [e_c, e_v, e_neg, negR_int, e_not, e_bin, e_cmp, e_and, e_or, e_ite, andR_t, andR_f, orR_t, orR_f, iteR_t, iteR_f, e_tup, e_lst, e_ix, e_call, e_app, goApp_fn, goApp_clo, e_bi, e_lam, cellsOf_nil, cellsOf_cons, cofV_cel, cofK_some, es_nil, es_cons, s_pass, s_ex, s_set, s_par, s_own, ownR_lst, ownV_no, ownV_v, s_setix, ownO_own, appK_ok, appR_eq, s_app, s_ite, ifR_t, ifR_f, s_loop, s_ret, s_brk, s_cont, s_rais, s_tri, triR_ok, ss_nil, ss_cons, seqR_nx, seqR_rt, seqR_bk, seqR_ct, R.bind_ok, R.bind_exc, R.of_some, rd_eq, rdv_v, rdv_cel, rdc_some, bi_len_tup, bi_len_lst, bi_abs, bi_max2, bi_min2, bi_gcd, bi_repr, bi_int, bi_list_l, bi_list_t, bi_bits, bi_isinst, bi_isinsts, isT_some, isTs_some, isAny_nil, isAny_cons,
    tyOf_int, tyOf_bl, tyOf_str, tyOf_lst, tyOf_tup, tyOf_non, tyOf_dct, bo_add, bo_sub, bo_mul, bo_fdiv, bo_mod, bo_pow, co_lt, co_le, co_gt, co_ge, co_eq, co_ne, co_is_bl, eqv_int, tru_non, tru_bl, tru_int, tru_tup, tru_lst, truR_eq, ix_tup, ix_lst, ix_ref, ixr_str, item0, item1, item2, lookK_cons,
    putAt_ref, putR_dic, keyOf_str, wr_eq, wrv_no, wrv_v, wrv_cel, wrc_cel, asg_nm, asg_tup, asgs_nil, asgs_cons, asgK_some, par_nil, par_cons, back_same, back_sameX, cells_cel, celB_some, celB_none, open_cel, parv_no, parv_v, back_ok, back_exc, cells_nil, cells_v, cells_no, open_nil, open_v, open_no, cells_own, open_own, shut_own, shut_nil, shut_v, shut_no, T_run, for_nil, walk_val_l, walk_val_t,
    fin_rt, fin_nx, fin_exc, env0_eq, List.map_cons, List.map_nil, List.replicate, List.cons_append, List.nil_append, List.append_nil, List.getElem?_cons_zero, List.getElem?_cons_succ, List.set_cons_zero, List.set_cons_succ, Option.map_some, if_true, Nat.reduceSub, Nat.reduceAdd, subTy, Nat.reduceLeDiff, reduceIte, Bool.not_true, Bool.not_false, Nat.reduceBEq, Bool.false_eq_true, Bool.or_false, Bool.or_true, Bool.false_or, Bool.true_or, Bool.and_true, Bool.true_and, Bool.and_false, Bool.false_and, lenI_nil, lenI_cons, Int.reduceAdd, Int.reduceEq, Int.reduceLT, Int.reduceLE, Int.reduceNeg, decide_true, decide_false, eq_self, not_true_eq_false, not_false_eq_true, whole_int, whole_tup, whole_lst, whole_bl, whole_str, whole_non, whole_dct]
theorem ratio_int (n : Nat) (hn : 3 ≤ n) (i : Int) (s : So) : (CX n).call 2 [.int i] s = .ok (.bl true) s := by
  obtain ⟨m, rfl⟩ : ∃ m, n = m + 1 := ⟨n - 1, by omega⟩
  rw [call_eq m 2 f2 rfl]
  unfold f2
  refine (runF_eq _ _ _ _ _ _ (by rfl)).trans ?_
  simp (disch := first | assumption | omega | exact small_of (by decide) | rfl | decide) only [e_c, e_v, e_neg, negR_int, e_not, e_bin, e_cmp, e_and, e_or, e_ite, andR_t, andR_f, orR_t, orR_f, iteR_t, iteR_f, e_tup, e_lst, e_ix, e_call, e_app, goApp_fn, goApp_clo, e_bi, e_lam, cellsOf_nil, cellsOf_cons, cofV_cel, cofK_some, es_nil, es_cons, s_pass, s_ex, s_set, s_par, s_own, ownR_lst, ownV_no, ownV_v, s_setix, ownO_own, appK_ok, appR_eq, s_app, s_ite, ifR_t, ifR_f, s_loop, s_ret, s_brk, s_cont, s_rais, s_tri, triR_ok, ss_nil, ss_cons, seqR_nx, seqR_rt, seqR_bk, seqR_ct, R.bind_ok, R.bind_exc, R.of_some, rd_eq, rdv_v, rdv_cel, rdc_some, bi_len_tup, bi_len_lst, bi_abs, bi_max2, bi_min2, bi_gcd, bi_repr, bi_int, bi_list_l, bi_list_t, bi_bits, bi_isinst, bi_isinsts, isT_some, isTs_some, isAny_nil, isAny_cons,
    tyOf_int, tyOf_bl, tyOf_str, tyOf_lst, tyOf_tup, tyOf_non, tyOf_dct, bo_add, bo_sub, bo_mul, bo_fdiv, bo_mod, bo_pow, co_lt, co_le, co_gt, co_ge, co_eq, co_ne, co_is_bl, eqv_int, tru_non, tru_bl, tru_int, tru_tup, tru_lst, truR_eq, ix_tup, ix_lst, ix_ref, ixr_str, item0, item1, item2, lookK_cons,
    putAt_ref, putR_dic, keyOf_str, wr_eq, wrv_no, wrv_v, wrv_cel, wrc_cel, asg_nm, asg_tup, asgs_nil, asgs_cons, asgK_some, par_nil, par_cons, back_same, back_sameX, cells_cel, celB_some, celB_none, open_cel, parv_no, parv_v, back_ok, back_exc, cells_nil, cells_v, cells_no, open_nil, open_v, open_no, cells_own, open_own, shut_own, shut_nil, shut_v, shut_no, T_run, for_nil, walk_val_l, walk_val_t,
    fin_rt, fin_nx, fin_exc, env0_eq, List.map_cons, List.map_nil, List.replicate, List.cons_append, List.nil_append, List.append_nil, List.getElem?_cons_zero, List.getElem?_cons_succ, List.set_cons_zero, List.set_cons_succ, Option.map_some, if_true, Nat.reduceSub, Nat.reduceAdd, subTy, Nat.reduceLeDiff, reduceIte, Bool.not_true, Bool.not_false, Nat.reduceBEq, Bool.false_eq_true, Bool.or_false, Bool.or_true, Bool.false_or, Bool.true_or, Bool.and_true, Bool.true_and, Bool.and_false, Bool.false_and, lenI_nil, lenI_cons, Int.reduceAdd, Int.reduceEq, Int.reduceLT, Int.reduceLE, Int.reduceNeg, decide_true, decide_false, eq_self, not_true_eq_false, not_false_eq_true, whole_int, whole_tup, whole_lst, whole_bl, whole_str, whole_non, whole_dct]
theorem ratio_tup (n : Nat) (hn : 3 ≤ n) (i j : Int) (h : 0 < j) (s : So) : (CX n).call 2 [.tup [.int i, .int j]] s = .ok (.bl true) s := by
  obtain ⟨m, rfl⟩ : ∃ m, n = m + 1 := ⟨n - 1, by omega⟩
  rw [call_eq m 2 f2 rfl]
  unfold f2
  refine (runF_eq _ _ _ _ _ _ (by rfl)).trans ?_
  simp (disch := first | assumption | omega | exact small_of (by decide) | rfl | decide) only [e_c, e_v, e_neg, negR_int, e_not, e_bin, e_cmp, e_and, e_or, e_ite, andR_t, andR_f, orR_t, orR_f, iteR_t, iteR_f, e_tup, e_lst, e_ix, e_call, e_app, goApp_fn, goApp_clo, e_bi, e_lam, cellsOf_nil, cellsOf_cons, cofV_cel, cofK_some, es_nil, es_cons, s_pass, s_ex, s_set, s_par, s_own, ownR_lst, ownV_no, ownV_v, s_setix, ownO_own, appK_ok, appR_eq, s_app, s_ite, ifR_t, ifR_f, s_loop, s_ret, s_brk, s_cont, s_rais, s_tri, triR_ok, ss_nil, ss_cons, seqR_nx, seqR_rt, seqR_bk, seqR_ct, R.bind_ok, R.bind_exc, R.of_some, rd_eq, rdv_v, rdv_cel, rdc_some, bi_len_tup, bi_len_lst, bi_abs, bi_max2, bi_min2, bi_gcd, bi_repr, bi_int, bi_list_l, bi_list_t, bi_bits, bi_isinst, bi_isinsts, isT_some, isTs_some, isAny_nil, isAny_cons,
    tyOf_int, tyOf_bl, tyOf_str, tyOf_lst, tyOf_tup, tyOf_non, tyOf_dct, bo_add, bo_sub, bo_mul, bo_fdiv, bo_mod, bo_pow, co_lt, co_le, co_gt, co_ge, co_eq, co_ne, co_is_bl, eqv_int, tru_non, tru_bl, tru_int, tru_tup, tru_lst, truR_eq, ix_tup, ix_lst, ix_ref, ixr_str, item0, item1, item2, lookK_cons,
    putAt_ref, putR_dic, keyOf_str, wr_eq, wrv_no, wrv_v, wrv_cel, wrc_cel, asg_nm, asg_tup, asgs_nil, asgs_cons, asgK_some, par_nil, par_cons, back_same, back_sameX, cells_cel, celB_some, celB_none, open_cel, parv_no, parv_v, back_ok, back_exc, cells_nil, cells_v, cells_no, open_nil, open_v, open_no, cells_own, open_own, shut_own, shut_nil, shut_v, shut_no, T_run, for_nil, walk_val_l, walk_val_t,
    fin_rt, fin_nx, fin_exc, env0_eq, List.map_cons, List.map_nil, List.replicate, List.cons_append, List.nil_append, List.append_nil, List.getElem?_cons_zero, List.getElem?_cons_succ, List.set_cons_zero, List.set_cons_succ, Option.map_some, if_true, Nat.reduceSub, Nat.reduceAdd, subTy, Nat.reduceLeDiff, reduceIte, Bool.not_true, Bool.not_false, Nat.reduceBEq, Bool.false_eq_true, Bool.or_false, Bool.or_true, Bool.false_or, Bool.true_or, Bool.and_true, Bool.true_and, Bool.and_false, Bool.false_and, lenI_nil, lenI_cons, Int.reduceAdd, Int.reduceEq, Int.reduceLT, Int.reduceLE, Int.reduceNeg, decide_true, decide_false, eq_self, not_true_eq_false, not_false_eq_true, whole_int, whole_tup, whole_lst, whole_bl, whole_str, whole_non, whole_dct, pair_tup, h]
theorem ratio_lst (n : Nat) (hn : 3 ≤ n) (i : List D) (s : So) : (CX n).call 2 [.lst i] s = .ok (.bl false) s := by
  obtain ⟨m, rfl⟩ : ∃ m, n = m + 1 := ⟨n - 1, by omega⟩
  rw [call_eq m 2 f2 rfl]
  unfold f2
  refine (runF_eq _ _ _ _ _ _ (by rfl)).trans ?_
  simp (disch := first | assumption | omega | exact small_of (by decide) | rfl | decide) only [e_c, e_v, e_neg, negR_int, e_not, e_bin, e_cmp, e_and, e_or, e_ite, andR_t, andR_f, orR_t, orR_f, iteR_t, iteR_f, e_tup, e_lst, e_ix, e_call, e_app, goApp_fn, goApp_clo, e_bi, e_lam, cellsOf_nil, cellsOf_cons, cofV_cel, cofK_some, es_nil, es_cons, s_pass, s_ex, s_set, s_par, s_own, ownR_lst, ownV_no, ownV_v, s_setix, ownO_own, appK_ok, appR_eq, s_app, s_ite, ifR_t, ifR_f, s_loop, s_ret, s_brk, s_cont, s_rais, s_tri, triR_ok, ss_nil, ss_cons, seqR_nx, seqR_rt, seqR_bk, seqR_ct, R.bind_ok, R.bind_exc, R.of_some, rd_eq, rdv_v, rdv_cel, rdc_some, bi_len_tup, bi_len_lst, bi_abs, bi_max2, bi_min2, bi_gcd, bi_repr, bi_int, bi_list_l, bi_list_t, bi_bits, bi_isinst, bi_isinsts, isT_some, isTs_some, isAny_nil, isAny_cons,
    tyOf_int, tyOf_bl, tyOf_str, tyOf_lst, tyOf_tup, tyOf_non, tyOf_dct, bo_add, bo_sub, bo_mul, bo_fdiv, bo_mod, bo_pow, co_lt, co_le, co_gt, co_ge, co_eq, co_ne, co_is_bl, eqv_int, tru_non, tru_bl, tru_int, tru_tup, tru_lst, truR_eq, ix_tup, ix_lst, ix_ref, ixr_str, item0, item1, item2, lookK_cons,
    putAt_ref, putR_dic, keyOf_str, wr_eq, wrv_no, wrv_v, wrv_cel, wrc_cel, asg_nm, asg_tup, asgs_nil, asgs_cons, asgK_some, par_nil, par_cons, back_same, back_sameX, cells_cel, celB_some, celB_none, open_cel, parv_no, parv_v, back_ok, back_exc, cells_nil, cells_v, cells_no, open_nil, open_v, open_no, cells_own, open_own, shut_own, shut_nil, shut_v, shut_no, T_run, for_nil, walk_val_l, walk_val_t,
    fin_rt, fin_nx, fin_exc, env0_eq, List.map_cons, List.map_nil, List.replicate, List.cons_append, List.nil_append, List.append_nil, List.getElem?_cons_zero, List.getElem?_cons_succ, List.set_cons_zero, List.set_cons_succ, Option.map_some, if_true, Nat.reduceSub, Nat.reduceAdd, subTy, Nat.reduceLeDiff, reduceIte, Bool.not_true, Bool.not_false, Nat.reduceBEq, Bool.false_eq_true, Bool.or_false, Bool.or_true, Bool.false_or, Bool.true_or, Bool.and_true, Bool.true_and, Bool.and_false, Bool.false_and, lenI_nil, lenI_cons, Int.reduceAdd, Int.reduceEq, Int.reduceLT, Int.reduceLE, Int.reduceNeg, decide_true, decide_false, eq_self, not_true_eq_false, not_false_eq_true, whole_int, whole_tup, whole_lst, whole_bl, whole_str, whole_non, whole_dct]
theorem nr_non (n : Nat) (hn : 3 ≤ n) (s : So) : (CX n).call 2 [.non] s = .ok (.bl false) s := by
  obtain ⟨m, rfl⟩ : ∃ m, n = m + 1 := ⟨n - 1, by omega⟩
  rw [call_eq m 2 f2 rfl]
  unfold f2
  refine (runF_eq _ _ _ _ _ _ (by rfl)).trans ?_
  simp (disch := first | assumption | omega | exact small_of (by decide) | rfl | decide) only [e_c, e_v, e_neg, negR_int, e_not, e_bin, e_cmp, e_and, e_or, e_ite, andR_t, andR_f, orR_t, orR_f, iteR_t, iteR_f, e_tup, e_lst, e_ix, e_call, e_app, goApp_fn, goApp_clo, e_bi, e_lam, cellsOf_nil, cellsOf_cons, cofV_cel, cofK_some, es_nil, es_cons, s_pass, s_ex, s_set, s_par, s_own, ownR_lst, ownV_no, ownV_v, s_setix, ownO_own, appK_ok, appR_eq, s_app, s_ite, ifR_t, ifR_f, s_loop, s_ret, s_brk, s_cont, s_rais, s_tri, triR_ok, ss_nil, ss_cons, seqR_nx, seqR_rt, seqR_bk, seqR_ct, R.bind_ok, R.bind_exc, R.of_some, rd_eq, rdv_v, rdv_cel, rdc_some, bi_len_tup, bi_len_lst, bi_abs, bi_max2, bi_min2, bi_gcd, bi_repr, bi_int, bi_list_l, bi_list_t, bi_bits, bi_isinst, bi_isinsts, isT_some, isTs_some, isAny_nil, isAny_cons,
    tyOf_int, tyOf_bl, tyOf_str, tyOf_lst, tyOf_tup, tyOf_non, tyOf_dct, bo_add, bo_sub, bo_mul, bo_fdiv, bo_mod, bo_pow, co_lt, co_le, co_gt, co_ge, co_eq, co_ne, co_is_bl, eqv_int, tru_non, tru_bl, tru_int, tru_tup, tru_lst, truR_eq, ix_tup, ix_lst, ix_ref, ixr_str, item0, item1, item2, lookK_cons,
    putAt_ref, putR_dic, keyOf_str, wr_eq, wrv_no, wrv_v, wrv_cel, wrc_cel, asg_nm, asg_tup, asgs_nil, asgs_cons, asgK_some, par_nil, par_cons, back_same, back_sameX, cells_cel, celB_some, celB_none, open_cel, parv_no, parv_v, back_ok, back_exc, cells_nil, cells_v, cells_no, open_nil, open_v, open_no, cells_own, open_own, shut_own, shut_nil, shut_v, shut_no, T_run, for_nil, walk_val_l, walk_val_t,
    fin_rt, fin_nx, fin_exc, env0_eq, List.map_cons, List.map_nil, List.replicate, List.cons_append, List.nil_append, List.append_nil, List.getElem?_cons_zero, List.getElem?_cons_succ, List.set_cons_zero, List.set_cons_succ, Option.map_some, if_true, Nat.reduceSub, Nat.reduceAdd, subTy, Nat.reduceLeDiff, reduceIte, Bool.not_true, Bool.not_false, Nat.reduceBEq, Bool.false_eq_true, Bool.or_false, Bool.or_true, Bool.false_or, Bool.true_or, Bool.and_true, Bool.true_and, Bool.and_false, Bool.false_and, lenI_nil, lenI_cons, Int.reduceAdd, Int.reduceEq, Int.reduceLT, Int.reduceLE, Int.reduceNeg, decide_true, decide_false, eq_self, not_true_eq_false, not_false_eq_true, whole_int, whole_tup, whole_lst, whole_bl, whole_str, whole_non, whole_dct, np_non]
theorem nr_s1 (n : Nat) (hn : 3 ≤ n) (s : So) : (CX n).call 2 [.str (.ofString "1")] s = .ok (.bl false) s := by
  obtain ⟨m, rfl⟩ : ∃ m, n = m + 1 := ⟨n - 1, by omega⟩
  rw [call_eq m 2 f2 rfl]
  unfold f2
  refine (runF_eq _ _ _ _ _ _ (by rfl)).trans ?_
  simp (disch := first | assumption | omega | exact small_of (by decide) | rfl | decide) only [e_c, e_v, e_neg, negR_int, e_not, e_bin, e_cmp, e_and, e_or, e_ite, andR_t, andR_f, orR_t, orR_f, iteR_t, iteR_f, e_tup, e_lst, e_ix, e_call, e_app, goApp_fn, goApp_clo, e_bi, e_lam, cellsOf_nil, cellsOf_cons, cofV_cel, cofK_some, es_nil, es_cons, s_pass, s_ex, s_set, s_par, s_own, ownR_lst, ownV_no, ownV_v, s_setix, ownO_own, appK_ok, appR_eq, s_app, s_ite, ifR_t, ifR_f, s_loop, s_ret, s_brk, s_cont, s_rais, s_tri, triR_ok, ss_nil, ss_cons, seqR_nx, seqR_rt, seqR_bk, seqR_ct, R.bind_ok, R.bind_exc, R.of_some, rd_eq, rdv_v, rdv_cel, rdc_some, bi_len_tup, bi_len_lst, bi_abs, bi_max2, bi_min2, bi_gcd, bi_repr, bi_int, bi_list_l, bi_list_t, bi_bits, bi_isinst, bi_isinsts, isT_some, isTs_some, isAny_nil, isAny_cons,
    tyOf_int, tyOf_bl, tyOf_str, tyOf_lst, tyOf_tup, tyOf_non, tyOf_dct, bo_add, bo_sub, bo_mul, bo_fdiv, bo_mod, bo_pow, co_lt, co_le, co_gt, co_ge, co_eq, co_ne, co_is_bl, eqv_int, tru_non, tru_bl, tru_int, tru_tup, tru_lst, truR_eq, ix_tup, ix_lst, ix_ref, ixr_str, item0, item1, item2, lookK_cons,
    putAt_ref, putR_dic, keyOf_str, wr_eq, wrv_no, wrv_v, wrv_cel, wrc_cel, asg_nm, asg_tup, asgs_nil, asgs_cons, asgK_some, par_nil, par_cons, back_same, back_sameX, cells_cel, celB_some, celB_none, open_cel, parv_no, parv_v, back_ok, back_exc, cells_nil, cells_v, cells_no, open_nil, open_v, open_no, cells_own, open_own, shut_own, shut_nil, shut_v, shut_no, T_run, for_nil, walk_val_l, walk_val_t,
    fin_rt, fin_nx, fin_exc, env0_eq, List.map_cons, List.map_nil, List.replicate, List.cons_append, List.nil_append, List.append_nil, List.getElem?_cons_zero, List.getElem?_cons_succ, List.set_cons_zero, List.set_cons_succ, Option.map_some, if_true, Nat.reduceSub, Nat.reduceAdd, subTy, Nat.reduceLeDiff, reduceIte, Bool.not_true, Bool.not_false, Nat.reduceBEq, Bool.false_eq_true, Bool.or_false, Bool.or_true, Bool.false_or, Bool.true_or, Bool.and_true, Bool.true_and, Bool.and_false, Bool.false_and, lenI_nil, lenI_cons, Int.reduceAdd, Int.reduceEq, Int.reduceLT, Int.reduceLE, Int.reduceNeg, decide_true, decide_false, eq_self, not_true_eq_false, not_false_eq_true, whole_int, whole_tup, whole_lst, whole_bl, whole_str, whole_non, whole_dct, np_s1]
theorem nr_t1 (n : Nat) (hn : 3 ≤ n) (s : So) : (CX n).call 2 [.tup [.int 1]] s = .ok (.bl false) s := by
  obtain ⟨m, rfl⟩ : ∃ m, n = m + 1 := ⟨n - 1, by omega⟩
  rw [call_eq m 2 f2 rfl]
  unfold f2
  refine (runF_eq _ _ _ _ _ _ (by rfl)).trans ?_
  simp (disch := first | assumption | omega | exact small_of (by decide) | rfl | decide) only [e_c, e_v, e_neg, negR_int, e_not, e_bin, e_cmp, e_and, e_or, e_ite, andR_t, andR_f, orR_t, orR_f, iteR_t, iteR_f, e_tup, e_lst, e_ix, e_call, e_app, goApp_fn, goApp_clo, e_bi, e_lam, cellsOf_nil, cellsOf_cons, cofV_cel, cofK_some, es_nil, es_cons, s_pass, s_ex, s_set, s_par, s_own, ownR_lst, ownV_no, ownV_v, s_setix, ownO_own, appK_ok, appR_eq, s_app, s_ite, ifR_t, ifR_f, s_loop, s_ret, s_brk, s_cont, s_rais, s_tri, triR_ok, ss_nil, ss_cons, seqR_nx, seqR_rt, seqR_bk, seqR_ct, R.bind_ok, R.bind_exc, R.of_some, rd_eq, rdv_v, rdv_cel, rdc_some, bi_len_tup, bi_len_lst, bi_abs, bi_max2, bi_min2, bi_gcd, bi_repr, bi_int, bi_list_l, bi_list_t, bi_bits, bi_isinst, bi_isinsts, isT_some, isTs_some, isAny_nil, isAny_cons,
    tyOf_int, tyOf_bl, tyOf_str, tyOf_lst, tyOf_tup, tyOf_non, tyOf_dct, bo_add, bo_sub, bo_mul, bo_fdiv, bo_mod, bo_pow, co_lt, co_le, co_gt, co_ge, co_eq, co_ne, co_is_bl, eqv_int, tru_non, tru_bl, tru_int, tru_tup, tru_lst, truR_eq, ix_tup, ix_lst, ix_ref, ixr_str, item0, item1, item2, lookK_cons,
    putAt_ref, putR_dic, keyOf_str, wr_eq, wrv_no, wrv_v, wrv_cel, wrc_cel, asg_nm, asg_tup, asgs_nil, asgs_cons, asgK_some, par_nil, par_cons, back_same, back_sameX, cells_cel, celB_some, celB_none, open_cel, parv_no, parv_v, back_ok, back_exc, cells_nil, cells_v, cells_no, open_nil, open_v, open_no, cells_own, open_own, shut_own, shut_nil, shut_v, shut_no, T_run, for_nil, walk_val_l, walk_val_t,
    fin_rt, fin_nx, fin_exc, env0_eq, List.map_cons, List.map_nil, List.replicate, List.cons_append, List.nil_append, List.append_nil, List.getElem?_cons_zero, List.getElem?_cons_succ, List.set_cons_zero, List.set_cons_succ, Option.map_some, if_true, Nat.reduceSub, Nat.reduceAdd, subTy, Nat.reduceLeDiff, reduceIte, Bool.not_true, Bool.not_false, Nat.reduceBEq, Bool.false_eq_true, Bool.or_false, Bool.or_true, Bool.false_or, Bool.true_or, Bool.and_true, Bool.true_and, Bool.and_false, Bool.false_and, lenI_nil, lenI_cons, Int.reduceAdd, Int.reduceEq, Int.reduceLT, Int.reduceLE, Int.reduceNeg, decide_true, decide_false, eq_self, not_true_eq_false, not_false_eq_true, whole_int, whole_tup, whole_lst, whole_bl, whole_str, whole_non, whole_dct, np_t1]
theorem nr_t10 (n : Nat) (hn : 3 ≤ n) (s : So) : (CX n).call 2 [.tup [.int 1, .int 0]] s = .ok (.bl false) s := by
  obtain ⟨m, rfl⟩ : ∃ m, n = m + 1 := ⟨n - 1, by omega⟩
  rw [call_eq m 2 f2 rfl]
  unfold f2
  refine (runF_eq _ _ _ _ _ _ (by rfl)).trans ?_
  simp (disch := first | assumption | omega | exact small_of (by decide) | rfl | decide) only [e_c, e_v, e_neg, negR_int, e_not, e_bin, e_cmp, e_and, e_or, e_ite, andR_t, andR_f, orR_t, orR_f, iteR_t, iteR_f, e_tup, e_lst, e_ix, e_call, e_app, goApp_fn, goApp_clo, e_bi, e_lam, cellsOf_nil, cellsOf_cons, cofV_cel, cofK_some, es_nil, es_cons, s_pass, s_ex, s_set, s_par, s_own, ownR_lst, ownV_no, ownV_v, s_setix, ownO_own, appK_ok, appR_eq, s_app, s_ite, ifR_t, ifR_f, s_loop, s_ret, s_brk, s_cont, s_rais, s_tri, triR_ok, ss_nil, ss_cons, seqR_nx, seqR_rt, seqR_bk, seqR_ct, R.bind_ok, R.bind_exc, R.of_some, rd_eq, rdv_v, rdv_cel, rdc_some, bi_len_tup, bi_len_lst, bi_abs, bi_max2, bi_min2, bi_gcd, bi_repr, bi_int, bi_list_l, bi_list_t, bi_bits, bi_isinst, bi_isinsts, isT_some, isTs_some, isAny_nil, isAny_cons,
    tyOf_int, tyOf_bl, tyOf_str, tyOf_lst, tyOf_tup, tyOf_non, tyOf_dct, bo_add, bo_sub, bo_mul, bo_fdiv, bo_mod, bo_pow, co_lt, co_le, co_gt, co_ge, co_eq, co_ne, co_is_bl, eqv_int, tru_non, tru_bl, tru_int, tru_tup, tru_lst, truR_eq, ix_tup, ix_lst, ix_ref, ixr_str, item0, item1, item2, lookK_cons,
    putAt_ref, putR_dic, keyOf_str, wr_eq, wrv_no, wrv_v, wrv_cel, wrc_cel, asg_nm, asg_tup, asgs_nil, asgs_cons, asgK_some, par_nil, par_cons, back_same, back_sameX, cells_cel, celB_some, celB_none, open_cel, parv_no, parv_v, back_ok, back_exc, cells_nil, cells_v, cells_no, open_nil, open_v, open_no, cells_own, open_own, shut_own, shut_nil, shut_v, shut_no, T_run, for_nil, walk_val_l, walk_val_t,
    fin_rt, fin_nx, fin_exc, env0_eq, List.map_cons, List.map_nil, List.replicate, List.cons_append, List.nil_append, List.append_nil, List.getElem?_cons_zero, List.getElem?_cons_succ, List.set_cons_zero, List.set_cons_succ, Option.map_some, if_true, Nat.reduceSub, Nat.reduceAdd, subTy, Nat.reduceLeDiff, reduceIte, Bool.not_true, Bool.not_false, Nat.reduceBEq, Bool.false_eq_true, Bool.or_false, Bool.or_true, Bool.false_or, Bool.true_or, Bool.and_true, Bool.true_and, Bool.and_false, Bool.false_and, lenI_nil, lenI_cons, Int.reduceAdd, Int.reduceEq, Int.reduceLT, Int.reduceLE, Int.reduceNeg, decide_true, decide_false, eq_self, not_true_eq_false, not_false_eq_true, whole_int, whole_tup, whole_lst, whole_bl, whole_str, whole_non, whole_dct, np_t10]
theorem nr_t1m2 (n : Nat) (hn : 3 ≤ n) (s : So) : (CX n).call 2 [.tup [.int 1, .int (-2)]] s = .ok (.bl false) s := by
  obtain ⟨m, rfl⟩ : ∃ m, n = m + 1 := ⟨n - 1, by omega⟩
  rw [call_eq m 2 f2 rfl]
  unfold f2
  refine (runF_eq _ _ _ _ _ _ (by rfl)).trans ?_
  simp (disch := first | assumption | omega | exact small_of (by decide) | rfl | decide) only [e_c, e_v, e_neg, negR_int, e_not, e_bin, e_cmp, e_and, e_or, e_ite, andR_t, andR_f, orR_t, orR_f, iteR_t, iteR_f, e_tup, e_lst, e_ix, e_call, e_app, goApp_fn, goApp_clo, e_bi, e_lam, cellsOf_nil, cellsOf_cons, cofV_cel, cofK_some, es_nil, es_cons, s_pass, s_ex, s_set, s_par, s_own, ownR_lst, ownV_no, ownV_v, s_setix, ownO_own, appK_ok, appR_eq, s_app, s_ite, ifR_t, ifR_f, s_loop, s_ret, s_brk, s_cont, s_rais, s_tri, triR_ok, ss_nil, ss_cons, seqR_nx, seqR_rt, seqR_bk, seqR_ct, R.bind_ok, R.bind_exc, R.of_some, rd_eq, rdv_v, rdv_cel, rdc_some, bi_len_tup, bi_len_lst, bi_abs, bi_max2, bi_min2, bi_gcd, bi_repr, bi_int, bi_list_l, bi_list_t, bi_bits, bi_isinst, bi_isinsts, isT_some, isTs_some, isAny_nil, isAny_cons,
    tyOf_int, tyOf_bl, tyOf_str, tyOf_lst, tyOf_tup, tyOf_non, tyOf_dct, bo_add, bo_sub, bo_mul, bo_fdiv, bo_mod, bo_pow, co_lt, co_le, co_gt, co_ge, co_eq, co_ne, co_is_bl, eqv_int, tru_non, tru_bl, tru_int, tru_tup, tru_lst, truR_eq, ix_tup, ix_lst, ix_ref, ixr_str, item0, item1, item2, lookK_cons,
    putAt_ref, putR_dic, keyOf_str, wr_eq, wrv_no, wrv_v, wrv_cel, wrc_cel, asg_nm, asg_tup, asgs_nil, asgs_cons, asgK_some, par_nil, par_cons, back_same, back_sameX, cells_cel, celB_some, celB_none, open_cel, parv_no, parv_v, back_ok, back_exc, cells_nil, cells_v, cells_no, open_nil, open_v, open_no, cells_own, open_own, shut_own, shut_nil, shut_v, shut_no, T_run, for_nil, walk_val_l, walk_val_t,
    fin_rt, fin_nx, fin_exc, env0_eq, List.map_cons, List.map_nil, List.replicate, List.cons_append, List.nil_append, List.append_nil, List.getElem?_cons_zero, List.getElem?_cons_succ, List.set_cons_zero, List.set_cons_succ, Option.map_some, if_true, Nat.reduceSub, Nat.reduceAdd, subTy, Nat.reduceLeDiff, reduceIte, Bool.not_true, Bool.not_false, Nat.reduceBEq, Bool.false_eq_true, Bool.or_false, Bool.or_true, Bool.false_or, Bool.true_or, Bool.and_true, Bool.true_and, Bool.and_false, Bool.false_and, lenI_nil, lenI_cons, Int.reduceAdd, Int.reduceEq, Int.reduceLT, Int.reduceLE, Int.reduceNeg, decide_true, decide_false, eq_self, not_true_eq_false, not_false_eq_true, whole_int, whole_tup, whole_lst, whole_bl, whole_str, whole_non, whole_dct, np_t1m2]
theorem nr_tT2 (n : Nat) (hn : 3 ≤ n) (s : So) : (CX n).call 2 [.tup [.bl true, .int 2]] s = .ok (.bl false) s := by
  obtain ⟨m, rfl⟩ : ∃ m, n = m + 1 := ⟨n - 1, by omega⟩
  rw [call_eq m 2 f2 rfl]
  unfold f2
  refine (runF_eq _ _ _ _ _ _ (by rfl)).trans ?_
  simp (disch := first | assumption | omega | exact small_of (by decide) | rfl | decide) only [e_c, e_v, e_neg, negR_int, e_not, e_bin, e_cmp, e_and, e_or, e_ite, andR_t, andR_f, orR_t, orR_f, iteR_t, iteR_f, e_tup, e_lst, e_ix, e_call, e_app, goApp_fn, goApp_clo, e_bi, e_lam, cellsOf_nil, cellsOf_cons, cofV_cel, cofK_some, es_nil, es_cons, s_pass, s_ex, s_set, s_par, s_own, ownR_lst, ownV_no, ownV_v, s_setix, ownO_own, appK_ok, appR_eq, s_app, s_ite, ifR_t, ifR_f, s_loop, s_ret, s_brk, s_cont, s_rais, s_tri, triR_ok, ss_nil, ss_cons, seqR_nx, seqR_rt, seqR_bk, seqR_ct, R.bind_ok, R.bind_exc, R.of_some, rd_eq, rdv_v, rdv_cel, rdc_some, bi_len_tup, bi_len_lst, bi_abs, bi_max2, bi_min2, bi_gcd, bi_repr, bi_int, bi_list_l, bi_list_t, bi_bits, bi_isinst, bi_isinsts, isT_some, isTs_some, isAny_nil, isAny_cons,
    tyOf_int, tyOf_bl, tyOf_str, tyOf_lst, tyOf_tup, tyOf_non, tyOf_dct, bo_add, bo_sub, bo_mul, bo_fdiv, bo_mod, bo_pow, co_lt, co_le, co_gt, co_ge, co_eq, co_ne, co_is_bl, eqv_int, tru_non, tru_bl, tru_int, tru_tup, tru_lst, truR_eq, ix_tup, ix_lst, ix_ref, ixr_str, item0, item1, item2, lookK_cons,
    putAt_ref, putR_dic, keyOf_str, wr_eq, wrv_no, wrv_v, wrv_cel, wrc_cel, asg_nm, asg_tup, asgs_nil, asgs_cons, asgK_some, par_nil, par_cons, back_same, back_sameX, cells_cel, celB_some, celB_none, open_cel, parv_no, parv_v, back_ok, back_exc, cells_nil, cells_v, cells_no, open_nil, open_v, open_no, cells_own, open_own, shut_own, shut_nil, shut_v, shut_no, T_run, for_nil, walk_val_l, walk_val_t,
    fin_rt, fin_nx, fin_exc, env0_eq, List.map_cons, List.map_nil, List.replicate, List.cons_append, List.nil_append, List.append_nil, List.getElem?_cons_zero, List.getElem?_cons_succ, List.set_cons_zero, List.set_cons_succ, Option.map_some, if_true, Nat.reduceSub, Nat.reduceAdd, subTy, Nat.reduceLeDiff, reduceIte, Bool.not_true, Bool.not_false, Nat.reduceBEq, Bool.false_eq_true, Bool.or_false, Bool.or_true, Bool.false_or, Bool.true_or, Bool.and_true, Bool.true_and, Bool.and_false, Bool.false_and, lenI_nil, lenI_cons, Int.reduceAdd, Int.reduceEq, Int.reduceLT, Int.reduceLE, Int.reduceNeg, decide_true, decide_false, eq_self, not_true_eq_false, not_false_eq_true, whole_int, whole_tup, whole_lst, whole_bl, whole_str, whole_non, whole_dct, np_tT2]
theorem nr_t1T (n : Nat) (hn : 3 ≤ n) (s : So) : (CX n).call 2 [.tup [.int 1, .bl true]] s = .ok (.bl false) s := by
  obtain ⟨m, rfl⟩ : ∃ m, n = m + 1 := ⟨n - 1, by omega⟩
  rw [call_eq m 2 f2 rfl]
  unfold f2
  refine (runF_eq _ _ _ _ _ _ (by rfl)).trans ?_
  simp (disch := first | assumption | omega | exact small_of (by decide) | rfl | decide) only [e_c, e_v, e_neg, negR_int, e_not, e_bin, e_cmp, e_and, e_or, e_ite, andR_t, andR_f, orR_t, orR_f, iteR_t, iteR_f, e_tup, e_lst, e_ix, e_call, e_app, goApp_fn, goApp_clo, e_bi, e_lam, cellsOf_nil, cellsOf_cons, cofV_cel, cofK_some, es_nil, es_cons, s_pass, s_ex, s_set, s_par, s_own, ownR_lst, ownV_no, ownV_v, s_setix, ownO_own, appK_ok, appR_eq, s_app, s_ite, ifR_t, ifR_f, s_loop, s_ret, s_brk, s_cont, s_rais, s_tri, triR_ok, ss_nil, ss_cons, seqR_nx, seqR_rt, seqR_bk, seqR_ct, R.bind_ok, R.bind_exc, R.of_some, rd_eq, rdv_v, rdv_cel, rdc_some, bi_len_tup, bi_len_lst, bi_abs, bi_max2, bi_min2, bi_gcd, bi_repr, bi_int, bi_list_l, bi_list_t, bi_bits, bi_isinst, bi_isinsts, isT_some, isTs_some, isAny_nil, isAny_cons,
    tyOf_int, tyOf_bl, tyOf_str, tyOf_lst, tyOf_tup, tyOf_non, tyOf_dct, bo_add, bo_sub, bo_mul, bo_fdiv, bo_mod, bo_pow, co_lt, co_le, co_gt, co_ge, co_eq, co_ne, co_is_bl, eqv_int, tru_non, tru_bl, tru_int, tru_tup, tru_lst, truR_eq, ix_tup, ix_lst, ix_ref, ixr_str, item0, item1, item2, lookK_cons,
    putAt_ref, putR_dic, keyOf_str, wr_eq, wrv_no, wrv_v, wrv_cel, wrc_cel, asg_nm, asg_tup, asgs_nil, asgs_cons, asgK_some, par_nil, par_cons, back_same, back_sameX, cells_cel, celB_some, celB_none, open_cel, parv_no, parv_v, back_ok, back_exc, cells_nil, cells_v, cells_no, open_nil, open_v, open_no, cells_own, open_own, shut_own, shut_nil, shut_v, shut_no, T_run, for_nil, walk_val_l, walk_val_t,
    fin_rt, fin_nx, fin_exc, env0_eq, List.map_cons, List.map_nil, List.replicate, List.cons_append, List.nil_append, List.append_nil, List.getElem?_cons_zero, List.getElem?_cons_succ, List.set_cons_zero, List.set_cons_succ, Option.map_some, if_true, Nat.reduceSub, Nat.reduceAdd, subTy, Nat.reduceLeDiff, reduceIte, Bool.not_true, Bool.not_false, Nat.reduceBEq, Bool.false_eq_true, Bool.or_false, Bool.or_true, Bool.false_or, Bool.true_or, Bool.and_true, Bool.true_and, Bool.and_false, Bool.false_and, lenI_nil, lenI_cons, Int.reduceAdd, Int.reduceEq, Int.reduceLT, Int.reduceLE, Int.reduceNeg, decide_true, decide_false, eq_self, not_true_eq_false, not_false_eq_true, whole_int, whole_tup, whole_lst, whole_bl, whole_str, whole_non, whole_dct, np_t1T]
theorem nr_T (n : Nat) (hn : 3 ≤ n) (s : So) : (CX n).call 2 [.bl true] s = .ok (.bl false) s := by
  obtain ⟨m, rfl⟩ : ∃ m, n = m + 1 := ⟨n - 1, by omega⟩
  rw [call_eq m 2 f2 rfl]
  unfold f2
  refine (runF_eq _ _ _ _ _ _ (by rfl)).trans ?_
  simp (disch := first | assumption | omega | exact small_of (by decide) | rfl | decide) only [e_c, e_v, e_neg, negR_int, e_not, e_bin, e_cmp, e_and, e_or, e_ite, andR_t, andR_f, orR_t, orR_f, iteR_t, iteR_f, e_tup, e_lst, e_ix, e_call, e_app, goApp_fn, goApp_clo, e_bi, e_lam, cellsOf_nil, cellsOf_cons, cofV_cel, cofK_some, es_nil, es_cons, s_pass, s_ex, s_set, s_par, s_own, ownR_lst, ownV_no, ownV_v, s_setix, ownO_own, appK_ok, appR_eq, s_app, s_ite, ifR_t, ifR_f, s_loop, s_ret, s_brk, s_cont, s_rais, s_tri, triR_ok, ss_nil, ss_cons, seqR_nx, seqR_rt, seqR_bk, seqR_ct, R.bind_ok, R.bind_exc, R.of_some, rd_eq, rdv_v, rdv_cel, rdc_some, bi_len_tup, bi_len_lst, bi_abs, bi_max2, bi_min2, bi_gcd, bi_repr, bi_int, bi_list_l, bi_list_t, bi_bits, bi_isinst, bi_isinsts, isT_some, isTs_some, isAny_nil, isAny_cons,
    tyOf_int, tyOf_bl, tyOf_str, tyOf_lst, tyOf_tup, tyOf_non, tyOf_dct, bo_add, bo_sub, bo_mul, bo_fdiv, bo_mod, bo_pow, co_lt, co_le, co_gt, co_ge, co_eq, co_ne, co_is_bl, eqv_int, tru_non, tru_bl, tru_int, tru_tup, tru_lst, truR_eq, ix_tup, ix_lst, ix_ref, ixr_str, item0, item1, item2, lookK_cons,
    putAt_ref, putR_dic, keyOf_str, wr_eq, wrv_no, wrv_v, wrv_cel, wrc_cel, asg_nm, asg_tup, asgs_nil, asgs_cons, asgK_some, par_nil, par_cons, back_same, back_sameX, cells_cel, celB_some, celB_none, open_cel, parv_no, parv_v, back_ok, back_exc, cells_nil, cells_v, cells_no, open_nil, open_v, open_no, cells_own, open_own, shut_own, shut_nil, shut_v, shut_no, T_run, for_nil, walk_val_l, walk_val_t,
    fin_rt, fin_nx, fin_exc, env0_eq, List.map_cons, List.map_nil, List.replicate, List.cons_append, List.nil_append, List.append_nil, List.getElem?_cons_zero, List.getElem?_cons_succ, List.set_cons_zero, List.set_cons_succ, Option.map_some, if_true, Nat.reduceSub, Nat.reduceAdd, subTy, Nat.reduceLeDiff, reduceIte, Bool.not_true, Bool.not_false, Nat.reduceBEq, Bool.false_eq_true, Bool.or_false, Bool.or_true, Bool.false_or, Bool.true_or, Bool.and_true, Bool.true_and, Bool.and_false, Bool.false_and, lenI_nil, lenI_cons, Int.reduceAdd, Int.reduceEq, Int.reduceLT, Int.reduceLE, Int.reduceNeg, decide_true, decide_false, eq_self, not_true_eq_false, not_false_eq_true, whole_int, whole_tup, whole_lst, whole_bl, whole_str, whole_non, whole_dct, np_T]
theorem nr_t123 (n : Nat) (hn : 3 ≤ n) (s : So) : (CX n).call 2 [.tup [.int 1, .int 2, .int 3]] s = .ok (.bl false) s := by
  obtain ⟨m, rfl⟩ : ∃ m, n = m + 1 := ⟨n - 1, by omega⟩
  rw [call_eq m 2 f2 rfl]
  unfold f2
  refine (runF_eq _ _ _ _ _ _ (by rfl)).trans ?_
  simp (disch := first | assumption | omega | exact small_of (by decide) | rfl | decide) only [e_c, e_v, e_neg, negR_int, e_not, e_bin, e_cmp, e_and, e_or, e_ite, andR_t, andR_f, orR_t, orR_f, iteR_t, iteR_f, e_tup, e_lst, e_ix, e_call, e_app, goApp_fn, goApp_clo, e_bi, e_lam, cellsOf_nil, cellsOf_cons, cofV_cel, cofK_some, es_nil, es_cons, s_pass, s_ex, s_set, s_par, s_own, ownR_lst, ownV_no, ownV_v, s_setix, ownO_own, appK_ok, appR_eq, s_app, s_ite, ifR_t, ifR_f, s_loop, s_ret, s_brk, s_cont, s_rais, s_tri, triR_ok, ss_nil, ss_cons, seqR_nx, seqR_rt, seqR_bk, seqR_ct, R.bind_ok, R.bind_exc, R.of_some, rd_eq, rdv_v, rdv_cel, rdc_some, bi_len_tup, bi_len_lst, bi_abs, bi_max2, bi_min2, bi_gcd, bi_repr, bi_int, bi_list_l, bi_list_t, bi_bits, bi_isinst, bi_isinsts, isT_some, isTs_some, isAny_nil, isAny_cons,
    tyOf_int, tyOf_bl, tyOf_str, tyOf_lst, tyOf_tup, tyOf_non, tyOf_dct, bo_add, bo_sub, bo_mul, bo_fdiv, bo_mod, bo_pow, co_lt, co_le, co_gt, co_ge, co_eq, co_ne, co_is_bl, eqv_int, tru_non, tru_bl, tru_int, tru_tup, tru_lst, truR_eq, ix_tup, ix_lst, ix_ref, ixr_str, item0, item1, item2, lookK_cons,
    putAt_ref, putR_dic, keyOf_str, wr_eq, wrv_no, wrv_v, wrv_cel, wrc_cel, asg_nm, asg_tup, asgs_nil, asgs_cons, asgK_some, par_nil, par_cons, back_same, back_sameX, cells_cel, celB_some, celB_none, open_cel, parv_no, parv_v, back_ok, back_exc, cells_nil, cells_v, cells_no, open_nil, open_v, open_no, cells_own, open_own, shut_own, shut_nil, shut_v, shut_no, T_run, for_nil, walk_val_l, walk_val_t,
    fin_rt, fin_nx, fin_exc, env0_eq, List.map_cons, List.map_nil, List.replicate, List.cons_append, List.nil_append, List.append_nil, List.getElem?_cons_zero, List.getElem?_cons_succ, List.set_cons_zero, List.set_cons_succ, Option.map_some, if_true, Nat.reduceSub, Nat.reduceAdd, subTy, Nat.reduceLeDiff, reduceIte, Bool.not_true, Bool.not_false, Nat.reduceBEq, Bool.false_eq_true, Bool.or_false, Bool.or_true, Bool.false_or, Bool.true_or, Bool.and_true, Bool.true_and, Bool.and_false, Bool.false_and, lenI_nil, lenI_cons, Int.reduceAdd, Int.reduceEq, Int.reduceLT, Int.reduceLE, Int.reduceNeg, decide_true, decide_false, eq_self, not_true_eq_false, not_false_eq_true, whole_int, whole_tup, whole_lst, whole_bl, whole_str, whole_non, whole_dct, np_t123]
theorem nr_l (n : Nat) (hn : 3 ≤ n) (s : So) : (CX n).call 2 [.lst []] s = .ok (.bl false) s := by
  obtain ⟨m, rfl⟩ : ∃ m, n = m + 1 := ⟨n - 1, by omega⟩
  rw [call_eq m 2 f2 rfl]
  unfold f2
  refine (runF_eq _ _ _ _ _ _ (by rfl)).trans ?_
  simp (disch := first | assumption | omega | exact small_of (by decide) | rfl | decide) only [e_c, e_v, e_neg, negR_int, e_not, e_bin, e_cmp, e_and, e_or, e_ite, andR_t, andR_f, orR_t, orR_f, iteR_t, iteR_f, e_tup, e_lst, e_ix, e_call, e_app, goApp_fn, goApp_clo, e_bi, e_lam, cellsOf_nil, cellsOf_cons, cofV_cel, cofK_some, es_nil, es_cons, s_pass, s_ex, s_set, s_par, s_own, ownR_lst, ownV_no, ownV_v, s_setix, ownO_own, appK_ok, appR_eq, s_app, s_ite, ifR_t, ifR_f, s_loop, s_ret, s_brk, s_cont, s_rais, s_tri, triR_ok, ss_nil, ss_cons, seqR_nx, seqR_rt, seqR_bk, seqR_ct, R.bind_ok, R.bind_exc, R.of_some, rd_eq, rdv_v, rdv_cel, rdc_some, bi_len_tup, bi_len_lst, bi_abs, bi_max2, bi_min2, bi_gcd, bi_repr, bi_int, bi_list_l, bi_list_t, bi_bits, bi_isinst, bi_isinsts, isT_some, isTs_some, isAny_nil, isAny_cons,
    tyOf_int, tyOf_bl, tyOf_str, tyOf_lst, tyOf_tup, tyOf_non, tyOf_dct, bo_add, bo_sub, bo_mul, bo_fdiv, bo_mod, bo_pow, co_lt, co_le, co_gt, co_ge, co_eq, co_ne, co_is_bl, eqv_int, tru_non, tru_bl, tru_int, tru_tup, tru_lst, truR_eq, ix_tup, ix_lst, ix_ref, ixr_str, item0, item1, item2, lookK_cons,
    putAt_ref, putR_dic, keyOf_str, wr_eq, wrv_no, wrv_v, wrv_cel, wrc_cel, asg_nm, asg_tup, asgs_nil, asgs_cons, asgK_some, par_nil, par_cons, back_same, back_sameX, cells_cel, celB_some, celB_none, open_cel, parv_no, parv_v, back_ok, back_exc, cells_nil, cells_v, cells_no, open_nil, open_v, open_no, cells_own, open_own, shut_own, shut_nil, shut_v, shut_no, T_run, for_nil, walk_val_l, walk_val_t,
    fin_rt, fin_nx, fin_exc, env0_eq, List.map_cons, List.map_nil, List.replicate, List.cons_append, List.nil_append, List.append_nil, List.getElem?_cons_zero, List.getElem?_cons_succ, List.set_cons_zero, List.set_cons_succ, Option.map_some, if_true, Nat.reduceSub, Nat.reduceAdd, subTy, Nat.reduceLeDiff, reduceIte, Bool.not_true, Bool.not_false, Nat.reduceBEq, Bool.false_eq_true, Bool.or_false, Bool.or_true, Bool.false_or, Bool.true_or, Bool.and_true, Bool.true_and, Bool.and_false, Bool.false_and, lenI_nil, lenI_cons, Int.reduceAdd, Int.reduceEq, Int.reduceLT, Int.reduceLE, Int.reduceNeg, decide_true, decide_false, eq_self, not_true_eq_false, not_false_eq_true, whole_int, whole_tup, whole_lst, whole_bl, whole_str, whole_non, whole_dct, np_l]
theorem nr_d (n : Nat) (hn : 3 ≤ n) (s : So) : (CX n).call 2 [.dct [] []] s = .ok (.bl false) s := by
  obtain ⟨m, rfl⟩ : ∃ m, n = m + 1 := ⟨n - 1, by omega⟩
  rw [call_eq m 2 f2 rfl]
  unfold f2
  refine (runF_eq _ _ _ _ _ _ (by rfl)).trans ?_
  simp (disch := first | assumption | omega | exact small_of (by decide) | rfl | decide) only [e_c, e_v, e_neg, negR_int, e_not, e_bin, e_cmp, e_and, e_or, e_ite, andR_t, andR_f, orR_t, orR_f, iteR_t, iteR_f, e_tup, e_lst, e_ix, e_call, e_app, goApp_fn, goApp_clo, e_bi, e_lam, cellsOf_nil, cellsOf_cons, cofV_cel, cofK_some, es_nil, es_cons, s_pass, s_ex, s_set, s_par, s_own, ownR_lst, ownV_no, ownV_v, s_setix, ownO_own, appK_ok, appR_eq, s_app, s_ite, ifR_t, ifR_f, s_loop, s_ret, s_brk, s_cont, s_rais, s_tri, triR_ok, ss_nil, ss_cons, seqR_nx, seqR_rt, seqR_bk, seqR_ct, R.bind_ok, R.bind_exc, R.of_some, rd_eq, rdv_v, rdv_cel, rdc_some, bi_len_tup, bi_len_lst, bi_abs, bi_max2, bi_min2, bi_gcd, bi_repr, bi_int, bi_list_l, bi_list_t, bi_bits, bi_isinst, bi_isinsts, isT_some, isTs_some, isAny_nil, isAny_cons,
    tyOf_int, tyOf_bl, tyOf_str, tyOf_lst, tyOf_tup, tyOf_non, tyOf_dct, bo_add, bo_sub, bo_mul, bo_fdiv, bo_mod, bo_pow, co_lt, co_le, co_gt, co_ge, co_eq, co_ne, co_is_bl, eqv_int, tru_non, tru_bl, tru_int, tru_tup, tru_lst, truR_eq, ix_tup, ix_lst, ix_ref, ixr_str, item0, item1, item2, lookK_cons,
    putAt_ref, putR_dic, keyOf_str, wr_eq, wrv_no, wrv_v, wrv_cel, wrc_cel, asg_nm, asg_tup, asgs_nil, asgs_cons, asgK_some, par_nil, par_cons, back_same, back_sameX, cells_cel, celB_some, celB_none, open_cel, parv_no, parv_v, back_ok, back_exc, cells_nil, cells_v, cells_no, open_nil, open_v, open_no, cells_own, open_own, shut_own, shut_nil, shut_v, shut_no, T_run, for_nil, walk_val_l, walk_val_t,
    fin_rt, fin_nx, fin_exc, env0_eq, List.map_cons, List.map_nil, List.replicate, List.cons_append, List.nil_append, List.append_nil, List.getElem?_cons_zero, List.getElem?_cons_succ, List.set_cons_zero, List.set_cons_succ, Option.map_some, if_true, Nat.reduceSub, Nat.reduceAdd, subTy, Nat.reduceLeDiff, reduceIte, Bool.not_true, Bool.not_false, Nat.reduceBEq, Bool.false_eq_true, Bool.or_false, Bool.or_true, Bool.false_or, Bool.true_or, Bool.and_true, Bool.true_and, Bool.and_false, Bool.false_and, lenI_nil, lenI_cons, Int.reduceAdd, Int.reduceEq, Int.reduceLT, Int.reduceLE, Int.reduceNeg, decide_true, decide_false, eq_self, not_true_eq_false, not_false_eq_true, whole_int, whole_tup, whole_lst, whole_bl, whole_str, whole_non, whole_dct, np_d]
theorem nr_x (n : Nat) (hn : 3 ≤ n) (s : So) : (CX n).call 2 [.str (.ofString "x")] s = .ok (.bl false) s := by
  obtain ⟨m, rfl⟩ : ∃ m, n = m + 1 := ⟨n - 1, by omega⟩
  rw [call_eq m 2 f2 rfl]
  unfold f2
  refine (runF_eq _ _ _ _ _ _ (by rfl)).trans ?_
  simp (disch := first | assumption | omega | exact small_of (by decide) | rfl | decide) only [e_c, e_v, e_neg, negR_int, e_not, e_bin, e_cmp, e_and, e_or, e_ite, andR_t, andR_f, orR_t, orR_f, iteR_t, iteR_f, e_tup, e_lst, e_ix, e_call, e_app, goApp_fn, goApp_clo, e_bi, e_lam, cellsOf_nil, cellsOf_cons, cofV_cel, cofK_some, es_nil, es_cons, s_pass, s_ex, s_set, s_par, s_own, ownR_lst, ownV_no, ownV_v, s_setix, ownO_own, appK_ok, appR_eq, s_app, s_ite, ifR_t, ifR_f, s_loop, s_ret, s_brk, s_cont, s_rais, s_tri, triR_ok, ss_nil, ss_cons, seqR_nx, seqR_rt, seqR_bk, seqR_ct, R.bind_ok, R.bind_exc, R.of_some, rd_eq, rdv_v, rdv_cel, rdc_some, bi_len_tup, bi_len_lst, bi_abs, bi_max2, bi_min2, bi_gcd, bi_repr, bi_int, bi_list_l, bi_list_t, bi_bits, bi_isinst, bi_isinsts, isT_some, isTs_some, isAny_nil, isAny_cons,
    tyOf_int, tyOf_bl, tyOf_str, tyOf_lst, tyOf_tup, tyOf_non, tyOf_dct, bo_add, bo_sub, bo_mul, bo_fdiv, bo_mod, bo_pow, co_lt, co_le, co_gt, co_ge, co_eq, co_ne, co_is_bl, eqv_int, tru_non, tru_bl, tru_int, tru_tup, tru_lst, truR_eq, ix_tup, ix_lst, ix_ref, ixr_str, item0, item1, item2, lookK_cons,
    putAt_ref, putR_dic, keyOf_str, wr_eq, wrv_no, wrv_v, wrv_cel, wrc_cel, asg_nm, asg_tup, asgs_nil, asgs_cons, asgK_some, par_nil, par_cons, back_same, back_sameX, cells_cel, celB_some, celB_none, open_cel, parv_no, parv_v, back_ok, back_exc, cells_nil, cells_v, cells_no, open_nil, open_v, open_no, cells_own, open_own, shut_own, shut_nil, shut_v, shut_no, T_run, for_nil, walk_val_l, walk_val_t,
    fin_rt, fin_nx, fin_exc, env0_eq, List.map_cons, List.map_nil, List.replicate, List.cons_append, List.nil_append, List.append_nil, List.getElem?_cons_zero, List.getElem?_cons_succ, List.set_cons_zero, List.set_cons_succ, Option.map_some, if_true, Nat.reduceSub, Nat.reduceAdd, subTy, Nat.reduceLeDiff, reduceIte, Bool.not_true, Bool.not_false, Nat.reduceBEq, Bool.false_eq_true, Bool.or_false, Bool.or_true, Bool.false_or, Bool.true_or, Bool.and_true, Bool.true_and, Bool.and_false, Bool.false_and, lenI_nil, lenI_cons, Int.reduceAdd, Int.reduceEq, Int.reduceLT, Int.reduceLE, Int.reduceNeg, decide_true, decide_false, eq_self, not_true_eq_false, not_false_eq_true, whole_int, whole_tup, whole_lst, whole_bl, whole_str, whole_non, whole_dct, np_x]
theorem nr_t00 (n : Nat) (hn : 3 ≤ n) (s : So) : (CX n).call 2 [.tup [.int 0, .int 0]] s = .ok (.bl false) s := by
  obtain ⟨m, rfl⟩ : ∃ m, n = m + 1 := ⟨n - 1, by omega⟩
  rw [call_eq m 2 f2 rfl]
  unfold f2
  refine (runF_eq _ _ _ _ _ _ (by rfl)).trans ?_
  simp (disch := first | assumption | omega | exact small_of (by decide) | rfl | decide) only [e_c, e_v, e_neg, negR_int, e_not, e_bin, e_cmp, e_and, e_or, e_ite, andR_t, andR_f, orR_t, orR_f, iteR_t, iteR_f, e_tup, e_lst, e_ix, e_call, e_app, goApp_fn, goApp_clo, e_bi, e_lam, cellsOf_nil, cellsOf_cons, cofV_cel, cofK_some, es_nil, es_cons, s_pass, s_ex, s_set, s_par, s_own, ownR_lst, ownV_no, ownV_v, s_setix, ownO_own, appK_ok, appR_eq, s_app, s_ite, ifR_t, ifR_f, s_loop, s_ret, s_brk, s_cont, s_rais, s_tri, triR_ok, ss_nil, ss_cons, seqR_nx, seqR_rt, seqR_bk, seqR_ct, R.bind_ok, R.bind_exc, R.of_some, rd_eq, rdv_v, rdv_cel, rdc_some, bi_len_tup, bi_len_lst, bi_abs, bi_max2, bi_min2, bi_gcd, bi_repr, bi_int, bi_list_l, bi_list_t, bi_bits, bi_isinst, bi_isinsts, isT_some, isTs_some, isAny_nil, isAny_cons,
    tyOf_int, tyOf_bl, tyOf_str, tyOf_lst, tyOf_tup, tyOf_non, tyOf_dct, bo_add, bo_sub, bo_mul, bo_fdiv, bo_mod, bo_pow, co_lt, co_le, co_gt, co_ge, co_eq, co_ne, co_is_bl, eqv_int, tru_non, tru_bl, tru_int, tru_tup, tru_lst, truR_eq, ix_tup, ix_lst, ix_ref, ixr_str, item0, item1, item2, lookK_cons,
    putAt_ref, putR_dic, keyOf_str, wr_eq, wrv_no, wrv_v, wrv_cel, wrc_cel, asg_nm, asg_tup, asgs_nil, asgs_cons, asgK_some, par_nil, par_cons, back_same, back_sameX, cells_cel, celB_some, celB_none, open_cel, parv_no, parv_v, back_ok, back_exc, cells_nil, cells_v, cells_no, open_nil, open_v, open_no, cells_own, open_own, shut_own, shut_nil, shut_v, shut_no, T_run, for_nil, walk_val_l, walk_val_t,
    fin_rt, fin_nx, fin_exc, env0_eq, List.map_cons, List.map_nil, List.replicate, List.cons_append, List.nil_append, List.append_nil, List.getElem?_cons_zero, List.getElem?_cons_succ, List.set_cons_zero, List.set_cons_succ, Option.map_some, if_true, Nat.reduceSub, Nat.reduceAdd, subTy, Nat.reduceLeDiff, reduceIte, Bool.not_true, Bool.not_false, Nat.reduceBEq, Bool.false_eq_true, Bool.or_false, Bool.or_true, Bool.false_or, Bool.true_or, Bool.and_true, Bool.true_and, Bool.and_false, Bool.false_and, lenI_nil, lenI_cons, Int.reduceAdd, Int.reduceEq, Int.reduceLT, Int.reduceLE, Int.reduceNeg, decide_true, decide_false, eq_self, not_true_eq_false, not_false_eq_true, whole_int, whole_tup, whole_lst, whole_bl, whole_str, whole_non, whole_dct, np_t00]
/-- the divisor with the bottom's sign -/
def gs (t b : Int) : Int := if 0 < b then (Nat.gcd t.natAbs b.natAbs : Nat) else -(Nat.gcd t.natAbs b.natAbs : Nat)
def rt (t b : Int) : D := .tup [.int t, .int b]
/-- in lowest terms -/
def Qd (t b : Int) : D := rt (t.fdiv (gs t b)) (b.fdiv (gs t b))
theorem gs_pos {t b : Int} (h : 0 < b) : gs t b = (Nat.gcd t.natAbs b.natAbs : Nat) := if_pos h
theorem gs_neg {t b : Int} (h : ¬ 0 < b) : gs t b = -(Nat.gcd t.natAbs b.natAbs : Nat) := if_neg h
theorem lowest_pos (n : Nat) (hn : 1 ≤ n) (t b : Int) (s : So) (h : 0 < b) (h0 : gs t b ≠ 0) (h1 : small (gs t b) = true) : (CX n).call 3 [.int t, .int b] s = .ok (Qd t b) s := by
  obtain ⟨m, rfl⟩ : ∃ m, n = m + 1 := ⟨n - 1, by omega⟩
  rw [call_eq m 3 f3 rfl]
  unfold f3
  refine (runF_eq _ _ _ _ _ _ (by rfl)).trans ?_
  unfold Qd rt
  rw [gs_pos h] at h0 h1 ⊢
  simp (disch := first | assumption | omega | exact small_of (by decide) | rfl | decide) only [e_c, e_v, e_neg, negR_int, e_not, e_bin, e_cmp, e_and, e_or, e_ite, andR_t, andR_f, orR_t, orR_f, iteR_t, iteR_f, e_tup, e_lst, e_ix, e_call, e_app, goApp_fn, goApp_clo, e_bi, e_lam, cellsOf_nil, cellsOf_cons, cofV_cel, cofK_some, es_nil, es_cons, s_pass, s_ex, s_set, s_par, s_own, ownR_lst, ownV_no, ownV_v, s_setix, ownO_own, appK_ok, appR_eq, s_app, s_ite, ifR_t, ifR_f, s_loop, s_ret, s_brk, s_cont, s_rais, s_tri, triR_ok, ss_nil, ss_cons, seqR_nx, seqR_rt, seqR_bk, seqR_ct, R.bind_ok, R.bind_exc, R.of_some, rd_eq, rdv_v, rdv_cel, rdc_some, bi_len_tup, bi_len_lst, bi_abs, bi_max2, bi_min2, bi_gcd, bi_repr, bi_int, bi_list_l, bi_list_t, bi_bits, bi_isinst, bi_isinsts, isT_some, isTs_some, isAny_nil, isAny_cons,
    tyOf_int, tyOf_bl, tyOf_str, tyOf_lst, tyOf_tup, tyOf_non, tyOf_dct, bo_add, bo_sub, bo_mul, bo_fdiv, bo_mod, bo_pow, co_lt, co_le, co_gt, co_ge, co_eq, co_ne, co_is_bl, eqv_int, tru_non, tru_bl, tru_int, tru_tup, tru_lst, truR_eq, ix_tup, ix_lst, ix_ref, ixr_str, item0, item1, item2, lookK_cons,
    putAt_ref, putR_dic, keyOf_str, wr_eq, wrv_no, wrv_v, wrv_cel, wrc_cel, asg_nm, asg_tup, asgs_nil, asgs_cons, asgK_some, par_nil, par_cons, back_same, back_sameX, cells_cel, celB_some, celB_none, open_cel, parv_no, parv_v, back_ok, back_exc, cells_nil, cells_v, cells_no, open_nil, open_v, open_no, cells_own, open_own, shut_own, shut_nil, shut_v, shut_no, T_run, for_nil, walk_val_l, walk_val_t,
    fin_rt, fin_nx, fin_exc, env0_eq, List.map_cons, List.map_nil, List.replicate, List.cons_append, List.nil_append, List.append_nil, List.getElem?_cons_zero, List.getElem?_cons_succ, List.set_cons_zero, List.set_cons_succ, Option.map_some, if_true, Nat.reduceSub, Nat.reduceAdd, subTy, Nat.reduceLeDiff, reduceIte, Bool.not_true, Bool.not_false, Nat.reduceBEq, Bool.false_eq_true, Bool.or_false, Bool.or_true, Bool.false_or, Bool.true_or, Bool.and_true, Bool.true_and, Bool.and_false, Bool.false_and, lenI_nil, lenI_cons, Int.reduceAdd, Int.reduceEq, Int.reduceLT, Int.reduceLE, Int.reduceNeg, decide_true, decide_false, eq_self, not_true_eq_false, not_false_eq_true, h]
theorem lowest_neg (n : Nat) (hn : 1 ≤ n) (t b : Int) (s : So) (h : ¬ 0 < b) (h0 : gs t b ≠ 0) (h1 : small (gs t b) = true) : (CX n).call 3 [.int t, .int b] s = .ok (Qd t b) s := by
  obtain ⟨m, rfl⟩ : ∃ m, n = m + 1 := ⟨n - 1, by omega⟩
  rw [call_eq m 3 f3 rfl]
  unfold f3
  refine (runF_eq _ _ _ _ _ _ (by rfl)).trans ?_
  unfold Qd rt
  rw [gs_neg h] at h0 h1 ⊢
  simp (disch := first | assumption | omega | exact small_of (by decide) | rfl | decide) only [e_c, e_v, e_neg, negR_int, e_not, e_bin, e_cmp, e_and, e_or, e_ite, andR_t, andR_f, orR_t, orR_f, iteR_t, iteR_f, e_tup, e_lst, e_ix, e_call, e_app, goApp_fn, goApp_clo, e_bi, e_lam, cellsOf_nil, cellsOf_cons, cofV_cel, cofK_some, es_nil, es_cons, s_pass, s_ex, s_set, s_par, s_own, ownR_lst, ownV_no, ownV_v, s_setix, ownO_own, appK_ok, appR_eq, s_app, s_ite, ifR_t, ifR_f, s_loop, s_ret, s_brk, s_cont, s_rais, s_tri, triR_ok, ss_nil, ss_cons, seqR_nx, seqR_rt, seqR_bk, seqR_ct, R.bind_ok, R.bind_exc, R.of_some, rd_eq, rdv_v, rdv_cel, rdc_some, bi_len_tup, bi_len_lst, bi_abs, bi_max2, bi_min2, bi_gcd, bi_repr, bi_int, bi_list_l, bi_list_t, bi_bits, bi_isinst, bi_isinsts, isT_some, isTs_some, isAny_nil, isAny_cons,
    tyOf_int, tyOf_bl, tyOf_str, tyOf_lst, tyOf_tup, tyOf_non, tyOf_dct, bo_add, bo_sub, bo_mul, bo_fdiv, bo_mod, bo_pow, co_lt, co_le, co_gt, co_ge, co_eq, co_ne, co_is_bl, eqv_int, tru_non, tru_bl, tru_int, tru_tup, tru_lst, truR_eq, ix_tup, ix_lst, ix_ref, ixr_str, item0, item1, item2, lookK_cons,
    putAt_ref, putR_dic, keyOf_str, wr_eq, wrv_no, wrv_v, wrv_cel, wrc_cel, asg_nm, asg_tup, asgs_nil, asgs_cons, asgK_some, par_nil, par_cons, back_same, back_sameX, cells_cel, celB_some, celB_none, open_cel, parv_no, parv_v, back_ok, back_exc, cells_nil, cells_v, cells_no, open_nil, open_v, open_no, cells_own, open_own, shut_own, shut_nil, shut_v, shut_no, T_run, for_nil, walk_val_l, walk_val_t,
    fin_rt, fin_nx, fin_exc, env0_eq, List.map_cons, List.map_nil, List.replicate, List.cons_append, List.nil_append, List.append_nil, List.getElem?_cons_zero, List.getElem?_cons_succ, List.set_cons_zero, List.set_cons_succ, Option.map_some, if_true, Nat.reduceSub, Nat.reduceAdd, subTy, Nat.reduceLeDiff, reduceIte, Bool.not_true, Bool.not_false, Nat.reduceBEq, Bool.false_eq_true, Bool.or_false, Bool.or_true, Bool.false_or, Bool.true_or, Bool.and_true, Bool.true_and, Bool.and_false, Bool.false_and, lenI_nil, lenI_cons, Int.reduceAdd, Int.reduceEq, Int.reduceLT, Int.reduceLE, Int.reduceNeg, decide_true, decide_false, eq_self, not_true_eq_false, not_false_eq_true, h]
theorem lowest (n : Nat) (hn : 1 ≤ n) (t b : Int) (s : So) (h0 : gs t b ≠ 0) (h1 : small (gs t b) = true) : (CX n).call 3 [.int t, .int b] s = .ok (Qd t b) s := by
  by_cases h : 0 < b
  · exact lowest_pos n hn t b s h h0 h1
  · exact lowest_neg n hn t b s h h0 h1
theorem told_int (n : Nat) (hn : 4 ≤ n) (i : Int) (s : So) : (CX n).call 4 [.int i] s = .ok (rt i 1) s := by
  obtain ⟨m, rfl⟩ : ∃ m, n = m + 1 := ⟨n - 1, by omega⟩
  rw [call_eq m 4 f4 rfl]
  unfold f4
  refine (runF_eq _ _ _ _ _ _ (by rfl)).trans ?_
  simp (disch := first | assumption | omega | exact small_of (by decide) | rfl | decide) only [e_c, e_v, e_neg, negR_int, e_not, e_bin, e_cmp, e_and, e_or, e_ite, andR_t, andR_f, orR_t, orR_f, iteR_t, iteR_f, e_tup, e_lst, e_ix, e_call, e_app, goApp_fn, goApp_clo, e_bi, e_lam, cellsOf_nil, cellsOf_cons, cofV_cel, cofK_some, es_nil, es_cons, s_pass, s_ex, s_set, s_par, s_own, ownR_lst, ownV_no, ownV_v, s_setix, ownO_own, appK_ok, appR_eq, s_app, s_ite, ifR_t, ifR_f, s_loop, s_ret, s_brk, s_cont, s_rais, s_tri, triR_ok, ss_nil, ss_cons, seqR_nx, seqR_rt, seqR_bk, seqR_ct, R.bind_ok, R.bind_exc, R.of_some, rd_eq, rdv_v, rdv_cel, rdc_some, bi_len_tup, bi_len_lst, bi_abs, bi_max2, bi_min2, bi_gcd, bi_repr, bi_int, bi_list_l, bi_list_t, bi_bits, bi_isinst, bi_isinsts, isT_some, isTs_some, isAny_nil, isAny_cons,
    tyOf_int, tyOf_bl, tyOf_str, tyOf_lst, tyOf_tup, tyOf_non, tyOf_dct, bo_add, bo_sub, bo_mul, bo_fdiv, bo_mod, bo_pow, co_lt, co_le, co_gt, co_ge, co_eq, co_ne, co_is_bl, eqv_int, tru_non, tru_bl, tru_int, tru_tup, tru_lst, truR_eq, ix_tup, ix_lst, ix_ref, ixr_str, item0, item1, item2, lookK_cons,
    putAt_ref, putR_dic, keyOf_str, wr_eq, wrv_no, wrv_v, wrv_cel, wrc_cel, asg_nm, asg_tup, asgs_nil, asgs_cons, asgK_some, par_nil, par_cons, back_same, back_sameX, cells_cel, celB_some, celB_none, open_cel, parv_no, parv_v, back_ok, back_exc, cells_nil, cells_v, cells_no, open_nil, open_v, open_no, cells_own, open_own, shut_own, shut_nil, shut_v, shut_no, T_run, for_nil, walk_val_l, walk_val_t,
    fin_rt, fin_nx, fin_exc, env0_eq, List.map_cons, List.map_nil, List.replicate, List.cons_append, List.nil_append, List.append_nil, List.getElem?_cons_zero, List.getElem?_cons_succ, List.set_cons_zero, List.set_cons_succ, Option.map_some, if_true, Nat.reduceSub, Nat.reduceAdd, subTy, Nat.reduceLeDiff, reduceIte, Bool.not_true, Bool.not_false, Nat.reduceBEq, Bool.false_eq_true, Bool.or_false, Bool.or_true, Bool.false_or, Bool.true_or, Bool.and_true, Bool.true_and, Bool.and_false, Bool.false_and, lenI_nil, lenI_cons, Int.reduceAdd, Int.reduceEq, Int.reduceLT, Int.reduceLE, Int.reduceNeg, decide_true, decide_false, eq_self, not_true_eq_false, not_false_eq_true, whole_int, whole_tup, whole_lst, whole_bl, whole_str, whole_non, whole_dct, rt]
theorem told_tup (n : Nat) (hn : 4 ≤ n) (i j : Int) (s : So) (h : 0 < j) (h0 : gs i j ≠ 0) (h1 : small (gs i j) = true) : (CX n).call 4 [.tup [.int i, .int j]] s = .ok (Qd i j) s := by
  obtain ⟨m, rfl⟩ : ∃ m, n = m + 1 := ⟨n - 1, by omega⟩
  rw [call_eq m 4 f4 rfl]
  unfold f4
  refine (runF_eq _ _ _ _ _ _ (by rfl)).trans ?_
  simp (disch := first | assumption | omega | exact small_of (by decide) | rfl | decide) only [e_c, e_v, e_neg, negR_int, e_not, e_bin, e_cmp, e_and, e_or, e_ite, andR_t, andR_f, orR_t, orR_f, iteR_t, iteR_f, e_tup, e_lst, e_ix, e_call, e_app, goApp_fn, goApp_clo, e_bi, e_lam, cellsOf_nil, cellsOf_cons, cofV_cel, cofK_some, es_nil, es_cons, s_pass, s_ex, s_set, s_par, s_own, ownR_lst, ownV_no, ownV_v, s_setix, ownO_own, appK_ok, appR_eq, s_app, s_ite, ifR_t, ifR_f, s_loop, s_ret, s_brk, s_cont, s_rais, s_tri, triR_ok, ss_nil, ss_cons, seqR_nx, seqR_rt, seqR_bk, seqR_ct, R.bind_ok, R.bind_exc, R.of_some, rd_eq, rdv_v, rdv_cel, rdc_some, bi_len_tup, bi_len_lst, bi_abs, bi_max2, bi_min2, bi_gcd, bi_repr, bi_int, bi_list_l, bi_list_t, bi_bits, bi_isinst, bi_isinsts, isT_some, isTs_some, isAny_nil, isAny_cons,
    tyOf_int, tyOf_bl, tyOf_str, tyOf_lst, tyOf_tup, tyOf_non, tyOf_dct, bo_add, bo_sub, bo_mul, bo_fdiv, bo_mod, bo_pow, co_lt, co_le, co_gt, co_ge, co_eq, co_ne, co_is_bl, eqv_int, tru_non, tru_bl, tru_int, tru_tup, tru_lst, truR_eq, ix_tup, ix_lst, ix_ref, ixr_str, item0, item1, item2, lookK_cons,
    putAt_ref, putR_dic, keyOf_str, wr_eq, wrv_no, wrv_v, wrv_cel, wrc_cel, asg_nm, asg_tup, asgs_nil, asgs_cons, asgK_some, par_nil, par_cons, back_same, back_sameX, cells_cel, celB_some, celB_none, open_cel, parv_no, parv_v, back_ok, back_exc, cells_nil, cells_v, cells_no, open_nil, open_v, open_no, cells_own, open_own, shut_own, shut_nil, shut_v, shut_no, T_run, for_nil, walk_val_l, walk_val_t,
    fin_rt, fin_nx, fin_exc, env0_eq, List.map_cons, List.map_nil, List.replicate, List.cons_append, List.nil_append, List.append_nil, List.getElem?_cons_zero, List.getElem?_cons_succ, List.set_cons_zero, List.set_cons_succ, Option.map_some, if_true, Nat.reduceSub, Nat.reduceAdd, subTy, Nat.reduceLeDiff, reduceIte, Bool.not_true, Bool.not_false, Nat.reduceBEq, Bool.false_eq_true, Bool.or_false, Bool.or_true, Bool.false_or, Bool.true_or, Bool.and_true, Bool.true_and, Bool.and_false, Bool.false_and, lenI_nil, lenI_cons, Int.reduceAdd, Int.reduceEq, Int.reduceLT, Int.reduceLE, Int.reduceNeg, decide_true, decide_false, eq_self, not_true_eq_false, not_false_eq_true, whole_int, whole_tup, whole_lst, whole_bl, whole_str, whole_non, whole_dct, pair_tup, lowest, h]
theorem told_lst (n : Nat) (hn : 4 ≤ n) (i j : Int) (s : So) (h : 0 < j) (h0 : gs i j ≠ 0) (h1 : small (gs i j) = true) : (CX n).call 4 [.lst [.int i, .int j]] s = .ok (Qd i j) s := by
  obtain ⟨m, rfl⟩ : ∃ m, n = m + 1 := ⟨n - 1, by omega⟩
  rw [call_eq m 4 f4 rfl]
  unfold f4
  refine (runF_eq _ _ _ _ _ _ (by rfl)).trans ?_
  simp (disch := first | assumption | omega | exact small_of (by decide) | rfl | decide) only [e_c, e_v, e_neg, negR_int, e_not, e_bin, e_cmp, e_and, e_or, e_ite, andR_t, andR_f, orR_t, orR_f, iteR_t, iteR_f, e_tup, e_lst, e_ix, e_call, e_app, goApp_fn, goApp_clo, e_bi, e_lam, cellsOf_nil, cellsOf_cons, cofV_cel, cofK_some, es_nil, es_cons, s_pass, s_ex, s_set, s_par, s_own, ownR_lst, ownV_no, ownV_v, s_setix, ownO_own, appK_ok, appR_eq, s_app, s_ite, ifR_t, ifR_f, s_loop, s_ret, s_brk, s_cont, s_rais, s_tri, triR_ok, ss_nil, ss_cons, seqR_nx, seqR_rt, seqR_bk, seqR_ct, R.bind_ok, R.bind_exc, R.of_some, rd_eq, rdv_v, rdv_cel, rdc_some, bi_len_tup, bi_len_lst, bi_abs, bi_max2, bi_min2, bi_gcd, bi_repr, bi_int, bi_list_l, bi_list_t, bi_bits, bi_isinst, bi_isinsts, isT_some, isTs_some, isAny_nil, isAny_cons,
    tyOf_int, tyOf_bl, tyOf_str, tyOf_lst, tyOf_tup, tyOf_non, tyOf_dct, bo_add, bo_sub, bo_mul, bo_fdiv, bo_mod, bo_pow, co_lt, co_le, co_gt, co_ge, co_eq, co_ne, co_is_bl, eqv_int, tru_non, tru_bl, tru_int, tru_tup, tru_lst, truR_eq, ix_tup, ix_lst, ix_ref, ixr_str, item0, item1, item2, lookK_cons,
    putAt_ref, putR_dic, keyOf_str, wr_eq, wrv_no, wrv_v, wrv_cel, wrc_cel, asg_nm, asg_tup, asgs_nil, asgs_cons, asgK_some, par_nil, par_cons, back_same, back_sameX, cells_cel, celB_some, celB_none, open_cel, parv_no, parv_v, back_ok, back_exc, cells_nil, cells_v, cells_no, open_nil, open_v, open_no, cells_own, open_own, shut_own, shut_nil, shut_v, shut_no, T_run, for_nil, walk_val_l, walk_val_t,
    fin_rt, fin_nx, fin_exc, env0_eq, List.map_cons, List.map_nil, List.replicate, List.cons_append, List.nil_append, List.append_nil, List.getElem?_cons_zero, List.getElem?_cons_succ, List.set_cons_zero, List.set_cons_succ, Option.map_some, if_true, Nat.reduceSub, Nat.reduceAdd, subTy, Nat.reduceLeDiff, reduceIte, Bool.not_true, Bool.not_false, Nat.reduceBEq, Bool.false_eq_true, Bool.or_false, Bool.or_true, Bool.false_or, Bool.true_or, Bool.and_true, Bool.true_and, Bool.and_false, Bool.false_and, lenI_nil, lenI_cons, Int.reduceAdd, Int.reduceEq, Int.reduceLT, Int.reduceLE, Int.reduceNeg, decide_true, decide_false, eq_self, not_true_eq_false, not_false_eq_true, whole_int, whole_tup, whole_lst, whole_bl, whole_str, whole_non, whole_dct, pair_lst, lowest, h]
theorem nt_non (n : Nat) (hn : 4 ≤ n) (s : So) : (CX n).call 4 [.non] s = .exc ⟨2, [.non]⟩ s := by
  obtain ⟨m, rfl⟩ : ∃ m, n = m + 1 := ⟨n - 1, by omega⟩
  rw [call_eq m 4 f4 rfl]
  unfold f4
  refine (runF_eq _ _ _ _ _ _ (by rfl)).trans ?_
  simp (disch := first | assumption | omega | exact small_of (by decide) | rfl | decide) only [e_c, e_v, e_neg, negR_int, e_not, e_bin, e_cmp, e_and, e_or, e_ite, andR_t, andR_f, orR_t, orR_f, iteR_t, iteR_f, e_tup, e_lst, e_ix, e_call, e_app, goApp_fn, goApp_clo, e_bi, e_lam, cellsOf_nil, cellsOf_cons, cofV_cel, cofK_some, es_nil, es_cons, s_pass, s_ex, s_set, s_par, s_own, ownR_lst, ownV_no, ownV_v, s_setix, ownO_own, appK_ok, appR_eq, s_app, s_ite, ifR_t, ifR_f, s_loop, s_ret, s_brk, s_cont, s_rais, s_tri, triR_ok, ss_nil, ss_cons, seqR_nx, seqR_rt, seqR_bk, seqR_ct, R.bind_ok, R.bind_exc, R.of_some, rd_eq, rdv_v, rdv_cel, rdc_some, bi_len_tup, bi_len_lst, bi_abs, bi_max2, bi_min2, bi_gcd, bi_repr, bi_int, bi_list_l, bi_list_t, bi_bits, bi_isinst, bi_isinsts, isT_some, isTs_some, isAny_nil, isAny_cons,
    tyOf_int, tyOf_bl, tyOf_str, tyOf_lst, tyOf_tup, tyOf_non, tyOf_dct, bo_add, bo_sub, bo_mul, bo_fdiv, bo_mod, bo_pow, co_lt, co_le, co_gt, co_ge, co_eq, co_ne, co_is_bl, eqv_int, tru_non, tru_bl, tru_int, tru_tup, tru_lst, truR_eq, ix_tup, ix_lst, ix_ref, ixr_str, item0, item1, item2, lookK_cons,
    putAt_ref, putR_dic, keyOf_str, wr_eq, wrv_no, wrv_v, wrv_cel, wrc_cel, asg_nm, asg_tup, asgs_nil, asgs_cons, asgK_some, par_nil, par_cons, back_same, back_sameX, cells_cel, celB_some, celB_none, open_cel, parv_no, parv_v, back_ok, back_exc, cells_nil, cells_v, cells_no, open_nil, open_v, open_no, cells_own, open_own, shut_own, shut_nil, shut_v, shut_no, T_run, for_nil, walk_val_l, walk_val_t,
    fin_rt, fin_nx, fin_exc, env0_eq, List.map_cons, List.map_nil, List.replicate, List.cons_append, List.nil_append, List.append_nil, List.getElem?_cons_zero, List.getElem?_cons_succ, List.set_cons_zero, List.set_cons_succ, Option.map_some, if_true, Nat.reduceSub, Nat.reduceAdd, subTy, Nat.reduceLeDiff, reduceIte, Bool.not_true, Bool.not_false, Nat.reduceBEq, Bool.false_eq_true, Bool.or_false, Bool.or_true, Bool.false_or, Bool.true_or, Bool.and_true, Bool.true_and, Bool.and_false, Bool.false_and, lenI_nil, lenI_cons, Int.reduceAdd, Int.reduceEq, Int.reduceLT, Int.reduceLE, Int.reduceNeg, decide_true, decide_false, eq_self, not_true_eq_false, not_false_eq_true, whole_int, whole_tup, whole_lst, whole_bl, whole_str, whole_non, whole_dct, np_non]
theorem nt_s1 (n : Nat) (hn : 4 ≤ n) (s : So) : (CX n).call 4 [.str (.ofString "1")] s = .exc ⟨2, [.str (.ofString "1")]⟩ s := by
  obtain ⟨m, rfl⟩ : ∃ m, n = m + 1 := ⟨n - 1, by omega⟩
  rw [call_eq m 4 f4 rfl]
  unfold f4
  refine (runF_eq _ _ _ _ _ _ (by rfl)).trans ?_
  simp (disch := first | assumption | omega | exact small_of (by decide) | rfl | decide) only [e_c, e_v, e_neg, negR_int, e_not, e_bin, e_cmp, e_and, e_or, e_ite, andR_t, andR_f, orR_t, orR_f, iteR_t, iteR_f, e_tup, e_lst, e_ix, e_call, e_app, goApp_fn, goApp_clo, e_bi, e_lam, cellsOf_nil, cellsOf_cons, cofV_cel, cofK_some, es_nil, es_cons, s_pass, s_ex, s_set, s_par, s_own, ownR_lst, ownV_no, ownV_v, s_setix, ownO_own, appK_ok, appR_eq, s_app, s_ite, ifR_t, ifR_f, s_loop, s_ret, s_brk, s_cont, s_rais, s_tri, triR_ok, ss_nil, ss_cons, seqR_nx, seqR_rt, seqR_bk, seqR_ct, R.bind_ok, R.bind_exc, R.of_some, rd_eq, rdv_v, rdv_cel, rdc_some, bi_len_tup, bi_len_lst, bi_abs, bi_max2, bi_min2, bi_gcd, bi_repr, bi_int, bi_list_l, bi_list_t, bi_bits, bi_isinst, bi_isinsts, isT_some, isTs_some, isAny_nil, isAny_cons,
    tyOf_int, tyOf_bl, tyOf_str, tyOf_lst, tyOf_tup, tyOf_non, tyOf_dct, bo_add, bo_sub, bo_mul, bo_fdiv, bo_mod, bo_pow, co_lt, co_le, co_gt, co_ge, co_eq, co_ne, co_is_bl, eqv_int, tru_non, tru_bl, tru_int, tru_tup, tru_lst, truR_eq, ix_tup, ix_lst, ix_ref, ixr_str, item0, item1, item2, lookK_cons,
    putAt_ref, putR_dic, keyOf_str, wr_eq, wrv_no, wrv_v, wrv_cel, wrc_cel, asg_nm, asg_tup, asgs_nil, asgs_cons, asgK_some, par_nil, par_cons, back_same, back_sameX, cells_cel, celB_some, celB_none, open_cel, parv_no, parv_v, back_ok, back_exc, cells_nil, cells_v, cells_no, open_nil, open_v, open_no, cells_own, open_own, shut_own, shut_nil, shut_v, shut_no, T_run, for_nil, walk_val_l, walk_val_t,
    fin_rt, fin_nx, fin_exc, env0_eq, List.map_cons, List.map_nil, List.replicate, List.cons_append, List.nil_append, List.append_nil, List.getElem?_cons_zero, List.getElem?_cons_succ, List.set_cons_zero, List.set_cons_succ, Option.map_some, if_true, Nat.reduceSub, Nat.reduceAdd, subTy, Nat.reduceLeDiff, reduceIte, Bool.not_true, Bool.not_false, Nat.reduceBEq, Bool.false_eq_true, Bool.or_false, Bool.or_true, Bool.false_or, Bool.true_or, Bool.and_true, Bool.true_and, Bool.and_false, Bool.false_and, lenI_nil, lenI_cons, Int.reduceAdd, Int.reduceEq, Int.reduceLT, Int.reduceLE, Int.reduceNeg, decide_true, decide_false, eq_self, not_true_eq_false, not_false_eq_true, whole_int, whole_tup, whole_lst, whole_bl, whole_str, whole_non, whole_dct, np_s1]
theorem nt_t1 (n : Nat) (hn : 4 ≤ n) (s : So) : (CX n).call 4 [.tup [.int 1]] s = .exc ⟨2, [.tup [.int 1]]⟩ s := by
  obtain ⟨m, rfl⟩ : ∃ m, n = m + 1 := ⟨n - 1, by omega⟩
  rw [call_eq m 4 f4 rfl]
  unfold f4
  refine (runF_eq _ _ _ _ _ _ (by rfl)).trans ?_
  simp (disch := first | assumption | omega | exact small_of (by decide) | rfl | decide) only [e_c, e_v, e_neg, negR_int, e_not, e_bin, e_cmp, e_and, e_or, e_ite, andR_t, andR_f, orR_t, orR_f, iteR_t, iteR_f, e_tup, e_lst, e_ix, e_call, e_app, goApp_fn, goApp_clo, e_bi, e_lam, cellsOf_nil, cellsOf_cons, cofV_cel, cofK_some, es_nil, es_cons, s_pass, s_ex, s_set, s_par, s_own, ownR_lst, ownV_no, ownV_v, s_setix, ownO_own, appK_ok, appR_eq, s_app, s_ite, ifR_t, ifR_f, s_loop, s_ret, s_brk, s_cont, s_rais, s_tri, triR_ok, ss_nil, ss_cons, seqR_nx, seqR_rt, seqR_bk, seqR_ct, R.bind_ok, R.bind_exc, R.of_some, rd_eq, rdv_v, rdv_cel, rdc_some, bi_len_tup, bi_len_lst, bi_abs, bi_max2, bi_min2, bi_gcd, bi_repr, bi_int, bi_list_l, bi_list_t, bi_bits, bi_isinst, bi_isinsts, isT_some, isTs_some, isAny_nil, isAny_cons,
    tyOf_int, tyOf_bl, tyOf_str, tyOf_lst, tyOf_tup, tyOf_non, tyOf_dct, bo_add, bo_sub, bo_mul, bo_fdiv, bo_mod, bo_pow, co_lt, co_le, co_gt, co_ge, co_eq, co_ne, co_is_bl, eqv_int, tru_non, tru_bl, tru_int, tru_tup, tru_lst, truR_eq, ix_tup, ix_lst, ix_ref, ixr_str, item0, item1, item2, lookK_cons,
    putAt_ref, putR_dic, keyOf_str, wr_eq, wrv_no, wrv_v, wrv_cel, wrc_cel, asg_nm, asg_tup, asgs_nil, asgs_cons, asgK_some, par_nil, par_cons, back_same, back_sameX, cells_cel, celB_some, celB_none, open_cel, parv_no, parv_v, back_ok, back_exc, cells_nil, cells_v, cells_no, open_nil, open_v, open_no, cells_own, open_own, shut_own, shut_nil, shut_v, shut_no, T_run, for_nil, walk_val_l, walk_val_t,
    fin_rt, fin_nx, fin_exc, env0_eq, List.map_cons, List.map_nil, List.replicate, List.cons_append, List.nil_append, List.append_nil, List.getElem?_cons_zero, List.getElem?_cons_succ, List.set_cons_zero, List.set_cons_succ, Option.map_some, if_true, Nat.reduceSub, Nat.reduceAdd, subTy, Nat.reduceLeDiff, reduceIte, Bool.not_true, Bool.not_false, Nat.reduceBEq, Bool.false_eq_true, Bool.or_false, Bool.or_true, Bool.false_or, Bool.true_or, Bool.and_true, Bool.true_and, Bool.and_false, Bool.false_and, lenI_nil, lenI_cons, Int.reduceAdd, Int.reduceEq, Int.reduceLT, Int.reduceLE, Int.reduceNeg, decide_true, decide_false, eq_self, not_true_eq_false, not_false_eq_true, whole_int, whole_tup, whole_lst, whole_bl, whole_str, whole_non, whole_dct, np_t1]
theorem nt_t10 (n : Nat) (hn : 4 ≤ n) (s : So) : (CX n).call 4 [.tup [.int 1, .int 0]] s = .exc ⟨2, [.tup [.int 1, .int 0]]⟩ s := by
  obtain ⟨m, rfl⟩ : ∃ m, n = m + 1 := ⟨n - 1, by omega⟩
  rw [call_eq m 4 f4 rfl]
  unfold f4
  refine (runF_eq _ _ _ _ _ _ (by rfl)).trans ?_
  simp (disch := first | assumption | omega | exact small_of (by decide) | rfl | decide) only [e_c, e_v, e_neg, negR_int, e_not, e_bin, e_cmp, e_and, e_or, e_ite, andR_t, andR_f, orR_t, orR_f, iteR_t, iteR_f, e_tup, e_lst, e_ix, e_call, e_app, goApp_fn, goApp_clo, e_bi, e_lam, cellsOf_nil, cellsOf_cons, cofV_cel, cofK_some, es_nil, es_cons, s_pass, s_ex, s_set, s_par, s_own, ownR_lst, ownV_no, ownV_v, s_setix, ownO_own, appK_ok, appR_eq, s_app, s_ite, ifR_t, ifR_f, s_loop, s_ret, s_brk, s_cont, s_rais, s_tri, triR_ok, ss_nil, ss_cons, seqR_nx, seqR_rt, seqR_bk, seqR_ct, R.bind_ok, R.bind_exc, R.of_some, rd_eq, rdv_v, rdv_cel, rdc_some, bi_len_tup, bi_len_lst, bi_abs, bi_max2, bi_min2, bi_gcd, bi_repr, bi_int, bi_list_l, bi_list_t, bi_bits, bi_isinst, bi_isinsts, isT_some, isTs_some, isAny_nil, isAny_cons,
    tyOf_int, tyOf_bl, tyOf_str, tyOf_lst, tyOf_tup, tyOf_non, tyOf_dct, bo_add, bo_sub, bo_mul, bo_fdiv, bo_mod, bo_pow, co_lt, co_le, co_gt, co_ge, co_eq, co_ne, co_is_bl, eqv_int, tru_non, tru_bl, tru_int, tru_tup, tru_lst, truR_eq, ix_tup, ix_lst, ix_ref, ixr_str, item0, item1, item2, lookK_cons,
    putAt_ref, putR_dic, keyOf_str, wr_eq, wrv_no, wrv_v, wrv_cel, wrc_cel, asg_nm, asg_tup, asgs_nil, asgs_cons, asgK_some, par_nil, par_cons, back_same, back_sameX, cells_cel, celB_some, celB_none, open_cel, parv_no, parv_v, back_ok, back_exc, cells_nil, cells_v, cells_no, open_nil, open_v, open_no, cells_own, open_own, shut_own, shut_nil, shut_v, shut_no, T_run, for_nil, walk_val_l, walk_val_t,
    fin_rt, fin_nx, fin_exc, env0_eq, List.map_cons, List.map_nil, List.replicate, List.cons_append, List.nil_append, List.append_nil, List.getElem?_cons_zero, List.getElem?_cons_succ, List.set_cons_zero, List.set_cons_succ, Option.map_some, if_true, Nat.reduceSub, Nat.reduceAdd, subTy, Nat.reduceLeDiff, reduceIte, Bool.not_true, Bool.not_false, Nat.reduceBEq, Bool.false_eq_true, Bool.or_false, Bool.or_true, Bool.false_or, Bool.true_or, Bool.and_true, Bool.true_and, Bool.and_false, Bool.false_and, lenI_nil, lenI_cons, Int.reduceAdd, Int.reduceEq, Int.reduceLT, Int.reduceLE, Int.reduceNeg, decide_true, decide_false, eq_self, not_true_eq_false, not_false_eq_true, whole_int, whole_tup, whole_lst, whole_bl, whole_str, whole_non, whole_dct, np_t10]
theorem nt_t1m2 (n : Nat) (hn : 4 ≤ n) (s : So) : (CX n).call 4 [.tup [.int 1, .int (-2)]] s = .exc ⟨2, [.tup [.int 1, .int (-2)]]⟩ s := by
  obtain ⟨m, rfl⟩ : ∃ m, n = m + 1 := ⟨n - 1, by omega⟩
  rw [call_eq m 4 f4 rfl]
  unfold f4
  refine (runF_eq _ _ _ _ _ _ (by rfl)).trans ?_
  simp (disch := first | assumption | omega | exact small_of (by decide) | rfl | decide) only [e_c, e_v, e_neg, negR_int, e_not, e_bin, e_cmp, e_and, e_or, e_ite, andR_t, andR_f, orR_t, orR_f, iteR_t, iteR_f, e_tup, e_lst, e_ix, e_call, e_app, goApp_fn, goApp_clo, e_bi, e_lam, cellsOf_nil, cellsOf_cons, cofV_cel, cofK_some, es_nil, es_cons, s_pass, s_ex, s_set, s_par, s_own, ownR_lst, ownV_no, ownV_v, s_setix, ownO_own, appK_ok, appR_eq, s_app, s_ite, ifR_t, ifR_f, s_loop, s_ret, s_brk, s_cont, s_rais, s_tri, triR_ok, ss_nil, ss_cons, seqR_nx, seqR_rt, seqR_bk, seqR_ct, R.bind_ok, R.bind_exc, R.of_some, rd_eq, rdv_v, rdv_cel, rdc_some, bi_len_tup, bi_len_lst, bi_abs, bi_max2, bi_min2, bi_gcd, bi_repr, bi_int, bi_list_l, bi_list_t, bi_bits, bi_isinst, bi_isinsts, isT_some, isTs_some, isAny_nil, isAny_cons,
    tyOf_int, tyOf_bl, tyOf_str, tyOf_lst, tyOf_tup, tyOf_non, tyOf_dct, bo_add, bo_sub, bo_mul, bo_fdiv, bo_mod, bo_pow, co_lt, co_le, co_gt, co_ge, co_eq, co_ne, co_is_bl, eqv_int, tru_non, tru_bl, tru_int, tru_tup, tru_lst, truR_eq, ix_tup, ix_lst, ix_ref, ixr_str, item0, item1, item2, lookK_cons,
    putAt_ref, putR_dic, keyOf_str, wr_eq, wrv_no, wrv_v, wrv_cel, wrc_cel, asg_nm, asg_tup, asgs_nil, asgs_cons, asgK_some, par_nil, par_cons, back_same, back_sameX, cells_cel, celB_some, celB_none, open_cel, parv_no, parv_v, back_ok, back_exc, cells_nil, cells_v, cells_no, open_nil, open_v, open_no, cells_own, open_own, shut_own, shut_nil, shut_v, shut_no, T_run, for_nil, walk_val_l, walk_val_t,
    fin_rt, fin_nx, fin_exc, env0_eq, List.map_cons, List.map_nil, List.replicate, List.cons_append, List.nil_append, List.append_nil, List.getElem?_cons_zero, List.getElem?_cons_succ, List.set_cons_zero, List.set_cons_succ, Option.map_some, if_true, Nat.reduceSub, Nat.reduceAdd, subTy, Nat.reduceLeDiff, reduceIte, Bool.not_true, Bool.not_false, Nat.reduceBEq, Bool.false_eq_true, Bool.or_false, Bool.or_true, Bool.false_or, Bool.true_or, Bool.and_true, Bool.true_and, Bool.and_false, Bool.false_and, lenI_nil, lenI_cons, Int.reduceAdd, Int.reduceEq, Int.reduceLT, Int.reduceLE, Int.reduceNeg, decide_true, decide_false, eq_self, not_true_eq_false, not_false_eq_true, whole_int, whole_tup, whole_lst, whole_bl, whole_str, whole_non, whole_dct, np_t1m2]
theorem nt_tT2 (n : Nat) (hn : 4 ≤ n) (s : So) : (CX n).call 4 [.tup [.bl true, .int 2]] s = .exc ⟨2, [.tup [.bl true, .int 2]]⟩ s := by
  obtain ⟨m, rfl⟩ : ∃ m, n = m + 1 := ⟨n - 1, by omega⟩
  rw [call_eq m 4 f4 rfl]
  unfold f4
  refine (runF_eq _ _ _ _ _ _ (by rfl)).trans ?_
  simp (disch := first | assumption | omega | exact small_of (by decide) | rfl | decide) only [e_c, e_v, e_neg, negR_int, e_not, e_bin, e_cmp, e_and, e_or, e_ite, andR_t, andR_f, orR_t, orR_f, iteR_t, iteR_f, e_tup, e_lst, e_ix, e_call, e_app, goApp_fn, goApp_clo, e_bi, e_lam, cellsOf_nil, cellsOf_cons, cofV_cel, cofK_some, es_nil, es_cons, s_pass, s_ex, s_set, s_par, s_own, ownR_lst, ownV_no, ownV_v, s_setix, ownO_own, appK_ok, appR_eq, s_app, s_ite, ifR_t, ifR_f, s_loop, s_ret, s_brk, s_cont, s_rais, s_tri, triR_ok, ss_nil, ss_cons, seqR_nx, seqR_rt, seqR_bk, seqR_ct, R.bind_ok, R.bind_exc, R.of_some, rd_eq, rdv_v, rdv_cel, rdc_some, bi_len_tup, bi_len_lst, bi_abs, bi_max2, bi_min2, bi_gcd, bi_repr, bi_int, bi_list_l, bi_list_t, bi_bits, bi_isinst, bi_isinsts, isT_some, isTs_some, isAny_nil, isAny_cons,
    tyOf_int, tyOf_bl, tyOf_str, tyOf_lst, tyOf_tup, tyOf_non, tyOf_dct, bo_add, bo_sub, bo_mul, bo_fdiv, bo_mod, bo_pow, co_lt, co_le, co_gt, co_ge, co_eq, co_ne, co_is_bl, eqv_int, tru_non, tru_bl, tru_int, tru_tup, tru_lst, truR_eq, ix_tup, ix_lst, ix_ref, ixr_str, item0, item1, item2, lookK_cons,
    putAt_ref, putR_dic, keyOf_str, wr_eq, wrv_no, wrv_v, wrv_cel, wrc_cel, asg_nm, asg_tup, asgs_nil, asgs_cons, asgK_some, par_nil, par_cons, back_same, back_sameX, cells_cel, celB_some, celB_none, open_cel, parv_no, parv_v, back_ok, back_exc, cells_nil, cells_v, cells_no, open_nil, open_v, open_no, cells_own, open_own, shut_own, shut_nil, shut_v, shut_no, T_run, for_nil, walk_val_l, walk_val_t,
    fin_rt, fin_nx, fin_exc, env0_eq, List.map_cons, List.map_nil, List.replicate, List.cons_append, List.nil_append, List.append_nil, List.getElem?_cons_zero, List.getElem?_cons_succ, List.set_cons_zero, List.set_cons_succ, Option.map_some, if_true, Nat.reduceSub, Nat.reduceAdd, subTy, Nat.reduceLeDiff, reduceIte, Bool.not_true, Bool.not_false, Nat.reduceBEq, Bool.false_eq_true, Bool.or_false, Bool.or_true, Bool.false_or, Bool.true_or, Bool.and_true, Bool.true_and, Bool.and_false, Bool.false_and, lenI_nil, lenI_cons, Int.reduceAdd, Int.reduceEq, Int.reduceLT, Int.reduceLE, Int.reduceNeg, decide_true, decide_false, eq_self, not_true_eq_false, not_false_eq_true, whole_int, whole_tup, whole_lst, whole_bl, whole_str, whole_non, whole_dct, np_tT2]
theorem nt_t1T (n : Nat) (hn : 4 ≤ n) (s : So) : (CX n).call 4 [.tup [.int 1, .bl true]] s = .exc ⟨2, [.tup [.int 1, .bl true]]⟩ s := by
  obtain ⟨m, rfl⟩ : ∃ m, n = m + 1 := ⟨n - 1, by omega⟩
  rw [call_eq m 4 f4 rfl]
  unfold f4
  refine (runF_eq _ _ _ _ _ _ (by rfl)).trans ?_
  simp (disch := first | assumption | omega | exact small_of (by decide) | rfl | decide) only [e_c, e_v, e_neg, negR_int, e_not, e_bin, e_cmp, e_and, e_or, e_ite, andR_t, andR_f, orR_t, orR_f, iteR_t, iteR_f, e_tup, e_lst, e_ix, e_call, e_app, goApp_fn, goApp_clo, e_bi, e_lam, cellsOf_nil, cellsOf_cons, cofV_cel, cofK_some, es_nil, es_cons, s_pass, s_ex, s_set, s_par, s_own, ownR_lst, ownV_no, ownV_v, s_setix, ownO_own, appK_ok, appR_eq, s_app, s_ite, ifR_t, ifR_f, s_loop, s_ret, s_brk, s_cont, s_rais, s_tri, triR_ok, ss_nil, ss_cons, seqR_nx, seqR_rt, seqR_bk, seqR_ct, R.bind_ok, R.bind_exc, R.of_some, rd_eq, rdv_v, rdv_cel, rdc_some, bi_len_tup, bi_len_lst, bi_abs, bi_max2, bi_min2, bi_gcd, bi_repr, bi_int, bi_list_l, bi_list_t, bi_bits, bi_isinst, bi_isinsts, isT_some, isTs_some, isAny_nil, isAny_cons,
    tyOf_int, tyOf_bl, tyOf_str, tyOf_lst, tyOf_tup, tyOf_non, tyOf_dct, bo_add, bo_sub, bo_mul, bo_fdiv, bo_mod, bo_pow, co_lt, co_le, co_gt, co_ge, co_eq, co_ne, co_is_bl, eqv_int, tru_non, tru_bl, tru_int, tru_tup, tru_lst, truR_eq, ix_tup, ix_lst, ix_ref, ixr_str, item0, item1, item2, lookK_cons,
    putAt_ref, putR_dic, keyOf_str, wr_eq, wrv_no, wrv_v, wrv_cel, wrc_cel, asg_nm, asg_tup, asgs_nil, asgs_cons, asgK_some, par_nil, par_cons, back_same, back_sameX, cells_cel, celB_some, celB_none, open_cel, parv_no, parv_v, back_ok, back_exc, cells_nil, cells_v, cells_no, open_nil, open_v, open_no, cells_own, open_own, shut_own, shut_nil, shut_v, shut_no, T_run, for_nil, walk_val_l, walk_val_t,
    fin_rt, fin_nx, fin_exc, env0_eq, List.map_cons, List.map_nil, List.replicate, List.cons_append, List.nil_append, List.append_nil, List.getElem?_cons_zero, List.getElem?_cons_succ, List.set_cons_zero, List.set_cons_succ, Option.map_some, if_true, Nat.reduceSub, Nat.reduceAdd, subTy, Nat.reduceLeDiff, reduceIte, Bool.not_true, Bool.not_false, Nat.reduceBEq, Bool.false_eq_true, Bool.or_false, Bool.or_true, Bool.false_or, Bool.true_or, Bool.and_true, Bool.true_and, Bool.and_false, Bool.false_and, lenI_nil, lenI_cons, Int.reduceAdd, Int.reduceEq, Int.reduceLT, Int.reduceLE, Int.reduceNeg, decide_true, decide_false, eq_self, not_true_eq_false, not_false_eq_true, whole_int, whole_tup, whole_lst, whole_bl, whole_str, whole_non, whole_dct, np_t1T]
theorem nt_T (n : Nat) (hn : 4 ≤ n) (s : So) : (CX n).call 4 [.bl true] s = .exc ⟨2, [.bl true]⟩ s := by
  obtain ⟨m, rfl⟩ : ∃ m, n = m + 1 := ⟨n - 1, by omega⟩
  rw [call_eq m 4 f4 rfl]
  unfold f4
  refine (runF_eq _ _ _ _ _ _ (by rfl)).trans ?_
  simp (disch := first | assumption | omega | exact small_of (by decide) | rfl | decide) only [e_c, e_v, e_neg, negR_int, e_not, e_bin, e_cmp, e_and, e_or, e_ite, andR_t, andR_f, orR_t, orR_f, iteR_t, iteR_f, e_tup, e_lst, e_ix, e_call, e_app, goApp_fn, goApp_clo, e_bi, e_lam, cellsOf_nil, cellsOf_cons, cofV_cel, cofK_some, es_nil, es_cons, s_pass, s_ex, s_set, s_par, s_own, ownR_lst, ownV_no, ownV_v, s_setix, ownO_own, appK_ok, appR_eq, s_app, s_ite, ifR_t, ifR_f, s_loop, s_ret, s_brk, s_cont, s_rais, s_tri, triR_ok, ss_nil, ss_cons, seqR_nx, seqR_rt, seqR_bk, seqR_ct, R.bind_ok, R.bind_exc, R.of_some, rd_eq, rdv_v, rdv_cel, rdc_some, bi_len_tup, bi_len_lst, bi_abs, bi_max2, bi_min2, bi_gcd, bi_repr, bi_int, bi_list_l, bi_list_t, bi_bits, bi_isinst, bi_isinsts, isT_some, isTs_some, isAny_nil, isAny_cons,
    tyOf_int, tyOf_bl, tyOf_str, tyOf_lst, tyOf_tup, tyOf_non, tyOf_dct, bo_add, bo_sub, bo_mul, bo_fdiv, bo_mod, bo_pow, co_lt, co_le, co_gt, co_ge, co_eq, co_ne, co_is_bl, eqv_int, tru_non, tru_bl, tru_int, tru_tup, tru_lst, truR_eq, ix_tup, ix_lst, ix_ref, ixr_str, item0, item1, item2, lookK_cons,
    putAt_ref, putR_dic, keyOf_str, wr_eq, wrv_no, wrv_v, wrv_cel, wrc_cel, asg_nm, asg_tup, asgs_nil, asgs_cons, asgK_some, par_nil, par_cons, back_same, back_sameX, cells_cel, celB_some, celB_none, open_cel, parv_no, parv_v, back_ok, back_exc, cells_nil, cells_v, cells_no, open_nil, open_v, open_no, cells_own, open_own, shut_own, shut_nil, shut_v, shut_no, T_run, for_nil, walk_val_l, walk_val_t,
    fin_rt, fin_nx, fin_exc, env0_eq, List.map_cons, List.map_nil, List.replicate, List.cons_append, List.nil_append, List.append_nil, List.getElem?_cons_zero, List.getElem?_cons_succ, List.set_cons_zero, List.set_cons_succ, Option.map_some, if_true, Nat.reduceSub, Nat.reduceAdd, subTy, Nat.reduceLeDiff, reduceIte, Bool.not_true, Bool.not_false, Nat.reduceBEq, Bool.false_eq_true, Bool.or_false, Bool.or_true, Bool.false_or, Bool.true_or, Bool.and_true, Bool.true_and, Bool.and_false, Bool.false_and, lenI_nil, lenI_cons, Int.reduceAdd, Int.reduceEq, Int.reduceLT, Int.reduceLE, Int.reduceNeg, decide_true, decide_false, eq_self, not_true_eq_false, not_false_eq_true, whole_int, whole_tup, whole_lst, whole_bl, whole_str, whole_non, whole_dct, np_T]
theorem nt_t123 (n : Nat) (hn : 4 ≤ n) (s : So) : (CX n).call 4 [.tup [.int 1, .int 2, .int 3]] s = .exc ⟨2, [.tup [.int 1, .int 2, .int 3]]⟩ s := by
  obtain ⟨m, rfl⟩ : ∃ m, n = m + 1 := ⟨n - 1, by omega⟩
  rw [call_eq m 4 f4 rfl]
  unfold f4
  refine (runF_eq _ _ _ _ _ _ (by rfl)).trans ?_
  simp (disch := first | assumption | omega | exact small_of (by decide) | rfl | decide) only [e_c, e_v, e_neg, negR_int, e_not, e_bin, e_cmp, e_and, e_or, e_ite, andR_t, andR_f, orR_t, orR_f, iteR_t, iteR_f, e_tup, e_lst, e_ix, e_call, e_app, goApp_fn, goApp_clo, e_bi, e_lam, cellsOf_nil, cellsOf_cons, cofV_cel, cofK_some, es_nil, es_cons, s_pass, s_ex, s_set, s_par, s_own, ownR_lst, ownV_no, ownV_v, s_setix, ownO_own, appK_ok, appR_eq, s_app, s_ite, ifR_t, ifR_f, s_loop, s_ret, s_brk, s_cont, s_rais, s_tri, triR_ok, ss_nil, ss_cons, seqR_nx, seqR_rt, seqR_bk, seqR_ct, R.bind_ok, R.bind_exc, R.of_some, rd_eq, rdv_v, rdv_cel, rdc_some, bi_len_tup, bi_len_lst, bi_abs, bi_max2, bi_min2, bi_gcd, bi_repr, bi_int, bi_list_l, bi_list_t, bi_bits, bi_isinst, bi_isinsts, isT_some, isTs_some, isAny_nil, isAny_cons,
    tyOf_int, tyOf_bl, tyOf_str, tyOf_lst, tyOf_tup, tyOf_non, tyOf_dct, bo_add, bo_sub, bo_mul, bo_fdiv, bo_mod, bo_pow, co_lt, co_le, co_gt, co_ge, co_eq, co_ne, co_is_bl, eqv_int, tru_non, tru_bl, tru_int, tru_tup, tru_lst, truR_eq, ix_tup, ix_lst, ix_ref, ixr_str, item0, item1, item2, lookK_cons,
    putAt_ref, putR_dic, keyOf_str, wr_eq, wrv_no, wrv_v, wrv_cel, wrc_cel, asg_nm, asg_tup, asgs_nil, asgs_cons, asgK_some, par_nil, par_cons, back_same, back_sameX, cells_cel, celB_some, celB_none, open_cel, parv_no, parv_v, back_ok, back_exc, cells_nil, cells_v, cells_no, open_nil, open_v, open_no, cells_own, open_own, shut_own, shut_nil, shut_v, shut_no, T_run, for_nil, walk_val_l, walk_val_t,
    fin_rt, fin_nx, fin_exc, env0_eq, List.map_cons, List.map_nil, List.replicate, List.cons_append, List.nil_append, List.append_nil, List.getElem?_cons_zero, List.getElem?_cons_succ, List.set_cons_zero, List.set_cons_succ, Option.map_some, if_true, Nat.reduceSub, Nat.reduceAdd, subTy, Nat.reduceLeDiff, reduceIte, Bool.not_true, Bool.not_false, Nat.reduceBEq, Bool.false_eq_true, Bool.or_false, Bool.or_true, Bool.false_or, Bool.true_or, Bool.and_true, Bool.true_and, Bool.and_false, Bool.false_and, lenI_nil, lenI_cons, Int.reduceAdd, Int.reduceEq, Int.reduceLT, Int.reduceLE, Int.reduceNeg, decide_true, decide_false, eq_self, not_true_eq_false, not_false_eq_true, whole_int, whole_tup, whole_lst, whole_bl, whole_str, whole_non, whole_dct, np_t123]
theorem nt_l (n : Nat) (hn : 4 ≤ n) (s : So) : (CX n).call 4 [.lst []] s = .exc ⟨2, [.lst []]⟩ s := by
  obtain ⟨m, rfl⟩ : ∃ m, n = m + 1 := ⟨n - 1, by omega⟩
  rw [call_eq m 4 f4 rfl]
  unfold f4
  refine (runF_eq _ _ _ _ _ _ (by rfl)).trans ?_
  simp (disch := first | assumption | omega | exact small_of (by decide) | rfl | decide) only [e_c, e_v, e_neg, negR_int, e_not, e_bin, e_cmp, e_and, e_or, e_ite, andR_t, andR_f, orR_t, orR_f, iteR_t, iteR_f, e_tup, e_lst, e_ix, e_call, e_app, goApp_fn, goApp_clo, e_bi, e_lam, cellsOf_nil, cellsOf_cons, cofV_cel, cofK_some, es_nil, es_cons, s_pass, s_ex, s_set, s_par, s_own, ownR_lst, ownV_no, ownV_v, s_setix, ownO_own, appK_ok, appR_eq, s_app, s_ite, ifR_t, ifR_f, s_loop, s_ret, s_brk, s_cont, s_rais, s_tri, triR_ok, ss_nil, ss_cons, seqR_nx, seqR_rt, seqR_bk, seqR_ct, R.bind_ok, R.bind_exc, R.of_some, rd_eq, rdv_v, rdv_cel, rdc_some, bi_len_tup, bi_len_lst, bi_abs, bi_max2, bi_min2, bi_gcd, bi_repr, bi_int, bi_list_l, bi_list_t, bi_bits, bi_isinst, bi_isinsts, isT_some, isTs_some, isAny_nil, isAny_cons,
    tyOf_int, tyOf_bl, tyOf_str, tyOf_lst, tyOf_tup, tyOf_non, tyOf_dct, bo_add, bo_sub, bo_mul, bo_fdiv, bo_mod, bo_pow, co_lt, co_le, co_gt, co_ge, co_eq, co_ne, co_is_bl, eqv_int, tru_non, tru_bl, tru_int, tru_tup, tru_lst, truR_eq, ix_tup, ix_lst, ix_ref, ixr_str, item0, item1, item2, lookK_cons,
    putAt_ref, putR_dic, keyOf_str, wr_eq, wrv_no, wrv_v, wrv_cel, wrc_cel, asg_nm, asg_tup, asgs_nil, asgs_cons, asgK_some, par_nil, par_cons, back_same, back_sameX, cells_cel, celB_some, celB_none, open_cel, parv_no, parv_v, back_ok, back_exc, cells_nil, cells_v, cells_no, open_nil, open_v, open_no, cells_own, open_own, shut_own, shut_nil, shut_v, shut_no, T_run, for_nil, walk_val_l, walk_val_t,
    fin_rt, fin_nx, fin_exc, env0_eq, List.map_cons, List.map_nil, List.replicate, List.cons_append, List.nil_append, List.append_nil, List.getElem?_cons_zero, List.getElem?_cons_succ, List.set_cons_zero, List.set_cons_succ, Option.map_some, if_true, Nat.reduceSub, Nat.reduceAdd, subTy, Nat.reduceLeDiff, reduceIte, Bool.not_true, Bool.not_false, Nat.reduceBEq, Bool.false_eq_true, Bool.or_false, Bool.or_true, Bool.false_or, Bool.true_or, Bool.and_true, Bool.true_and, Bool.and_false, Bool.false_and, lenI_nil, lenI_cons, Int.reduceAdd, Int.reduceEq, Int.reduceLT, Int.reduceLE, Int.reduceNeg, decide_true, decide_false, eq_self, not_true_eq_false, not_false_eq_true, whole_int, whole_tup, whole_lst, whole_bl, whole_str, whole_non, whole_dct, np_l]
theorem nt_d (n : Nat) (hn : 4 ≤ n) (s : So) : (CX n).call 4 [.dct [] []] s = .exc ⟨2, [.dct [] []]⟩ s := by
  obtain ⟨m, rfl⟩ : ∃ m, n = m + 1 := ⟨n - 1, by omega⟩
  rw [call_eq m 4 f4 rfl]
  unfold f4
  refine (runF_eq _ _ _ _ _ _ (by rfl)).trans ?_
  simp (disch := first | assumption | omega | exact small_of (by decide) | rfl | decide) only [e_c, e_v, e_neg, negR_int, e_not, e_bin, e_cmp, e_and, e_or, e_ite, andR_t, andR_f, orR_t, orR_f, iteR_t, iteR_f, e_tup, e_lst, e_ix, e_call, e_app, goApp_fn, goApp_clo, e_bi, e_lam, cellsOf_nil, cellsOf_cons, cofV_cel, cofK_some, es_nil, es_cons, s_pass, s_ex, s_set, s_par, s_own, ownR_lst, ownV_no, ownV_v, s_setix, ownO_own, appK_ok, appR_eq, s_app, s_ite, ifR_t, ifR_f, s_loop, s_ret, s_brk, s_cont, s_rais, s_tri, triR_ok, ss_nil, ss_cons, seqR_nx, seqR_rt, seqR_bk, seqR_ct, R.bind_ok, R.bind_exc, R.of_some, rd_eq, rdv_v, rdv_cel, rdc_some, bi_len_tup, bi_len_lst, bi_abs, bi_max2, bi_min2, bi_gcd, bi_repr, bi_int, bi_list_l, bi_list_t, bi_bits, bi_isinst, bi_isinsts, isT_some, isTs_some, isAny_nil, isAny_cons,
    tyOf_int, tyOf_bl, tyOf_str, tyOf_lst, tyOf_tup, tyOf_non, tyOf_dct, bo_add, bo_sub, bo_mul, bo_fdiv, bo_mod, bo_pow, co_lt, co_le, co_gt, co_ge, co_eq, co_ne, co_is_bl, eqv_int, tru_non, tru_bl, tru_int, tru_tup, tru_lst, truR_eq, ix_tup, ix_lst, ix_ref, ixr_str, item0, item1, item2, lookK_cons,
    putAt_ref, putR_dic, keyOf_str, wr_eq, wrv_no, wrv_v, wrv_cel, wrc_cel, asg_nm, asg_tup, asgs_nil, asgs_cons, asgK_some, par_nil, par_cons, back_same, back_sameX, cells_cel, celB_some, celB_none, open_cel, parv_no, parv_v, back_ok, back_exc, cells_nil, cells_v, cells_no, open_nil, open_v, open_no, cells_own, open_own, shut_own, shut_nil, shut_v, shut_no, T_run, for_nil, walk_val_l, walk_val_t,
    fin_rt, fin_nx, fin_exc, env0_eq, List.map_cons, List.map_nil, List.replicate, List.cons_append, List.nil_append, List.append_nil, List.getElem?_cons_zero, List.getElem?_cons_succ, List.set_cons_zero, List.set_cons_succ, Option.map_some, if_true, Nat.reduceSub, Nat.reduceAdd, subTy, Nat.reduceLeDiff, reduceIte, Bool.not_true, Bool.not_false, Nat.reduceBEq, Bool.false_eq_true, Bool.or_false, Bool.or_true, Bool.false_or, Bool.true_or, Bool.and_true, Bool.true_and, Bool.and_false, Bool.false_and, lenI_nil, lenI_cons, Int.reduceAdd, Int.reduceEq, Int.reduceLT, Int.reduceLE, Int.reduceNeg, decide_true, decide_false, eq_self, not_true_eq_false, not_false_eq_true, whole_int, whole_tup, whole_lst, whole_bl, whole_str, whole_non, whole_dct, np_d]
theorem nt_x (n : Nat) (hn : 4 ≤ n) (s : So) : (CX n).call 4 [.str (.ofString "x")] s = .exc ⟨2, [.str (.ofString "x")]⟩ s := by
  obtain ⟨m, rfl⟩ : ∃ m, n = m + 1 := ⟨n - 1, by omega⟩
  rw [call_eq m 4 f4 rfl]
  unfold f4
  refine (runF_eq _ _ _ _ _ _ (by rfl)).trans ?_
  simp (disch := first | assumption | omega | exact small_of (by decide) | rfl | decide) only [e_c, e_v, e_neg, negR_int, e_not, e_bin, e_cmp, e_and, e_or, e_ite, andR_t, andR_f, orR_t, orR_f, iteR_t, iteR_f, e_tup, e_lst, e_ix, e_call, e_app, goApp_fn, goApp_clo, e_bi, e_lam, cellsOf_nil, cellsOf_cons, cofV_cel, cofK_some, es_nil, es_cons, s_pass, s_ex, s_set, s_par, s_own, ownR_lst, ownV_no, ownV_v, s_setix, ownO_own, appK_ok, appR_eq, s_app, s_ite, ifR_t, ifR_f, s_loop, s_ret, s_brk, s_cont, s_rais, s_tri, triR_ok, ss_nil, ss_cons, seqR_nx, seqR_rt, seqR_bk, seqR_ct, R.bind_ok, R.bind_exc, R.of_some, rd_eq, rdv_v, rdv_cel, rdc_some, bi_len_tup, bi_len_lst, bi_abs, bi_max2, bi_min2, bi_gcd, bi_repr, bi_int, bi_list_l, bi_list_t, bi_bits, bi_isinst, bi_isinsts, isT_some, isTs_some, isAny_nil, isAny_cons,
    tyOf_int, tyOf_bl, tyOf_str, tyOf_lst, tyOf_tup, tyOf_non, tyOf_dct, bo_add, bo_sub, bo_mul, bo_fdiv, bo_mod, bo_pow, co_lt, co_le, co_gt, co_ge, co_eq, co_ne, co_is_bl, eqv_int, tru_non, tru_bl, tru_int, tru_tup, tru_lst, truR_eq, ix_tup, ix_lst, ix_ref, ixr_str, item0, item1, item2, lookK_cons,
    putAt_ref, putR_dic, keyOf_str, wr_eq, wrv_no, wrv_v, wrv_cel, wrc_cel, asg_nm, asg_tup, asgs_nil, asgs_cons, asgK_some, par_nil, par_cons, back_same, back_sameX, cells_cel, celB_some, celB_none, open_cel, parv_no, parv_v, back_ok, back_exc, cells_nil, cells_v, cells_no, open_nil, open_v, open_no, cells_own, open_own, shut_own, shut_nil, shut_v, shut_no, T_run, for_nil, walk_val_l, walk_val_t,
    fin_rt, fin_nx, fin_exc, env0_eq, List.map_cons, List.map_nil, List.replicate, List.cons_append, List.nil_append, List.append_nil, List.getElem?_cons_zero, List.getElem?_cons_succ, List.set_cons_zero, List.set_cons_succ, Option.map_some, if_true, Nat.reduceSub, Nat.reduceAdd, subTy, Nat.reduceLeDiff, reduceIte, Bool.not_true, Bool.not_false, Nat.reduceBEq, Bool.false_eq_true, Bool.or_false, Bool.or_true, Bool.false_or, Bool.true_or, Bool.and_true, Bool.true_and, Bool.and_false, Bool.false_and, lenI_nil, lenI_cons, Int.reduceAdd, Int.reduceEq, Int.reduceLT, Int.reduceLE, Int.reduceNeg, decide_true, decide_false, eq_self, not_true_eq_false, not_false_eq_true, whole_int, whole_tup, whole_lst, whole_bl, whole_str, whole_non, whole_dct, np_x]
theorem nt_t00 (n : Nat) (hn : 4 ≤ n) (s : So) : (CX n).call 4 [.tup [.int 0, .int 0]] s = .exc ⟨2, [.tup [.int 0, .int 0]]⟩ s := by
  obtain ⟨m, rfl⟩ : ∃ m, n = m + 1 := ⟨n - 1, by omega⟩
  rw [call_eq m 4 f4 rfl]
  unfold f4
  refine (runF_eq _ _ _ _ _ _ (by rfl)).trans ?_
  simp (disch := first | assumption | omega | exact small_of (by decide) | rfl | decide) only [e_c, e_v, e_neg, negR_int, e_not, e_bin, e_cmp, e_and, e_or, e_ite, andR_t, andR_f, orR_t, orR_f, iteR_t, iteR_f, e_tup, e_lst, e_ix, e_call, e_app, goApp_fn, goApp_clo, e_bi, e_lam, cellsOf_nil, cellsOf_cons, cofV_cel, cofK_some, es_nil, es_cons, s_pass, s_ex, s_set, s_par, s_own, ownR_lst, ownV_no, ownV_v, s_setix, ownO_own, appK_ok, appR_eq, s_app, s_ite, ifR_t, ifR_f, s_loop, s_ret, s_brk, s_cont, s_rais, s_tri, triR_ok, ss_nil, ss_cons, seqR_nx, seqR_rt, seqR_bk, seqR_ct, R.bind_ok, R.bind_exc, R.of_some, rd_eq, rdv_v, rdv_cel, rdc_some, bi_len_tup, bi_len_lst, bi_abs, bi_max2, bi_min2, bi_gcd, bi_repr, bi_int, bi_list_l, bi_list_t, bi_bits, bi_isinst, bi_isinsts, isT_some, isTs_some, isAny_nil, isAny_cons,
    tyOf_int, tyOf_bl, tyOf_str, tyOf_lst, tyOf_tup, tyOf_non, tyOf_dct, bo_add, bo_sub, bo_mul, bo_fdiv, bo_mod, bo_pow, co_lt, co_le, co_gt, co_ge, co_eq, co_ne, co_is_bl, eqv_int, tru_non, tru_bl, tru_int, tru_tup, tru_lst, truR_eq, ix_tup, ix_lst, ix_ref, ixr_str, item0, item1, item2, lookK_cons,
    putAt_ref, putR_dic, keyOf_str, wr_eq, wrv_no, wrv_v, wrv_cel, wrc_cel, asg_nm, asg_tup, asgs_nil, asgs_cons, asgK_some, par_nil, par_cons, back_same, back_sameX, cells_cel, celB_some, celB_none, open_cel, parv_no, parv_v, back_ok, back_exc, cells_nil, cells_v, cells_no, open_nil, open_v, open_no, cells_own, open_own, shut_own, shut_nil, shut_v, shut_no, T_run, for_nil, walk_val_l, walk_val_t,
    fin_rt, fin_nx, fin_exc, env0_eq, List.map_cons, List.map_nil, List.replicate, List.cons_append, List.nil_append, List.append_nil, List.getElem?_cons_zero, List.getElem?_cons_succ, List.set_cons_zero, List.set_cons_succ, Option.map_some, if_true, Nat.reduceSub, Nat.reduceAdd, subTy, Nat.reduceLeDiff, reduceIte, Bool.not_true, Bool.not_false, Nat.reduceBEq, Bool.false_eq_true, Bool.or_false, Bool.or_true, Bool.false_or, Bool.true_or, Bool.and_true, Bool.true_and, Bool.and_false, Bool.false_and, lenI_nil, lenI_cons, Int.reduceAdd, Int.reduceEq, Int.reduceLT, Int.reduceLE, Int.reduceNeg, decide_true, decide_false, eq_self, not_true_eq_false, not_false_eq_true, whole_int, whole_tup, whole_lst, whole_bl, whole_str, whole_non, whole_dct, np_t00]
/-- a ratio as it is told -/
def Told (x : D) (a b : Int) : Prop := ∀ n s, 4 ≤ n → (CX n).call 4 [x] s = .ok (rt a b) s
def Bad (x : D) : Prop := ∀ n s, 4 ≤ n → (CX n).call 4 [x] s = .exc ⟨2, [x]⟩ s
theorem ix_rt0 (s : So) (a b : Int) : ix s (rt a b) (.int 0) = some (.int a) := rfl
theorem ix_rt1 (s : So) (a b : Int) : ix s (rt a b) (.int 1) = some (.int b) := rfl
theorem summed (n : Nat) (hn : 2 ≤ n) (a b c d : Int) (s : So) (ha : small a = true) (hb : small b = true) (hc : small c = true) (hd : small d = true) (h0 : gs (a * d + c * b) (b * d) ≠ 0) (h1 : small (gs (a * d + c * b) (b * d)) = true) : (CX n).call 5 [rt a b, rt c d] s = .ok (Qd (a * d + c * b) (b * d)) s := by
  obtain ⟨m, rfl⟩ : ∃ m, n = m + 1 := ⟨n - 1, by omega⟩
  rw [call_eq m 5 f5 rfl]
  unfold f5
  refine (runF_eq _ _ _ _ _ _ (by rfl)).trans ?_
  simp (disch := first | assumption | omega | exact small_of (by decide) | rfl | decide) only [e_c, e_v, e_neg, negR_int, e_not, e_bin, e_cmp, e_and, e_or, e_ite, andR_t, andR_f, orR_t, orR_f, iteR_t, iteR_f, e_tup, e_lst, e_ix, e_call, e_app, goApp_fn, goApp_clo, e_bi, e_lam, cellsOf_nil, cellsOf_cons, cofV_cel, cofK_some, es_nil, es_cons, s_pass, s_ex, s_set, s_par, s_own, ownR_lst, ownV_no, ownV_v, s_setix, ownO_own, appK_ok, appR_eq, s_app, s_ite, ifR_t, ifR_f, s_loop, s_ret, s_brk, s_cont, s_rais, s_tri, triR_ok, ss_nil, ss_cons, seqR_nx, seqR_rt, seqR_bk, seqR_ct, R.bind_ok, R.bind_exc, R.of_some, rd_eq, rdv_v, rdv_cel, rdc_some, bi_len_tup, bi_len_lst, bi_abs, bi_max2, bi_min2, bi_gcd, bi_repr, bi_int, bi_list_l, bi_list_t, bi_bits, bi_isinst, bi_isinsts, isT_some, isTs_some, isAny_nil, isAny_cons,
    tyOf_int, tyOf_bl, tyOf_str, tyOf_lst, tyOf_tup, tyOf_non, tyOf_dct, bo_add, bo_sub, bo_mul, bo_fdiv, bo_mod, bo_pow, co_lt, co_le, co_gt, co_ge, co_eq, co_ne, co_is_bl, eqv_int, tru_non, tru_bl, tru_int, tru_tup, tru_lst, truR_eq, ix_tup, ix_lst, ix_ref, ixr_str, item0, item1, item2, lookK_cons,
    putAt_ref, putR_dic, keyOf_str, wr_eq, wrv_no, wrv_v, wrv_cel, wrc_cel, asg_nm, asg_tup, asgs_nil, asgs_cons, asgK_some, par_nil, par_cons, back_same, back_sameX, cells_cel, celB_some, celB_none, open_cel, parv_no, parv_v, back_ok, back_exc, cells_nil, cells_v, cells_no, open_nil, open_v, open_no, cells_own, open_own, shut_own, shut_nil, shut_v, shut_no, T_run, for_nil, walk_val_l, walk_val_t,
    fin_rt, fin_nx, fin_exc, env0_eq, List.map_cons, List.map_nil, List.replicate, List.cons_append, List.nil_append, List.append_nil, List.getElem?_cons_zero, List.getElem?_cons_succ, List.set_cons_zero, List.set_cons_succ, Option.map_some, if_true, Nat.reduceSub, Nat.reduceAdd, subTy, Nat.reduceLeDiff, reduceIte, Bool.not_true, Bool.not_false, Nat.reduceBEq, Bool.false_eq_true, Bool.or_false, Bool.or_true, Bool.false_or, Bool.true_or, Bool.and_true, Bool.true_and, Bool.and_false, Bool.false_and, lenI_nil, lenI_cons, Int.reduceAdd, Int.reduceEq, Int.reduceLT, Int.reduceLE, Int.reduceNeg, decide_true, decide_false, eq_self, not_true_eq_false, not_false_eq_true, lowest, rt]
theorem lessened (n : Nat) (hn : 2 ≤ n) (a b c d : Int) (s : So) (ha : small a = true) (hb : small b = true) (hc : small c = true) (hd : small d = true) (h0 : gs (a * d - c * b) (b * d) ≠ 0) (h1 : small (gs (a * d - c * b) (b * d)) = true) : (CX n).call 6 [rt a b, rt c d] s = .ok (Qd (a * d - c * b) (b * d)) s := by
  obtain ⟨m, rfl⟩ : ∃ m, n = m + 1 := ⟨n - 1, by omega⟩
  rw [call_eq m 6 f6 rfl]
  unfold f6
  refine (runF_eq _ _ _ _ _ _ (by rfl)).trans ?_
  simp (disch := first | assumption | omega | exact small_of (by decide) | rfl | decide) only [e_c, e_v, e_neg, negR_int, e_not, e_bin, e_cmp, e_and, e_or, e_ite, andR_t, andR_f, orR_t, orR_f, iteR_t, iteR_f, e_tup, e_lst, e_ix, e_call, e_app, goApp_fn, goApp_clo, e_bi, e_lam, cellsOf_nil, cellsOf_cons, cofV_cel, cofK_some, es_nil, es_cons, s_pass, s_ex, s_set, s_par, s_own, ownR_lst, ownV_no, ownV_v, s_setix, ownO_own, appK_ok, appR_eq, s_app, s_ite, ifR_t, ifR_f, s_loop, s_ret, s_brk, s_cont, s_rais, s_tri, triR_ok, ss_nil, ss_cons, seqR_nx, seqR_rt, seqR_bk, seqR_ct, R.bind_ok, R.bind_exc, R.of_some, rd_eq, rdv_v, rdv_cel, rdc_some, bi_len_tup, bi_len_lst, bi_abs, bi_max2, bi_min2, bi_gcd, bi_repr, bi_int, bi_list_l, bi_list_t, bi_bits, bi_isinst, bi_isinsts, isT_some, isTs_some, isAny_nil, isAny_cons,
    tyOf_int, tyOf_bl, tyOf_str, tyOf_lst, tyOf_tup, tyOf_non, tyOf_dct, bo_add, bo_sub, bo_mul, bo_fdiv, bo_mod, bo_pow, co_lt, co_le, co_gt, co_ge, co_eq, co_ne, co_is_bl, eqv_int, tru_non, tru_bl, tru_int, tru_tup, tru_lst, truR_eq, ix_tup, ix_lst, ix_ref, ixr_str, item0, item1, item2, lookK_cons,
    putAt_ref, putR_dic, keyOf_str, wr_eq, wrv_no, wrv_v, wrv_cel, wrc_cel, asg_nm, asg_tup, asgs_nil, asgs_cons, asgK_some, par_nil, par_cons, back_same, back_sameX, cells_cel, celB_some, celB_none, open_cel, parv_no, parv_v, back_ok, back_exc, cells_nil, cells_v, cells_no, open_nil, open_v, open_no, cells_own, open_own, shut_own, shut_nil, shut_v, shut_no, T_run, for_nil, walk_val_l, walk_val_t,
    fin_rt, fin_nx, fin_exc, env0_eq, List.map_cons, List.map_nil, List.replicate, List.cons_append, List.nil_append, List.append_nil, List.getElem?_cons_zero, List.getElem?_cons_succ, List.set_cons_zero, List.set_cons_succ, Option.map_some, if_true, Nat.reduceSub, Nat.reduceAdd, subTy, Nat.reduceLeDiff, reduceIte, Bool.not_true, Bool.not_false, Nat.reduceBEq, Bool.false_eq_true, Bool.or_false, Bool.or_true, Bool.false_or, Bool.true_or, Bool.and_true, Bool.true_and, Bool.and_false, Bool.false_and, lenI_nil, lenI_cons, Int.reduceAdd, Int.reduceEq, Int.reduceLT, Int.reduceLE, Int.reduceNeg, decide_true, decide_false, eq_self, not_true_eq_false, not_false_eq_true, lowest, rt]
theorem scaled (n : Nat) (hn : 2 ≤ n) (a b c d : Int) (s : So) (ha : small a = true) (hb : small b = true) (hc : small c = true) (hd : small d = true) (h0 : gs (a * c) (b * d) ≠ 0) (h1 : small (gs (a * c) (b * d)) = true) : (CX n).call 7 [rt a b, rt c d] s = .ok (Qd (a * c) (b * d)) s := by
  obtain ⟨m, rfl⟩ : ∃ m, n = m + 1 := ⟨n - 1, by omega⟩
  rw [call_eq m 7 f7 rfl]
  unfold f7
  refine (runF_eq _ _ _ _ _ _ (by rfl)).trans ?_
  simp (disch := first | assumption | omega | exact small_of (by decide) | rfl | decide) only [e_c, e_v, e_neg, negR_int, e_not, e_bin, e_cmp, e_and, e_or, e_ite, andR_t, andR_f, orR_t, orR_f, iteR_t, iteR_f, e_tup, e_lst, e_ix, e_call, e_app, goApp_fn, goApp_clo, e_bi, e_lam, cellsOf_nil, cellsOf_cons, cofV_cel, cofK_some, es_nil, es_cons, s_pass, s_ex, s_set, s_par, s_own, ownR_lst, ownV_no, ownV_v, s_setix, ownO_own, appK_ok, appR_eq, s_app, s_ite, ifR_t, ifR_f, s_loop, s_ret, s_brk, s_cont, s_rais, s_tri, triR_ok, ss_nil, ss_cons, seqR_nx, seqR_rt, seqR_bk, seqR_ct, R.bind_ok, R.bind_exc, R.of_some, rd_eq, rdv_v, rdv_cel, rdc_some, bi_len_tup, bi_len_lst, bi_abs, bi_max2, bi_min2, bi_gcd, bi_repr, bi_int, bi_list_l, bi_list_t, bi_bits, bi_isinst, bi_isinsts, isT_some, isTs_some, isAny_nil, isAny_cons,
    tyOf_int, tyOf_bl, tyOf_str, tyOf_lst, tyOf_tup, tyOf_non, tyOf_dct, bo_add, bo_sub, bo_mul, bo_fdiv, bo_mod, bo_pow, co_lt, co_le, co_gt, co_ge, co_eq, co_ne, co_is_bl, eqv_int, tru_non, tru_bl, tru_int, tru_tup, tru_lst, truR_eq, ix_tup, ix_lst, ix_ref, ixr_str, item0, item1, item2, lookK_cons,
    putAt_ref, putR_dic, keyOf_str, wr_eq, wrv_no, wrv_v, wrv_cel, wrc_cel, asg_nm, asg_tup, asgs_nil, asgs_cons, asgK_some, par_nil, par_cons, back_same, back_sameX, cells_cel, celB_some, celB_none, open_cel, parv_no, parv_v, back_ok, back_exc, cells_nil, cells_v, cells_no, open_nil, open_v, open_no, cells_own, open_own, shut_own, shut_nil, shut_v, shut_no, T_run, for_nil, walk_val_l, walk_val_t,
    fin_rt, fin_nx, fin_exc, env0_eq, List.map_cons, List.map_nil, List.replicate, List.cons_append, List.nil_append, List.append_nil, List.getElem?_cons_zero, List.getElem?_cons_succ, List.set_cons_zero, List.set_cons_succ, Option.map_some, if_true, Nat.reduceSub, Nat.reduceAdd, subTy, Nat.reduceLeDiff, reduceIte, Bool.not_true, Bool.not_false, Nat.reduceBEq, Bool.false_eq_true, Bool.or_false, Bool.or_true, Bool.false_or, Bool.true_or, Bool.and_true, Bool.true_and, Bool.and_false, Bool.false_and, lenI_nil, lenI_cons, Int.reduceAdd, Int.reduceEq, Int.reduceLT, Int.reduceLE, Int.reduceNeg, decide_true, decide_false, eq_self, not_true_eq_false, not_false_eq_true, lowest, rt]
theorem parted (n : Nat) (hn : 2 ≤ n) (a b c d : Int) (s : So) (ha : small a = true) (hb : small b = true) (hc : small c = true) (hd : small d = true) (h0 : gs (a * d) (b * c) ≠ 0) (h1 : small (gs (a * d) (b * c)) = true) : (CX n).call 8 [rt a b, rt c d] s = .ok (Qd (a * d) (b * c)) s := by
  obtain ⟨m, rfl⟩ : ∃ m, n = m + 1 := ⟨n - 1, by omega⟩
  rw [call_eq m 8 f8 rfl]
  unfold f8
  refine (runF_eq _ _ _ _ _ _ (by rfl)).trans ?_
  simp (disch := first | assumption | omega | exact small_of (by decide) | rfl | decide) only [e_c, e_v, e_neg, negR_int, e_not, e_bin, e_cmp, e_and, e_or, e_ite, andR_t, andR_f, orR_t, orR_f, iteR_t, iteR_f, e_tup, e_lst, e_ix, e_call, e_app, goApp_fn, goApp_clo, e_bi, e_lam, cellsOf_nil, cellsOf_cons, cofV_cel, cofK_some, es_nil, es_cons, s_pass, s_ex, s_set, s_par, s_own, ownR_lst, ownV_no, ownV_v, s_setix, ownO_own, appK_ok, appR_eq, s_app, s_ite, ifR_t, ifR_f, s_loop, s_ret, s_brk, s_cont, s_rais, s_tri, triR_ok, ss_nil, ss_cons, seqR_nx, seqR_rt, seqR_bk, seqR_ct, R.bind_ok, R.bind_exc, R.of_some, rd_eq, rdv_v, rdv_cel, rdc_some, bi_len_tup, bi_len_lst, bi_abs, bi_max2, bi_min2, bi_gcd, bi_repr, bi_int, bi_list_l, bi_list_t, bi_bits, bi_isinst, bi_isinsts, isT_some, isTs_some, isAny_nil, isAny_cons,
    tyOf_int, tyOf_bl, tyOf_str, tyOf_lst, tyOf_tup, tyOf_non, tyOf_dct, bo_add, bo_sub, bo_mul, bo_fdiv, bo_mod, bo_pow, co_lt, co_le, co_gt, co_ge, co_eq, co_ne, co_is_bl, eqv_int, tru_non, tru_bl, tru_int, tru_tup, tru_lst, truR_eq, ix_tup, ix_lst, ix_ref, ixr_str, item0, item1, item2, lookK_cons,
    putAt_ref, putR_dic, keyOf_str, wr_eq, wrv_no, wrv_v, wrv_cel, wrc_cel, asg_nm, asg_tup, asgs_nil, asgs_cons, asgK_some, par_nil, par_cons, back_same, back_sameX, cells_cel, celB_some, celB_none, open_cel, parv_no, parv_v, back_ok, back_exc, cells_nil, cells_v, cells_no, open_nil, open_v, open_no, cells_own, open_own, shut_own, shut_nil, shut_v, shut_no, T_run, for_nil, walk_val_l, walk_val_t,
    fin_rt, fin_nx, fin_exc, env0_eq, List.map_cons, List.map_nil, List.replicate, List.cons_append, List.nil_append, List.append_nil, List.getElem?_cons_zero, List.getElem?_cons_succ, List.set_cons_zero, List.set_cons_succ, Option.map_some, if_true, Nat.reduceSub, Nat.reduceAdd, subTy, Nat.reduceLeDiff, reduceIte, Bool.not_true, Bool.not_false, Nat.reduceBEq, Bool.false_eq_true, Bool.or_false, Bool.or_true, Bool.false_or, Bool.true_or, Bool.and_true, Bool.true_and, Bool.and_false, Bool.false_and, lenI_nil, lenI_cons, Int.reduceAdd, Int.reduceEq, Int.reduceLT, Int.reduceLE, Int.reduceNeg, decide_true, decide_false, eq_self, not_true_eq_false, not_false_eq_true, lowest, rt]
theorem below (n : Nat) (hn : 1 ≤ n) (a b c d : Int) (s : So) (ha : small a = true) (hb : small b = true) (hc : small c = true) (hd : small d = true) : (CX n).call 9 [rt a b, rt c d] s = .ok (.bl (decide (a * d < c * b))) s := by
  obtain ⟨m, rfl⟩ : ∃ m, n = m + 1 := ⟨n - 1, by omega⟩
  rw [call_eq m 9 f9 rfl]
  unfold f9
  refine (runF_eq _ _ _ _ _ _ (by rfl)).trans ?_
  simp (disch := first | assumption | omega | exact small_of (by decide) | rfl | decide) only [e_c, e_v, e_neg, negR_int, e_not, e_bin, e_cmp, e_and, e_or, e_ite, andR_t, andR_f, orR_t, orR_f, iteR_t, iteR_f, e_tup, e_lst, e_ix, e_call, e_app, goApp_fn, goApp_clo, e_bi, e_lam, cellsOf_nil, cellsOf_cons, cofV_cel, cofK_some, es_nil, es_cons, s_pass, s_ex, s_set, s_par, s_own, ownR_lst, ownV_no, ownV_v, s_setix, ownO_own, appK_ok, appR_eq, s_app, s_ite, ifR_t, ifR_f, s_loop, s_ret, s_brk, s_cont, s_rais, s_tri, triR_ok, ss_nil, ss_cons, seqR_nx, seqR_rt, seqR_bk, seqR_ct, R.bind_ok, R.bind_exc, R.of_some, rd_eq, rdv_v, rdv_cel, rdc_some, bi_len_tup, bi_len_lst, bi_abs, bi_max2, bi_min2, bi_gcd, bi_repr, bi_int, bi_list_l, bi_list_t, bi_bits, bi_isinst, bi_isinsts, isT_some, isTs_some, isAny_nil, isAny_cons,
    tyOf_int, tyOf_bl, tyOf_str, tyOf_lst, tyOf_tup, tyOf_non, tyOf_dct, bo_add, bo_sub, bo_mul, bo_fdiv, bo_mod, bo_pow, co_lt, co_le, co_gt, co_ge, co_eq, co_ne, co_is_bl, eqv_int, tru_non, tru_bl, tru_int, tru_tup, tru_lst, truR_eq, ix_tup, ix_lst, ix_ref, ixr_str, item0, item1, item2, lookK_cons,
    putAt_ref, putR_dic, keyOf_str, wr_eq, wrv_no, wrv_v, wrv_cel, wrc_cel, asg_nm, asg_tup, asgs_nil, asgs_cons, asgK_some, par_nil, par_cons, back_same, back_sameX, cells_cel, celB_some, celB_none, open_cel, parv_no, parv_v, back_ok, back_exc, cells_nil, cells_v, cells_no, open_nil, open_v, open_no, cells_own, open_own, shut_own, shut_nil, shut_v, shut_no, T_run, for_nil, walk_val_l, walk_val_t,
    fin_rt, fin_nx, fin_exc, env0_eq, List.map_cons, List.map_nil, List.replicate, List.cons_append, List.nil_append, List.append_nil, List.getElem?_cons_zero, List.getElem?_cons_succ, List.set_cons_zero, List.set_cons_succ, Option.map_some, if_true, Nat.reduceSub, Nat.reduceAdd, subTy, Nat.reduceLeDiff, reduceIte, Bool.not_true, Bool.not_false, Nat.reduceBEq, Bool.false_eq_true, Bool.or_false, Bool.or_true, Bool.false_or, Bool.true_or, Bool.and_true, Bool.true_and, Bool.and_false, Bool.false_and, lenI_nil, lenI_cons, Int.reduceAdd, Int.reduceEq, Int.reduceLT, Int.reduceLE, Int.reduceNeg, decide_true, decide_false, eq_self, not_true_eq_false, not_false_eq_true, rt]
theorem plus (n : Nat) (hn : 5 ≤ n) (a b c d : Int) (x y : D) (hx : Told x a b) (hy : Told y c d) (s : So) (ha : small a = true) (hb : small b = true) (hc : small c = true) (hd : small d = true) (h0 : gs (a * d + c * b) (b * d) ≠ 0) (h1 : small (gs (a * d + c * b) (b * d)) = true) : (CX n).call 10 [x, y] s = .ok (Qd (a * d + c * b) (b * d)) s := by
  obtain ⟨m, rfl⟩ : ∃ m, n = m + 1 := ⟨n - 1, by omega⟩
  rw [call_eq m 10 f10 rfl]
  unfold f10
  refine (runF_eq _ _ _ _ _ _ (by rfl)).trans ?_
  simp (disch := first | assumption | omega | exact small_of (by decide) | rfl | decide) only [e_c, e_v, e_neg, negR_int, e_not, e_bin, e_cmp, e_and, e_or, e_ite, andR_t, andR_f, orR_t, orR_f, iteR_t, iteR_f, e_tup, e_lst, e_ix, e_call, e_app, goApp_fn, goApp_clo, e_bi, e_lam, cellsOf_nil, cellsOf_cons, cofV_cel, cofK_some, es_nil, es_cons, s_pass, s_ex, s_set, s_par, s_own, ownR_lst, ownV_no, ownV_v, s_setix, ownO_own, appK_ok, appR_eq, s_app, s_ite, ifR_t, ifR_f, s_loop, s_ret, s_brk, s_cont, s_rais, s_tri, triR_ok, ss_nil, ss_cons, seqR_nx, seqR_rt, seqR_bk, seqR_ct, R.bind_ok, R.bind_exc, R.of_some, rd_eq, rdv_v, rdv_cel, rdc_some, bi_len_tup, bi_len_lst, bi_abs, bi_max2, bi_min2, bi_gcd, bi_repr, bi_int, bi_list_l, bi_list_t, bi_bits, bi_isinst, bi_isinsts, isT_some, isTs_some, isAny_nil, isAny_cons,
    tyOf_int, tyOf_bl, tyOf_str, tyOf_lst, tyOf_tup, tyOf_non, tyOf_dct, bo_add, bo_sub, bo_mul, bo_fdiv, bo_mod, bo_pow, co_lt, co_le, co_gt, co_ge, co_eq, co_ne, co_is_bl, eqv_int, tru_non, tru_bl, tru_int, tru_tup, tru_lst, truR_eq, ix_tup, ix_lst, ix_ref, ixr_str, item0, item1, item2, lookK_cons,
    putAt_ref, putR_dic, keyOf_str, wr_eq, wrv_no, wrv_v, wrv_cel, wrc_cel, asg_nm, asg_tup, asgs_nil, asgs_cons, asgK_some, par_nil, par_cons, back_same, back_sameX, cells_cel, celB_some, celB_none, open_cel, parv_no, parv_v, back_ok, back_exc, cells_nil, cells_v, cells_no, open_nil, open_v, open_no, cells_own, open_own, shut_own, shut_nil, shut_v, shut_no, T_run, for_nil, walk_val_l, walk_val_t,
    fin_rt, fin_nx, fin_exc, env0_eq, List.map_cons, List.map_nil, List.replicate, List.cons_append, List.nil_append, List.append_nil, List.getElem?_cons_zero, List.getElem?_cons_succ, List.set_cons_zero, List.set_cons_succ, Option.map_some, if_true, Nat.reduceSub, Nat.reduceAdd, subTy, Nat.reduceLeDiff, reduceIte, Bool.not_true, Bool.not_false, Nat.reduceBEq, Bool.false_eq_true, Bool.or_false, Bool.or_true, Bool.false_or, Bool.true_or, Bool.and_true, Bool.true_and, Bool.and_false, Bool.false_and, lenI_nil, lenI_cons, Int.reduceAdd, Int.reduceEq, Int.reduceLT, Int.reduceLE, Int.reduceNeg, decide_true, decide_false, eq_self, not_true_eq_false, not_false_eq_true, summed, hx m _ (by omega), hy m _ (by omega)]
theorem minus (n : Nat) (hn : 5 ≤ n) (a b c d : Int) (x y : D) (hx : Told x a b) (hy : Told y c d) (s : So) (ha : small a = true) (hb : small b = true) (hc : small c = true) (hd : small d = true) (h0 : gs (a * d - c * b) (b * d) ≠ 0) (h1 : small (gs (a * d - c * b) (b * d)) = true) : (CX n).call 11 [x, y] s = .ok (Qd (a * d - c * b) (b * d)) s := by
  obtain ⟨m, rfl⟩ : ∃ m, n = m + 1 := ⟨n - 1, by omega⟩
  rw [call_eq m 11 f11 rfl]
  unfold f11
  refine (runF_eq _ _ _ _ _ _ (by rfl)).trans ?_
  simp (disch := first | assumption | omega | exact small_of (by decide) | rfl | decide) only [e_c, e_v, e_neg, negR_int, e_not, e_bin, e_cmp, e_and, e_or, e_ite, andR_t, andR_f, orR_t, orR_f, iteR_t, iteR_f, e_tup, e_lst, e_ix, e_call, e_app, goApp_fn, goApp_clo, e_bi, e_lam, cellsOf_nil, cellsOf_cons, cofV_cel, cofK_some, es_nil, es_cons, s_pass, s_ex, s_set, s_par, s_own, ownR_lst, ownV_no, ownV_v, s_setix, ownO_own, appK_ok, appR_eq, s_app, s_ite, ifR_t, ifR_f, s_loop, s_ret, s_brk, s_cont, s_rais, s_tri, triR_ok, ss_nil, ss_cons, seqR_nx, seqR_rt, seqR_bk, seqR_ct, R.bind_ok, R.bind_exc, R.of_some, rd_eq, rdv_v, rdv_cel, rdc_some, bi_len_tup, bi_len_lst, bi_abs, bi_max2, bi_min2, bi_gcd, bi_repr, bi_int, bi_list_l, bi_list_t, bi_bits, bi_isinst, bi_isinsts, isT_some, isTs_some, isAny_nil, isAny_cons,
    tyOf_int, tyOf_bl, tyOf_str, tyOf_lst, tyOf_tup, tyOf_non, tyOf_dct, bo_add, bo_sub, bo_mul, bo_fdiv, bo_mod, bo_pow, co_lt, co_le, co_gt, co_ge, co_eq, co_ne, co_is_bl, eqv_int, tru_non, tru_bl, tru_int, tru_tup, tru_lst, truR_eq, ix_tup, ix_lst, ix_ref, ixr_str, item0, item1, item2, lookK_cons,
    putAt_ref, putR_dic, keyOf_str, wr_eq, wrv_no, wrv_v, wrv_cel, wrc_cel, asg_nm, asg_tup, asgs_nil, asgs_cons, asgK_some, par_nil, par_cons, back_same, back_sameX, cells_cel, celB_some, celB_none, open_cel, parv_no, parv_v, back_ok, back_exc, cells_nil, cells_v, cells_no, open_nil, open_v, open_no, cells_own, open_own, shut_own, shut_nil, shut_v, shut_no, T_run, for_nil, walk_val_l, walk_val_t,
    fin_rt, fin_nx, fin_exc, env0_eq, List.map_cons, List.map_nil, List.replicate, List.cons_append, List.nil_append, List.append_nil, List.getElem?_cons_zero, List.getElem?_cons_succ, List.set_cons_zero, List.set_cons_succ, Option.map_some, if_true, Nat.reduceSub, Nat.reduceAdd, subTy, Nat.reduceLeDiff, reduceIte, Bool.not_true, Bool.not_false, Nat.reduceBEq, Bool.false_eq_true, Bool.or_false, Bool.or_true, Bool.false_or, Bool.true_or, Bool.and_true, Bool.true_and, Bool.and_false, Bool.false_and, lenI_nil, lenI_cons, Int.reduceAdd, Int.reduceEq, Int.reduceLT, Int.reduceLE, Int.reduceNeg, decide_true, decide_false, eq_self, not_true_eq_false, not_false_eq_true, lessened, hx m _ (by omega), hy m _ (by omega)]
theorem times (n : Nat) (hn : 5 ≤ n) (a b c d : Int) (x y : D) (hx : Told x a b) (hy : Told y c d) (s : So) (ha : small a = true) (hb : small b = true) (hc : small c = true) (hd : small d = true) (h0 : gs (a * c) (b * d) ≠ 0) (h1 : small (gs (a * c) (b * d)) = true) : (CX n).call 12 [x, y] s = .ok (Qd (a * c) (b * d)) s := by
  obtain ⟨m, rfl⟩ : ∃ m, n = m + 1 := ⟨n - 1, by omega⟩
  rw [call_eq m 12 f12 rfl]
  unfold f12
  refine (runF_eq _ _ _ _ _ _ (by rfl)).trans ?_
  simp (disch := first | assumption | omega | exact small_of (by decide) | rfl | decide) only [e_c, e_v, e_neg, negR_int, e_not, e_bin, e_cmp, e_and, e_or, e_ite, andR_t, andR_f, orR_t, orR_f, iteR_t, iteR_f, e_tup, e_lst, e_ix, e_call, e_app, goApp_fn, goApp_clo, e_bi, e_lam, cellsOf_nil, cellsOf_cons, cofV_cel, cofK_some, es_nil, es_cons, s_pass, s_ex, s_set, s_par, s_own, ownR_lst, ownV_no, ownV_v, s_setix, ownO_own, appK_ok, appR_eq, s_app, s_ite, ifR_t, ifR_f, s_loop, s_ret, s_brk, s_cont, s_rais, s_tri, triR_ok, ss_nil, ss_cons, seqR_nx, seqR_rt, seqR_bk, seqR_ct, R.bind_ok, R.bind_exc, R.of_some, rd_eq, rdv_v, rdv_cel, rdc_some, bi_len_tup, bi_len_lst, bi_abs, bi_max2, bi_min2, bi_gcd, bi_repr, bi_int, bi_list_l, bi_list_t, bi_bits, bi_isinst, bi_isinsts, isT_some, isTs_some, isAny_nil, isAny_cons,
    tyOf_int, tyOf_bl, tyOf_str, tyOf_lst, tyOf_tup, tyOf_non, tyOf_dct, bo_add, bo_sub, bo_mul, bo_fdiv, bo_mod, bo_pow, co_lt, co_le, co_gt, co_ge, co_eq, co_ne, co_is_bl, eqv_int, tru_non, tru_bl, tru_int, tru_tup, tru_lst, truR_eq, ix_tup, ix_lst, ix_ref, ixr_str, item0, item1, item2, lookK_cons,
    putAt_ref, putR_dic, keyOf_str, wr_eq, wrv_no, wrv_v, wrv_cel, wrc_cel, asg_nm, asg_tup, asgs_nil, asgs_cons, asgK_some, par_nil, par_cons, back_same, back_sameX, cells_cel, celB_some, celB_none, open_cel, parv_no, parv_v, back_ok, back_exc, cells_nil, cells_v, cells_no, open_nil, open_v, open_no, cells_own, open_own, shut_own, shut_nil, shut_v, shut_no, T_run, for_nil, walk_val_l, walk_val_t,
    fin_rt, fin_nx, fin_exc, env0_eq, List.map_cons, List.map_nil, List.replicate, List.cons_append, List.nil_append, List.append_nil, List.getElem?_cons_zero, List.getElem?_cons_succ, List.set_cons_zero, List.set_cons_succ, Option.map_some, if_true, Nat.reduceSub, Nat.reduceAdd, subTy, Nat.reduceLeDiff, reduceIte, Bool.not_true, Bool.not_false, Nat.reduceBEq, Bool.false_eq_true, Bool.or_false, Bool.or_true, Bool.false_or, Bool.true_or, Bool.and_true, Bool.true_and, Bool.and_false, Bool.false_and, lenI_nil, lenI_cons, Int.reduceAdd, Int.reduceEq, Int.reduceLT, Int.reduceLE, Int.reduceNeg, decide_true, decide_false, eq_self, not_true_eq_false, not_false_eq_true, scaled, hx m _ (by omega), hy m _ (by omega)]
theorem share (n : Nat) (hn : 5 ≤ n) (a b c d : Int) (x y : D) (hx : Told x a b) (hy : Told y c d) (s : So) (ha : small a = true) (hb : small b = true) (hc : small c = true) (hd : small d = true) (hc0 : c ≠ 0) (h0 : gs (a * d) (b * c) ≠ 0) (h1 : small (gs (a * d) (b * c)) = true) : (CX n).call 13 [x, y] s = .ok (Qd (a * d) (b * c)) s := by
  obtain ⟨m, rfl⟩ : ∃ m, n = m + 1 := ⟨n - 1, by omega⟩
  rw [call_eq m 13 f13 rfl]
  unfold f13
  refine (runF_eq _ _ _ _ _ _ (by rfl)).trans ?_
  simp (disch := first | assumption | omega | exact small_of (by decide) | rfl | decide) only [e_c, e_v, e_neg, negR_int, e_not, e_bin, e_cmp, e_and, e_or, e_ite, andR_t, andR_f, orR_t, orR_f, iteR_t, iteR_f, e_tup, e_lst, e_ix, e_call, e_app, goApp_fn, goApp_clo, e_bi, e_lam, cellsOf_nil, cellsOf_cons, cofV_cel, cofK_some, es_nil, es_cons, s_pass, s_ex, s_set, s_par, s_own, ownR_lst, ownV_no, ownV_v, s_setix, ownO_own, appK_ok, appR_eq, s_app, s_ite, ifR_t, ifR_f, s_loop, s_ret, s_brk, s_cont, s_rais, s_tri, triR_ok, ss_nil, ss_cons, seqR_nx, seqR_rt, seqR_bk, seqR_ct, R.bind_ok, R.bind_exc, R.of_some, rd_eq, rdv_v, rdv_cel, rdc_some, bi_len_tup, bi_len_lst, bi_abs, bi_max2, bi_min2, bi_gcd, bi_repr, bi_int, bi_list_l, bi_list_t, bi_bits, bi_isinst, bi_isinsts, isT_some, isTs_some, isAny_nil, isAny_cons,
    tyOf_int, tyOf_bl, tyOf_str, tyOf_lst, tyOf_tup, tyOf_non, tyOf_dct, bo_add, bo_sub, bo_mul, bo_fdiv, bo_mod, bo_pow, co_lt, co_le, co_gt, co_ge, co_eq, co_ne, co_is_bl, eqv_int, tru_non, tru_bl, tru_int, tru_tup, tru_lst, truR_eq, ix_tup, ix_lst, ix_ref, ixr_str, item0, item1, item2, lookK_cons,
    putAt_ref, putR_dic, keyOf_str, wr_eq, wrv_no, wrv_v, wrv_cel, wrc_cel, asg_nm, asg_tup, asgs_nil, asgs_cons, asgK_some, par_nil, par_cons, back_same, back_sameX, cells_cel, celB_some, celB_none, open_cel, parv_no, parv_v, back_ok, back_exc, cells_nil, cells_v, cells_no, open_nil, open_v, open_no, cells_own, open_own, shut_own, shut_nil, shut_v, shut_no, T_run, for_nil, walk_val_l, walk_val_t,
    fin_rt, fin_nx, fin_exc, env0_eq, List.map_cons, List.map_nil, List.replicate, List.cons_append, List.nil_append, List.append_nil, List.getElem?_cons_zero, List.getElem?_cons_succ, List.set_cons_zero, List.set_cons_succ, Option.map_some, if_true, Nat.reduceSub, Nat.reduceAdd, subTy, Nat.reduceLeDiff, reduceIte, Bool.not_true, Bool.not_false, Nat.reduceBEq, Bool.false_eq_true, Bool.or_false, Bool.or_true, Bool.false_or, Bool.true_or, Bool.and_true, Bool.true_and, Bool.and_false, Bool.false_and, lenI_nil, lenI_cons, Int.reduceAdd, Int.reduceEq, Int.reduceLT, Int.reduceLE, Int.reduceNeg, decide_true, decide_false, eq_self, not_true_eq_false, not_false_eq_true, parted, hx m _ (by omega), hy m _ (by omega), ix_rt0, hc0]
theorem less (n : Nat) (hn : 5 ≤ n) (a b c d : Int) (x y : D) (hx : Told x a b) (hy : Told y c d) (s : So) (ha : small a = true) (hb : small b = true) (hc : small c = true) (hd : small d = true) : (CX n).call 14 [x, y] s = .ok (.bl (decide (a * d < c * b))) s := by
  obtain ⟨m, rfl⟩ : ∃ m, n = m + 1 := ⟨n - 1, by omega⟩
  rw [call_eq m 14 f14 rfl]
  unfold f14
  refine (runF_eq _ _ _ _ _ _ (by rfl)).trans ?_
  simp (disch := first | assumption | omega | exact small_of (by decide) | rfl | decide) only [e_c, e_v, e_neg, negR_int, e_not, e_bin, e_cmp, e_and, e_or, e_ite, andR_t, andR_f, orR_t, orR_f, iteR_t, iteR_f, e_tup, e_lst, e_ix, e_call, e_app, goApp_fn, goApp_clo, e_bi, e_lam, cellsOf_nil, cellsOf_cons, cofV_cel, cofK_some, es_nil, es_cons, s_pass, s_ex, s_set, s_par, s_own, ownR_lst, ownV_no, ownV_v, s_setix, ownO_own, appK_ok, appR_eq, s_app, s_ite, ifR_t, ifR_f, s_loop, s_ret, s_brk, s_cont, s_rais, s_tri, triR_ok, ss_nil, ss_cons, seqR_nx, seqR_rt, seqR_bk, seqR_ct, R.bind_ok, R.bind_exc, R.of_some, rd_eq, rdv_v, rdv_cel, rdc_some, bi_len_tup, bi_len_lst, bi_abs, bi_max2, bi_min2, bi_gcd, bi_repr, bi_int, bi_list_l, bi_list_t, bi_bits, bi_isinst, bi_isinsts, isT_some, isTs_some, isAny_nil, isAny_cons,
    tyOf_int, tyOf_bl, tyOf_str, tyOf_lst, tyOf_tup, tyOf_non, tyOf_dct, bo_add, bo_sub, bo_mul, bo_fdiv, bo_mod, bo_pow, co_lt, co_le, co_gt, co_ge, co_eq, co_ne, co_is_bl, eqv_int, tru_non, tru_bl, tru_int, tru_tup, tru_lst, truR_eq, ix_tup, ix_lst, ix_ref, ixr_str, item0, item1, item2, lookK_cons,
    putAt_ref, putR_dic, keyOf_str, wr_eq, wrv_no, wrv_v, wrv_cel, wrc_cel, asg_nm, asg_tup, asgs_nil, asgs_cons, asgK_some, par_nil, par_cons, back_same, back_sameX, cells_cel, celB_some, celB_none, open_cel, parv_no, parv_v, back_ok, back_exc, cells_nil, cells_v, cells_no, open_nil, open_v, open_no, cells_own, open_own, shut_own, shut_nil, shut_v, shut_no, T_run, for_nil, walk_val_l, walk_val_t,
    fin_rt, fin_nx, fin_exc, env0_eq, List.map_cons, List.map_nil, List.replicate, List.cons_append, List.nil_append, List.append_nil, List.getElem?_cons_zero, List.getElem?_cons_succ, List.set_cons_zero, List.set_cons_succ, Option.map_some, if_true, Nat.reduceSub, Nat.reduceAdd, subTy, Nat.reduceLeDiff, reduceIte, Bool.not_true, Bool.not_false, Nat.reduceBEq, Bool.false_eq_true, Bool.or_false, Bool.or_true, Bool.false_or, Bool.true_or, Bool.and_true, Bool.true_and, Bool.and_false, Bool.false_and, lenI_nil, lenI_cons, Int.reduceAdd, Int.reduceEq, Int.reduceLT, Int.reduceLE, Int.reduceNeg, decide_true, decide_false, eq_self, not_true_eq_false, not_false_eq_true, below, hx m _ (by omega), hy m _ (by omega)]
theorem plus_b1 (n : Nat) (hn : 5 ≤ n) (x y : D) (hx : Bad x) (s : So) : (CX n).call 10 [x, y] s = .exc ⟨2, [x]⟩ s := by
  obtain ⟨m, rfl⟩ : ∃ m, n = m + 1 := ⟨n - 1, by omega⟩
  rw [call_eq m 10 f10 rfl]
  unfold f10
  refine (runF_eq _ _ _ _ _ _ (by rfl)).trans ?_
  simp (disch := first | assumption | omega | exact small_of (by decide) | rfl | decide) only [e_c, e_v, e_neg, negR_int, e_not, e_bin, e_cmp, e_and, e_or, e_ite, andR_t, andR_f, orR_t, orR_f, iteR_t, iteR_f, e_tup, e_lst, e_ix, e_call, e_app, goApp_fn, goApp_clo, e_bi, e_lam, cellsOf_nil, cellsOf_cons, cofV_cel, cofK_some, es_nil, es_cons, s_pass, s_ex, s_set, s_par, s_own, ownR_lst, ownV_no, ownV_v, s_setix, ownO_own, appK_ok, appR_eq, s_app, s_ite, ifR_t, ifR_f, s_loop, s_ret, s_brk, s_cont, s_rais, s_tri, triR_ok, ss_nil, ss_cons, seqR_nx, seqR_rt, seqR_bk, seqR_ct, R.bind_ok, R.bind_exc, R.of_some, rd_eq, rdv_v, rdv_cel, rdc_some, bi_len_tup, bi_len_lst, bi_abs, bi_max2, bi_min2, bi_gcd, bi_repr, bi_int, bi_list_l, bi_list_t, bi_bits, bi_isinst, bi_isinsts, isT_some, isTs_some, isAny_nil, isAny_cons,
    tyOf_int, tyOf_bl, tyOf_str, tyOf_lst, tyOf_tup, tyOf_non, tyOf_dct, bo_add, bo_sub, bo_mul, bo_fdiv, bo_mod, bo_pow, co_lt, co_le, co_gt, co_ge, co_eq, co_ne, co_is_bl, eqv_int, tru_non, tru_bl, tru_int, tru_tup, tru_lst, truR_eq, ix_tup, ix_lst, ix_ref, ixr_str, item0, item1, item2, lookK_cons,
    putAt_ref, putR_dic, keyOf_str, wr_eq, wrv_no, wrv_v, wrv_cel, wrc_cel, asg_nm, asg_tup, asgs_nil, asgs_cons, asgK_some, par_nil, par_cons, back_same, back_sameX, cells_cel, celB_some, celB_none, open_cel, parv_no, parv_v, back_ok, back_exc, cells_nil, cells_v, cells_no, open_nil, open_v, open_no, cells_own, open_own, shut_own, shut_nil, shut_v, shut_no, T_run, for_nil, walk_val_l, walk_val_t,
    fin_rt, fin_nx, fin_exc, env0_eq, List.map_cons, List.map_nil, List.replicate, List.cons_append, List.nil_append, List.append_nil, List.getElem?_cons_zero, List.getElem?_cons_succ, List.set_cons_zero, List.set_cons_succ, Option.map_some, if_true, Nat.reduceSub, Nat.reduceAdd, subTy, Nat.reduceLeDiff, reduceIte, Bool.not_true, Bool.not_false, Nat.reduceBEq, Bool.false_eq_true, Bool.or_false, Bool.or_true, Bool.false_or, Bool.true_or, Bool.and_true, Bool.true_and, Bool.and_false, Bool.false_and, lenI_nil, lenI_cons, Int.reduceAdd, Int.reduceEq, Int.reduceLT, Int.reduceLE, Int.reduceNeg, decide_true, decide_false, eq_self, not_true_eq_false, not_false_eq_true, hx m _ (by omega)]
theorem plus_b2 (n : Nat) (hn : 5 ≤ n) (a b : Int) (x y : D) (hx : Told x a b) (hy : Bad y) (s : So) : (CX n).call 10 [x, y] s = .exc ⟨2, [y]⟩ s := by
  obtain ⟨m, rfl⟩ : ∃ m, n = m + 1 := ⟨n - 1, by omega⟩
  rw [call_eq m 10 f10 rfl]
  unfold f10
  refine (runF_eq _ _ _ _ _ _ (by rfl)).trans ?_
  simp (disch := first | assumption | omega | exact small_of (by decide) | rfl | decide) only [e_c, e_v, e_neg, negR_int, e_not, e_bin, e_cmp, e_and, e_or, e_ite, andR_t, andR_f, orR_t, orR_f, iteR_t, iteR_f, e_tup, e_lst, e_ix, e_call, e_app, goApp_fn, goApp_clo, e_bi, e_lam, cellsOf_nil, cellsOf_cons, cofV_cel, cofK_some, es_nil, es_cons, s_pass, s_ex, s_set, s_par, s_own, ownR_lst, ownV_no, ownV_v, s_setix, ownO_own, appK_ok, appR_eq, s_app, s_ite, ifR_t, ifR_f, s_loop, s_ret, s_brk, s_cont, s_rais, s_tri, triR_ok, ss_nil, ss_cons, seqR_nx, seqR_rt, seqR_bk, seqR_ct, R.bind_ok, R.bind_exc, R.of_some, rd_eq, rdv_v, rdv_cel, rdc_some, bi_len_tup, bi_len_lst, bi_abs, bi_max2, bi_min2, bi_gcd, bi_repr, bi_int, bi_list_l, bi_list_t, bi_bits, bi_isinst, bi_isinsts, isT_some, isTs_some, isAny_nil, isAny_cons,
    tyOf_int, tyOf_bl, tyOf_str, tyOf_lst, tyOf_tup, tyOf_non, tyOf_dct, bo_add, bo_sub, bo_mul, bo_fdiv, bo_mod, bo_pow, co_lt, co_le, co_gt, co_ge, co_eq, co_ne, co_is_bl, eqv_int, tru_non, tru_bl, tru_int, tru_tup, tru_lst, truR_eq, ix_tup, ix_lst, ix_ref, ixr_str, item0, item1, item2, lookK_cons,
    putAt_ref, putR_dic, keyOf_str, wr_eq, wrv_no, wrv_v, wrv_cel, wrc_cel, asg_nm, asg_tup, asgs_nil, asgs_cons, asgK_some, par_nil, par_cons, back_same, back_sameX, cells_cel, celB_some, celB_none, open_cel, parv_no, parv_v, back_ok, back_exc, cells_nil, cells_v, cells_no, open_nil, open_v, open_no, cells_own, open_own, shut_own, shut_nil, shut_v, shut_no, T_run, for_nil, walk_val_l, walk_val_t,
    fin_rt, fin_nx, fin_exc, env0_eq, List.map_cons, List.map_nil, List.replicate, List.cons_append, List.nil_append, List.append_nil, List.getElem?_cons_zero, List.getElem?_cons_succ, List.set_cons_zero, List.set_cons_succ, Option.map_some, if_true, Nat.reduceSub, Nat.reduceAdd, subTy, Nat.reduceLeDiff, reduceIte, Bool.not_true, Bool.not_false, Nat.reduceBEq, Bool.false_eq_true, Bool.or_false, Bool.or_true, Bool.false_or, Bool.true_or, Bool.and_true, Bool.true_and, Bool.and_false, Bool.false_and, lenI_nil, lenI_cons, Int.reduceAdd, Int.reduceEq, Int.reduceLT, Int.reduceLE, Int.reduceNeg, decide_true, decide_false, eq_self, not_true_eq_false, not_false_eq_true, hx m _ (by omega), hy m _ (by omega)]
theorem minus_b1 (n : Nat) (hn : 5 ≤ n) (x y : D) (hx : Bad x) (s : So) : (CX n).call 11 [x, y] s = .exc ⟨2, [x]⟩ s := by
  obtain ⟨m, rfl⟩ : ∃ m, n = m + 1 := ⟨n - 1, by omega⟩
  rw [call_eq m 11 f11 rfl]
  unfold f11
  refine (runF_eq _ _ _ _ _ _ (by rfl)).trans ?_
  simp (disch := first | assumption | omega | exact small_of (by decide) | rfl | decide) only [e_c, e_v, e_neg, negR_int, e_not, e_bin, e_cmp, e_and, e_or, e_ite, andR_t, andR_f, orR_t, orR_f, iteR_t, iteR_f, e_tup, e_lst, e_ix, e_call, e_app, goApp_fn, goApp_clo, e_bi, e_lam, cellsOf_nil, cellsOf_cons, cofV_cel, cofK_some, es_nil, es_cons, s_pass, s_ex, s_set, s_par, s_own, ownR_lst, ownV_no, ownV_v, s_setix, ownO_own, appK_ok, appR_eq, s_app, s_ite, ifR_t, ifR_f, s_loop, s_ret, s_brk, s_cont, s_rais, s_tri, triR_ok, ss_nil, ss_cons, seqR_nx, seqR_rt, seqR_bk, seqR_ct, R.bind_ok, R.bind_exc, R.of_some, rd_eq, rdv_v, rdv_cel, rdc_some, bi_len_tup, bi_len_lst, bi_abs, bi_max2, bi_min2, bi_gcd, bi_repr, bi_int, bi_list_l, bi_list_t, bi_bits, bi_isinst, bi_isinsts, isT_some, isTs_some, isAny_nil, isAny_cons,
    tyOf_int, tyOf_bl, tyOf_str, tyOf_lst, tyOf_tup, tyOf_non, tyOf_dct, bo_add, bo_sub, bo_mul, bo_fdiv, bo_mod, bo_pow, co_lt, co_le, co_gt, co_ge, co_eq, co_ne, co_is_bl, eqv_int, tru_non, tru_bl, tru_int, tru_tup, tru_lst, truR_eq, ix_tup, ix_lst, ix_ref, ixr_str, item0, item1, item2, lookK_cons,
    putAt_ref, putR_dic, keyOf_str, wr_eq, wrv_no, wrv_v, wrv_cel, wrc_cel, asg_nm, asg_tup, asgs_nil, asgs_cons, asgK_some, par_nil, par_cons, back_same, back_sameX, cells_cel, celB_some, celB_none, open_cel, parv_no, parv_v, back_ok, back_exc, cells_nil, cells_v, cells_no, open_nil, open_v, open_no, cells_own, open_own, shut_own, shut_nil, shut_v, shut_no, T_run, for_nil, walk_val_l, walk_val_t,
    fin_rt, fin_nx, fin_exc, env0_eq, List.map_cons, List.map_nil, List.replicate, List.cons_append, List.nil_append, List.append_nil, List.getElem?_cons_zero, List.getElem?_cons_succ, List.set_cons_zero, List.set_cons_succ, Option.map_some, if_true, Nat.reduceSub, Nat.reduceAdd, subTy, Nat.reduceLeDiff, reduceIte, Bool.not_true, Bool.not_false, Nat.reduceBEq, Bool.false_eq_true, Bool.or_false, Bool.or_true, Bool.false_or, Bool.true_or, Bool.and_true, Bool.true_and, Bool.and_false, Bool.false_and, lenI_nil, lenI_cons, Int.reduceAdd, Int.reduceEq, Int.reduceLT, Int.reduceLE, Int.reduceNeg, decide_true, decide_false, eq_self, not_true_eq_false, not_false_eq_true, hx m _ (by omega)]
theorem minus_b2 (n : Nat) (hn : 5 ≤ n) (a b : Int) (x y : D) (hx : Told x a b) (hy : Bad y) (s : So) : (CX n).call 11 [x, y] s = .exc ⟨2, [y]⟩ s := by
  obtain ⟨m, rfl⟩ : ∃ m, n = m + 1 := ⟨n - 1, by omega⟩
  rw [call_eq m 11 f11 rfl]
  unfold f11
  refine (runF_eq _ _ _ _ _ _ (by rfl)).trans ?_
  simp (disch := first | assumption | omega | exact small_of (by decide) | rfl | decide) only [e_c, e_v, e_neg, negR_int, e_not, e_bin, e_cmp, e_and, e_or, e_ite, andR_t, andR_f, orR_t, orR_f, iteR_t, iteR_f, e_tup, e_lst, e_ix, e_call, e_app, goApp_fn, goApp_clo, e_bi, e_lam, cellsOf_nil, cellsOf_cons, cofV_cel, cofK_some, es_nil, es_cons, s_pass, s_ex, s_set, s_par, s_own, ownR_lst, ownV_no, ownV_v, s_setix, ownO_own, appK_ok, appR_eq, s_app, s_ite, ifR_t, ifR_f, s_loop, s_ret, s_brk, s_cont, s_rais, s_tri, triR_ok, ss_nil, ss_cons, seqR_nx, seqR_rt, seqR_bk, seqR_ct, R.bind_ok, R.bind_exc, R.of_some, rd_eq, rdv_v, rdv_cel, rdc_some, bi_len_tup, bi_len_lst, bi_abs, bi_max2, bi_min2, bi_gcd, bi_repr, bi_int, bi_list_l, bi_list_t, bi_bits, bi_isinst, bi_isinsts, isT_some, isTs_some, isAny_nil, isAny_cons,
    tyOf_int, tyOf_bl, tyOf_str, tyOf_lst, tyOf_tup, tyOf_non, tyOf_dct, bo_add, bo_sub, bo_mul, bo_fdiv, bo_mod, bo_pow, co_lt, co_le, co_gt, co_ge, co_eq, co_ne, co_is_bl, eqv_int, tru_non, tru_bl, tru_int, tru_tup, tru_lst, truR_eq, ix_tup, ix_lst, ix_ref, ixr_str, item0, item1, item2, lookK_cons,
    putAt_ref, putR_dic, keyOf_str, wr_eq, wrv_no, wrv_v, wrv_cel, wrc_cel, asg_nm, asg_tup, asgs_nil, asgs_cons, asgK_some, par_nil, par_cons, back_same, back_sameX, cells_cel, celB_some, celB_none, open_cel, parv_no, parv_v, back_ok, back_exc, cells_nil, cells_v, cells_no, open_nil, open_v, open_no, cells_own, open_own, shut_own, shut_nil, shut_v, shut_no, T_run, for_nil, walk_val_l, walk_val_t,
    fin_rt, fin_nx, fin_exc, env0_eq, List.map_cons, List.map_nil, List.replicate, List.cons_append, List.nil_append, List.append_nil, List.getElem?_cons_zero, List.getElem?_cons_succ, List.set_cons_zero, List.set_cons_succ, Option.map_some, if_true, Nat.reduceSub, Nat.reduceAdd, subTy, Nat.reduceLeDiff, reduceIte, Bool.not_true, Bool.not_false, Nat.reduceBEq, Bool.false_eq_true, Bool.or_false, Bool.or_true, Bool.false_or, Bool.true_or, Bool.and_true, Bool.true_and, Bool.and_false, Bool.false_and, lenI_nil, lenI_cons, Int.reduceAdd, Int.reduceEq, Int.reduceLT, Int.reduceLE, Int.reduceNeg, decide_true, decide_false, eq_self, not_true_eq_false, not_false_eq_true, hx m _ (by omega), hy m _ (by omega)]
theorem times_b1 (n : Nat) (hn : 5 ≤ n) (x y : D) (hx : Bad x) (s : So) : (CX n).call 12 [x, y] s = .exc ⟨2, [x]⟩ s := by
  obtain ⟨m, rfl⟩ : ∃ m, n = m + 1 := ⟨n - 1, by omega⟩
  rw [call_eq m 12 f12 rfl]
  unfold f12
  refine (runF_eq _ _ _ _ _ _ (by rfl)).trans ?_
  simp (disch := first | assumption | omega | exact small_of (by decide) | rfl | decide) only [e_c, e_v, e_neg, negR_int, e_not, e_bin, e_cmp, e_and, e_or, e_ite, andR_t, andR_f, orR_t, orR_f, iteR_t, iteR_f, e_tup, e_lst, e_ix, e_call, e_app, goApp_fn, goApp_clo, e_bi, e_lam, cellsOf_nil, cellsOf_cons, cofV_cel, cofK_some, es_nil, es_cons, s_pass, s_ex, s_set, s_par, s_own, ownR_lst, ownV_no, ownV_v, s_setix, ownO_own, appK_ok, appR_eq, s_app, s_ite, ifR_t, ifR_f, s_loop, s_ret, s_brk, s_cont, s_rais, s_tri, triR_ok, ss_nil, ss_cons, seqR_nx, seqR_rt, seqR_bk, seqR_ct, R.bind_ok, R.bind_exc, R.of_some, rd_eq, rdv_v, rdv_cel, rdc_some, bi_len_tup, bi_len_lst, bi_abs, bi_max2, bi_min2, bi_gcd, bi_repr, bi_int, bi_list_l, bi_list_t, bi_bits, bi_isinst, bi_isinsts, isT_some, isTs_some, isAny_nil, isAny_cons,
    tyOf_int, tyOf_bl, tyOf_str, tyOf_lst, tyOf_tup, tyOf_non, tyOf_dct, bo_add, bo_sub, bo_mul, bo_fdiv, bo_mod, bo_pow, co_lt, co_le, co_gt, co_ge, co_eq, co_ne, co_is_bl, eqv_int, tru_non, tru_bl, tru_int, tru_tup, tru_lst, truR_eq, ix_tup, ix_lst, ix_ref, ixr_str, item0, item1, item2, lookK_cons,
    putAt_ref, putR_dic, keyOf_str, wr_eq, wrv_no, wrv_v, wrv_cel, wrc_cel, asg_nm, asg_tup, asgs_nil, asgs_cons, asgK_some, par_nil, par_cons, back_same, back_sameX, cells_cel, celB_some, celB_none, open_cel, parv_no, parv_v, back_ok, back_exc, cells_nil, cells_v, cells_no, open_nil, open_v, open_no, cells_own, open_own, shut_own, shut_nil, shut_v, shut_no, T_run, for_nil, walk_val_l, walk_val_t,
    fin_rt, fin_nx, fin_exc, env0_eq, List.map_cons, List.map_nil, List.replicate, List.cons_append, List.nil_append, List.append_nil, List.getElem?_cons_zero, List.getElem?_cons_succ, List.set_cons_zero, List.set_cons_succ, Option.map_some, if_true, Nat.reduceSub, Nat.reduceAdd, subTy, Nat.reduceLeDiff, reduceIte, Bool.not_true, Bool.not_false, Nat.reduceBEq, Bool.false_eq_true, Bool.or_false, Bool.or_true, Bool.false_or, Bool.true_or, Bool.and_true, Bool.true_and, Bool.and_false, Bool.false_and, lenI_nil, lenI_cons, Int.reduceAdd, Int.reduceEq, Int.reduceLT, Int.reduceLE, Int.reduceNeg, decide_true, decide_false, eq_self, not_true_eq_false, not_false_eq_true, hx m _ (by omega)]
theorem times_b2 (n : Nat) (hn : 5 ≤ n) (a b : Int) (x y : D) (hx : Told x a b) (hy : Bad y) (s : So) : (CX n).call 12 [x, y] s = .exc ⟨2, [y]⟩ s := by
  obtain ⟨m, rfl⟩ : ∃ m, n = m + 1 := ⟨n - 1, by omega⟩
  rw [call_eq m 12 f12 rfl]
  unfold f12
  refine (runF_eq _ _ _ _ _ _ (by rfl)).trans ?_
  simp (disch := first | assumption | omega | exact small_of (by decide) | rfl | decide) only [e_c, e_v, e_neg, negR_int, e_not, e_bin, e_cmp, e_and, e_or, e_ite, andR_t, andR_f, orR_t, orR_f, iteR_t, iteR_f, e_tup, e_lst, e_ix, e_call, e_app, goApp_fn, goApp_clo, e_bi, e_lam, cellsOf_nil, cellsOf_cons, cofV_cel, cofK_some, es_nil, es_cons, s_pass, s_ex, s_set, s_par, s_own, ownR_lst, ownV_no, ownV_v, s_setix, ownO_own, appK_ok, appR_eq, s_app, s_ite, ifR_t, ifR_f, s_loop, s_ret, s_brk, s_cont, s_rais, s_tri, triR_ok, ss_nil, ss_cons, seqR_nx, seqR_rt, seqR_bk, seqR_ct, R.bind_ok, R.bind_exc, R.of_some, rd_eq, rdv_v, rdv_cel, rdc_some, bi_len_tup, bi_len_lst, bi_abs, bi_max2, bi_min2, bi_gcd, bi_repr, bi_int, bi_list_l, bi_list_t, bi_bits, bi_isinst, bi_isinsts, isT_some, isTs_some, isAny_nil, isAny_cons,
    tyOf_int, tyOf_bl, tyOf_str, tyOf_lst, tyOf_tup, tyOf_non, tyOf_dct, bo_add, bo_sub, bo_mul, bo_fdiv, bo_mod, bo_pow, co_lt, co_le, co_gt, co_ge, co_eq, co_ne, co_is_bl, eqv_int, tru_non, tru_bl, tru_int, tru_tup, tru_lst, truR_eq, ix_tup, ix_lst, ix_ref, ixr_str, item0, item1, item2, lookK_cons,
    putAt_ref, putR_dic, keyOf_str, wr_eq, wrv_no, wrv_v, wrv_cel, wrc_cel, asg_nm, asg_tup, asgs_nil, asgs_cons, asgK_some, par_nil, par_cons, back_same, back_sameX, cells_cel, celB_some, celB_none, open_cel, parv_no, parv_v, back_ok, back_exc, cells_nil, cells_v, cells_no, open_nil, open_v, open_no, cells_own, open_own, shut_own, shut_nil, shut_v, shut_no, T_run, for_nil, walk_val_l, walk_val_t,
    fin_rt, fin_nx, fin_exc, env0_eq, List.map_cons, List.map_nil, List.replicate, List.cons_append, List.nil_append, List.append_nil, List.getElem?_cons_zero, List.getElem?_cons_succ, List.set_cons_zero, List.set_cons_succ, Option.map_some, if_true, Nat.reduceSub, Nat.reduceAdd, subTy, Nat.reduceLeDiff, reduceIte, Bool.not_true, Bool.not_false, Nat.reduceBEq, Bool.false_eq_true, Bool.or_false, Bool.or_true, Bool.false_or, Bool.true_or, Bool.and_true, Bool.true_and, Bool.and_false, Bool.false_and, lenI_nil, lenI_cons, Int.reduceAdd, Int.reduceEq, Int.reduceLT, Int.reduceLE, Int.reduceNeg, decide_true, decide_false, eq_self, not_true_eq_false, not_false_eq_true, hx m _ (by omega), hy m _ (by omega)]
theorem share_b1 (n : Nat) (hn : 5 ≤ n) (x y : D) (hx : Bad x) (s : So) : (CX n).call 13 [x, y] s = .exc ⟨2, [x]⟩ s := by
  obtain ⟨m, rfl⟩ : ∃ m, n = m + 1 := ⟨n - 1, by omega⟩
  rw [call_eq m 13 f13 rfl]
  unfold f13
  refine (runF_eq _ _ _ _ _ _ (by rfl)).trans ?_
  simp (disch := first | assumption | omega | exact small_of (by decide) | rfl | decide) only [e_c, e_v, e_neg, negR_int, e_not, e_bin, e_cmp, e_and, e_or, e_ite, andR_t, andR_f, orR_t, orR_f, iteR_t, iteR_f, e_tup, e_lst, e_ix, e_call, e_app, goApp_fn, goApp_clo, e_bi, e_lam, cellsOf_nil, cellsOf_cons, cofV_cel, cofK_some, es_nil, es_cons, s_pass, s_ex, s_set, s_par, s_own, ownR_lst, ownV_no, ownV_v, s_setix, ownO_own, appK_ok, appR_eq, s_app, s_ite, ifR_t, ifR_f, s_loop, s_ret, s_brk, s_cont, s_rais, s_tri, triR_ok, ss_nil, ss_cons, seqR_nx, seqR_rt, seqR_bk, seqR_ct, R.bind_ok, R.bind_exc, R.of_some, rd_eq, rdv_v, rdv_cel, rdc_some, bi_len_tup, bi_len_lst, bi_abs, bi_max2, bi_min2, bi_gcd, bi_repr, bi_int, bi_list_l, bi_list_t, bi_bits, bi_isinst, bi_isinsts, isT_some, isTs_some, isAny_nil, isAny_cons,
    tyOf_int, tyOf_bl, tyOf_str, tyOf_lst, tyOf_tup, tyOf_non, tyOf_dct, bo_add, bo_sub, bo_mul, bo_fdiv, bo_mod, bo_pow, co_lt, co_le, co_gt, co_ge, co_eq, co_ne, co_is_bl, eqv_int, tru_non, tru_bl, tru_int, tru_tup, tru_lst, truR_eq, ix_tup, ix_lst, ix_ref, ixr_str, item0, item1, item2, lookK_cons,
    putAt_ref, putR_dic, keyOf_str, wr_eq, wrv_no, wrv_v, wrv_cel, wrc_cel, asg_nm, asg_tup, asgs_nil, asgs_cons, asgK_some, par_nil, par_cons, back_same, back_sameX, cells_cel, celB_some, celB_none, open_cel, parv_no, parv_v, back_ok, back_exc, cells_nil, cells_v, cells_no, open_nil, open_v, open_no, cells_own, open_own, shut_own, shut_nil, shut_v, shut_no, T_run, for_nil, walk_val_l, walk_val_t,
    fin_rt, fin_nx, fin_exc, env0_eq, List.map_cons, List.map_nil, List.replicate, List.cons_append, List.nil_append, List.append_nil, List.getElem?_cons_zero, List.getElem?_cons_succ, List.set_cons_zero, List.set_cons_succ, Option.map_some, if_true, Nat.reduceSub, Nat.reduceAdd, subTy, Nat.reduceLeDiff, reduceIte, Bool.not_true, Bool.not_false, Nat.reduceBEq, Bool.false_eq_true, Bool.or_false, Bool.or_true, Bool.false_or, Bool.true_or, Bool.and_true, Bool.true_and, Bool.and_false, Bool.false_and, lenI_nil, lenI_cons, Int.reduceAdd, Int.reduceEq, Int.reduceLT, Int.reduceLE, Int.reduceNeg, decide_true, decide_false, eq_self, not_true_eq_false, not_false_eq_true, hx m _ (by omega)]
theorem share_b2 (n : Nat) (hn : 5 ≤ n) (a b : Int) (x y : D) (hx : Told x a b) (hy : Bad y) (s : So) : (CX n).call 13 [x, y] s = .exc ⟨2, [y]⟩ s := by
  obtain ⟨m, rfl⟩ : ∃ m, n = m + 1 := ⟨n - 1, by omega⟩
  rw [call_eq m 13 f13 rfl]
  unfold f13
  refine (runF_eq _ _ _ _ _ _ (by rfl)).trans ?_
  simp (disch := first | assumption | omega | exact small_of (by decide) | rfl | decide) only [e_c, e_v, e_neg, negR_int, e_not, e_bin, e_cmp, e_and, e_or, e_ite, andR_t, andR_f, orR_t, orR_f, iteR_t, iteR_f, e_tup, e_lst, e_ix, e_call, e_app, goApp_fn, goApp_clo, e_bi, e_lam, cellsOf_nil, cellsOf_cons, cofV_cel, cofK_some, es_nil, es_cons, s_pass, s_ex, s_set, s_par, s_own, ownR_lst, ownV_no, ownV_v, s_setix, ownO_own, appK_ok, appR_eq, s_app, s_ite, ifR_t, ifR_f, s_loop, s_ret, s_brk, s_cont, s_rais, s_tri, triR_ok, ss_nil, ss_cons, seqR_nx, seqR_rt, seqR_bk, seqR_ct, R.bind_ok, R.bind_exc, R.of_some, rd_eq, rdv_v, rdv_cel, rdc_some, bi_len_tup, bi_len_lst, bi_abs, bi_max2, bi_min2, bi_gcd, bi_repr, bi_int, bi_list_l, bi_list_t, bi_bits, bi_isinst, bi_isinsts, isT_some, isTs_some, isAny_nil, isAny_cons,
    tyOf_int, tyOf_bl, tyOf_str, tyOf_lst, tyOf_tup, tyOf_non, tyOf_dct, bo_add, bo_sub, bo_mul, bo_fdiv, bo_mod, bo_pow, co_lt, co_le, co_gt, co_ge, co_eq, co_ne, co_is_bl, eqv_int, tru_non, tru_bl, tru_int, tru_tup, tru_lst, truR_eq, ix_tup, ix_lst, ix_ref, ixr_str, item0, item1, item2, lookK_cons,
    putAt_ref, putR_dic, keyOf_str, wr_eq, wrv_no, wrv_v, wrv_cel, wrc_cel, asg_nm, asg_tup, asgs_nil, asgs_cons, asgK_some, par_nil, par_cons, back_same, back_sameX, cells_cel, celB_some, celB_none, open_cel, parv_no, parv_v, back_ok, back_exc, cells_nil, cells_v, cells_no, open_nil, open_v, open_no, cells_own, open_own, shut_own, shut_nil, shut_v, shut_no, T_run, for_nil, walk_val_l, walk_val_t,
    fin_rt, fin_nx, fin_exc, env0_eq, List.map_cons, List.map_nil, List.replicate, List.cons_append, List.nil_append, List.append_nil, List.getElem?_cons_zero, List.getElem?_cons_succ, List.set_cons_zero, List.set_cons_succ, Option.map_some, if_true, Nat.reduceSub, Nat.reduceAdd, subTy, Nat.reduceLeDiff, reduceIte, Bool.not_true, Bool.not_false, Nat.reduceBEq, Bool.false_eq_true, Bool.or_false, Bool.or_true, Bool.false_or, Bool.true_or, Bool.and_true, Bool.true_and, Bool.and_false, Bool.false_and, lenI_nil, lenI_cons, Int.reduceAdd, Int.reduceEq, Int.reduceLT, Int.reduceLE, Int.reduceNeg, decide_true, decide_false, eq_self, not_true_eq_false, not_false_eq_true, hx m _ (by omega), hy m _ (by omega)]
theorem less_b1 (n : Nat) (hn : 5 ≤ n) (x y : D) (hx : Bad x) (s : So) : (CX n).call 14 [x, y] s = .exc ⟨2, [x]⟩ s := by
  obtain ⟨m, rfl⟩ : ∃ m, n = m + 1 := ⟨n - 1, by omega⟩
  rw [call_eq m 14 f14 rfl]
  unfold f14
  refine (runF_eq _ _ _ _ _ _ (by rfl)).trans ?_
  simp (disch := first | assumption | omega | exact small_of (by decide) | rfl | decide) only [e_c, e_v, e_neg, negR_int, e_not, e_bin, e_cmp, e_and, e_or, e_ite, andR_t, andR_f, orR_t, orR_f, iteR_t, iteR_f, e_tup, e_lst, e_ix, e_call, e_app, goApp_fn, goApp_clo, e_bi, e_lam, cellsOf_nil, cellsOf_cons, cofV_cel, cofK_some, es_nil, es_cons, s_pass, s_ex, s_set, s_par, s_own, ownR_lst, ownV_no, ownV_v, s_setix, ownO_own, appK_ok, appR_eq, s_app, s_ite, ifR_t, ifR_f, s_loop, s_ret, s_brk, s_cont, s_rais, s_tri, triR_ok, ss_nil, ss_cons, seqR_nx, seqR_rt, seqR_bk, seqR_ct, R.bind_ok, R.bind_exc, R.of_some, rd_eq, rdv_v, rdv_cel, rdc_some, bi_len_tup, bi_len_lst, bi_abs, bi_max2, bi_min2, bi_gcd, bi_repr, bi_int, bi_list_l, bi_list_t, bi_bits, bi_isinst, bi_isinsts, isT_some, isTs_some, isAny_nil, isAny_cons,
    tyOf_int, tyOf_bl, tyOf_str, tyOf_lst, tyOf_tup, tyOf_non, tyOf_dct, bo_add, bo_sub, bo_mul, bo_fdiv, bo_mod, bo_pow, co_lt, co_le, co_gt, co_ge, co_eq, co_ne, co_is_bl, eqv_int, tru_non, tru_bl, tru_int, tru_tup, tru_lst, truR_eq, ix_tup, ix_lst, ix_ref, ixr_str, item0, item1, item2, lookK_cons,
    putAt_ref, putR_dic, keyOf_str, wr_eq, wrv_no, wrv_v, wrv_cel, wrc_cel, asg_nm, asg_tup, asgs_nil, asgs_cons, asgK_some, par_nil, par_cons, back_same, back_sameX, cells_cel, celB_some, celB_none, open_cel, parv_no, parv_v, back_ok, back_exc, cells_nil, cells_v, cells_no, open_nil, open_v, open_no, cells_own, open_own, shut_own, shut_nil, shut_v, shut_no, T_run, for_nil, walk_val_l, walk_val_t,
    fin_rt, fin_nx, fin_exc, env0_eq, List.map_cons, List.map_nil, List.replicate, List.cons_append, List.nil_append, List.append_nil, List.getElem?_cons_zero, List.getElem?_cons_succ, List.set_cons_zero, List.set_cons_succ, Option.map_some, if_true, Nat.reduceSub, Nat.reduceAdd, subTy, Nat.reduceLeDiff, reduceIte, Bool.not_true, Bool.not_false, Nat.reduceBEq, Bool.false_eq_true, Bool.or_false, Bool.or_true, Bool.false_or, Bool.true_or, Bool.and_true, Bool.true_and, Bool.and_false, Bool.false_and, lenI_nil, lenI_cons, Int.reduceAdd, Int.reduceEq, Int.reduceLT, Int.reduceLE, Int.reduceNeg, decide_true, decide_false, eq_self, not_true_eq_false, not_false_eq_true, hx m _ (by omega)]
theorem less_b2 (n : Nat) (hn : 5 ≤ n) (a b : Int) (x y : D) (hx : Told x a b) (hy : Bad y) (s : So) : (CX n).call 14 [x, y] s = .exc ⟨2, [y]⟩ s := by
  obtain ⟨m, rfl⟩ : ∃ m, n = m + 1 := ⟨n - 1, by omega⟩
  rw [call_eq m 14 f14 rfl]
  unfold f14
  refine (runF_eq _ _ _ _ _ _ (by rfl)).trans ?_
  simp (disch := first | assumption | omega | exact small_of (by decide) | rfl | decide) only [e_c, e_v, e_neg, negR_int, e_not, e_bin, e_cmp, e_and, e_or, e_ite, andR_t, andR_f, orR_t, orR_f, iteR_t, iteR_f, e_tup, e_lst, e_ix, e_call, e_app, goApp_fn, goApp_clo, e_bi, e_lam, cellsOf_nil, cellsOf_cons, cofV_cel, cofK_some, es_nil, es_cons, s_pass, s_ex, s_set, s_par, s_own, ownR_lst, ownV_no, ownV_v, s_setix, ownO_own, appK_ok, appR_eq, s_app, s_ite, ifR_t, ifR_f, s_loop, s_ret, s_brk, s_cont, s_rais, s_tri, triR_ok, ss_nil, ss_cons, seqR_nx, seqR_rt, seqR_bk, seqR_ct, R.bind_ok, R.bind_exc, R.of_some, rd_eq, rdv_v, rdv_cel, rdc_some, bi_len_tup, bi_len_lst, bi_abs, bi_max2, bi_min2, bi_gcd, bi_repr, bi_int, bi_list_l, bi_list_t, bi_bits, bi_isinst, bi_isinsts, isT_some, isTs_some, isAny_nil, isAny_cons,
    tyOf_int, tyOf_bl, tyOf_str, tyOf_lst, tyOf_tup, tyOf_non, tyOf_dct, bo_add, bo_sub, bo_mul, bo_fdiv, bo_mod, bo_pow, co_lt, co_le, co_gt, co_ge, co_eq, co_ne, co_is_bl, eqv_int, tru_non, tru_bl, tru_int, tru_tup, tru_lst, truR_eq, ix_tup, ix_lst, ix_ref, ixr_str, item0, item1, item2, lookK_cons,
    putAt_ref, putR_dic, keyOf_str, wr_eq, wrv_no, wrv_v, wrv_cel, wrc_cel, asg_nm, asg_tup, asgs_nil, asgs_cons, asgK_some, par_nil, par_cons, back_same, back_sameX, cells_cel, celB_some, celB_none, open_cel, parv_no, parv_v, back_ok, back_exc, cells_nil, cells_v, cells_no, open_nil, open_v, open_no, cells_own, open_own, shut_own, shut_nil, shut_v, shut_no, T_run, for_nil, walk_val_l, walk_val_t,
    fin_rt, fin_nx, fin_exc, env0_eq, List.map_cons, List.map_nil, List.replicate, List.cons_append, List.nil_append, List.append_nil, List.getElem?_cons_zero, List.getElem?_cons_succ, List.set_cons_zero, List.set_cons_succ, Option.map_some, if_true, Nat.reduceSub, Nat.reduceAdd, subTy, Nat.reduceLeDiff, reduceIte, Bool.not_true, Bool.not_false, Nat.reduceBEq, Bool.false_eq_true, Bool.or_false, Bool.or_true, Bool.false_or, Bool.true_or, Bool.and_true, Bool.true_and, Bool.and_false, Bool.false_and, lenI_nil, lenI_cons, Int.reduceAdd, Int.reduceEq, Int.reduceLT, Int.reduceLE, Int.reduceNeg, decide_true, decide_false, eq_self, not_true_eq_false, not_false_eq_true, hx m _ (by omega), hy m _ (by omega)]
theorem share_0 (n : Nat) (hn : 5 ≤ n) (a b d : Int) (x y : D) (hx : Told x a b) (hy : Told y 0 d) (s : So) : (CX n).call 13 [x, y] s = .exc ⟨0, [.str (.ofString "share"), .int 0]⟩ s := by
  obtain ⟨m, rfl⟩ : ∃ m, n = m + 1 := ⟨n - 1, by omega⟩
  rw [call_eq m 13 f13 rfl]
  unfold f13
  refine (runF_eq _ _ _ _ _ _ (by rfl)).trans ?_
  simp (disch := first | assumption | omega | exact small_of (by decide) | rfl | decide) only [e_c, e_v, e_neg, negR_int, e_not, e_bin, e_cmp, e_and, e_or, e_ite, andR_t, andR_f, orR_t, orR_f, iteR_t, iteR_f, e_tup, e_lst, e_ix, e_call, e_app, goApp_fn, goApp_clo, e_bi, e_lam, cellsOf_nil, cellsOf_cons, cofV_cel, cofK_some, es_nil, es_cons, s_pass, s_ex, s_set, s_par, s_own, ownR_lst, ownV_no, ownV_v, s_setix, ownO_own, appK_ok, appR_eq, s_app, s_ite, ifR_t, ifR_f, s_loop, s_ret, s_brk, s_cont, s_rais, s_tri, triR_ok, ss_nil, ss_cons, seqR_nx, seqR_rt, seqR_bk, seqR_ct, R.bind_ok, R.bind_exc, R.of_some, rd_eq, rdv_v, rdv_cel, rdc_some, bi_len_tup, bi_len_lst, bi_abs, bi_max2, bi_min2, bi_gcd, bi_repr, bi_int, bi_list_l, bi_list_t, bi_bits, bi_isinst, bi_isinsts, isT_some, isTs_some, isAny_nil, isAny_cons,
    tyOf_int, tyOf_bl, tyOf_str, tyOf_lst, tyOf_tup, tyOf_non, tyOf_dct, bo_add, bo_sub, bo_mul, bo_fdiv, bo_mod, bo_pow, co_lt, co_le, co_gt, co_ge, co_eq, co_ne, co_is_bl, eqv_int, tru_non, tru_bl, tru_int, tru_tup, tru_lst, truR_eq, ix_tup, ix_lst, ix_ref, ixr_str, item0, item1, item2, lookK_cons,
    putAt_ref, putR_dic, keyOf_str, wr_eq, wrv_no, wrv_v, wrv_cel, wrc_cel, asg_nm, asg_tup, asgs_nil, asgs_cons, asgK_some, par_nil, par_cons, back_same, back_sameX, cells_cel, celB_some, celB_none, open_cel, parv_no, parv_v, back_ok, back_exc, cells_nil, cells_v, cells_no, open_nil, open_v, open_no, cells_own, open_own, shut_own, shut_nil, shut_v, shut_no, T_run, for_nil, walk_val_l, walk_val_t,
    fin_rt, fin_nx, fin_exc, env0_eq, List.map_cons, List.map_nil, List.replicate, List.cons_append, List.nil_append, List.append_nil, List.getElem?_cons_zero, List.getElem?_cons_succ, List.set_cons_zero, List.set_cons_succ, Option.map_some, if_true, Nat.reduceSub, Nat.reduceAdd, subTy, Nat.reduceLeDiff, reduceIte, Bool.not_true, Bool.not_false, Nat.reduceBEq, Bool.false_eq_true, Bool.or_false, Bool.or_true, Bool.false_or, Bool.true_or, Bool.and_true, Bool.true_and, Bool.and_false, Bool.false_and, lenI_nil, lenI_cons, Int.reduceAdd, Int.reduceEq, Int.reduceLT, Int.reduceLE, Int.reduceNeg, decide_true, decide_false, eq_self, not_true_eq_false, not_false_eq_true, hx m _ (by omega), hy m _ (by omega), ix_rt0]
/-! ### the law's own sums -/
def gstep (m : Nat) : D → En → So → R Fl := lp (CX m) (.nm 2) (.cons (.ite (.cmp .eq (.v 1) (.c (.int 0))) (.cons (.brk) .nil) (.nil)) (.cons (.par [0, 1] (.cons (.v 1) (.cons (.bin .mod (.bi .int (.cons (.v 0) .nil)) (.v 1)) .nil))) .nil))
theorem gcd_lap0 (m : Nat) (a : Int) (sl : Sl) (hs : ∀ k, sl ≠ .cel k) (x : D) (s : So) : gstep m x [.v (.int a), .v (.int 0), sl] s = .ok .bk [.v (.int a), .v (.int 0), .v x] s := by
  unfold gstep
  cases sl with
  | cel k => exact absurd rfl (hs k)
  | _ => simp (disch := first | assumption | omega | exact small_of (by decide) | rfl | decide) only [e_c, e_v, e_neg, negR_int, e_not, e_bin, e_cmp, e_and, e_or, e_ite, andR_t, andR_f, orR_t, orR_f, iteR_t, iteR_f, e_tup, e_lst, e_ix, e_call, e_app, goApp_fn, goApp_clo, e_bi, e_lam, cellsOf_nil, cellsOf_cons, cofV_cel, cofK_some, es_nil, es_cons, s_pass, s_ex, s_set, s_par, s_own, ownR_lst, ownV_no, ownV_v, s_setix, ownO_own, appK_ok, appR_eq, s_app, s_ite, ifR_t, ifR_f, s_loop, s_ret, s_brk, s_cont, s_rais, s_tri, triR_ok, ss_nil, ss_cons, seqR_nx, seqR_rt, seqR_bk, seqR_ct, R.bind_ok, R.bind_exc, R.of_some, rd_eq, rdv_v, rdv_cel, rdc_some, bi_len_tup, bi_len_lst, bi_abs, bi_max2, bi_min2, bi_gcd, bi_repr, bi_int, bi_list_l, bi_list_t, bi_bits, bi_isinst, bi_isinsts, isT_some, isTs_some, isAny_nil, isAny_cons,
    tyOf_int, tyOf_bl, tyOf_str, tyOf_lst, tyOf_tup, tyOf_non, tyOf_dct, bo_add, bo_sub, bo_mul, bo_fdiv, bo_mod, bo_pow, co_lt, co_le, co_gt, co_ge, co_eq, co_ne, co_is_bl, eqv_int, tru_non, tru_bl, tru_int, tru_tup, tru_lst, truR_eq, ix_tup, ix_lst, ix_ref, ixr_str, item0, item1, item2, lookK_cons,
    putAt_ref, putR_dic, keyOf_str, wr_eq, wrv_no, wrv_v, wrv_cel, wrc_cel, asg_nm, asg_tup, asgs_nil, asgs_cons, asgK_some, par_nil, par_cons, back_same, back_sameX, cells_cel, celB_some, celB_none, open_cel, parv_no, parv_v, back_ok, back_exc, cells_nil, cells_v, cells_no, open_nil, open_v, open_no, cells_own, open_own, shut_own, shut_nil, shut_v, shut_no, T_run, for_nil, walk_val_l, walk_val_t,
    fin_rt, fin_nx, fin_exc, env0_eq, List.map_cons, List.map_nil, List.replicate, List.cons_append, List.nil_append, List.append_nil, List.getElem?_cons_zero, List.getElem?_cons_succ, List.set_cons_zero, List.set_cons_succ, Option.map_some, if_true, Nat.reduceSub, Nat.reduceAdd, subTy, Nat.reduceLeDiff, reduceIte, Bool.not_true, Bool.not_false, Nat.reduceBEq, Bool.false_eq_true, Bool.or_false, Bool.or_true, Bool.false_or, Bool.true_or, Bool.and_true, Bool.true_and, Bool.and_false, Bool.false_and, lenI_nil, lenI_cons, Int.reduceAdd, Int.reduceEq, Int.reduceLT, Int.reduceLE, Int.reduceNeg, decide_true, decide_false, eq_self, not_true_eq_false, not_false_eq_true, lp_eq, wrv_own]
theorem gcd_lap (m : Nat) (a b : Int) (hb : b ≠ 0) (sl : Sl) (hs : ∀ k, sl ≠ .cel k) (x : D) (s : So) : gstep m x [.v (.int a), .v (.int b), sl] s = .ok .nx [.v (.int b), .v (.int (a.fmod b)), .v x] s := by
  unfold gstep
  cases sl with
  | cel k => exact absurd rfl (hs k)
  | _ => simp (disch := first | assumption | omega | exact small_of (by decide) | rfl | decide) only [e_c, e_v, e_neg, negR_int, e_not, e_bin, e_cmp, e_and, e_or, e_ite, andR_t, andR_f, orR_t, orR_f, iteR_t, iteR_f, e_tup, e_lst, e_ix, e_call, e_app, goApp_fn, goApp_clo, e_bi, e_lam, cellsOf_nil, cellsOf_cons, cofV_cel, cofK_some, es_nil, es_cons, s_pass, s_ex, s_set, s_par, s_own, ownR_lst, ownV_no, ownV_v, s_setix, ownO_own, appK_ok, appR_eq, s_app, s_ite, ifR_t, ifR_f, s_loop, s_ret, s_brk, s_cont, s_rais, s_tri, triR_ok, ss_nil, ss_cons, seqR_nx, seqR_rt, seqR_bk, seqR_ct, R.bind_ok, R.bind_exc, R.of_some, rd_eq, rdv_v, rdv_cel, rdc_some, bi_len_tup, bi_len_lst, bi_abs, bi_max2, bi_min2, bi_gcd, bi_repr, bi_int, bi_list_l, bi_list_t, bi_bits, bi_isinst, bi_isinsts, isT_some, isTs_some, isAny_nil, isAny_cons,
    tyOf_int, tyOf_bl, tyOf_str, tyOf_lst, tyOf_tup, tyOf_non, tyOf_dct, bo_add, bo_sub, bo_mul, bo_fdiv, bo_mod, bo_pow, co_lt, co_le, co_gt, co_ge, co_eq, co_ne, co_is_bl, eqv_int, tru_non, tru_bl, tru_int, tru_tup, tru_lst, truR_eq, ix_tup, ix_lst, ix_ref, ixr_str, item0, item1, item2, lookK_cons,
    putAt_ref, putR_dic, keyOf_str, wr_eq, wrv_no, wrv_v, wrv_cel, wrc_cel, asg_nm, asg_tup, asgs_nil, asgs_cons, asgK_some, par_nil, par_cons, back_same, back_sameX, cells_cel, celB_some, celB_none, open_cel, parv_no, parv_v, back_ok, back_exc, cells_nil, cells_v, cells_no, open_nil, open_v, open_no, cells_own, open_own, shut_own, shut_nil, shut_v, shut_no, T_run, for_nil, walk_val_l, walk_val_t,
    fin_rt, fin_nx, fin_exc, env0_eq, List.map_cons, List.map_nil, List.replicate, List.cons_append, List.nil_append, List.append_nil, List.getElem?_cons_zero, List.getElem?_cons_succ, List.set_cons_zero, List.set_cons_succ, Option.map_some, if_true, Nat.reduceSub, Nat.reduceAdd, subTy, Nat.reduceLeDiff, reduceIte, Bool.not_true, Bool.not_false, Nat.reduceBEq, Bool.false_eq_true, Bool.or_false, Bool.or_true, Bool.false_or, Bool.true_or, Bool.and_true, Bool.true_and, Bool.and_false, Bool.false_and, lenI_nil, lenI_cons, Int.reduceAdd, Int.reduceEq, Int.reduceLT, Int.reduceLE, Int.reduceNeg, decide_true, decide_false, eq_self, not_true_eq_false, not_false_eq_true, lp_eq, wrv_own, hb]
theorem gcd_step (a b : Nat) : Nat.gcd a b = Nat.gcd b (a % b) := (Nat.gcd_comm a b).trans ((Nat.gcd_rec b a).trans (Nat.gcd_comm _ _))
theorem fmod_nat (p q : Nat) : Int.fmod (p : Int) (q : Int) = ((p % q : Nat) : Int) := by
  rw [Int.fmod_eq_emod_of_nonneg _ (Int.natCast_nonneg q)]
  rfl
theorem gcd_loop (m : Nat) : ∀ (k : Nat) (items : List D) (p q : Nat) (sl : Sl) (s : So), 2 * k ≤ items.length → q < 2 ^ k → (∀ k, sl ≠ .cel k) → ∃ q' sl', forGo (gstep m) items [.v (.int p), .v (.int q), sl] s = .ok .nx [.v (.int (Nat.gcd p q : Nat)), .v (.int q'), sl'] s ∧ ∀ k, sl' ≠ .cel k
  | k, items, p, q, sl, s, hl, hq, hs => by
    by_cases h0 : q = 0
    · subst h0
      rw [Nat.gcd_zero_right]
      cases items with
      | nil => exact ⟨_, sl, rfl, hs⟩
      | cons x r =>
        have e : gstep m x [.v (.int p), .v (.int ((0 : Nat) : Int)), sl] s = .ok .bk [.v (.int p), .v (.int 0), .v x] s := gcd_lap0 m p sl hs x s
        refine ⟨0, .v x, ?_, fun k h => by cases h⟩
        rw [forGo, e, R.bind_ok]
    · cases k with
      | zero =>
        exact absurd hq (by simp; omega)
      | succ k =>
        match items, hl with
        | x :: y :: r, hl =>
          have q0 : ((q : Nat) : Int) ≠ 0 := by omega
          have e1 : gstep m x [.v (.int p), .v (.int (q : Int)), sl] s = .ok .nx [.v (.int q), .v (.int ((p % q : Nat) : Int)), .v x] s := by
            rw [← fmod_nat]
            exact gcd_lap m p q q0 sl hs x s
          rw [forGo, e1, R.bind_ok]
          show ∃ q' sl', forGo (gstep m) (y :: r) [.v (.int q), .v (.int ((p % q : Nat) : Int)), .v x] s = _ ∧ _
          have eg : Nat.gcd p q = Nat.gcd q (p % q) := by rw [Nat.gcd_comm p q, Nat.gcd_rec q p, Nat.gcd_comm]
          by_cases h1 : p % q = 0
          · rw [h1] at eg ⊢
            rw [eg, Nat.gcd_zero_right]
            have e2 : gstep m y [.v (.int q), .v (.int ((0 : Nat) : Int)), .v x] s = .ok .bk [.v (.int q), .v (.int 0), .v y] s := gcd_lap0 m q (.v x) (fun k h => by cases h) y s
            refine ⟨0, .v y, ?_, fun k h => by cases h⟩
            rw [forGo, e2, R.bind_ok]
          · have h1' : ((p % q : Nat) : Int) ≠ 0 := by omega
            have e2 : gstep m y [.v (.int q), .v (.int ((p % q : Nat) : Int)), .v x] s = .ok .nx [.v (.int ((p % q : Nat) : Int)), .v (.int ((q % (p % q) : Nat) : Int)), .v y] s := by
              rw [← fmod_nat q]
              exact gcd_lap m q _ h1' (.v x) (fun k h => by cases h) y s
            rw [forGo, e2, R.bind_ok]
            have lt1 : p % q < q := Nat.mod_lt _ (by omega)
            have lt2 : q % (p % q) < p % q := Nat.mod_lt _ (by omega)
            have le3 : q % (p % q) + p % q ≤ q := by
              have z := Nat.div_add_mod q (p % q)
              have d1 : 1 ≤ q / (p % q) := Nat.div_pos (by omega) (by omega)
              have : p % q * 1 ≤ p % q * (q / (p % q)) := Nat.mul_le_mul_left _ d1
              omega
            have hq2 : q % (p % q) < 2 ^ k := by
              rw [Nat.pow_succ] at hq
              omega
            obtain ⟨q', sl', g1, g2⟩ := gcd_loop m k r (p % q) (q % (p % q)) (.v y) s (by simp at hl; omega) hq2 (fun k h => by cases h)
            refine ⟨q', sl', ?_, g2⟩
            rw [eg, gcd_step q (p % q)]
            exact g1
/-- the law's gcd -/
theorem law_gcd (n : Nat) (hn : 1 ≤ n) (a b : Int) (s : So) (hb : small b = true) : (CX n).call 18 [.int a, .int b] s = .ok (.int (Nat.gcd a.natAbs b.natAbs : Nat)) s := by
  obtain ⟨m, rfl⟩ : ∃ m, n = m + 1 := ⟨n - 1, by omega⟩
  rw [call_eq m 18 f18 rfl]
  unfold f18
  refine (runF_eq _ _ _ _ _ _ (by rfl)).trans ?_
  have hbits : Builtin.Int.intBits ((b.natAbs : Nat) : Int) ≤ 8000 ∧ b.natAbs < 2 ^ Builtin.Int.intBits ((b.natAbs : Nat) : Int) := bits_ok (small_abs hb)
  have s2 : small ((Builtin.Int.intBits ((b.natAbs : Nat) : Int) : Nat) : Int) = true := small_nat (by omega)
  obtain ⟨q', sl', g1, g2⟩ := gcd_loop m (Builtin.Int.intBits ((b.natAbs : Nat) : Int)) (rng 0 (4 + 2 * ((Builtin.Int.intBits ((b.natAbs : Nat) : Int) : Nat) : Int))) a.natAbs b.natAbs .no s (by rw [rngL]; omega) hbits.2 (fun k h => by cases h)
  unfold gstep at g1
  have wk := wk_rng1 (4 + 2 * ((Builtin.Int.intBits ((b.natAbs : Nat) : Int) : Nat) : Int)) (by omega) (by omega)
  have hE : KP.Es (CX m) (.cons (.bin .add (.c (.int 4)) (.bin .mul (.c (.int 2)) (.bi .bits (.cons (.bi .int (.cons (.v 1) .nil)) .nil)))) .nil) [.v (.int (a.natAbs : Nat)), .v (.int (b.natAbs : Nat)), .no] s = .ok [.int (4 + 2 * ((Builtin.Int.intBits ((b.natAbs : Nat) : Int) : Nat) : Int))] [.v (.int (a.natAbs : Nat)), .v (.int (b.natAbs : Nat)), .no] s := by
    simp (disch := first | assumption | omega | exact small_of (by decide) | rfl | decide) only [e_c, e_v, e_neg, negR_int, e_not, e_bin, e_cmp, e_and, e_or, e_ite, andR_t, andR_f, orR_t, orR_f, iteR_t, iteR_f, e_tup, e_lst, e_ix, e_call, e_app, goApp_fn, goApp_clo, e_bi, e_lam, cellsOf_nil, cellsOf_cons, cofV_cel, cofK_some, es_nil, es_cons, s_pass, s_ex, s_set, s_par, s_own, ownR_lst, ownV_no, ownV_v, s_setix, ownO_own, appK_ok, appR_eq, s_app, s_ite, ifR_t, ifR_f, s_loop, s_ret, s_brk, s_cont, s_rais, s_tri, triR_ok, ss_nil, ss_cons, seqR_nx, seqR_rt, seqR_bk, seqR_ct, R.bind_ok, R.bind_exc, R.of_some, rd_eq, rdv_v, rdv_cel, rdc_some, bi_len_tup, bi_len_lst, bi_abs, bi_max2, bi_min2, bi_gcd, bi_repr, bi_int, bi_list_l, bi_list_t, bi_bits, bi_isinst, bi_isinsts, isT_some, isTs_some, isAny_nil, isAny_cons,
    tyOf_int, tyOf_bl, tyOf_str, tyOf_lst, tyOf_tup, tyOf_non, tyOf_dct, bo_add, bo_sub, bo_mul, bo_fdiv, bo_mod, bo_pow, co_lt, co_le, co_gt, co_ge, co_eq, co_ne, co_is_bl, eqv_int, tru_non, tru_bl, tru_int, tru_tup, tru_lst, truR_eq, ix_tup, ix_lst, ix_ref, ixr_str, item0, item1, item2, lookK_cons,
    putAt_ref, putR_dic, keyOf_str, wr_eq, wrv_no, wrv_v, wrv_cel, wrc_cel, asg_nm, asg_tup, asgs_nil, asgs_cons, asgK_some, par_nil, par_cons, back_same, back_sameX, cells_cel, celB_some, celB_none, open_cel, parv_no, parv_v, back_ok, back_exc, cells_nil, cells_v, cells_no, open_nil, open_v, open_no, cells_own, open_own, shut_own, shut_nil, shut_v, shut_no, T_run, for_nil, walk_val_l, walk_val_t,
    fin_rt, fin_nx, fin_exc, env0_eq, List.map_cons, List.map_nil, List.replicate, List.cons_append, List.nil_append, List.append_nil, List.getElem?_cons_zero, List.getElem?_cons_succ, List.set_cons_zero, List.set_cons_succ, Option.map_some, if_true, Nat.reduceSub, Nat.reduceAdd, subTy, Nat.reduceLeDiff, reduceIte, Bool.not_true, Bool.not_false, Nat.reduceBEq, Bool.false_eq_true, Bool.or_false, Bool.or_true, Bool.false_or, Bool.true_or, Bool.and_true, Bool.true_and, Bool.and_false, Bool.false_and, lenI_nil, lenI_cons, Int.reduceAdd, Int.reduceEq, Int.reduceLT, Int.reduceLE, Int.reduceNeg, decide_true, decide_false, eq_self, not_true_eq_false, not_false_eq_true]
  have hP : KP.S (CX m) (.par [0, 1] (.cons (.bi .abs (.cons (.v 0) .nil)) (.cons (.bi .abs (.cons (.v 1) .nil)) .nil))) (env0 2 3 [.int a, .int b]) s = .ok .nx [.v (.int (a.natAbs : Nat)), .v (.int (b.natAbs : Nat)), .no] s := by
    simp (disch := first | assumption | omega | exact small_of (by decide) | rfl | decide) only [e_c, e_v, e_neg, negR_int, e_not, e_bin, e_cmp, e_and, e_or, e_ite, andR_t, andR_f, orR_t, orR_f, iteR_t, iteR_f, e_tup, e_lst, e_ix, e_call, e_app, goApp_fn, goApp_clo, e_bi, e_lam, cellsOf_nil, cellsOf_cons, cofV_cel, cofK_some, es_nil, es_cons, s_pass, s_ex, s_set, s_par, s_own, ownR_lst, ownV_no, ownV_v, s_setix, ownO_own, appK_ok, appR_eq, s_app, s_ite, ifR_t, ifR_f, s_loop, s_ret, s_brk, s_cont, s_rais, s_tri, triR_ok, ss_nil, ss_cons, seqR_nx, seqR_rt, seqR_bk, seqR_ct, R.bind_ok, R.bind_exc, R.of_some, rd_eq, rdv_v, rdv_cel, rdc_some, bi_len_tup, bi_len_lst, bi_abs, bi_max2, bi_min2, bi_gcd, bi_repr, bi_int, bi_list_l, bi_list_t, bi_bits, bi_isinst, bi_isinsts, isT_some, isTs_some, isAny_nil, isAny_cons,
    tyOf_int, tyOf_bl, tyOf_str, tyOf_lst, tyOf_tup, tyOf_non, tyOf_dct, bo_add, bo_sub, bo_mul, bo_fdiv, bo_mod, bo_pow, co_lt, co_le, co_gt, co_ge, co_eq, co_ne, co_is_bl, eqv_int, tru_non, tru_bl, tru_int, tru_tup, tru_lst, truR_eq, ix_tup, ix_lst, ix_ref, ixr_str, item0, item1, item2, lookK_cons,
    putAt_ref, putR_dic, keyOf_str, wr_eq, wrv_no, wrv_v, wrv_cel, wrc_cel, asg_nm, asg_tup, asgs_nil, asgs_cons, asgK_some, par_nil, par_cons, back_same, back_sameX, cells_cel, celB_some, celB_none, open_cel, parv_no, parv_v, back_ok, back_exc, cells_nil, cells_v, cells_no, open_nil, open_v, open_no, cells_own, open_own, shut_own, shut_nil, shut_v, shut_no, T_run, for_nil, walk_val_l, walk_val_t,
    fin_rt, fin_nx, fin_exc, env0_eq, List.map_cons, List.map_nil, List.replicate, List.cons_append, List.nil_append, List.append_nil, List.getElem?_cons_zero, List.getElem?_cons_succ, List.set_cons_zero, List.set_cons_succ, Option.map_some, if_true, Nat.reduceSub, Nat.reduceAdd, subTy, Nat.reduceLeDiff, reduceIte, Bool.not_true, Bool.not_false, Nat.reduceBEq, Bool.false_eq_true, Bool.or_false, Bool.or_true, Bool.false_or, Bool.true_or, Bool.and_true, Bool.true_and, Bool.and_false, Bool.false_and, lenI_nil, lenI_cons, Int.reduceAdd, Int.reduceEq, Int.reduceLT, Int.reduceLE, Int.reduceNeg, decide_true, decide_false, eq_self, not_true_eq_false, not_false_eq_true]
  rw [ss_cons, hP, R.bind_ok, seqR_nx, ss_cons, s_loop, hE, R.bind_ok, wk, R.of_some, R.bind_ok]
  rw [g1]
  cases sl' with
  | cel k => exact absurd rfl (g2 k)
  | _ => simp (disch := first | assumption | omega | exact small_of (by decide) | rfl | decide) only [e_c, e_v, e_neg, negR_int, e_not, e_bin, e_cmp, e_and, e_or, e_ite, andR_t, andR_f, orR_t, orR_f, iteR_t, iteR_f, e_tup, e_lst, e_ix, e_call, e_app, goApp_fn, goApp_clo, e_bi, e_lam, cellsOf_nil, cellsOf_cons, cofV_cel, cofK_some, es_nil, es_cons, s_pass, s_ex, s_set, s_par, s_own, ownR_lst, ownV_no, ownV_v, s_setix, ownO_own, appK_ok, appR_eq, s_app, s_ite, ifR_t, ifR_f, s_loop, s_ret, s_brk, s_cont, s_rais, s_tri, triR_ok, ss_nil, ss_cons, seqR_nx, seqR_rt, seqR_bk, seqR_ct, R.bind_ok, R.bind_exc, R.of_some, rd_eq, rdv_v, rdv_cel, rdc_some, bi_len_tup, bi_len_lst, bi_abs, bi_max2, bi_min2, bi_gcd, bi_repr, bi_int, bi_list_l, bi_list_t, bi_bits, bi_isinst, bi_isinsts, isT_some, isTs_some, isAny_nil, isAny_cons,
    tyOf_int, tyOf_bl, tyOf_str, tyOf_lst, tyOf_tup, tyOf_non, tyOf_dct, bo_add, bo_sub, bo_mul, bo_fdiv, bo_mod, bo_pow, co_lt, co_le, co_gt, co_ge, co_eq, co_ne, co_is_bl, eqv_int, tru_non, tru_bl, tru_int, tru_tup, tru_lst, truR_eq, ix_tup, ix_lst, ix_ref, ixr_str, item0, item1, item2, lookK_cons,
    putAt_ref, putR_dic, keyOf_str, wr_eq, wrv_no, wrv_v, wrv_cel, wrc_cel, asg_nm, asg_tup, asgs_nil, asgs_cons, asgK_some, par_nil, par_cons, back_same, back_sameX, cells_cel, celB_some, celB_none, open_cel, parv_no, parv_v, back_ok, back_exc, cells_nil, cells_v, cells_no, open_nil, open_v, open_no, cells_own, open_own, shut_own, shut_nil, shut_v, shut_no, T_run, for_nil, walk_val_l, walk_val_t,
    fin_rt, fin_nx, fin_exc, env0_eq, List.map_cons, List.map_nil, List.replicate, List.cons_append, List.nil_append, List.append_nil, List.getElem?_cons_zero, List.getElem?_cons_succ, List.set_cons_zero, List.set_cons_succ, Option.map_some, if_true, Nat.reduceSub, Nat.reduceAdd, subTy, Nat.reduceLeDiff, reduceIte, Bool.not_true, Bool.not_false, Nat.reduceBEq, Bool.false_eq_true, Bool.or_false, Bool.or_true, Bool.false_or, Bool.true_or, Bool.and_true, Bool.true_and, Bool.and_false, Bool.false_and, lenI_nil, lenI_cons, Int.reduceAdd, Int.reduceEq, Int.reduceLT, Int.reduceLE, Int.reduceNeg, decide_true, decide_false, eq_self, not_true_eq_false, not_false_eq_true]
theorem gs_lt {t b : Int} (h : b < 0) : gs t b = -(Nat.gcd t.natAbs b.natAbs : Nat) := if_neg (by omega)
theorem gs_ge {t b : Int} (h : ¬ b < 0) (h0 : b ≠ 0) : gs t b = (Nat.gcd t.natAbs b.natAbs : Nat) := if_pos (by omega)
theorem law_q_neg (n : Nat) (hn : 2 ≤ n) (t b : Int) (s : So) (h : b < 0) (sb : small b = true) (h0 : gs t b ≠ 0) (h1 : small (gs t b) = true) : (CX n).call 19 [.int t, .int b] s = .ok (Qd t b) s := by
  obtain ⟨m, rfl⟩ : ∃ m, n = m + 1 := ⟨n - 1, by omega⟩
  rw [call_eq m 19 f19 rfl]
  unfold f19
  refine (runF_eq _ _ _ _ _ _ (by rfl)).trans ?_
  unfold Qd rt
  rw [gs_lt h] at h0 h1 ⊢
  simp (disch := first | assumption | omega | exact small_of (by decide) | rfl | decide) only [e_c, e_v, e_neg, negR_int, e_not, e_bin, e_cmp, e_and, e_or, e_ite, andR_t, andR_f, orR_t, orR_f, iteR_t, iteR_f, e_tup, e_lst, e_ix, e_call, e_app, goApp_fn, goApp_clo, e_bi, e_lam, cellsOf_nil, cellsOf_cons, cofV_cel, cofK_some, es_nil, es_cons, s_pass, s_ex, s_set, s_par, s_own, ownR_lst, ownV_no, ownV_v, s_setix, ownO_own, appK_ok, appR_eq, s_app, s_ite, ifR_t, ifR_f, s_loop, s_ret, s_brk, s_cont, s_rais, s_tri, triR_ok, ss_nil, ss_cons, seqR_nx, seqR_rt, seqR_bk, seqR_ct, R.bind_ok, R.bind_exc, R.of_some, rd_eq, rdv_v, rdv_cel, rdc_some, bi_len_tup, bi_len_lst, bi_abs, bi_max2, bi_min2, bi_gcd, bi_repr, bi_int, bi_list_l, bi_list_t, bi_bits, bi_isinst, bi_isinsts, isT_some, isTs_some, isAny_nil, isAny_cons,
    tyOf_int, tyOf_bl, tyOf_str, tyOf_lst, tyOf_tup, tyOf_non, tyOf_dct, bo_add, bo_sub, bo_mul, bo_fdiv, bo_mod, bo_pow, co_lt, co_le, co_gt, co_ge, co_eq, co_ne, co_is_bl, eqv_int, tru_non, tru_bl, tru_int, tru_tup, tru_lst, truR_eq, ix_tup, ix_lst, ix_ref, ixr_str, item0, item1, item2, lookK_cons,
    putAt_ref, putR_dic, keyOf_str, wr_eq, wrv_no, wrv_v, wrv_cel, wrc_cel, asg_nm, asg_tup, asgs_nil, asgs_cons, asgK_some, par_nil, par_cons, back_same, back_sameX, cells_cel, celB_some, celB_none, open_cel, parv_no, parv_v, back_ok, back_exc, cells_nil, cells_v, cells_no, open_nil, open_v, open_no, cells_own, open_own, shut_own, shut_nil, shut_v, shut_no, T_run, for_nil, walk_val_l, walk_val_t,
    fin_rt, fin_nx, fin_exc, env0_eq, List.map_cons, List.map_nil, List.replicate, List.cons_append, List.nil_append, List.append_nil, List.getElem?_cons_zero, List.getElem?_cons_succ, List.set_cons_zero, List.set_cons_succ, Option.map_some, if_true, Nat.reduceSub, Nat.reduceAdd, subTy, Nat.reduceLeDiff, reduceIte, Bool.not_true, Bool.not_false, Nat.reduceBEq, Bool.false_eq_true, Bool.or_false, Bool.or_true, Bool.false_or, Bool.true_or, Bool.and_true, Bool.true_and, Bool.and_false, Bool.false_and, lenI_nil, lenI_cons, Int.reduceAdd, Int.reduceEq, Int.reduceLT, Int.reduceLE, Int.reduceNeg, decide_true, decide_false, eq_self, not_true_eq_false, not_false_eq_true, law_gcd, h]
theorem law_q_pos (n : Nat) (hn : 2 ≤ n) (t b : Int) (s : So) (h : ¬ b < 0) (hz : b ≠ 0) (sb : small b = true) (h0 : gs t b ≠ 0) (h1 : small (gs t b) = true) : (CX n).call 19 [.int t, .int b] s = .ok (Qd t b) s := by
  obtain ⟨m, rfl⟩ : ∃ m, n = m + 1 := ⟨n - 1, by omega⟩
  rw [call_eq m 19 f19 rfl]
  unfold f19
  refine (runF_eq _ _ _ _ _ _ (by rfl)).trans ?_
  unfold Qd rt
  rw [gs_ge h hz] at h0 h1 ⊢
  simp (disch := first | assumption | omega | exact small_of (by decide) | rfl | decide) only [e_c, e_v, e_neg, negR_int, e_not, e_bin, e_cmp, e_and, e_or, e_ite, andR_t, andR_f, orR_t, orR_f, iteR_t, iteR_f, e_tup, e_lst, e_ix, e_call, e_app, goApp_fn, goApp_clo, e_bi, e_lam, cellsOf_nil, cellsOf_cons, cofV_cel, cofK_some, es_nil, es_cons, s_pass, s_ex, s_set, s_par, s_own, ownR_lst, ownV_no, ownV_v, s_setix, ownO_own, appK_ok, appR_eq, s_app, s_ite, ifR_t, ifR_f, s_loop, s_ret, s_brk, s_cont, s_rais, s_tri, triR_ok, ss_nil, ss_cons, seqR_nx, seqR_rt, seqR_bk, seqR_ct, R.bind_ok, R.bind_exc, R.of_some, rd_eq, rdv_v, rdv_cel, rdc_some, bi_len_tup, bi_len_lst, bi_abs, bi_max2, bi_min2, bi_gcd, bi_repr, bi_int, bi_list_l, bi_list_t, bi_bits, bi_isinst, bi_isinsts, isT_some, isTs_some, isAny_nil, isAny_cons,
    tyOf_int, tyOf_bl, tyOf_str, tyOf_lst, tyOf_tup, tyOf_non, tyOf_dct, bo_add, bo_sub, bo_mul, bo_fdiv, bo_mod, bo_pow, co_lt, co_le, co_gt, co_ge, co_eq, co_ne, co_is_bl, eqv_int, tru_non, tru_bl, tru_int, tru_tup, tru_lst, truR_eq, ix_tup, ix_lst, ix_ref, ixr_str, item0, item1, item2, lookK_cons,
    putAt_ref, putR_dic, keyOf_str, wr_eq, wrv_no, wrv_v, wrv_cel, wrc_cel, asg_nm, asg_tup, asgs_nil, asgs_cons, asgK_some, par_nil, par_cons, back_same, back_sameX, cells_cel, celB_some, celB_none, open_cel, parv_no, parv_v, back_ok, back_exc, cells_nil, cells_v, cells_no, open_nil, open_v, open_no, cells_own, open_own, shut_own, shut_nil, shut_v, shut_no, T_run, for_nil, walk_val_l, walk_val_t,
    fin_rt, fin_nx, fin_exc, env0_eq, List.map_cons, List.map_nil, List.replicate, List.cons_append, List.nil_append, List.append_nil, List.getElem?_cons_zero, List.getElem?_cons_succ, List.set_cons_zero, List.set_cons_succ, Option.map_some, if_true, Nat.reduceSub, Nat.reduceAdd, subTy, Nat.reduceLeDiff, reduceIte, Bool.not_true, Bool.not_false, Nat.reduceBEq, Bool.false_eq_true, Bool.or_false, Bool.or_true, Bool.false_or, Bool.true_or, Bool.and_true, Bool.true_and, Bool.and_false, Bool.false_and, lenI_nil, lenI_cons, Int.reduceAdd, Int.reduceEq, Int.reduceLT, Int.reduceLE, Int.reduceNeg, decide_true, decide_false, eq_self, not_true_eq_false, not_false_eq_true, law_gcd, h]
theorem law_q (n : Nat) (hn : 2 ≤ n) (t b : Int) (s : So) (hz : b ≠ 0) (sb : small b = true) (h0 : gs t b ≠ 0) (h1 : small (gs t b) = true) : (CX n).call 19 [.int t, .int b] s = .ok (Qd t b) s := by
  by_cases h : b < 0
  · exact law_q_neg n hn t b s h sb h0 h1
  · exact law_q_pos n hn t b s h hz sb h0 h1
theorem law_plus (n : Nat) (hn : 3 ≤ n) (a b c d : Int) (s : So) (ha : small a = true) (hb : small b = true) (hc : small c = true) (hd : small d = true) (hz : (b * d) ≠ 0) (sb : small (b * d) = true) (h0 : gs (a * d + c * b) (b * d) ≠ 0) (h1 : small (gs (a * d + c * b) (b * d)) = true) : (CX n).call 20 [rt a b, rt c d] s = .ok (Qd (a * d + c * b) (b * d)) s := by
  obtain ⟨m, rfl⟩ : ∃ m, n = m + 1 := ⟨n - 1, by omega⟩
  rw [call_eq m 20 f20 rfl]
  unfold f20
  refine (runF_eq _ _ _ _ _ _ (by rfl)).trans ?_
  simp (disch := first | assumption | omega | exact small_of (by decide) | rfl | decide) only [e_c, e_v, e_neg, negR_int, e_not, e_bin, e_cmp, e_and, e_or, e_ite, andR_t, andR_f, orR_t, orR_f, iteR_t, iteR_f, e_tup, e_lst, e_ix, e_call, e_app, goApp_fn, goApp_clo, e_bi, e_lam, cellsOf_nil, cellsOf_cons, cofV_cel, cofK_some, es_nil, es_cons, s_pass, s_ex, s_set, s_par, s_own, ownR_lst, ownV_no, ownV_v, s_setix, ownO_own, appK_ok, appR_eq, s_app, s_ite, ifR_t, ifR_f, s_loop, s_ret, s_brk, s_cont, s_rais, s_tri, triR_ok, ss_nil, ss_cons, seqR_nx, seqR_rt, seqR_bk, seqR_ct, R.bind_ok, R.bind_exc, R.of_some, rd_eq, rdv_v, rdv_cel, rdc_some, bi_len_tup, bi_len_lst, bi_abs, bi_max2, bi_min2, bi_gcd, bi_repr, bi_int, bi_list_l, bi_list_t, bi_bits, bi_isinst, bi_isinsts, isT_some, isTs_some, isAny_nil, isAny_cons,
    tyOf_int, tyOf_bl, tyOf_str, tyOf_lst, tyOf_tup, tyOf_non, tyOf_dct, bo_add, bo_sub, bo_mul, bo_fdiv, bo_mod, bo_pow, co_lt, co_le, co_gt, co_ge, co_eq, co_ne, co_is_bl, eqv_int, tru_non, tru_bl, tru_int, tru_tup, tru_lst, truR_eq, ix_tup, ix_lst, ix_ref, ixr_str, item0, item1, item2, lookK_cons,
    putAt_ref, putR_dic, keyOf_str, wr_eq, wrv_no, wrv_v, wrv_cel, wrc_cel, asg_nm, asg_tup, asgs_nil, asgs_cons, asgK_some, par_nil, par_cons, back_same, back_sameX, cells_cel, celB_some, celB_none, open_cel, parv_no, parv_v, back_ok, back_exc, cells_nil, cells_v, cells_no, open_nil, open_v, open_no, cells_own, open_own, shut_own, shut_nil, shut_v, shut_no, T_run, for_nil, walk_val_l, walk_val_t,
    fin_rt, fin_nx, fin_exc, env0_eq, List.map_cons, List.map_nil, List.replicate, List.cons_append, List.nil_append, List.append_nil, List.getElem?_cons_zero, List.getElem?_cons_succ, List.set_cons_zero, List.set_cons_succ, Option.map_some, if_true, Nat.reduceSub, Nat.reduceAdd, subTy, Nat.reduceLeDiff, reduceIte, Bool.not_true, Bool.not_false, Nat.reduceBEq, Bool.false_eq_true, Bool.or_false, Bool.or_true, Bool.false_or, Bool.true_or, Bool.and_true, Bool.true_and, Bool.and_false, Bool.false_and, lenI_nil, lenI_cons, Int.reduceAdd, Int.reduceEq, Int.reduceLT, Int.reduceLE, Int.reduceNeg, decide_true, decide_false, eq_self, not_true_eq_false, not_false_eq_true, law_q, ix_rt0, ix_rt1]
theorem law_minus (n : Nat) (hn : 3 ≤ n) (a b c d : Int) (s : So) (ha : small a = true) (hb : small b = true) (hc : small c = true) (hd : small d = true) (hz : (b * d) ≠ 0) (sb : small (b * d) = true) (h0 : gs (a * d - c * b) (b * d) ≠ 0) (h1 : small (gs (a * d - c * b) (b * d)) = true) : (CX n).call 23 [rt a b, rt c d] s = .ok (Qd (a * d - c * b) (b * d)) s := by
  obtain ⟨m, rfl⟩ : ∃ m, n = m + 1 := ⟨n - 1, by omega⟩
  rw [call_eq m 23 f23 rfl]
  unfold f23
  refine (runF_eq _ _ _ _ _ _ (by rfl)).trans ?_
  simp (disch := first | assumption | omega | exact small_of (by decide) | rfl | decide) only [e_c, e_v, e_neg, negR_int, e_not, e_bin, e_cmp, e_and, e_or, e_ite, andR_t, andR_f, orR_t, orR_f, iteR_t, iteR_f, e_tup, e_lst, e_ix, e_call, e_app, goApp_fn, goApp_clo, e_bi, e_lam, cellsOf_nil, cellsOf_cons, cofV_cel, cofK_some, es_nil, es_cons, s_pass, s_ex, s_set, s_par, s_own, ownR_lst, ownV_no, ownV_v, s_setix, ownO_own, appK_ok, appR_eq, s_app, s_ite, ifR_t, ifR_f, s_loop, s_ret, s_brk, s_cont, s_rais, s_tri, triR_ok, ss_nil, ss_cons, seqR_nx, seqR_rt, seqR_bk, seqR_ct, R.bind_ok, R.bind_exc, R.of_some, rd_eq, rdv_v, rdv_cel, rdc_some, bi_len_tup, bi_len_lst, bi_abs, bi_max2, bi_min2, bi_gcd, bi_repr, bi_int, bi_list_l, bi_list_t, bi_bits, bi_isinst, bi_isinsts, isT_some, isTs_some, isAny_nil, isAny_cons,
    tyOf_int, tyOf_bl, tyOf_str, tyOf_lst, tyOf_tup, tyOf_non, tyOf_dct, bo_add, bo_sub, bo_mul, bo_fdiv, bo_mod, bo_pow, co_lt, co_le, co_gt, co_ge, co_eq, co_ne, co_is_bl, eqv_int, tru_non, tru_bl, tru_int, tru_tup, tru_lst, truR_eq, ix_tup, ix_lst, ix_ref, ixr_str, item0, item1, item2, lookK_cons,
    putAt_ref, putR_dic, keyOf_str, wr_eq, wrv_no, wrv_v, wrv_cel, wrc_cel, asg_nm, asg_tup, asgs_nil, asgs_cons, asgK_some, par_nil, par_cons, back_same, back_sameX, cells_cel, celB_some, celB_none, open_cel, parv_no, parv_v, back_ok, back_exc, cells_nil, cells_v, cells_no, open_nil, open_v, open_no, cells_own, open_own, shut_own, shut_nil, shut_v, shut_no, T_run, for_nil, walk_val_l, walk_val_t,
    fin_rt, fin_nx, fin_exc, env0_eq, List.map_cons, List.map_nil, List.replicate, List.cons_append, List.nil_append, List.append_nil, List.getElem?_cons_zero, List.getElem?_cons_succ, List.set_cons_zero, List.set_cons_succ, Option.map_some, if_true, Nat.reduceSub, Nat.reduceAdd, subTy, Nat.reduceLeDiff, reduceIte, Bool.not_true, Bool.not_false, Nat.reduceBEq, Bool.false_eq_true, Bool.or_false, Bool.or_true, Bool.false_or, Bool.true_or, Bool.and_true, Bool.true_and, Bool.and_false, Bool.false_and, lenI_nil, lenI_cons, Int.reduceAdd, Int.reduceEq, Int.reduceLT, Int.reduceLE, Int.reduceNeg, decide_true, decide_false, eq_self, not_true_eq_false, not_false_eq_true, law_q, ix_rt0, ix_rt1]
theorem law_times (n : Nat) (hn : 3 ≤ n) (a b c d : Int) (s : So) (ha : small a = true) (hb : small b = true) (hc : small c = true) (hd : small d = true) (hz : (b * d) ≠ 0) (sb : small (b * d) = true) (h0 : gs (a * c) (b * d) ≠ 0) (h1 : small (gs (a * c) (b * d)) = true) : (CX n).call 21 [rt a b, rt c d] s = .ok (Qd (a * c) (b * d)) s := by
  obtain ⟨m, rfl⟩ : ∃ m, n = m + 1 := ⟨n - 1, by omega⟩
  rw [call_eq m 21 f21 rfl]
  unfold f21
  refine (runF_eq _ _ _ _ _ _ (by rfl)).trans ?_
  simp (disch := first | assumption | omega | exact small_of (by decide) | rfl | decide) only [e_c, e_v, e_neg, negR_int, e_not, e_bin, e_cmp, e_and, e_or, e_ite, andR_t, andR_f, orR_t, orR_f, iteR_t, iteR_f, e_tup, e_lst, e_ix, e_call, e_app, goApp_fn, goApp_clo, e_bi, e_lam, cellsOf_nil, cellsOf_cons, cofV_cel, cofK_some, es_nil, es_cons, s_pass, s_ex, s_set, s_par, s_own, ownR_lst, ownV_no, ownV_v, s_setix, ownO_own, appK_ok, appR_eq, s_app, s_ite, ifR_t, ifR_f, s_loop, s_ret, s_brk, s_cont, s_rais, s_tri, triR_ok, ss_nil, ss_cons, seqR_nx, seqR_rt, seqR_bk, seqR_ct, R.bind_ok, R.bind_exc, R.of_some, rd_eq, rdv_v, rdv_cel, rdc_some, bi_len_tup, bi_len_lst, bi_abs, bi_max2, bi_min2, bi_gcd, bi_repr, bi_int, bi_list_l, bi_list_t, bi_bits, bi_isinst, bi_isinsts, isT_some, isTs_some, isAny_nil, isAny_cons,
    tyOf_int, tyOf_bl, tyOf_str, tyOf_lst, tyOf_tup, tyOf_non, tyOf_dct, bo_add, bo_sub, bo_mul, bo_fdiv, bo_mod, bo_pow, co_lt, co_le, co_gt, co_ge, co_eq, co_ne, co_is_bl, eqv_int, tru_non, tru_bl, tru_int, tru_tup, tru_lst, truR_eq, ix_tup, ix_lst, ix_ref, ixr_str, item0, item1, item2, lookK_cons,
    putAt_ref, putR_dic, keyOf_str, wr_eq, wrv_no, wrv_v, wrv_cel, wrc_cel, asg_nm, asg_tup, asgs_nil, asgs_cons, asgK_some, par_nil, par_cons, back_same, back_sameX, cells_cel, celB_some, celB_none, open_cel, parv_no, parv_v, back_ok, back_exc, cells_nil, cells_v, cells_no, open_nil, open_v, open_no, cells_own, open_own, shut_own, shut_nil, shut_v, shut_no, T_run, for_nil, walk_val_l, walk_val_t,
    fin_rt, fin_nx, fin_exc, env0_eq, List.map_cons, List.map_nil, List.replicate, List.cons_append, List.nil_append, List.append_nil, List.getElem?_cons_zero, List.getElem?_cons_succ, List.set_cons_zero, List.set_cons_succ, Option.map_some, if_true, Nat.reduceSub, Nat.reduceAdd, subTy, Nat.reduceLeDiff, reduceIte, Bool.not_true, Bool.not_false, Nat.reduceBEq, Bool.false_eq_true, Bool.or_false, Bool.or_true, Bool.false_or, Bool.true_or, Bool.and_true, Bool.true_and, Bool.and_false, Bool.false_and, lenI_nil, lenI_cons, Int.reduceAdd, Int.reduceEq, Int.reduceLT, Int.reduceLE, Int.reduceNeg, decide_true, decide_false, eq_self, not_true_eq_false, not_false_eq_true, law_q, ix_rt0, ix_rt1]
theorem law_share (n : Nat) (hn : 3 ≤ n) (a b c d : Int) (s : So) (ha : small a = true) (hb : small b = true) (hc : small c = true) (hd : small d = true) (hz : (b * c) ≠ 0) (sb : small (b * c) = true) (h0 : gs (a * d) (b * c) ≠ 0) (h1 : small (gs (a * d) (b * c)) = true) : (CX n).call 24 [rt a b, rt c d] s = .ok (Qd (a * d) (b * c)) s := by
  obtain ⟨m, rfl⟩ : ∃ m, n = m + 1 := ⟨n - 1, by omega⟩
  rw [call_eq m 24 f24 rfl]
  unfold f24
  refine (runF_eq _ _ _ _ _ _ (by rfl)).trans ?_
  simp (disch := first | assumption | omega | exact small_of (by decide) | rfl | decide) only [e_c, e_v, e_neg, negR_int, e_not, e_bin, e_cmp, e_and, e_or, e_ite, andR_t, andR_f, orR_t, orR_f, iteR_t, iteR_f, e_tup, e_lst, e_ix, e_call, e_app, goApp_fn, goApp_clo, e_bi, e_lam, cellsOf_nil, cellsOf_cons, cofV_cel, cofK_some, es_nil, es_cons, s_pass, s_ex, s_set, s_par, s_own, ownR_lst, ownV_no, ownV_v, s_setix, ownO_own, appK_ok, appR_eq, s_app, s_ite, ifR_t, ifR_f, s_loop, s_ret, s_brk, s_cont, s_rais, s_tri, triR_ok, ss_nil, ss_cons, seqR_nx, seqR_rt, seqR_bk, seqR_ct, R.bind_ok, R.bind_exc, R.of_some, rd_eq, rdv_v, rdv_cel, rdc_some, bi_len_tup, bi_len_lst, bi_abs, bi_max2, bi_min2, bi_gcd, bi_repr, bi_int, bi_list_l, bi_list_t, bi_bits, bi_isinst, bi_isinsts, isT_some, isTs_some, isAny_nil, isAny_cons,
    tyOf_int, tyOf_bl, tyOf_str, tyOf_lst, tyOf_tup, tyOf_non, tyOf_dct, bo_add, bo_sub, bo_mul, bo_fdiv, bo_mod, bo_pow, co_lt, co_le, co_gt, co_ge, co_eq, co_ne, co_is_bl, eqv_int, tru_non, tru_bl, tru_int, tru_tup, tru_lst, truR_eq, ix_tup, ix_lst, ix_ref, ixr_str, item0, item1, item2, lookK_cons,
    putAt_ref, putR_dic, keyOf_str, wr_eq, wrv_no, wrv_v, wrv_cel, wrc_cel, asg_nm, asg_tup, asgs_nil, asgs_cons, asgK_some, par_nil, par_cons, back_same, back_sameX, cells_cel, celB_some, celB_none, open_cel, parv_no, parv_v, back_ok, back_exc, cells_nil, cells_v, cells_no, open_nil, open_v, open_no, cells_own, open_own, shut_own, shut_nil, shut_v, shut_no, T_run, for_nil, walk_val_l, walk_val_t,
    fin_rt, fin_nx, fin_exc, env0_eq, List.map_cons, List.map_nil, List.replicate, List.cons_append, List.nil_append, List.append_nil, List.getElem?_cons_zero, List.getElem?_cons_succ, List.set_cons_zero, List.set_cons_succ, Option.map_some, if_true, Nat.reduceSub, Nat.reduceAdd, subTy, Nat.reduceLeDiff, reduceIte, Bool.not_true, Bool.not_false, Nat.reduceBEq, Bool.false_eq_true, Bool.or_false, Bool.or_true, Bool.false_or, Bool.true_or, Bool.and_true, Bool.true_and, Bool.and_false, Bool.false_and, lenI_nil, lenI_cons, Int.reduceAdd, Int.reduceEq, Int.reduceLT, Int.reduceLE, Int.reduceNeg, decide_true, decide_false, eq_self, not_true_eq_false, not_false_eq_true, law_q, ix_rt0, ix_rt1]
theorem law_less (n : Nat) (hn : 1 ≤ n) (a b c d : Int) (s : So) (ha : small a = true) (hb : small b = true) (hc : small c = true) (hd : small d = true) : (CX n).call 22 [rt a b, rt c d] s = .ok (.bl (decide (a * d < c * b))) s := by
  obtain ⟨m, rfl⟩ : ∃ m, n = m + 1 := ⟨n - 1, by omega⟩
  rw [call_eq m 22 f22 rfl]
  unfold f22
  refine (runF_eq _ _ _ _ _ _ (by rfl)).trans ?_
  simp (disch := first | assumption | omega | exact small_of (by decide) | rfl | decide) only [e_c, e_v, e_neg, negR_int, e_not, e_bin, e_cmp, e_and, e_or, e_ite, andR_t, andR_f, orR_t, orR_f, iteR_t, iteR_f, e_tup, e_lst, e_ix, e_call, e_app, goApp_fn, goApp_clo, e_bi, e_lam, cellsOf_nil, cellsOf_cons, cofV_cel, cofK_some, es_nil, es_cons, s_pass, s_ex, s_set, s_par, s_own, ownR_lst, ownV_no, ownV_v, s_setix, ownO_own, appK_ok, appR_eq, s_app, s_ite, ifR_t, ifR_f, s_loop, s_ret, s_brk, s_cont, s_rais, s_tri, triR_ok, ss_nil, ss_cons, seqR_nx, seqR_rt, seqR_bk, seqR_ct, R.bind_ok, R.bind_exc, R.of_some, rd_eq, rdv_v, rdv_cel, rdc_some, bi_len_tup, bi_len_lst, bi_abs, bi_max2, bi_min2, bi_gcd, bi_repr, bi_int, bi_list_l, bi_list_t, bi_bits, bi_isinst, bi_isinsts, isT_some, isTs_some, isAny_nil, isAny_cons,
    tyOf_int, tyOf_bl, tyOf_str, tyOf_lst, tyOf_tup, tyOf_non, tyOf_dct, bo_add, bo_sub, bo_mul, bo_fdiv, bo_mod, bo_pow, co_lt, co_le, co_gt, co_ge, co_eq, co_ne, co_is_bl, eqv_int, tru_non, tru_bl, tru_int, tru_tup, tru_lst, truR_eq, ix_tup, ix_lst, ix_ref, ixr_str, item0, item1, item2, lookK_cons,
    putAt_ref, putR_dic, keyOf_str, wr_eq, wrv_no, wrv_v, wrv_cel, wrc_cel, asg_nm, asg_tup, asgs_nil, asgs_cons, asgK_some, par_nil, par_cons, back_same, back_sameX, cells_cel, celB_some, celB_none, open_cel, parv_no, parv_v, back_ok, back_exc, cells_nil, cells_v, cells_no, open_nil, open_v, open_no, cells_own, open_own, shut_own, shut_nil, shut_v, shut_no, T_run, for_nil, walk_val_l, walk_val_t,
    fin_rt, fin_nx, fin_exc, env0_eq, List.map_cons, List.map_nil, List.replicate, List.cons_append, List.nil_append, List.append_nil, List.getElem?_cons_zero, List.getElem?_cons_succ, List.set_cons_zero, List.set_cons_succ, Option.map_some, if_true, Nat.reduceSub, Nat.reduceAdd, subTy, Nat.reduceLeDiff, reduceIte, Bool.not_true, Bool.not_false, Nat.reduceBEq, Bool.false_eq_true, Bool.or_false, Bool.or_true, Bool.false_or, Bool.true_or, Bool.and_true, Bool.true_and, Bool.and_false, Bool.false_and, lenI_nil, lenI_cons, Int.reduceAdd, Int.reduceEq, Int.reduceLT, Int.reduceLE, Int.reduceNeg, decide_true, decide_false, eq_self, not_true_eq_false, not_false_eq_true, ix_rt0, ix_rt1]
/-! ### the pen -/
def pen (c : List D) (a g t f : Int) : Ob := .dic [(.inr (.ofString "cells"), .lst c), (.inr (.ofString "at"), .int a), (.inr (.ofString "digits"), .int g), (.inr (.ofString "count"), .int t), (.inr (.ofString "fold"), .int f)]
section
variable (c : List D) (a g t f x : Int) (s : So) (p : Nat)
theorem pk_cells : ixr (some (pen c a g t f)) (.str (.ofString "cells")) = some (.lst c) := rfl
theorem pk_at : ixr (some (pen c a g t f)) (.str (.ofString "at")) = some (.int a) := rfl
theorem pk_digits : ixr (some (pen c a g t f)) (.str (.ofString "digits")) = some (.int g) := rfl
theorem pk_count : ixr (some (pen c a g t f)) (.str (.ofString "count")) = some (.int t) := rfl
theorem pk_fold : ixr (some (pen c a g t f)) (.str (.ofString "fold")) = some (.int f) := rfl
theorem pp_at : putR (some (pen c a g t f)) s p (some (.inr (.ofString "at"))) (.int x) = some (s.set p (pen c x g t f)) := rfl
theorem pp_digits : putR (some (pen c a g t f)) s p (some (.inr (.ofString "digits"))) (.int x) = some (s.set p (pen c a x t f)) := rfl
theorem pp_count : putR (some (pen c a g t f)) s p (some (.inr (.ofString "count"))) (.int x) = some (s.set p (pen c a g x f)) := rfl
theorem pp_fold : putR (some (pen c a g t f)) s p (some (.inr (.ofString "fold"))) (.int x) = some (s.set p (pen c a g t x)) := rfl
end
theorem draw_blend (n : Nat) (hn : 1 ≤ n) (p : Nat) (s : So) (c : List D) (a g t f many : Int) (hs : s[p]? = some (pen c a g t f)) (hp : p < s.length) (hm : many ≠ 0) (sm : small many = true) (st : small (t + 1) = true) (sf : small f = true) (hg : g = 0) (ha : ¬ a < (c.length : Nat)) (hb : (f + (t + 1) * 6007 + 173).natAbs < 2 ^ 64) : (CX n).call 16 [.ref p, .int many] s = .ok (.int (((((f + (t + 1) * 6007 + 173) ^ (63 : Int).toNat).fmod 2305843009213693951).fdiv 512).fmod many)) (s.set p (pen c (a) (g) (t + 1) (f))) := by
  obtain ⟨m, rfl⟩ : ∃ m, n = m + 1 := ⟨n - 1, by omega⟩
  rw [call_eq m 16 f16 rfl]
  unfold f16
  refine (runF_eq _ _ _ _ _ _ (by rfl)).trans ?_
  simp (disch := first | assumption | omega | exact small_of (by decide) | rfl | decide) only [e_c, e_v, e_neg, negR_int, e_not, e_bin, e_cmp, e_and, e_or, e_ite, andR_t, andR_f, orR_t, orR_f, iteR_t, iteR_f, e_tup, e_lst, e_ix, e_call, e_app, goApp_fn, goApp_clo, e_bi, e_lam, cellsOf_nil, cellsOf_cons, cofV_cel, cofK_some, es_nil, es_cons, s_pass, s_ex, s_set, s_par, s_own, ownR_lst, ownV_no, ownV_v, s_setix, ownO_own, appK_ok, appR_eq, s_app, s_ite, ifR_t, ifR_f, s_loop, s_ret, s_brk, s_cont, s_rais, s_tri, triR_ok, ss_nil, ss_cons, seqR_nx, seqR_rt, seqR_bk, seqR_ct, R.bind_ok, R.bind_exc, R.of_some, rd_eq, rdv_v, rdv_cel, rdc_some, bi_len_tup, bi_len_lst, bi_abs, bi_max2, bi_min2, bi_gcd, bi_repr, bi_int, bi_list_l, bi_list_t, bi_bits, bi_isinst, bi_isinsts, isT_some, isTs_some, isAny_nil, isAny_cons,
    tyOf_int, tyOf_bl, tyOf_str, tyOf_lst, tyOf_tup, tyOf_non, tyOf_dct, bo_add, bo_sub, bo_mul, bo_fdiv, bo_mod, bo_pow, co_lt, co_le, co_gt, co_ge, co_eq, co_ne, co_is_bl, eqv_int, tru_non, tru_bl, tru_int, tru_tup, tru_lst, truR_eq, ix_tup, ix_lst, ix_ref, ixr_str, item0, item1, item2, lookK_cons,
    putAt_ref, putR_dic, keyOf_str, wr_eq, wrv_no, wrv_v, wrv_cel, wrc_cel, asg_nm, asg_tup, asgs_nil, asgs_cons, asgK_some, par_nil, par_cons, back_same, back_sameX, cells_cel, celB_some, celB_none, open_cel, parv_no, parv_v, back_ok, back_exc, cells_nil, cells_v, cells_no, open_nil, open_v, open_no, cells_own, open_own, shut_own, shut_nil, shut_v, shut_no, T_run, for_nil, walk_val_l, walk_val_t,
    fin_rt, fin_nx, fin_exc, env0_eq, List.map_cons, List.map_nil, List.replicate, List.cons_append, List.nil_append, List.append_nil, List.getElem?_cons_zero, List.getElem?_cons_succ, List.set_cons_zero, List.set_cons_succ, Option.map_some, if_true, Nat.reduceSub, Nat.reduceAdd, subTy, Nat.reduceLeDiff, reduceIte, Bool.not_true, Bool.not_false, Nat.reduceBEq, Bool.false_eq_true, Bool.or_false, Bool.or_true, Bool.false_or, Bool.true_or, Bool.and_true, Bool.true_and, Bool.and_false, Bool.false_and, lenI_nil, lenI_cons, Int.reduceAdd, Int.reduceEq, Int.reduceLT, Int.reduceLE, Int.reduceNeg, decide_true, decide_false, eq_self, not_true_eq_false, not_false_eq_true, pk_cells, pk_at, pk_digits, pk_count, pk_fold, pp_at, pp_digits, pp_count, pp_fold, List.set_set, List.getElem?_set_self, List.length_set, hs, hp, hg, ha, hb]
theorem draw_digit (n : Nat) (hn : 1 ≤ n) (p : Nat) (s : So) (c : List D) (a g t f many : Int) (hs : s[p]? = some (pen c a g t f)) (hp : p < s.length) (hm : many ≠ 0) (sm : small many = true) (st : small (t + 1) = true) (sf : small f = true) (hg : ¬ g = 0) (hg2 : 0 < g) : (CX n).call 16 [.ref p, .int many] s = .ok (.int (g.fmod many)) (s.set p (pen c (a) (g.fdiv many) (t + 1) (f))) := by
  obtain ⟨m, rfl⟩ : ∃ m, n = m + 1 := ⟨n - 1, by omega⟩
  rw [call_eq m 16 f16 rfl]
  unfold f16
  refine (runF_eq _ _ _ _ _ _ (by rfl)).trans ?_
  simp (disch := first | assumption | omega | exact small_of (by decide) | rfl | decide) only [e_c, e_v, e_neg, negR_int, e_not, e_bin, e_cmp, e_and, e_or, e_ite, andR_t, andR_f, orR_t, orR_f, iteR_t, iteR_f, e_tup, e_lst, e_ix, e_call, e_app, goApp_fn, goApp_clo, e_bi, e_lam, cellsOf_nil, cellsOf_cons, cofV_cel, cofK_some, es_nil, es_cons, s_pass, s_ex, s_set, s_par, s_own, ownR_lst, ownV_no, ownV_v, s_setix, ownO_own, appK_ok, appR_eq, s_app, s_ite, ifR_t, ifR_f, s_loop, s_ret, s_brk, s_cont, s_rais, s_tri, triR_ok, ss_nil, ss_cons, seqR_nx, seqR_rt, seqR_bk, seqR_ct, R.bind_ok, R.bind_exc, R.of_some, rd_eq, rdv_v, rdv_cel, rdc_some, bi_len_tup, bi_len_lst, bi_abs, bi_max2, bi_min2, bi_gcd, bi_repr, bi_int, bi_list_l, bi_list_t, bi_bits, bi_isinst, bi_isinsts, isT_some, isTs_some, isAny_nil, isAny_cons,
    tyOf_int, tyOf_bl, tyOf_str, tyOf_lst, tyOf_tup, tyOf_non, tyOf_dct, bo_add, bo_sub, bo_mul, bo_fdiv, bo_mod, bo_pow, co_lt, co_le, co_gt, co_ge, co_eq, co_ne, co_is_bl, eqv_int, tru_non, tru_bl, tru_int, tru_tup, tru_lst, truR_eq, ix_tup, ix_lst, ix_ref, ixr_str, item0, item1, item2, lookK_cons,
    putAt_ref, putR_dic, keyOf_str, wr_eq, wrv_no, wrv_v, wrv_cel, wrc_cel, asg_nm, asg_tup, asgs_nil, asgs_cons, asgK_some, par_nil, par_cons, back_same, back_sameX, cells_cel, celB_some, celB_none, open_cel, parv_no, parv_v, back_ok, back_exc, cells_nil, cells_v, cells_no, open_nil, open_v, open_no, cells_own, open_own, shut_own, shut_nil, shut_v, shut_no, T_run, for_nil, walk_val_l, walk_val_t,
    fin_rt, fin_nx, fin_exc, env0_eq, List.map_cons, List.map_nil, List.replicate, List.cons_append, List.nil_append, List.append_nil, List.getElem?_cons_zero, List.getElem?_cons_succ, List.set_cons_zero, List.set_cons_succ, Option.map_some, if_true, Nat.reduceSub, Nat.reduceAdd, subTy, Nat.reduceLeDiff, reduceIte, Bool.not_true, Bool.not_false, Nat.reduceBEq, Bool.false_eq_true, Bool.or_false, Bool.or_true, Bool.false_or, Bool.true_or, Bool.and_true, Bool.true_and, Bool.and_false, Bool.false_and, lenI_nil, lenI_cons, Int.reduceAdd, Int.reduceEq, Int.reduceLT, Int.reduceLE, Int.reduceNeg, decide_true, decide_false, eq_self, not_true_eq_false, not_false_eq_true, pk_cells, pk_at, pk_digits, pk_count, pk_fold, pp_at, pp_digits, pp_count, pp_fold, List.set_set, List.getElem?_set_self, List.length_set, hs, hp, hg, hg2]
theorem draw_cell (n : Nat) (hn : 1 ≤ n) (p : Nat) (s : So) (c : List D) (a g t f many : Int) (hs : s[p]? = some (pen c a g t f)) (hp : p < s.length) (hm : many ≠ 0) (sm : small many = true) (st : small (t + 1) = true) (sf : small f = true) (z : Int) (hg : g = 0) (ha : a < (c.length : Nat)) (hz : itemAt c a = some (.int z)) (hc : ¬ 10 ^ (18 : Int).toNat ≤ z) (hb : (((f * 28001 + z).fmod 2147482943) + (t + 1) * 6007 + 173).natAbs < 2 ^ 64) : (CX n).call 16 [.ref p, .int many] s = .ok (.int (((((((f * 28001 + z).fmod 2147482943) + (t + 1) * 6007 + 173) ^ (63 : Int).toNat).fmod 2305843009213693951).fdiv 512).fmod many)) (s.set p (pen c (a + 1) (g) (t + 1) (((f * 28001 + z).fmod 2147482943)))) := by
  obtain ⟨m, rfl⟩ : ∃ m, n = m + 1 := ⟨n - 1, by omega⟩
  rw [call_eq m 16 f16 rfl]
  unfold f16
  refine (runF_eq _ _ _ _ _ _ (by rfl)).trans ?_
  simp (disch := first | assumption | omega | exact small_of (by decide) | rfl | decide) only [e_c, e_v, e_neg, negR_int, e_not, e_bin, e_cmp, e_and, e_or, e_ite, andR_t, andR_f, orR_t, orR_f, iteR_t, iteR_f, e_tup, e_lst, e_ix, e_call, e_app, goApp_fn, goApp_clo, e_bi, e_lam, cellsOf_nil, cellsOf_cons, cofV_cel, cofK_some, es_nil, es_cons, s_pass, s_ex, s_set, s_par, s_own, ownR_lst, ownV_no, ownV_v, s_setix, ownO_own, appK_ok, appR_eq, s_app, s_ite, ifR_t, ifR_f, s_loop, s_ret, s_brk, s_cont, s_rais, s_tri, triR_ok, ss_nil, ss_cons, seqR_nx, seqR_rt, seqR_bk, seqR_ct, R.bind_ok, R.bind_exc, R.of_some, rd_eq, rdv_v, rdv_cel, rdc_some, bi_len_tup, bi_len_lst, bi_abs, bi_max2, bi_min2, bi_gcd, bi_repr, bi_int, bi_list_l, bi_list_t, bi_bits, bi_isinst, bi_isinsts, isT_some, isTs_some, isAny_nil, isAny_cons,
    tyOf_int, tyOf_bl, tyOf_str, tyOf_lst, tyOf_tup, tyOf_non, tyOf_dct, bo_add, bo_sub, bo_mul, bo_fdiv, bo_mod, bo_pow, co_lt, co_le, co_gt, co_ge, co_eq, co_ne, co_is_bl, eqv_int, tru_non, tru_bl, tru_int, tru_tup, tru_lst, truR_eq, ix_tup, ix_lst, ix_ref, ixr_str, item0, item1, item2, lookK_cons,
    putAt_ref, putR_dic, keyOf_str, wr_eq, wrv_no, wrv_v, wrv_cel, wrc_cel, asg_nm, asg_tup, asgs_nil, asgs_cons, asgK_some, par_nil, par_cons, back_same, back_sameX, cells_cel, celB_some, celB_none, open_cel, parv_no, parv_v, back_ok, back_exc, cells_nil, cells_v, cells_no, open_nil, open_v, open_no, cells_own, open_own, shut_own, shut_nil, shut_v, shut_no, T_run, for_nil, walk_val_l, walk_val_t,
    fin_rt, fin_nx, fin_exc, env0_eq, List.map_cons, List.map_nil, List.replicate, List.cons_append, List.nil_append, List.append_nil, List.getElem?_cons_zero, List.getElem?_cons_succ, List.set_cons_zero, List.set_cons_succ, Option.map_some, if_true, Nat.reduceSub, Nat.reduceAdd, subTy, Nat.reduceLeDiff, reduceIte, Bool.not_true, Bool.not_false, Nat.reduceBEq, Bool.false_eq_true, Bool.or_false, Bool.or_true, Bool.false_or, Bool.true_or, Bool.and_true, Bool.true_and, Bool.and_false, Bool.false_and, lenI_nil, lenI_cons, Int.reduceAdd, Int.reduceEq, Int.reduceLT, Int.reduceLE, Int.reduceNeg, decide_true, decide_false, eq_self, not_true_eq_false, not_false_eq_true, pk_cells, pk_at, pk_digits, pk_count, pk_fold, pp_at, pp_digits, pp_count, pp_fold, List.set_set, List.getElem?_set_self, List.length_set, hs, hp, hg, ha, hb, hz, hc]
theorem draw_great (n : Nat) (hn : 1 ≤ n) (p : Nat) (s : So) (c : List D) (a g t f many : Int) (hs : s[p]? = some (pen c a g t f)) (hp : p < s.length) (hm : many ≠ 0) (sm : small many = true) (st : small (t + 1) = true) (sf : small f = true) (z : Int) (hg : g = 0) (ha : a < (c.length : Nat)) (hz : itemAt c a = some (.int z)) (hc : 10 ^ (18 : Int).toNat ≤ z) (hd : 0 < z - 10 ^ (18 : Int).toNat) : (CX n).call 16 [.ref p, .int many] s = .ok (.int ((z - 10 ^ (18 : Int).toNat).fmod many)) (s.set p (pen c (a + 1) ((z - 10 ^ (18 : Int).toNat).fdiv many) (t + 1) (f))) := by
  obtain ⟨m, rfl⟩ : ∃ m, n = m + 1 := ⟨n - 1, by omega⟩
  rw [call_eq m 16 f16 rfl]
  unfold f16
  refine (runF_eq _ _ _ _ _ _ (by rfl)).trans ?_
  simp (disch := first | assumption | omega | exact small_of (by decide) | rfl | decide) only [e_c, e_v, e_neg, negR_int, e_not, e_bin, e_cmp, e_and, e_or, e_ite, andR_t, andR_f, orR_t, orR_f, iteR_t, iteR_f, e_tup, e_lst, e_ix, e_call, e_app, goApp_fn, goApp_clo, e_bi, e_lam, cellsOf_nil, cellsOf_cons, cofV_cel, cofK_some, es_nil, es_cons, s_pass, s_ex, s_set, s_par, s_own, ownR_lst, ownV_no, ownV_v, s_setix, ownO_own, appK_ok, appR_eq, s_app, s_ite, ifR_t, ifR_f, s_loop, s_ret, s_brk, s_cont, s_rais, s_tri, triR_ok, ss_nil, ss_cons, seqR_nx, seqR_rt, seqR_bk, seqR_ct, R.bind_ok, R.bind_exc, R.of_some, rd_eq, rdv_v, rdv_cel, rdc_some, bi_len_tup, bi_len_lst, bi_abs, bi_max2, bi_min2, bi_gcd, bi_repr, bi_int, bi_list_l, bi_list_t, bi_bits, bi_isinst, bi_isinsts, isT_some, isTs_some, isAny_nil, isAny_cons,
    tyOf_int, tyOf_bl, tyOf_str, tyOf_lst, tyOf_tup, tyOf_non, tyOf_dct, bo_add, bo_sub, bo_mul, bo_fdiv, bo_mod, bo_pow, co_lt, co_le, co_gt, co_ge, co_eq, co_ne, co_is_bl, eqv_int, tru_non, tru_bl, tru_int, tru_tup, tru_lst, truR_eq, ix_tup, ix_lst, ix_ref, ixr_str, item0, item1, item2, lookK_cons,
    putAt_ref, putR_dic, keyOf_str, wr_eq, wrv_no, wrv_v, wrv_cel, wrc_cel, asg_nm, asg_tup, asgs_nil, asgs_cons, asgK_some, par_nil, par_cons, back_same, back_sameX, cells_cel, celB_some, celB_none, open_cel, parv_no, parv_v, back_ok, back_exc, cells_nil, cells_v, cells_no, open_nil, open_v, open_no, cells_own, open_own, shut_own, shut_nil, shut_v, shut_no, T_run, for_nil, walk_val_l, walk_val_t,
    fin_rt, fin_nx, fin_exc, env0_eq, List.map_cons, List.map_nil, List.replicate, List.cons_append, List.nil_append, List.append_nil, List.getElem?_cons_zero, List.getElem?_cons_succ, List.set_cons_zero, List.set_cons_succ, Option.map_some, if_true, Nat.reduceSub, Nat.reduceAdd, subTy, Nat.reduceLeDiff, reduceIte, Bool.not_true, Bool.not_false, Nat.reduceBEq, Bool.false_eq_true, Bool.or_false, Bool.or_true, Bool.false_or, Bool.true_or, Bool.and_true, Bool.true_and, Bool.and_false, Bool.false_and, lenI_nil, lenI_cons, Int.reduceAdd, Int.reduceEq, Int.reduceLT, Int.reduceLE, Int.reduceNeg, decide_true, decide_false, eq_self, not_true_eq_false, not_false_eq_true, pk_cells, pk_at, pk_digits, pk_count, pk_fold, pp_at, pp_digits, pp_count, pp_fold, List.set_set, List.getElem?_set_self, List.length_set, hs, hp, hg, ha, hz, hc, hd]
theorem draw_edge (n : Nat) (hn : 1 ≤ n) (p : Nat) (s : So) (c : List D) (a g t f many : Int) (hs : s[p]? = some (pen c a g t f)) (hp : p < s.length) (hm : many ≠ 0) (sm : small many = true) (st : small (t + 1) = true) (sf : small f = true) (z : Int) (hg : g = 0) (ha : a < (c.length : Nat)) (hz : itemAt c a = some (.int z)) (hc : 10 ^ (18 : Int).toNat ≤ z) (hd : ¬ 0 < z - 10 ^ (18 : Int).toNat) (hb : (f + (t + 1) * 6007 + 173).natAbs < 2 ^ 64) : (CX n).call 16 [.ref p, .int many] s = .ok (.int (((((f + (t + 1) * 6007 + 173) ^ (63 : Int).toNat).fmod 2305843009213693951).fdiv 512).fmod many)) (s.set p (pen c (a + 1) (z - 10 ^ (18 : Int).toNat) (t + 1) (f))) := by
  obtain ⟨m, rfl⟩ : ∃ m, n = m + 1 := ⟨n - 1, by omega⟩
  rw [call_eq m 16 f16 rfl]
  unfold f16
  refine (runF_eq _ _ _ _ _ _ (by rfl)).trans ?_
  simp (disch := first | assumption | omega | exact small_of (by decide) | rfl | decide) only [e_c, e_v, e_neg, negR_int, e_not, e_bin, e_cmp, e_and, e_or, e_ite, andR_t, andR_f, orR_t, orR_f, iteR_t, iteR_f, e_tup, e_lst, e_ix, e_call, e_app, goApp_fn, goApp_clo, e_bi, e_lam, cellsOf_nil, cellsOf_cons, cofV_cel, cofK_some, es_nil, es_cons, s_pass, s_ex, s_set, s_par, s_own, ownR_lst, ownV_no, ownV_v, s_setix, ownO_own, appK_ok, appR_eq, s_app, s_ite, ifR_t, ifR_f, s_loop, s_ret, s_brk, s_cont, s_rais, s_tri, triR_ok, ss_nil, ss_cons, seqR_nx, seqR_rt, seqR_bk, seqR_ct, R.bind_ok, R.bind_exc, R.of_some, rd_eq, rdv_v, rdv_cel, rdc_some, bi_len_tup, bi_len_lst, bi_abs, bi_max2, bi_min2, bi_gcd, bi_repr, bi_int, bi_list_l, bi_list_t, bi_bits, bi_isinst, bi_isinsts, isT_some, isTs_some, isAny_nil, isAny_cons,
    tyOf_int, tyOf_bl, tyOf_str, tyOf_lst, tyOf_tup, tyOf_non, tyOf_dct, bo_add, bo_sub, bo_mul, bo_fdiv, bo_mod, bo_pow, co_lt, co_le, co_gt, co_ge, co_eq, co_ne, co_is_bl, eqv_int, tru_non, tru_bl, tru_int, tru_tup, tru_lst, truR_eq, ix_tup, ix_lst, ix_ref, ixr_str, item0, item1, item2, lookK_cons,
    putAt_ref, putR_dic, keyOf_str, wr_eq, wrv_no, wrv_v, wrv_cel, wrc_cel, asg_nm, asg_tup, asgs_nil, asgs_cons, asgK_some, par_nil, par_cons, back_same, back_sameX, cells_cel, celB_some, celB_none, open_cel, parv_no, parv_v, back_ok, back_exc, cells_nil, cells_v, cells_no, open_nil, open_v, open_no, cells_own, open_own, shut_own, shut_nil, shut_v, shut_no, T_run, for_nil, walk_val_l, walk_val_t,
    fin_rt, fin_nx, fin_exc, env0_eq, List.map_cons, List.map_nil, List.replicate, List.cons_append, List.nil_append, List.append_nil, List.getElem?_cons_zero, List.getElem?_cons_succ, List.set_cons_zero, List.set_cons_succ, Option.map_some, if_true, Nat.reduceSub, Nat.reduceAdd, subTy, Nat.reduceLeDiff, reduceIte, Bool.not_true, Bool.not_false, Nat.reduceBEq, Bool.false_eq_true, Bool.or_false, Bool.or_true, Bool.false_or, Bool.true_or, Bool.and_true, Bool.true_and, Bool.and_false, Bool.false_and, lenI_nil, lenI_cons, Int.reduceAdd, Int.reduceEq, Int.reduceLT, Int.reduceLE, Int.reduceNeg, decide_true, decide_false, eq_self, not_true_eq_false, not_false_eq_true, pk_cells, pk_at, pk_digits, pk_count, pk_fold, pp_at, pp_digits, pp_count, pp_fold, List.set_set, List.getElem?_set_self, List.length_set, hs, hp, hg, ha, hz, hc, hd, hb]
/-- a pen of at most C draws -/
def PenOb (C : Int) (ob : Ob) : Prop := ∃ c a g t f, ob = pen c a g t f ∧ (∀ x ∈ c, ∃ z, x = D.int z) ∧ 0 ≤ a ∧ 0 ≤ g ∧ 0 ≤ t ∧ t ≤ C ∧ 0 ≤ f ∧ f < 2147482943
theorem fm_pos (x : Int) {m : Int} (h : 0 < m) : 0 ≤ x.fmod m ∧ x.fmod m < m := ⟨Int.fmod_nonneg_of_pos x h, Int.fmod_lt_of_pos x h⟩
theorem fd_nn {x m : Int} (h : 0 ≤ x) (k : 0 < m) : 0 ≤ x.fdiv m := Int.fdiv_nonneg h (by omega)
theorem draw (n : Nat) (hn : 1 ≤ n) (C : Int) (hC : C ≤ 100000) (p : Nat) (s : So) (ob : Ob) (hs : s[p]? = some ob) (h : PenOb C ob) (many : Int) (hm : 0 < many) (hM : many ≤ 1000000000) :
    ∃ v ob', 0 ≤ v ∧ v < many ∧ PenOb (C + 1) ob' ∧ (CX n).call 16 [.ref p, .int many] s = .ok (.int v) (s.set p ob') := by
  obtain ⟨c, a, g, t, f, rfl, hc, ha, hg, ht, htC, hf, hfm⟩ := h
  have hp : p < s.length := (List.getElem?_eq_some_iff.mp hs).1
  have sm : small many = true := small_of (by omega)
  have st : small (t + 1) = true := small_of (by omega)
  have sf : small f = true := small_of (by omega)
  have hb : (f + (t + 1) * 6007 + 173).natAbs < 2 ^ 64 := by omega
  by_cases h1 : g = 0
  · by_cases h2 : a < (c.length : Nat)
    · obtain ⟨k, rfl⟩ : ∃ k : Nat, a = (k : Nat) := ⟨a.toNat, by omega⟩
      have hk : k < c.length := by omega
      obtain ⟨z, hz⟩ := hc _ (List.getElem_mem hk)
      have hi : itemAt c ((k : Nat) : Int) = some (.int z) := by
        rw [itemAt_nat c k hk, List.getElem?_eq_getElem hk, hz]
      by_cases h3 : 10 ^ (18 : Int).toNat ≤ z
      · by_cases h4 : 0 < z - 10 ^ (18 : Int).toNat
        · obtain ⟨b1, b2⟩ := fm_pos (z - 10 ^ (18 : Int).toNat) hm
          exact ⟨_, _, b1, b2, ⟨c, _, _, _, _, rfl, hc, by omega, fd_nn (by omega) hm, by omega, by omega, hf, hfm⟩, draw_great n hn p s c _ g t f many hs hp (by omega) sm st sf z h1 h2 hi h3 h4⟩
        · obtain ⟨b1, b2⟩ := fm_pos ((((f + (t + 1) * 6007 + 173) ^ (63 : Int).toNat).fmod 2305843009213693951).fdiv 512) hm
          exact ⟨_, _, b1, b2, ⟨c, _, _, _, _, rfl, hc, by omega, by omega, by omega, by omega, hf, hfm⟩, draw_edge n hn p s c _ g t f many hs hp (by omega) sm st sf z h1 h2 hi h3 h4 hb⟩
      · obtain ⟨f1, f2⟩ := fm_pos (f * 28001 + z) (m := 2147482943) (by omega)
        have hb2 : ((f * 28001 + z).fmod 2147482943 + (t + 1) * 6007 + 173).natAbs < 2 ^ 64 := by omega
        obtain ⟨b1, b2⟩ := fm_pos (((((f * 28001 + z).fmod 2147482943 + (t + 1) * 6007 + 173) ^ (63 : Int).toNat).fmod 2305843009213693951).fdiv 512) hm
        exact ⟨_, _, b1, b2, ⟨c, _, _, _, _, rfl, hc, by omega, by omega, by omega, by omega, f1, f2⟩, draw_cell n hn p s c _ g t f many hs hp (by omega) sm st sf z h1 h2 hi h3 hb2⟩
    · obtain ⟨b1, b2⟩ := fm_pos ((((f + (t + 1) * 6007 + 173) ^ (63 : Int).toNat).fmod 2305843009213693951).fdiv 512) hm
      exact ⟨_, _, b1, b2, ⟨c, _, _, _, _, rfl, hc, ha, hg, by omega, by omega, hf, hfm⟩, draw_blend n hn p s c _ g t f many hs hp (by omega) sm st sf h1 h2 hb⟩
  · obtain ⟨b1, b2⟩ := fm_pos g hm
    exact ⟨_, _, b1, b2, ⟨c, _, _, _, _, rfl, hc, ha, fd_nn hg hm, by omega, by omega, hf, hfm⟩, draw_digit n hn p s c _ g t f many hs hp (by omega) sm st sf h1 (by omega)⟩
theorem pick_at (n : Nat) (hn : 2 ≤ n) (p : Nat) (s s' : So) (xs : List D) (v : Int) (x : D) (hd : (CX (n - 1)).call 16 [.ref p, .int (xs.length : Nat)] s = .ok (.int v) s') (hi : itemAt xs v = some x) : (CX n).call 17 [.ref p, .lst xs] s = .ok x s' := by
  obtain ⟨m, rfl⟩ : ∃ m, n = m + 1 := ⟨n - 1, by omega⟩
  rw [call_eq m 17 f17 rfl]
  unfold f17
  refine (runF_eq _ _ _ _ _ _ (by rfl)).trans ?_
  rw [show m + 1 - 1 = m from rfl] at hd
  simp (disch := first | assumption | omega | exact small_of (by decide) | rfl | decide) only [e_c, e_v, e_neg, negR_int, e_not, e_bin, e_cmp, e_and, e_or, e_ite, andR_t, andR_f, orR_t, orR_f, iteR_t, iteR_f, e_tup, e_lst, e_ix, e_call, e_app, goApp_fn, goApp_clo, e_bi, e_lam, cellsOf_nil, cellsOf_cons, cofV_cel, cofK_some, es_nil, es_cons, s_pass, s_ex, s_set, s_par, s_own, ownR_lst, ownV_no, ownV_v, s_setix, ownO_own, appK_ok, appR_eq, s_app, s_ite, ifR_t, ifR_f, s_loop, s_ret, s_brk, s_cont, s_rais, s_tri, triR_ok, ss_nil, ss_cons, seqR_nx, seqR_rt, seqR_bk, seqR_ct, R.bind_ok, R.bind_exc, R.of_some, rd_eq, rdv_v, rdv_cel, rdc_some, bi_len_tup, bi_len_lst, bi_abs, bi_max2, bi_min2, bi_gcd, bi_repr, bi_int, bi_list_l, bi_list_t, bi_bits, bi_isinst, bi_isinsts, isT_some, isTs_some, isAny_nil, isAny_cons,
    tyOf_int, tyOf_bl, tyOf_str, tyOf_lst, tyOf_tup, tyOf_non, tyOf_dct, bo_add, bo_sub, bo_mul, bo_fdiv, bo_mod, bo_pow, co_lt, co_le, co_gt, co_ge, co_eq, co_ne, co_is_bl, eqv_int, tru_non, tru_bl, tru_int, tru_tup, tru_lst, truR_eq, ix_tup, ix_lst, ix_ref, ixr_str, item0, item1, item2, lookK_cons,
    putAt_ref, putR_dic, keyOf_str, wr_eq, wrv_no, wrv_v, wrv_cel, wrc_cel, asg_nm, asg_tup, asgs_nil, asgs_cons, asgK_some, par_nil, par_cons, back_same, back_sameX, cells_cel, celB_some, celB_none, open_cel, parv_no, parv_v, back_ok, back_exc, cells_nil, cells_v, cells_no, open_nil, open_v, open_no, cells_own, open_own, shut_own, shut_nil, shut_v, shut_no, T_run, for_nil, walk_val_l, walk_val_t,
    fin_rt, fin_nx, fin_exc, env0_eq, List.map_cons, List.map_nil, List.replicate, List.cons_append, List.nil_append, List.append_nil, List.getElem?_cons_zero, List.getElem?_cons_succ, List.set_cons_zero, List.set_cons_succ, Option.map_some, if_true, Nat.reduceSub, Nat.reduceAdd, subTy, Nat.reduceLeDiff, reduceIte, Bool.not_true, Bool.not_false, Nat.reduceBEq, Bool.false_eq_true, Bool.or_false, Bool.or_true, Bool.false_or, Bool.true_or, Bool.and_true, Bool.true_and, Bool.and_false, Bool.false_and, lenI_nil, lenI_cons, Int.reduceAdd, Int.reduceEq, Int.reduceLT, Int.reduceLE, Int.reduceNeg, decide_true, decide_false, eq_self, not_true_eq_false, not_false_eq_true, hd, hi]
theorem pick (n : Nat) (hn : 2 ≤ n) (C : Int) (hC : C ≤ 100000) (p : Nat) (s : So) (ob : Ob) (hs : s[p]? = some ob) (h : PenOb C ob) (xs : List D) (h0 : xs ≠ []) (hM : xs.length ≤ 1000) :
    ∃ x ob', x ∈ xs ∧ PenOb (C + 1) ob' ∧ (CX n).call 17 [.ref p, .lst xs] s = .ok x (s.set p ob') := by
  have h1 : 0 < xs.length := List.length_pos_iff.mpr h0
  obtain ⟨v, ob', v0, v1, hp', hd⟩ := draw (n - 1) (by omega) C hC p s ob hs h (xs.length : Nat) (by omega) (by omega)
  obtain ⟨k, rfl⟩ : ∃ k : Nat, v = (k : Nat) := ⟨v.toNat, by omega⟩
  have hk : k < xs.length := by omega
  exact ⟨xs[k], ob', List.getElem_mem hk, hp', pick_at n hn p s _ xs _ _ hd (by rw [itemAt_nat xs k hk, List.getElem?_eq_getElem hk])⟩
/-- in lowest terms -/
structure Red (a b : Int) : Prop where
  pos : 0 < b
  gcd : Nat.gcd a.natAbs b.natAbs = 1
theorem gs_ne {t b : Int} (h : b ≠ 0) : gs t b ≠ 0 := by
  have g0 : Nat.gcd t.natAbs b.natAbs ≠ 0 := fun z => h (by have := Nat.eq_zero_of_gcd_eq_zero_right z; omega)
  unfold gs
  split <;> omega
theorem gs_small {t b : Int} (h : b ≠ 0) (hb : b.natAbs < 1152921504606846976) : small (gs t b) = true := by
  have g0 : Nat.gcd t.natAbs b.natAbs ≤ b.natAbs := Nat.gcd_le_right _ (by omega)
  refine small_of ?_
  unfold gs
  split <;> omega
theorem red_of (t b : Int) (h : 0 < b) : ∃ a' b', Qd t b = rt a' b' ∧ Red a' b' ∧ b' ≤ b ∧ a'.natAbs ≤ t.natAbs := by
  obtain ⟨g, hg⟩ : ∃ g : Nat, g = Nat.gcd t.natAbs b.natAbs := ⟨_, rfl⟩
  have g0 : 0 < g := by
    rw [hg]
    exact Nat.gcd_pos_of_pos_right _ (by omega)
  have d1 : ((g : Nat) : Int) ∣ t := Int.ofNat_dvd_left.mpr (by rw [hg]; exact Nat.gcd_dvd_left _ _)
  have d2 : ((g : Nat) : Int) ∣ b := Int.ofNat_dvd_left.mpr (by rw [hg]; exact Nat.gcd_dvd_right _ _)
  obtain ⟨k, hk⟩ := d1
  obtain ⟨l, hl⟩ := d2
  have gi : ((g : Nat) : Int) ≠ 0 := by omega
  have e1 : t.fdiv (gs t b) = k := by
    rw [gs_pos h, ← hg, hk, Int.mul_fdiv_cancel_left _ gi]
  have e2 : b.fdiv (gs t b) = l := by
    rw [gs_pos h, ← hg, hl, Int.mul_fdiv_cancel_left _ gi]
  have gp : (0 : Int) < (g : Nat) := by omega
  have l0 : 0 < l := by
    rw [hl] at h
    exact Int.pos_of_mul_pos_right h gp |> fun z => z
  refine ⟨k, l, by rw [Qd, e1, e2], ⟨l0, ?_⟩, ?_, ?_⟩
  · have z : g * Nat.gcd k.natAbs l.natAbs = g * 1 := by
      rw [← Nat.gcd_mul_left, Nat.mul_one]
      have a1 : g * k.natAbs = t.natAbs := by rw [hk, Int.natAbs_mul, Int.natAbs_natCast]
      have a2 : g * l.natAbs = b.natAbs := by rw [hl, Int.natAbs_mul, Int.natAbs_natCast]
      rw [a1, a2, ← hg]
    exact Nat.eq_of_mul_eq_mul_left g0 z
  · have : 1 * l ≤ (g : Nat) * l := Int.mul_le_mul_of_nonneg_right (by omega) (by omega)
    rw [hl]
    omega
  · rw [hk, Int.natAbs_mul, Int.natAbs_natCast]
    have : 1 * k.natAbs ≤ g * k.natAbs := Nat.mul_le_mul_right _ g0
    omega
theorem Q_red {a b k : Int} (h : Red a b) (hk : 0 < k) : Qd (a * k) (b * k) = rt a b := by
  have e : gs (a * k) (b * k) = k := by
    rw [gs_pos (Int.mul_pos h.pos hk), Int.natAbs_mul, Int.natAbs_mul, Nat.gcd_mul_right, h.gcd, Nat.one_mul]
    omega
  unfold Qd
  rw [e, Int.mul_fdiv_cancel _ (by omega), Int.mul_fdiv_cancel _ (by omega)]
theorem number_at (n : Nat) (hn : 3 ≤ n) (p : Nat) (s s1 s2 : So) (v most b : Int) (sm : small most = true) (hd : (CX (n - 1)).call 16 [.ref p, .int (2 * most + 1)] s = .ok (.int v) s1) (hk : (CX (n - 1)).call 17 [.ref p, .lst [.int 1, .int 1, .int 1, .int 2, .int 3]] s1 = .ok (.int b) s2) (hq : (CX (n - 1)).call 19 [.int (v - most), .int b] s2 = .ok (Qd (v - most) b) s2) : (CX n).call 25 [.ref p, .int most] s = .ok (Qd (v - most) b) s2 := by
  obtain ⟨m, rfl⟩ : ∃ m, n = m + 1 := ⟨n - 1, by omega⟩
  rw [call_eq m 25 f25 rfl]
  unfold f25
  refine (runF_eq _ _ _ _ _ _ (by rfl)).trans ?_
  rw [show m + 1 - 1 = m from rfl] at hd hk hq
  simp (disch := first | assumption | omega | exact small_of (by decide) | rfl | decide) only [e_c, e_v, e_neg, negR_int, e_not, e_bin, e_cmp, e_and, e_or, e_ite, andR_t, andR_f, orR_t, orR_f, iteR_t, iteR_f, e_tup, e_lst, e_ix, e_call, e_app, goApp_fn, goApp_clo, e_bi, e_lam, cellsOf_nil, cellsOf_cons, cofV_cel, cofK_some, es_nil, es_cons, s_pass, s_ex, s_set, s_par, s_own, ownR_lst, ownV_no, ownV_v, s_setix, ownO_own, appK_ok, appR_eq, s_app, s_ite, ifR_t, ifR_f, s_loop, s_ret, s_brk, s_cont, s_rais, s_tri, triR_ok, ss_nil, ss_cons, seqR_nx, seqR_rt, seqR_bk, seqR_ct, R.bind_ok, R.bind_exc, R.of_some, rd_eq, rdv_v, rdv_cel, rdc_some, bi_len_tup, bi_len_lst, bi_abs, bi_max2, bi_min2, bi_gcd, bi_repr, bi_int, bi_list_l, bi_list_t, bi_bits, bi_isinst, bi_isinsts, isT_some, isTs_some, isAny_nil, isAny_cons,
    tyOf_int, tyOf_bl, tyOf_str, tyOf_lst, tyOf_tup, tyOf_non, tyOf_dct, bo_add, bo_sub, bo_mul, bo_fdiv, bo_mod, bo_pow, co_lt, co_le, co_gt, co_ge, co_eq, co_ne, co_is_bl, eqv_int, tru_non, tru_bl, tru_int, tru_tup, tru_lst, truR_eq, ix_tup, ix_lst, ix_ref, ixr_str, item0, item1, item2, lookK_cons,
    putAt_ref, putR_dic, keyOf_str, wr_eq, wrv_no, wrv_v, wrv_cel, wrc_cel, asg_nm, asg_tup, asgs_nil, asgs_cons, asgK_some, par_nil, par_cons, back_same, back_sameX, cells_cel, celB_some, celB_none, open_cel, parv_no, parv_v, back_ok, back_exc, cells_nil, cells_v, cells_no, open_nil, open_v, open_no, cells_own, open_own, shut_own, shut_nil, shut_v, shut_no, T_run, for_nil, walk_val_l, walk_val_t,
    fin_rt, fin_nx, fin_exc, env0_eq, List.map_cons, List.map_nil, List.replicate, List.cons_append, List.nil_append, List.append_nil, List.getElem?_cons_zero, List.getElem?_cons_succ, List.set_cons_zero, List.set_cons_succ, Option.map_some, if_true, Nat.reduceSub, Nat.reduceAdd, subTy, Nat.reduceLeDiff, reduceIte, Bool.not_true, Bool.not_false, Nat.reduceBEq, Bool.false_eq_true, Bool.or_false, Bool.or_true, Bool.false_or, Bool.true_or, Bool.and_true, Bool.true_and, Bool.and_false, Bool.false_and, lenI_nil, lenI_cons, Int.reduceAdd, Int.reduceEq, Int.reduceLT, Int.reduceLE, Int.reduceNeg, decide_true, decide_false, eq_self, not_true_eq_false, not_false_eq_true, hd, hk, hq]
theorem getS {s : So} {p : Nat} {ob ob' : Ob} (h : s[p]? = some ob) : (s.set p ob')[p]? = some ob' := List.getElem?_set_self (List.getElem?_eq_some_iff.mp h).1
theorem number (n : Nat) (hn : 4 ≤ n) (C : Int) (hC : C ≤ 90000) (p : Nat) (s : So) (ob : Ob) (hs : s[p]? = some ob) (h : PenOb C ob) (most : Int) (hm : 0 ≤ most) (hM : most ≤ 100000) :
    ∃ a b ob', Red a b ∧ b ≤ 3 ∧ a.natAbs ≤ most.natAbs ∧ PenOb (C + 2) ob' ∧ (CX n).call 25 [.ref p, .int most] s = .ok (rt a b) (s.set p ob') := by
  obtain ⟨v, ob1, v0, v1, p1, hd⟩ := draw (n - 1) (by omega) C (by omega) p s ob hs h (2 * most + 1) (by omega) (by omega)
  obtain ⟨x, ob2, hx, p2, hk⟩ := pick (n - 1) (by omega) (C + 1) (by omega) p (s.set p ob1) ob1 (getS hs) p1 [.int 1, .int 1, .int 1, .int 2, .int 3] (by simp) (by simp)
  rw [List.set_set] at hk
  obtain ⟨b, rfl, hb⟩ : ∃ b, x = .int b ∧ (b = 1 ∨ b = 2 ∨ b = 3) := by
    simp at hx
    rcases hx with rfl | rfl | rfl
    · exact ⟨1, rfl, .inl rfl⟩
    · exact ⟨2, rfl, .inr (.inl rfl)⟩
    · exact ⟨3, rfl, .inr (.inr rfl)⟩
  have hq := law_q (n - 1) (by omega) (v - most) b (s.set p ob2) (by omega) (small_of (by omega)) (gs_ne (by omega)) (gs_small (by omega) (by omega))
  obtain ⟨a', b', e, r, l1, l2⟩ := red_of (v - most) b (by omega)
  have z := number_at n (by omega) p s _ _ v most b (small_of (by omega)) hd hk hq
  rw [e] at z
  have c2 : C + 1 + 1 = C + 2 := by omega
  rw [c2] at p2
  exact ⟨a', b', ob2, r, by omega, by omega, p2, z⟩
theorem handed_int (n : Nat) (hn : 2 ≤ n) (p : Nat) (s s1 : So) (a : Int) (hd : (CX (n - 1)).call 16 [.ref p, .int 2] s = .ok (.int 0) s1) : (CX n).call 26 [.ref p, rt a 1] s = .ok (.int a) s1 := by
  obtain ⟨m, rfl⟩ : ∃ m, n = m + 1 := ⟨n - 1, by omega⟩
  rw [call_eq m 26 f26 rfl]
  unfold f26
  refine (runF_eq _ _ _ _ _ _ (by rfl)).trans ?_
  rw [show m + 1 - 1 = m from rfl] at hd
  simp (disch := first | assumption | omega | exact small_of (by decide) | rfl | decide) only [e_c, e_v, e_neg, negR_int, e_not, e_bin, e_cmp, e_and, e_or, e_ite, andR_t, andR_f, orR_t, orR_f, iteR_t, iteR_f, e_tup, e_lst, e_ix, e_call, e_app, goApp_fn, goApp_clo, e_bi, e_lam, cellsOf_nil, cellsOf_cons, cofV_cel, cofK_some, es_nil, es_cons, s_pass, s_ex, s_set, s_par, s_own, ownR_lst, ownV_no, ownV_v, s_setix, ownO_own, appK_ok, appR_eq, s_app, s_ite, ifR_t, ifR_f, s_loop, s_ret, s_brk, s_cont, s_rais, s_tri, triR_ok, ss_nil, ss_cons, seqR_nx, seqR_rt, seqR_bk, seqR_ct, R.bind_ok, R.bind_exc, R.of_some, rd_eq, rdv_v, rdv_cel, rdc_some, bi_len_tup, bi_len_lst, bi_abs, bi_max2, bi_min2, bi_gcd, bi_repr, bi_int, bi_list_l, bi_list_t, bi_bits, bi_isinst, bi_isinsts, isT_some, isTs_some, isAny_nil, isAny_cons,
    tyOf_int, tyOf_bl, tyOf_str, tyOf_lst, tyOf_tup, tyOf_non, tyOf_dct, bo_add, bo_sub, bo_mul, bo_fdiv, bo_mod, bo_pow, co_lt, co_le, co_gt, co_ge, co_eq, co_ne, co_is_bl, eqv_int, tru_non, tru_bl, tru_int, tru_tup, tru_lst, truR_eq, ix_tup, ix_lst, ix_ref, ixr_str, item0, item1, item2, lookK_cons,
    putAt_ref, putR_dic, keyOf_str, wr_eq, wrv_no, wrv_v, wrv_cel, wrc_cel, asg_nm, asg_tup, asgs_nil, asgs_cons, asgK_some, par_nil, par_cons, back_same, back_sameX, cells_cel, celB_some, celB_none, open_cel, parv_no, parv_v, back_ok, back_exc, cells_nil, cells_v, cells_no, open_nil, open_v, open_no, cells_own, open_own, shut_own, shut_nil, shut_v, shut_no, T_run, for_nil, walk_val_l, walk_val_t,
    fin_rt, fin_nx, fin_exc, env0_eq, List.map_cons, List.map_nil, List.replicate, List.cons_append, List.nil_append, List.append_nil, List.getElem?_cons_zero, List.getElem?_cons_succ, List.set_cons_zero, List.set_cons_succ, Option.map_some, if_true, Nat.reduceSub, Nat.reduceAdd, subTy, Nat.reduceLeDiff, reduceIte, Bool.not_true, Bool.not_false, Nat.reduceBEq, Bool.false_eq_true, Bool.or_false, Bool.or_true, Bool.false_or, Bool.true_or, Bool.and_true, Bool.true_and, Bool.and_false, Bool.false_and, lenI_nil, lenI_cons, Int.reduceAdd, Int.reduceEq, Int.reduceLT, Int.reduceLE, Int.reduceNeg, decide_true, decide_false, eq_self, not_true_eq_false, not_false_eq_true, hd, ix_rt0, ix_rt1]
theorem handed_b1 (n : Nat) (hn : 2 ≤ n) (p : Nat) (s s1 s2 s3 : So) (a k v : Int) (x : D) (hv : ¬ v = 0) (sa : small a = true) (sk : small k = true) (hd : (CX (n - 1)).call 16 [.ref p, .int 2] s = .ok (.int v) s1) (hk : (CX (n - 1)).call 17 [.ref p, .lst [.int 1, .int 1, .int 2, .int 5]] s1 = .ok (.int k) s2) (hx : (CX (n - 1)).call 17 [.ref p, .lst [.tup [.int (a * k), .int (1 * k)], .lst [.int (a * k), .int (1 * k)]]] s2 = .ok x s3) : (CX n).call 26 [.ref p, rt a 1] s = .ok x s3 := by
  obtain ⟨m, rfl⟩ : ∃ m, n = m + 1 := ⟨n - 1, by omega⟩
  rw [call_eq m 26 f26 rfl]
  unfold f26
  refine (runF_eq _ _ _ _ _ _ (by rfl)).trans ?_
  rw [show m + 1 - 1 = m from rfl] at hd hk hx
  simp (disch := first | assumption | omega | exact small_of (by decide) | rfl | decide) only [e_c, e_v, e_neg, negR_int, e_not, e_bin, e_cmp, e_and, e_or, e_ite, andR_t, andR_f, orR_t, orR_f, iteR_t, iteR_f, e_tup, e_lst, e_ix, e_call, e_app, goApp_fn, goApp_clo, e_bi, e_lam, cellsOf_nil, cellsOf_cons, cofV_cel, cofK_some, es_nil, es_cons, s_pass, s_ex, s_set, s_par, s_own, ownR_lst, ownV_no, ownV_v, s_setix, ownO_own, appK_ok, appR_eq, s_app, s_ite, ifR_t, ifR_f, s_loop, s_ret, s_brk, s_cont, s_rais, s_tri, triR_ok, ss_nil, ss_cons, seqR_nx, seqR_rt, seqR_bk, seqR_ct, R.bind_ok, R.bind_exc, R.of_some, rd_eq, rdv_v, rdv_cel, rdc_some, bi_len_tup, bi_len_lst, bi_abs, bi_max2, bi_min2, bi_gcd, bi_repr, bi_int, bi_list_l, bi_list_t, bi_bits, bi_isinst, bi_isinsts, isT_some, isTs_some, isAny_nil, isAny_cons,
    tyOf_int, tyOf_bl, tyOf_str, tyOf_lst, tyOf_tup, tyOf_non, tyOf_dct, bo_add, bo_sub, bo_mul, bo_fdiv, bo_mod, bo_pow, co_lt, co_le, co_gt, co_ge, co_eq, co_ne, co_is_bl, eqv_int, tru_non, tru_bl, tru_int, tru_tup, tru_lst, truR_eq, ix_tup, ix_lst, ix_ref, ixr_str, item0, item1, item2, lookK_cons,
    putAt_ref, putR_dic, keyOf_str, wr_eq, wrv_no, wrv_v, wrv_cel, wrc_cel, asg_nm, asg_tup, asgs_nil, asgs_cons, asgK_some, par_nil, par_cons, back_same, back_sameX, cells_cel, celB_some, celB_none, open_cel, parv_no, parv_v, back_ok, back_exc, cells_nil, cells_v, cells_no, open_nil, open_v, open_no, cells_own, open_own, shut_own, shut_nil, shut_v, shut_no, T_run, for_nil, walk_val_l, walk_val_t,
    fin_rt, fin_nx, fin_exc, env0_eq, List.map_cons, List.map_nil, List.replicate, List.cons_append, List.nil_append, List.append_nil, List.getElem?_cons_zero, List.getElem?_cons_succ, List.set_cons_zero, List.set_cons_succ, Option.map_some, if_true, Nat.reduceSub, Nat.reduceAdd, subTy, Nat.reduceLeDiff, reduceIte, Bool.not_true, Bool.not_false, Nat.reduceBEq, Bool.false_eq_true, Bool.or_false, Bool.or_true, Bool.false_or, Bool.true_or, Bool.and_true, Bool.true_and, Bool.and_false, Bool.false_and, lenI_nil, lenI_cons, Int.reduceAdd, Int.reduceEq, Int.reduceLT, Int.reduceLE, Int.reduceNeg, decide_true, decide_false, eq_self, not_true_eq_false, not_false_eq_true, hd, hk, hx, ix_rt0, ix_rt1, hv]
theorem handed_b2 (n : Nat) (hn : 2 ≤ n) (p : Nat) (s s2 s3 : So) (a b k : Int) (x : D) (h1 : ¬ b = 1) (sa : small a = true) (sb : small b = true) (sk : small k = true) (hk : (CX (n - 1)).call 17 [.ref p, .lst [.int 1, .int 1, .int 2, .int 5]] s = .ok (.int k) s2) (hx : (CX (n - 1)).call 17 [.ref p, .lst [.tup [.int (a * k), .int (b * k)], .lst [.int (a * k), .int (b * k)]]] s2 = .ok x s3) : (CX n).call 26 [.ref p, rt a b] s = .ok x s3 := by
  obtain ⟨m, rfl⟩ : ∃ m, n = m + 1 := ⟨n - 1, by omega⟩
  rw [call_eq m 26 f26 rfl]
  unfold f26
  refine (runF_eq _ _ _ _ _ _ (by rfl)).trans ?_
  rw [show m + 1 - 1 = m from rfl] at hk hx
  simp (disch := first | assumption | omega | exact small_of (by decide) | rfl | decide) only [e_c, e_v, e_neg, negR_int, e_not, e_bin, e_cmp, e_and, e_or, e_ite, andR_t, andR_f, orR_t, orR_f, iteR_t, iteR_f, e_tup, e_lst, e_ix, e_call, e_app, goApp_fn, goApp_clo, e_bi, e_lam, cellsOf_nil, cellsOf_cons, cofV_cel, cofK_some, es_nil, es_cons, s_pass, s_ex, s_set, s_par, s_own, ownR_lst, ownV_no, ownV_v, s_setix, ownO_own, appK_ok, appR_eq, s_app, s_ite, ifR_t, ifR_f, s_loop, s_ret, s_brk, s_cont, s_rais, s_tri, triR_ok, ss_nil, ss_cons, seqR_nx, seqR_rt, seqR_bk, seqR_ct, R.bind_ok, R.bind_exc, R.of_some, rd_eq, rdv_v, rdv_cel, rdc_some, bi_len_tup, bi_len_lst, bi_abs, bi_max2, bi_min2, bi_gcd, bi_repr, bi_int, bi_list_l, bi_list_t, bi_bits, bi_isinst, bi_isinsts, isT_some, isTs_some, isAny_nil, isAny_cons,
    tyOf_int, tyOf_bl, tyOf_str, tyOf_lst, tyOf_tup, tyOf_non, tyOf_dct, bo_add, bo_sub, bo_mul, bo_fdiv, bo_mod, bo_pow, co_lt, co_le, co_gt, co_ge, co_eq, co_ne, co_is_bl, eqv_int, tru_non, tru_bl, tru_int, tru_tup, tru_lst, truR_eq, ix_tup, ix_lst, ix_ref, ixr_str, item0, item1, item2, lookK_cons,
    putAt_ref, putR_dic, keyOf_str, wr_eq, wrv_no, wrv_v, wrv_cel, wrc_cel, asg_nm, asg_tup, asgs_nil, asgs_cons, asgK_some, par_nil, par_cons, back_same, back_sameX, cells_cel, celB_some, celB_none, open_cel, parv_no, parv_v, back_ok, back_exc, cells_nil, cells_v, cells_no, open_nil, open_v, open_no, cells_own, open_own, shut_own, shut_nil, shut_v, shut_no, T_run, for_nil, walk_val_l, walk_val_t,
    fin_rt, fin_nx, fin_exc, env0_eq, List.map_cons, List.map_nil, List.replicate, List.cons_append, List.nil_append, List.append_nil, List.getElem?_cons_zero, List.getElem?_cons_succ, List.set_cons_zero, List.set_cons_succ, Option.map_some, if_true, Nat.reduceSub, Nat.reduceAdd, subTy, Nat.reduceLeDiff, reduceIte, Bool.not_true, Bool.not_false, Nat.reduceBEq, Bool.false_eq_true, Bool.or_false, Bool.or_true, Bool.false_or, Bool.true_or, Bool.and_true, Bool.true_and, Bool.and_false, Bool.false_and, lenI_nil, lenI_cons, Int.reduceAdd, Int.reduceEq, Int.reduceLT, Int.reduceLE, Int.reduceNeg, decide_true, decide_false, eq_self, not_true_eq_false, not_false_eq_true, hk, hx, ix_rt0, ix_rt1, h1]
/-- what is handed in for a ratio -/
inductive Hand (a b : Int) : D → Prop
  | int : b = 1 → Hand a b (.int a)
  | tup (k : Int) : 0 < k → k ≤ 5 → Hand a b (.tup [.int (a * k), .int (b * k)])
  | lst (k : Int) : 0 < k → k ≤ 5 → Hand a b (.lst [.int (a * k), .int (b * k)])
theorem Hand.told {a b : Int} {x : D} (h : Hand a b x) (r : Red a b) (hb : b ≤ 1000000) : Told x a b := fun n s hn => by
  have hp := r.pos
  cases h with
  | int e =>
    subst e
    exact told_int n hn a s
  | tup k h1 h2 =>
    have e : 0 < b * k := Int.mul_pos hp h1
    have le : b * k ≤ 1000000 * 5 := Int.mul_le_mul hb h2 (by omega) (by omega)
    have z := told_tup n hn (a * k) (b * k) s e (gs_ne (by omega)) (gs_small (by omega) (by omega))
    rw [Q_red r h1] at z
    exact z
  | lst k h1 h2 =>
    have e : 0 < b * k := Int.mul_pos hp h1
    have le : b * k ≤ 1000000 * 5 := Int.mul_le_mul hb h2 (by omega) (by omega)
    have z := told_lst n hn (a * k) (b * k) s e (gs_ne (by omega)) (gs_small (by omega) (by omega))
    rw [Q_red r h1] at z
    exact z
/-- is_ratio and isinstance of it -/
theorem Hand.kind {a b : Int} {x : D} (h : Hand a b x) (r : Red a b) : ∃ q t, (∀ n s, 3 ≤ n → (CX n).call 2 [x] s = .ok (.bl (!q)) s) ∧ (∀ s, tyOf s x = some t) ∧ subTy t 3 = q := by
  have hp := r.pos
  cases h with
  | int e => exact ⟨false, 0, fun n s hn => ratio_int n hn a s, fun s => rfl, rfl⟩
  | tup k h1 h2 => exact ⟨false, 4, fun n s hn => ratio_tup n hn _ _ (Int.mul_pos hp h1) s, fun s => rfl, rfl⟩
  | lst k h1 h2 => exact ⟨true, 3, fun n s hn => ratio_lst n hn _ s, fun s => rfl, rfl⟩
theorem handed (n : Nat) (hn : 4 ≤ n) (C : Int) (hC : C ≤ 90000) (p : Nat) (s : So) (ob : Ob) (hs : s[p]? = some ob) (h : PenOb C ob) (a b : Int) (r : Red a b) (ha : a.natAbs ≤ 1000000) (hb : b ≤ 1000000) :
    ∃ x ob', Hand a b x ∧ PenOb (C + 3) ob' ∧ (CX n).call 26 [.ref p, rt a b] s = .ok x (s.set p ob') := by
  have hp := r.pos
  have mono : ∀ {c d : Int} {o : Ob}, c ≤ d → PenOb c o → PenOb d o := fun {c d o} l ⟨c1, a1, g1, t1, f1, e, q1, q2, q3, q4, q5, q6, q7⟩ => ⟨c1, a1, g1, t1, f1, e, q1, q2, q3, q4, by omega, q6, q7⟩
  have two : ∀ (s1 : So) (ob1 : Ob) (C1 : Int), C1 ≤ 90002 → s1[p]? = some ob1 → PenOb C1 ob1 → ∃ k x ob2 ob3, (0 < k ∧ k ≤ 5) ∧ (x = D.tup [.int (a * k), .int (b * k)] ∨ x = D.lst [.int (a * k), .int (b * k)]) ∧ PenOb (C1 + 2) ob3 ∧
      (CX (n - 1)).call 17 [.ref p, .lst [.int 1, .int 1, .int 2, .int 5]] s1 = .ok (.int k) (s1.set p ob2) ∧ (CX (n - 1)).call 17 [.ref p, .lst [.tup [.int (a * k), .int (b * k)], .lst [.int (a * k), .int (b * k)]]] (s1.set p ob2) = .ok x (s1.set p ob3) := fun s1 ob1 C1 hC1 hs1 h1 => by
    obtain ⟨y, ob2, hy, p2, hk⟩ := pick (n - 1) (by omega) C1 (by omega) p s1 ob1 hs1 h1 [.int 1, .int 1, .int 2, .int 5] (by simp) (by simp)
    obtain ⟨k, rfl, hkb⟩ : ∃ k, y = .int k ∧ (0 < k ∧ k ≤ 5) := by
      simp at hy
      rcases hy with rfl | rfl | rfl <;> exact ⟨_, rfl, by decide, by decide⟩
    obtain ⟨x, ob3, hx, p3, hk2⟩ := pick (n - 1) (by omega) (C1 + 1) (by omega) p (s1.set p ob2) ob2 (getS hs1) p2 [.tup [.int (a * k), .int (b * k)], .lst [.int (a * k), .int (b * k)]] (by simp) (by simp)
    rw [List.set_set] at hk2
    refine ⟨k, x, ob2, ob3, hkb, by simpa using hx, ?_, hk, hk2⟩
    have e : C1 + 1 + 1 = C1 + 2 := by omega
    rw [e] at p3
    exact p3
  have sa : small a = true := small_of (by omega)
  have sb : small b = true := small_of (by omega)
  by_cases h1 : b = 1
  · subst h1
    obtain ⟨v, ob1, v0, v1, p1, hd⟩ := draw (n - 1) (by omega) C (by omega) p s ob hs h 2 (by omega) (by omega)
    by_cases hv : v = 0
    · subst hv
      exact ⟨.int a, ob1, .int rfl, mono (by omega) p1, handed_int n (by omega) p s _ a hd⟩
    · obtain ⟨k, x, ob2, ob3, hk, hx, p3, e1, e2⟩ := two (s.set p ob1) ob1 (C + 1) (by omega) (getS hs) p1
      rw [List.set_set] at e1 e2
      rw [List.set_set] at e2
      refine ⟨x, ob3, ?_, mono (by omega) p3, handed_b1 n (by omega) p s _ _ _ a k v x hv sa (small_of (by omega)) hd e1 e2⟩
      rcases hx with rfl | rfl
      · exact .tup k hk.1 hk.2
      · exact .lst k hk.1 hk.2
  · obtain ⟨k, x, ob2, ob3, hk, hx, p3, e1, e2⟩ := two s ob C (by omega) hs h
    refine ⟨x, ob3, ?_, mono (by omega) p3, handed_b2 n (by omega) p s _ _ a b k x h1 sa sb (small_of (by omega)) e1 e2⟩
    rcases hx with rfl | rfl
    · exact .tup k hk.1 hk.2
    · exact .lst k hk.1 hk.2
def penB : Sts := .cons (.set (.nm 1) (.bin .mod (.bi .int (.cons (.bin .add (.bin .mul (.v 1) (.c (.int 179))) (.v 2)) .nil)) (.c (.int 999999193)))) .nil
def Pl (sl : Sl) : Prop := sl = .no ∨ ∃ d, sl = .v d
theorem pl_wr {sl : Sl} (h : Pl sl) (i : Nat) (d : D) (e : En) (s : So) : wrv (some sl) i d e s = some (e.set i (.v d), s) := by
  rcases h with rfl | ⟨x, rfl⟩ <;> rfl
theorem pl_par {sl : Sl} (h : Pl sl) (i : Nat) (is : List Nat) (d : D) (ds : List D) (e : En) : parv (some sl) i is d ds e = parN is ds (e.set i (.v d)) := by
  rcases h with rfl | ⟨x, rfl⟩ <;> rfl
theorem pl_cells {sl : Sl} (h : Pl sl) (e : En) (s s' : So) : cellsOn (sl :: e) s s' = cellsOn e s s' := by
  rcases h with rfl | ⟨x, rfl⟩ <;> rfl
theorem pl_open {sl : Sl} (h : Pl sl) (e : En) (s s' : So) : openS (sl :: e) s s' = openS e s s' := by
  rcases h with rfl | ⟨x, rfl⟩ <;> rfl
theorem pl_shut {sl : Sl} (h : Pl sl) (e : En) (s : So) : shutS (sl :: e) s = shutS e s := by
  rcases h with rfl | ⟨x, rfl⟩ <;> rfl
theorem pl_v (d : D) : Pl (.v d) := .inr ⟨d, rfl⟩
theorem pl_no : Pl .no := .inl rfl
theorem pen_lap (m : Nat) (sc : D) (f z : Int) (sl : Sl) (hs : Pl sl) (s : So) (sf : small f = true) : lp (CX m) (.nm 2) penB (.int z) [.v sc, .v (.int f), sl] s = .ok .nx [.v sc, .v (.int ((f * 179 + z).fmod 999999193)), .v (.int z)] s := by
  unfold penB
  simp (disch := first | assumption | omega | exact small_of (by decide) | rfl | decide) only [e_c, e_v, e_neg, negR_int, e_not, e_bin, e_cmp, e_and, e_or, e_ite, andR_t, andR_f, orR_t, orR_f, iteR_t, iteR_f, e_tup, e_lst, e_ix, e_call, e_app, goApp_fn, goApp_clo, e_bi, e_lam, cellsOf_nil, cellsOf_cons, cofV_cel, cofK_some, es_nil, es_cons, s_pass, s_ex, s_set, s_par, s_own, ownR_lst, ownV_no, ownV_v, s_setix, ownO_own, appK_ok, appR_eq, s_app, s_ite, ifR_t, ifR_f, s_loop, s_ret, s_brk, s_cont, s_rais, s_tri, triR_ok, ss_nil, ss_cons, seqR_nx, seqR_rt, seqR_bk, seqR_ct, R.bind_ok, R.bind_exc, R.of_some, rd_eq, rdv_v, rdv_cel, rdc_some, bi_len_tup, bi_len_lst, bi_abs, bi_max2, bi_min2, bi_gcd, bi_repr, bi_int, bi_list_l, bi_list_t, bi_bits, bi_isinst, bi_isinsts, isT_some, isTs_some, isAny_nil, isAny_cons,
    tyOf_int, tyOf_bl, tyOf_str, tyOf_lst, tyOf_tup, tyOf_non, tyOf_dct, bo_add, bo_sub, bo_mul, bo_fdiv, bo_mod, bo_pow, co_lt, co_le, co_gt, co_ge, co_eq, co_ne, co_is_bl, eqv_int, tru_non, tru_bl, tru_int, tru_tup, tru_lst, truR_eq, ix_tup, ix_lst, ix_ref, ixr_str, item0, item1, item2, lookK_cons,
    putAt_ref, putR_dic, keyOf_str, wr_eq, wrv_no, wrv_v, wrv_cel, wrc_cel, asg_nm, asg_tup, asgs_nil, asgs_cons, asgK_some, par_nil, par_cons, back_same, back_sameX, cells_cel, celB_some, celB_none, open_cel, parv_no, parv_v, back_ok, back_exc, cells_nil, cells_v, cells_no, open_nil, open_v, open_no, cells_own, open_own, shut_own, shut_nil, shut_v, shut_no, T_run, for_nil, walk_val_l, walk_val_t,
    fin_rt, fin_nx, fin_exc, env0_eq, List.map_cons, List.map_nil, List.replicate, List.cons_append, List.nil_append, List.append_nil, List.getElem?_cons_zero, List.getElem?_cons_succ, List.set_cons_zero, List.set_cons_succ, Option.map_some, if_true, Nat.reduceSub, Nat.reduceAdd, subTy, Nat.reduceLeDiff, reduceIte, Bool.not_true, Bool.not_false, Nat.reduceBEq, Bool.false_eq_true, Bool.or_false, Bool.or_true, Bool.false_or, Bool.true_or, Bool.and_true, Bool.true_and, Bool.and_false, Bool.false_and, lenI_nil, lenI_cons, Int.reduceAdd, Int.reduceEq, Int.reduceLT, Int.reduceLE, Int.reduceNeg, decide_true, decide_false, eq_self, not_true_eq_false, not_false_eq_true, lp_eq, pl_wr, pl_par, pl_cells, pl_open, pl_shut]
theorem law_pen (n : Nat) (hn : 1 ≤ n) (ns : List Int) (s : So) : ∃ ob, PenOb 0 ob ∧ (CX n).call 15 [.lst (ns.map D.int)] s = .ok (.ref s.length) (s ++ [ob]) := by
  obtain ⟨m, rfl⟩ : ∃ m, n = m + 1 := ⟨n - 1, by omega⟩
  obtain ⟨e', s', h1, f, sl, f0, f1, rfl, hs, rfl⟩ := for_inv (I := fun _ e s1 => ∃ f sl, 0 ≤ f ∧ f < 999999193 ∧ e = [.v (.lst (ns.map D.int)), .v (.int f), sl] ∧ Pl sl ∧ s1 = s) (st := lp (CX m) (.nm 2) penB) (ns.map D.int) 0 [.v (.lst (ns.map D.int)), .v (.int 0), .no] s ⟨0, .no, by omega, by omega, rfl, pl_no, rfl⟩ fun j x e s1 hx hI => by
    obtain ⟨f, sl, f0, f1, rfl, hs, rfl⟩ := hI
    obtain ⟨z, hz, rfl⟩ : ∃ z, ns[j]? = some z ∧ D.int z = x := by
      rw [List.getElem?_map] at hx
      exact Option.map_eq_some_iff.mp hx
    obtain ⟨b1, b2⟩ := fm_pos (f * 179 + z) (m := 999999193) (by omega)
    exact ⟨_, _, pen_lap m _ f z sl hs s1 (small_of (by omega)), _, _, b1, b2, rfl, pl_v _, rfl⟩
  refine ⟨pen (ns.map D.int) 0 0 0 f, ⟨_, _, _, _, _, rfl, fun x hx => ?_, by omega, by omega, by omega, by omega, f0, by omega⟩, ?_⟩
  · obtain ⟨z, _, rfl⟩ := List.mem_map.mp hx
    exact ⟨z, rfl⟩
  rw [call_eq m 15 f15 rfl]
  unfold f15
  refine (runF_eq _ _ _ _ _ _ (by rfl)).trans ?_
  unfold penB at h1
  simp (disch := first | assumption | omega | exact small_of (by decide) | rfl | decide) only [e_c, e_v, e_neg, negR_int, e_not, e_bin, e_cmp, e_and, e_or, e_ite, andR_t, andR_f, orR_t, orR_f, iteR_t, iteR_f, e_tup, e_lst, e_ix, e_call, e_app, goApp_fn, goApp_clo, e_bi, e_lam, cellsOf_nil, cellsOf_cons, cofV_cel, cofK_some, es_nil, es_cons, s_pass, s_ex, s_set, s_par, s_own, ownR_lst, ownV_no, ownV_v, s_setix, ownO_own, appK_ok, appR_eq, s_app, s_ite, ifR_t, ifR_f, s_loop, s_ret, s_brk, s_cont, s_rais, s_tri, triR_ok, ss_nil, ss_cons, seqR_nx, seqR_rt, seqR_bk, seqR_ct, R.bind_ok, R.bind_exc, R.of_some, rd_eq, rdv_v, rdv_cel, rdc_some, bi_len_tup, bi_len_lst, bi_abs, bi_max2, bi_min2, bi_gcd, bi_repr, bi_int, bi_list_l, bi_list_t, bi_bits, bi_isinst, bi_isinsts, isT_some, isTs_some, isAny_nil, isAny_cons,
    tyOf_int, tyOf_bl, tyOf_str, tyOf_lst, tyOf_tup, tyOf_non, tyOf_dct, bo_add, bo_sub, bo_mul, bo_fdiv, bo_mod, bo_pow, co_lt, co_le, co_gt, co_ge, co_eq, co_ne, co_is_bl, eqv_int, tru_non, tru_bl, tru_int, tru_tup, tru_lst, truR_eq, ix_tup, ix_lst, ix_ref, ixr_str, item0, item1, item2, lookK_cons,
    putAt_ref, putR_dic, keyOf_str, wr_eq, wrv_no, wrv_v, wrv_cel, wrc_cel, asg_nm, asg_tup, asgs_nil, asgs_cons, asgK_some, par_nil, par_cons, back_same, back_sameX, cells_cel, celB_some, celB_none, open_cel, parv_no, parv_v, back_ok, back_exc, cells_nil, cells_v, cells_no, open_nil, open_v, open_no, cells_own, open_own, shut_own, shut_nil, shut_v, shut_no, T_run, for_nil, walk_val_l, walk_val_t,
    fin_rt, fin_nx, fin_exc, env0_eq, List.map_cons, List.map_nil, List.replicate, List.cons_append, List.nil_append, List.append_nil, List.getElem?_cons_zero, List.getElem?_cons_succ, List.set_cons_zero, List.set_cons_succ, Option.map_some, if_true, Nat.reduceSub, Nat.reduceAdd, subTy, Nat.reduceLeDiff, reduceIte, Bool.not_true, Bool.not_false, Nat.reduceBEq, Bool.false_eq_true, Bool.or_false, Bool.or_true, Bool.false_or, Bool.true_or, Bool.and_true, Bool.true_and, Bool.and_false, Bool.false_and, lenI_nil, lenI_cons, Int.reduceAdd, Int.reduceEq, Int.reduceLT, Int.reduceLE, Int.reduceNeg, decide_true, decide_false, eq_self, not_true_eq_false, not_false_eq_true, h1, e_dic, pl_wr, pl_par, pl_cells, pl_open, pl_shut]
  rw [if_pos ⟨rfl, by decide +kernel⟩]
  simp (disch := first | assumption | omega | exact small_of (by decide) | rfl | decide) only [e_c, e_v, e_neg, negR_int, e_not, e_bin, e_cmp, e_and, e_or, e_ite, andR_t, andR_f, orR_t, orR_f, iteR_t, iteR_f, e_tup, e_lst, e_ix, e_call, e_app, goApp_fn, goApp_clo, e_bi, e_lam, cellsOf_nil, cellsOf_cons, cofV_cel, cofK_some, es_nil, es_cons, s_pass, s_ex, s_set, s_par, s_own, ownR_lst, ownV_no, ownV_v, s_setix, ownO_own, appK_ok, appR_eq, s_app, s_ite, ifR_t, ifR_f, s_loop, s_ret, s_brk, s_cont, s_rais, s_tri, triR_ok, ss_nil, ss_cons, seqR_nx, seqR_rt, seqR_bk, seqR_ct, R.bind_ok, R.bind_exc, R.of_some, rd_eq, rdv_v, rdv_cel, rdc_some, bi_len_tup, bi_len_lst, bi_abs, bi_max2, bi_min2, bi_gcd, bi_repr, bi_int, bi_list_l, bi_list_t, bi_bits, bi_isinst, bi_isinsts, isT_some, isTs_some, isAny_nil, isAny_cons,
    tyOf_int, tyOf_bl, tyOf_str, tyOf_lst, tyOf_tup, tyOf_non, tyOf_dct, bo_add, bo_sub, bo_mul, bo_fdiv, bo_mod, bo_pow, co_lt, co_le, co_gt, co_ge, co_eq, co_ne, co_is_bl, eqv_int, tru_non, tru_bl, tru_int, tru_tup, tru_lst, truR_eq, ix_tup, ix_lst, ix_ref, ixr_str, item0, item1, item2, lookK_cons,
    putAt_ref, putR_dic, keyOf_str, wr_eq, wrv_no, wrv_v, wrv_cel, wrc_cel, asg_nm, asg_tup, asgs_nil, asgs_cons, asgK_some, par_nil, par_cons, back_same, back_sameX, cells_cel, celB_some, celB_none, open_cel, parv_no, parv_v, back_ok, back_exc, cells_nil, cells_v, cells_no, open_nil, open_v, open_no, cells_own, open_own, shut_own, shut_nil, shut_v, shut_no, T_run, for_nil, walk_val_l, walk_val_t,
    fin_rt, fin_nx, fin_exc, env0_eq, List.map_cons, List.map_nil, List.replicate, List.cons_append, List.nil_append, List.append_nil, List.getElem?_cons_zero, List.getElem?_cons_succ, List.set_cons_zero, List.set_cons_succ, Option.map_some, if_true, Nat.reduceSub, Nat.reduceAdd, subTy, Nat.reduceLeDiff, reduceIte, Bool.not_true, Bool.not_false, Nat.reduceBEq, Bool.false_eq_true, Bool.or_false, Bool.or_true, Bool.false_or, Bool.true_or, Bool.and_true, Bool.true_and, Bool.and_false, Bool.false_and, lenI_nil, lenI_cons, Int.reduceAdd, Int.reduceEq, Int.reduceLT, Int.reduceLE, Int.reduceNeg, decide_true, decide_false, eq_self, not_true_eq_false, not_false_eq_true, pl_shut]
  rfl
def hs27 : List (Nat × List (Sum D Nat)) := [(1, [.inl (.str (.ofString "text")), .inr 0, .inr 1]), (0, [.inl (.str (.ofString "number")), .inr 0, .inr 1]), (2, [.inl (.str (.ofString "row")), .inr 0]), (4, [.inl (.str (.ofString "many")), .inr 0, .inr 1, .inr 2]), (3, [.inl (.str (.ofString "unlike")), .inr 0])]
theorem app_eq (n k : Nat) (l : Ld) (h : pg.lams[k]? = some l) (cs : List Nat) (a : List D) (s : So) : (CX (n + 1)).app k cs a s = runL (CX n) l cs a s := by
  show (match pg.lams[k]? with
    | some l => runL (CX n) l cs a s
    | none => .stuck) = _
  rw [h]
theorem fault (n : Nat) (hn : 1 ≤ n) (k : Nat) (cs : List Nat) (s : So) (x : Xn) (d : D) (ha : (CX (n - 1)).app k cs [] s = .exc x s) (hc : caught hs27 x = true) (hd : hdl hs27 x = some d) : (CX n).call 27 [.clo k cs] s = .ok d s := by
  obtain ⟨m, rfl⟩ : ∃ m, n = m + 1 := ⟨n - 1, by omega⟩
  rw [show m + 1 - 1 = m from rfl] at ha
  rw [call_eq m 27 f27 rfl]
  unfold f27
  refine (runF_eq _ _ _ _ _ _ (by rfl)).trans ?_
  unfold hs27 at hc hd
  have ht := triR_exc (e := [.v (.clo k cs), .no]) (s := s) _ x d hc hd
  simp (disch := first | assumption | omega | exact small_of (by decide) | rfl | decide) only [e_c, e_v, e_neg, negR_int, e_not, e_bin, e_cmp, e_and, e_or, e_ite, andR_t, andR_f, orR_t, orR_f, iteR_t, iteR_f, e_tup, e_lst, e_ix, e_call, e_app, goApp_fn, goApp_clo, e_bi, e_lam, cellsOf_nil, cellsOf_cons, cofV_cel, cofK_some, es_nil, es_cons, s_pass, s_ex, s_set, s_par, s_own, ownR_lst, ownV_no, ownV_v, s_setix, ownO_own, appK_ok, appR_eq, s_app, s_ite, ifR_t, ifR_f, s_loop, s_ret, s_brk, s_cont, s_rais, s_tri, triR_ok, ss_nil, ss_cons, seqR_nx, seqR_rt, seqR_bk, seqR_ct, R.bind_ok, R.bind_exc, R.of_some, rd_eq, rdv_v, rdv_cel, rdc_some, bi_len_tup, bi_len_lst, bi_abs, bi_max2, bi_min2, bi_gcd, bi_repr, bi_int, bi_list_l, bi_list_t, bi_bits, bi_isinst, bi_isinsts, isT_some, isTs_some, isAny_nil, isAny_cons,
    tyOf_int, tyOf_bl, tyOf_str, tyOf_lst, tyOf_tup, tyOf_non, tyOf_dct, bo_add, bo_sub, bo_mul, bo_fdiv, bo_mod, bo_pow, co_lt, co_le, co_gt, co_ge, co_eq, co_ne, co_is_bl, eqv_int, tru_non, tru_bl, tru_int, tru_tup, tru_lst, truR_eq, ix_tup, ix_lst, ix_ref, ixr_str, item0, item1, item2, lookK_cons,
    putAt_ref, putR_dic, keyOf_str, wr_eq, wrv_no, wrv_v, wrv_cel, wrc_cel, asg_nm, asg_tup, asgs_nil, asgs_cons, asgK_some, par_nil, par_cons, back_same, back_sameX, cells_cel, celB_some, celB_none, open_cel, parv_no, parv_v, back_ok, back_exc, cells_nil, cells_v, cells_no, open_nil, open_v, open_no, cells_own, open_own, shut_own, shut_nil, shut_v, shut_no, T_run, for_nil, walk_val_l, walk_val_t,
    fin_rt, fin_nx, fin_exc, env0_eq, List.map_cons, List.map_nil, List.replicate, List.cons_append, List.nil_append, List.append_nil, List.getElem?_cons_zero, List.getElem?_cons_succ, List.set_cons_zero, List.set_cons_succ, Option.map_some, if_true, Nat.reduceSub, Nat.reduceAdd, subTy, Nat.reduceLeDiff, reduceIte, Bool.not_true, Bool.not_false, Nat.reduceBEq, Bool.false_eq_true, Bool.or_false, Bool.or_true, Bool.false_or, Bool.true_or, Bool.and_true, Bool.true_and, Bool.and_false, Bool.false_and, lenI_nil, lenI_cons, Int.reduceAdd, Int.reduceEq, Int.reduceLT, Int.reduceLE, Int.reduceNeg, decide_true, decide_false, eq_self, not_true_eq_false, not_false_eq_true, ha]
  rw [ht]
  simp (disch := first | assumption | omega | exact small_of (by decide) | rfl | decide) only [e_c, e_v, e_neg, negR_int, e_not, e_bin, e_cmp, e_and, e_or, e_ite, andR_t, andR_f, orR_t, orR_f, iteR_t, iteR_f, e_tup, e_lst, e_ix, e_call, e_app, goApp_fn, goApp_clo, e_bi, e_lam, cellsOf_nil, cellsOf_cons, cofV_cel, cofK_some, es_nil, es_cons, s_pass, s_ex, s_set, s_par, s_own, ownR_lst, ownV_no, ownV_v, s_setix, ownO_own, appK_ok, appR_eq, s_app, s_ite, ifR_t, ifR_f, s_loop, s_ret, s_brk, s_cont, s_rais, s_tri, triR_ok, ss_nil, ss_cons, seqR_nx, seqR_rt, seqR_bk, seqR_ct, R.bind_ok, R.bind_exc, R.of_some, rd_eq, rdv_v, rdv_cel, rdc_some, bi_len_tup, bi_len_lst, bi_abs, bi_max2, bi_min2, bi_gcd, bi_repr, bi_int, bi_list_l, bi_list_t, bi_bits, bi_isinst, bi_isinsts, isT_some, isTs_some, isAny_nil, isAny_cons,
    tyOf_int, tyOf_bl, tyOf_str, tyOf_lst, tyOf_tup, tyOf_non, tyOf_dct, bo_add, bo_sub, bo_mul, bo_fdiv, bo_mod, bo_pow, co_lt, co_le, co_gt, co_ge, co_eq, co_ne, co_is_bl, eqv_int, tru_non, tru_bl, tru_int, tru_tup, tru_lst, truR_eq, ix_tup, ix_lst, ix_ref, ixr_str, item0, item1, item2, lookK_cons,
    putAt_ref, putR_dic, keyOf_str, wr_eq, wrv_no, wrv_v, wrv_cel, wrc_cel, asg_nm, asg_tup, asgs_nil, asgs_cons, asgK_some, par_nil, par_cons, back_same, back_sameX, cells_cel, celB_some, celB_none, open_cel, parv_no, parv_v, back_ok, back_exc, cells_nil, cells_v, cells_no, open_nil, open_v, open_no, cells_own, open_own, shut_own, shut_nil, shut_v, shut_no, T_run, for_nil, walk_val_l, walk_val_t,
    fin_rt, fin_nx, fin_exc, env0_eq, List.map_cons, List.map_nil, List.replicate, List.cons_append, List.nil_append, List.append_nil, List.getElem?_cons_zero, List.getElem?_cons_succ, List.set_cons_zero, List.set_cons_succ, Option.map_some, if_true, Nat.reduceSub, Nat.reduceAdd, subTy, Nat.reduceLeDiff, reduceIte, Bool.not_true, Bool.not_false, Nat.reduceBEq, Bool.false_eq_true, Bool.or_false, Bool.or_true, Bool.false_or, Bool.true_or, Bool.and_true, Bool.true_and, Bool.and_false, Bool.false_and, lenI_nil, lenI_cons, Int.reduceAdd, Int.reduceEq, Int.reduceLT, Int.reduceLE, Int.reduceNeg, decide_true, decide_false, eq_self, not_true_eq_false, not_false_eq_true]
def cmpX : Ex := .cmp .eq (.bi .repr (.cons (.call 27 (.cons (.v 1) .nil)) .nil)) (.bi .repr (.cons (.v 2) .nil))
theorem compGo_all {st : D → En → So → KP.R (Option D)} {e : En} {s : So} : ∀ (xs : List D), (∀ x ∈ xs, st x e s = .ok (some (.bl true)) e s) → compGo st xs e s = .ok (xs.map fun _ => .bl true) e s
  | [], _ => rfl
  | x :: r, h => by
    rw [compGo, h x (List.mem_cons_self ..), R.bind_ok, compGo_all r fun y hy => h y (List.mem_cons_of_mem _ hy), R.bind_ok]
    rfl
theorem bools_true : ∀ (xs : List D), bools (xs.map fun _ => D.bl true) = some (xs.map fun _ => true)
  | [] => rfl
  | x :: r => by
    rw [List.map_cons, List.map_cons, bools, bools_true r]
    rfl
theorem all_true : ∀ (xs : List D), (xs.map fun _ => true).all id = true
  | [] => rfl
  | x :: r => by
    rw [List.map_cons, List.all_cons, all_true r]
    rfl
/-- one try: the call raises what is due -/
def TryOk (n : Nat) (s : So) (x : D) : Prop := ∃ k cs d, x = .tup [.clo k cs, d] ∧ (CX n).call 27 [.clo k cs] s = .ok d s ∧ shB d = true ∧ shN d ≤ 1000000 ∧ shD d ≤ 60
theorem try_step (m : Nat) (s : So) (xs : List D) (x : D) (h : TryOk m s x) : stp (CX m) [1, 2] (.tup [.nm 1, .nm 2]) .no cmpX x [.v (.lst xs), .no, .no] s = .ok (some (.bl true)) [.v (.lst xs), .no, .no] s := by
  obtain ⟨k, cs, d, rfl, h1, h2, h3, h4⟩ := h
  obtain ⟨t, ht, hs⟩ := repr_ok h2 h3 h4
  have he := same_str hs
  unfold stp cmpX
  simp (disch := first | assumption | omega | exact small_of (by decide) | rfl | decide) only [e_c, e_v, e_neg, negR_int, e_not, e_bin, e_cmp, e_and, e_or, e_ite, andR_t, andR_f, orR_t, orR_f, iteR_t, iteR_f, e_tup, e_lst, e_ix, e_call, e_app, goApp_fn, goApp_clo, e_bi, e_lam, cellsOf_nil, cellsOf_cons, cofV_cel, cofK_some, es_nil, es_cons, s_pass, s_ex, s_set, s_par, s_own, ownR_lst, ownV_no, ownV_v, s_setix, ownO_own, appK_ok, appR_eq, s_app, s_ite, ifR_t, ifR_f, s_loop, s_ret, s_brk, s_cont, s_rais, s_tri, triR_ok, ss_nil, ss_cons, seqR_nx, seqR_rt, seqR_bk, seqR_ct, R.bind_ok, R.bind_exc, R.of_some, rd_eq, rdv_v, rdv_cel, rdc_some, bi_len_tup, bi_len_lst, bi_abs, bi_max2, bi_min2, bi_gcd, bi_repr, bi_int, bi_list_l, bi_list_t, bi_bits, bi_isinst, bi_isinsts, isT_some, isTs_some, isAny_nil, isAny_cons,
    tyOf_int, tyOf_bl, tyOf_str, tyOf_lst, tyOf_tup, tyOf_non, tyOf_dct, bo_add, bo_sub, bo_mul, bo_fdiv, bo_mod, bo_pow, co_lt, co_le, co_gt, co_ge, co_eq, co_ne, co_is_bl, eqv_int, tru_non, tru_bl, tru_int, tru_tup, tru_lst, truR_eq, ix_tup, ix_lst, ix_ref, ixr_str, item0, item1, item2, lookK_cons,
    putAt_ref, putR_dic, keyOf_str, wr_eq, wrv_no, wrv_v, wrv_cel, wrc_cel, asg_nm, asg_tup, asgs_nil, asgs_cons, asgK_some, par_nil, par_cons, back_same, back_sameX, cells_cel, celB_some, celB_none, open_cel, parv_no, parv_v, back_ok, back_exc, cells_nil, cells_v, cells_no, open_nil, open_v, open_no, cells_own, open_own, shut_own, shut_nil, shut_v, shut_no, T_run, for_nil, walk_val_l, walk_val_t,
    fin_rt, fin_nx, fin_exc, env0_eq, List.map_cons, List.map_nil, List.replicate, List.cons_append, List.nil_append, List.append_nil, List.getElem?_cons_zero, List.getElem?_cons_succ, List.set_cons_zero, List.set_cons_succ, Option.map_some, if_true, Nat.reduceSub, Nat.reduceAdd, subTy, Nat.reduceLeDiff, reduceIte, Bool.not_true, Bool.not_false, Nat.reduceBEq, Bool.false_eq_true, Bool.or_false, Bool.or_true, Bool.false_or, Bool.true_or, Bool.and_true, Bool.true_and, Bool.and_false, Bool.false_and, lenI_nil, lenI_cons, Int.reduceAdd, Int.reduceEq, Int.reduceLT, Int.reduceLE, Int.reduceNeg, decide_true, decide_false, eq_self, not_true_eq_false, not_false_eq_true, To, h1, ht, he, wipeE]
theorem are_due (n : Nat) (hn : 1 ≤ n) (s : So) (xs : List D) (hl : xs.length ≤ 1000) (h : ∀ x ∈ xs, TryOk (n - 1) s x) : (CX n).call 28 [.lst xs] s = .ok (.bl true) s := by
  obtain ⟨m, rfl⟩ : ∃ m, n = m + 1 := ⟨n - 1, by omega⟩
  rw [show m + 1 - 1 = m from rfl] at h
  rw [call_eq m 28 f28 rfl]
  unfold f28
  refine (runF_eq _ _ _ _ _ _ (by rfl)).trans ?_
  have hg := compGo_all (st := stp (CX m) [1, 2] (.tup [.nm 1, .nm 2]) .no cmpX) (e := [.v (.lst xs), .no, .no]) (s := s) xs fun x hx => try_step m s xs x (h x hx)
  unfold cmpX at hg
  have hz : (xs.map fun _ => D.bl true).length ≤ sizeLine := by
    rw [List.length_map]
    unfold sizeLine
    omega
  have hc : ∀ e1 s1, (KP.R.ok (xs.map fun _ => D.bl true) [.v (.lst xs), .no, .no] s : KP.R (List D)).calm.bind (cfin [1, 2] e1 s1) = if (xs.map fun _ => D.bl true).length ≤ sizeLine then .ok (.lst (xs.map fun _ => D.bl true)) (openE e1 (backE e1 [.v (.lst xs), .no, .no] [1, 2])) (openS e1 s1 s) else .stuck := fun e1 s1 => rfl
  have hw : wipeE (shutE s [.v (.lst xs), .no, .no]) [1, 2] = [.v (.lst xs), .no, .no] := rfl
  have hsh : shutS [.v (.lst xs), .no, .no] s = s := rfl
  have ho : openS [.v (.lst xs), .no, .no] s s = s := rfl
  have hb : openE [.v (.lst xs), .no, .no] (backE [.v (.lst xs), .no, .no] [.v (.lst xs), .no, .no] [1, 2]) = [.v (.lst xs), .no, .no] := rfl
  simp (disch := first | assumption | omega | exact small_of (by decide) | rfl | decide) only [e_c, e_v, e_neg, negR_int, e_not, e_bin, e_cmp, e_and, e_or, e_ite, andR_t, andR_f, orR_t, orR_f, iteR_t, iteR_f, e_tup, e_lst, e_ix, e_call, e_app, goApp_fn, goApp_clo, e_bi, e_lam, cellsOf_nil, cellsOf_cons, cofV_cel, cofK_some, es_nil, es_cons, s_pass, s_ex, s_set, s_par, s_own, ownR_lst, ownV_no, ownV_v, s_setix, ownO_own, appK_ok, appR_eq, s_app, s_ite, ifR_t, ifR_f, s_loop, s_ret, s_brk, s_cont, s_rais, s_tri, triR_ok, ss_nil, ss_cons, seqR_nx, seqR_rt, seqR_bk, seqR_ct, R.bind_ok, R.bind_exc, R.of_some, rd_eq, rdv_v, rdv_cel, rdc_some, bi_len_tup, bi_len_lst, bi_abs, bi_max2, bi_min2, bi_gcd, bi_repr, bi_int, bi_list_l, bi_list_t, bi_bits, bi_isinst, bi_isinsts, isT_some, isTs_some, isAny_nil, isAny_cons,
    tyOf_int, tyOf_bl, tyOf_str, tyOf_lst, tyOf_tup, tyOf_non, tyOf_dct, bo_add, bo_sub, bo_mul, bo_fdiv, bo_mod, bo_pow, co_lt, co_le, co_gt, co_ge, co_eq, co_ne, co_is_bl, eqv_int, tru_non, tru_bl, tru_int, tru_tup, tru_lst, truR_eq, ix_tup, ix_lst, ix_ref, ixr_str, item0, item1, item2, lookK_cons,
    putAt_ref, putR_dic, keyOf_str, wr_eq, wrv_no, wrv_v, wrv_cel, wrc_cel, asg_nm, asg_tup, asgs_nil, asgs_cons, asgK_some, par_nil, par_cons, back_same, back_sameX, cells_cel, celB_some, celB_none, open_cel, parv_no, parv_v, back_ok, back_exc, cells_nil, cells_v, cells_no, open_nil, open_v, open_no, cells_own, open_own, shut_own, shut_nil, shut_v, shut_no, T_run, for_nil, walk_val_l, walk_val_t,
    fin_rt, fin_nx, fin_exc, env0_eq, List.map_cons, List.map_nil, List.replicate, List.cons_append, List.nil_append, List.append_nil, List.getElem?_cons_zero, List.getElem?_cons_succ, List.set_cons_zero, List.set_cons_succ, Option.map_some, if_true, Nat.reduceSub, Nat.reduceAdd, subTy, Nat.reduceLeDiff, reduceIte, Bool.not_true, Bool.not_false, Nat.reduceBEq, Bool.false_eq_true, Bool.or_false, Bool.or_true, Bool.false_or, Bool.true_or, Bool.and_true, Bool.true_and, Bool.and_false, Bool.false_and, lenI_nil, lenI_cons, Int.reduceAdd, Int.reduceEq, Int.reduceLT, Int.reduceLE, Int.reduceNeg, decide_true, decide_false, eq_self, not_true_eq_false, not_false_eq_true, E_comp, hw, hsh, hg, hc, if_pos hz, ho, hb, bi_all, bools_true, all_true]
def lb0 : KP.St := .par [3, 4] (.cons (.call 25 (.cons (.v 1) (.cons (.call 17 (.cons (.v 1) (.cons (.lst (.cons (.c (.int 4)) (.cons (.c (.int 99999)) .nil))) .nil))) .nil))) (.cons (.call 25 (.cons (.v 1) (.cons (.c (.int 9)) .nil))) .nil))
def lb1 : KP.St := .ite (.cmp .eq (.call 16 (.cons (.v 1) (.cons (.c (.int 3)) .nil))) (.c (.int 0))) (.cons (.set (.nm 3) (.call 19 (.cons (.bin .sub (.bin .mul (.ix (.v 3) (.c (.int 0))) (.c (.int 5))) (.c (.int 3))) (.cons (.c (.int 999959)) .nil)))) .nil) (.nil)
def lb2 : KP.St := .par [5, 6] (.cons (.call 26 (.cons (.v 1) (.cons (.v 3) .nil))) (.cons (.call 26 (.cons (.v 1) (.cons (.v 4) .nil))) .nil))
def lb3 : KP.St := .set (.nm 7) (.lst (.cons (.v 3) (.cons (.call 20 (.cons (.v 3) (.cons (.v 4) .nil))) (.cons (.call 23 (.cons (.v 3) (.cons (.v 4) .nil))) (.cons (.call 21 (.cons (.v 3) (.cons (.v 4) .nil))) (.cons (.call 22 (.cons (.v 3) (.cons (.v 4) .nil))) .nil))))))
def lb4 : KP.St := .ite (.cmp .ne (.bi .repr (.cons (.lst (.cons (.call 4 (.cons (.v 5) .nil)) (.cons (.call 10 (.cons (.v 5) (.cons (.v 6) .nil))) (.cons (.call 11 (.cons (.v 5) (.cons (.v 6) .nil))) (.cons (.call 12 (.cons (.v 5) (.cons (.v 6) .nil))) (.cons (.call 14 (.cons (.v 5) (.cons (.v 6) .nil))) .nil)))))) .nil)) (.bi .repr (.cons (.v 7) .nil))) (.cons (.ret (.c (.bl false))) .nil) (.nil)
def lb5 : KP.St := .ite (.cmp .ne (.bi .repr (.cons (.call 2 (.cons (.v 5) .nil)) .nil)) (.bi .repr (.cons (.not (.bi .isinst (.cons (.v 5) (.cons (.c (.ty 3)) .nil)))) .nil))) (.cons (.ret (.c (.bl false))) .nil) (.nil)
def lb6 : KP.St := .ite (.and (.cmp .ne (.ix (.v 4) (.c (.int 0))) (.c (.int 0))) (.cmp .ne (.bi .repr (.cons (.call 13 (.cons (.v 5) (.cons (.v 6) .nil))) .nil)) (.bi .repr (.cons (.call 24 (.cons (.v 3) (.cons (.v 4) .nil))) .nil)))) (.cons (.ret (.c (.bl false))) .nil) (.nil)
theorem b0_ok (m : Nat) (sc : D) (x2 x3 x4 x5 x6 x7 x8 : Sl) (p2 : Pl x2) (p3 : Pl x3) (p4 : Pl x4) (p5 : Pl x5) (p6 : Pl x6) (p7 : Pl x7) (p8 : Pl x8) (o0 o1 o2 o3 : Ob) (mst : Int) (r1 r2 : D) (h1 : (CX m).call 17 [.ref 3, .lst [.int 4, .int 99999]] [.cel none, .cel none, .cel none, o0] = .ok (.int mst) [.cel none, .cel none, .cel none, o1]) (h2 : (CX m).call 25 [.ref 3, .int mst] [.cel none, .cel none, .cel none, o1] = .ok r1 [.cel none, .cel none, .cel none, o2]) (h3 : (CX m).call 25 [.ref 3, .int 9] [.cel none, .cel none, .cel none, o2] = .ok r2 [.cel none, .cel none, .cel none, o3]) : KP.S (CX m) lb0 [.v sc, .v (.ref 3), x2, x3, x4, x5, x6, x7, x8, .cel 0, .cel 1, .cel 2] [.cel none, .cel none, .cel none, o0] = .ok .nx [.v sc, .v (.ref 3), x2, .v r1, .v r2, x5, x6, x7, x8, .cel 0, .cel 1, .cel 2] [.cel none, .cel none, .cel none, o3] := by
  unfold lb0
  simp (disch := first | assumption | omega | exact small_of (by decide) | rfl | decide) only [e_c, e_v, e_neg, negR_int, e_not, e_bin, e_cmp, e_and, e_or, e_ite, andR_t, andR_f, orR_t, orR_f, iteR_t, iteR_f, e_tup, e_lst, e_ix, e_call, e_app, goApp_fn, goApp_clo, e_bi, e_lam, cellsOf_nil, cellsOf_cons, cofV_cel, cofK_some, es_nil, es_cons, s_pass, s_ex, s_set, s_par, s_own, ownR_lst, ownV_no, ownV_v, s_setix, ownO_own, appK_ok, appR_eq, s_app, s_ite, ifR_t, ifR_f, s_loop, s_ret, s_brk, s_cont, s_rais, s_tri, triR_ok, ss_nil, ss_cons, seqR_nx, seqR_rt, seqR_bk, seqR_ct, R.bind_ok, R.bind_exc, R.of_some, rd_eq, rdv_v, rdv_cel, rdc_some, bi_len_tup, bi_len_lst, bi_abs, bi_max2, bi_min2, bi_gcd, bi_repr, bi_int, bi_list_l, bi_list_t, bi_bits, bi_isinst, bi_isinsts, isT_some, isTs_some, isAny_nil, isAny_cons,
    tyOf_int, tyOf_bl, tyOf_str, tyOf_lst, tyOf_tup, tyOf_non, tyOf_dct, bo_add, bo_sub, bo_mul, bo_fdiv, bo_mod, bo_pow, co_lt, co_le, co_gt, co_ge, co_eq, co_ne, co_is_bl, eqv_int, tru_non, tru_bl, tru_int, tru_tup, tru_lst, truR_eq, ix_tup, ix_lst, ix_ref, ixr_str, item0, item1, item2, lookK_cons,
    putAt_ref, putR_dic, keyOf_str, wr_eq, wrv_no, wrv_v, wrv_cel, wrc_cel, asg_nm, asg_tup, asgs_nil, asgs_cons, asgK_some, par_nil, par_cons, back_same, back_sameX, cells_cel, celB_some, celB_none, open_cel, parv_no, parv_v, back_ok, back_exc, cells_nil, cells_v, cells_no, open_nil, open_v, open_no, cells_own, open_own, shut_own, shut_nil, shut_v, shut_no, T_run, for_nil, walk_val_l, walk_val_t,
    fin_rt, fin_nx, fin_exc, env0_eq, List.map_cons, List.map_nil, List.replicate, List.cons_append, List.nil_append, List.append_nil, List.getElem?_cons_zero, List.getElem?_cons_succ, List.set_cons_zero, List.set_cons_succ, Option.map_some, if_true, Nat.reduceSub, Nat.reduceAdd, subTy, Nat.reduceLeDiff, reduceIte, Bool.not_true, Bool.not_false, Nat.reduceBEq, Bool.false_eq_true, Bool.or_false, Bool.or_true, Bool.false_or, Bool.true_or, Bool.and_true, Bool.true_and, Bool.and_false, Bool.false_and, lenI_nil, lenI_cons, Int.reduceAdd, Int.reduceEq, Int.reduceLT, Int.reduceLE, Int.reduceNeg, decide_true, decide_false, eq_self, not_true_eq_false, not_false_eq_true, pl_wr, pl_par, pl_cells, pl_open, pl_shut, Option.getD_some, h1, h2, h3]
theorem b1_0 (m : Nat) (sc : D) (x2 x3 x4 x5 x6 x7 x8 : Sl) (p2 : Pl x2) (p3 : Pl x3) (p4 : Pl x4) (p5 : Pl x5) (p6 : Pl x6) (p7 : Pl x7) (p8 : Pl x8) (o0 o1 : Ob) (a b : Int) (r : D) (sa : small a = true) (h1 : (CX m).call 16 [.ref 3, .int 3] [.cel none, .cel none, .cel none, o0] = .ok (.int 0) [.cel none, .cel none, .cel none, o1]) (h2 : (CX m).call 19 [.int (a * 5 - 3), .int 999959] [.cel none, .cel none, .cel none, o1] = .ok r [.cel none, .cel none, .cel none, o1]) : KP.S (CX m) lb1 [.v sc, .v (.ref 3), x2, .v (rt a b), x4, x5, x6, x7, x8, .cel 0, .cel 1, .cel 2] [.cel none, .cel none, .cel none, o0] = .ok .nx [.v sc, .v (.ref 3), x2, .v r, x4, x5, x6, x7, x8, .cel 0, .cel 1, .cel 2] [.cel none, .cel none, .cel none, o1] := by
  unfold lb1
  simp (disch := first | assumption | omega | exact small_of (by decide) | rfl | decide) only [e_c, e_v, e_neg, negR_int, e_not, e_bin, e_cmp, e_and, e_or, e_ite, andR_t, andR_f, orR_t, orR_f, iteR_t, iteR_f, e_tup, e_lst, e_ix, e_call, e_app, goApp_fn, goApp_clo, e_bi, e_lam, cellsOf_nil, cellsOf_cons, cofV_cel, cofK_some, es_nil, es_cons, s_pass, s_ex, s_set, s_par, s_own, ownR_lst, ownV_no, ownV_v, s_setix, ownO_own, appK_ok, appR_eq, s_app, s_ite, ifR_t, ifR_f, s_loop, s_ret, s_brk, s_cont, s_rais, s_tri, triR_ok, ss_nil, ss_cons, seqR_nx, seqR_rt, seqR_bk, seqR_ct, R.bind_ok, R.bind_exc, R.of_some, rd_eq, rdv_v, rdv_cel, rdc_some, bi_len_tup, bi_len_lst, bi_abs, bi_max2, bi_min2, bi_gcd, bi_repr, bi_int, bi_list_l, bi_list_t, bi_bits, bi_isinst, bi_isinsts, isT_some, isTs_some, isAny_nil, isAny_cons,
    tyOf_int, tyOf_bl, tyOf_str, tyOf_lst, tyOf_tup, tyOf_non, tyOf_dct, bo_add, bo_sub, bo_mul, bo_fdiv, bo_mod, bo_pow, co_lt, co_le, co_gt, co_ge, co_eq, co_ne, co_is_bl, eqv_int, tru_non, tru_bl, tru_int, tru_tup, tru_lst, truR_eq, ix_tup, ix_lst, ix_ref, ixr_str, item0, item1, item2, lookK_cons,
    putAt_ref, putR_dic, keyOf_str, wr_eq, wrv_no, wrv_v, wrv_cel, wrc_cel, asg_nm, asg_tup, asgs_nil, asgs_cons, asgK_some, par_nil, par_cons, back_same, back_sameX, cells_cel, celB_some, celB_none, open_cel, parv_no, parv_v, back_ok, back_exc, cells_nil, cells_v, cells_no, open_nil, open_v, open_no, cells_own, open_own, shut_own, shut_nil, shut_v, shut_no, T_run, for_nil, walk_val_l, walk_val_t,
    fin_rt, fin_nx, fin_exc, env0_eq, List.map_cons, List.map_nil, List.replicate, List.cons_append, List.nil_append, List.append_nil, List.getElem?_cons_zero, List.getElem?_cons_succ, List.set_cons_zero, List.set_cons_succ, Option.map_some, if_true, Nat.reduceSub, Nat.reduceAdd, subTy, Nat.reduceLeDiff, reduceIte, Bool.not_true, Bool.not_false, Nat.reduceBEq, Bool.false_eq_true, Bool.or_false, Bool.or_true, Bool.false_or, Bool.true_or, Bool.and_true, Bool.true_and, Bool.and_false, Bool.false_and, lenI_nil, lenI_cons, Int.reduceAdd, Int.reduceEq, Int.reduceLT, Int.reduceLE, Int.reduceNeg, decide_true, decide_false, eq_self, not_true_eq_false, not_false_eq_true, pl_wr, pl_par, pl_cells, pl_open, pl_shut, Option.getD_some, h1, h2, ix_rt0]
theorem b1_1 (m : Nat) (sc : D) (x2 x3 x4 x5 x6 x7 x8 : Sl) (p2 : Pl x2) (p3 : Pl x3) (p4 : Pl x4) (p5 : Pl x5) (p6 : Pl x6) (p7 : Pl x7) (p8 : Pl x8) (o0 o1 : Ob) (v : Int) (r : D) (hv : ¬ v = 0) (h1 : (CX m).call 16 [.ref 3, .int 3] [.cel none, .cel none, .cel none, o0] = .ok (.int v) [.cel none, .cel none, .cel none, o1]) : KP.S (CX m) lb1 [.v sc, .v (.ref 3), x2, .v r, x4, x5, x6, x7, x8, .cel 0, .cel 1, .cel 2] [.cel none, .cel none, .cel none, o0] = .ok .nx [.v sc, .v (.ref 3), x2, .v r, x4, x5, x6, x7, x8, .cel 0, .cel 1, .cel 2] [.cel none, .cel none, .cel none, o1] := by
  unfold lb1
  simp (disch := first | assumption | omega | exact small_of (by decide) | rfl | decide) only [e_c, e_v, e_neg, negR_int, e_not, e_bin, e_cmp, e_and, e_or, e_ite, andR_t, andR_f, orR_t, orR_f, iteR_t, iteR_f, e_tup, e_lst, e_ix, e_call, e_app, goApp_fn, goApp_clo, e_bi, e_lam, cellsOf_nil, cellsOf_cons, cofV_cel, cofK_some, es_nil, es_cons, s_pass, s_ex, s_set, s_par, s_own, ownR_lst, ownV_no, ownV_v, s_setix, ownO_own, appK_ok, appR_eq, s_app, s_ite, ifR_t, ifR_f, s_loop, s_ret, s_brk, s_cont, s_rais, s_tri, triR_ok, ss_nil, ss_cons, seqR_nx, seqR_rt, seqR_bk, seqR_ct, R.bind_ok, R.bind_exc, R.of_some, rd_eq, rdv_v, rdv_cel, rdc_some, bi_len_tup, bi_len_lst, bi_abs, bi_max2, bi_min2, bi_gcd, bi_repr, bi_int, bi_list_l, bi_list_t, bi_bits, bi_isinst, bi_isinsts, isT_some, isTs_some, isAny_nil, isAny_cons,
    tyOf_int, tyOf_bl, tyOf_str, tyOf_lst, tyOf_tup, tyOf_non, tyOf_dct, bo_add, bo_sub, bo_mul, bo_fdiv, bo_mod, bo_pow, co_lt, co_le, co_gt, co_ge, co_eq, co_ne, co_is_bl, eqv_int, tru_non, tru_bl, tru_int, tru_tup, tru_lst, truR_eq, ix_tup, ix_lst, ix_ref, ixr_str, item0, item1, item2, lookK_cons,
    putAt_ref, putR_dic, keyOf_str, wr_eq, wrv_no, wrv_v, wrv_cel, wrc_cel, asg_nm, asg_tup, asgs_nil, asgs_cons, asgK_some, par_nil, par_cons, back_same, back_sameX, cells_cel, celB_some, celB_none, open_cel, parv_no, parv_v, back_ok, back_exc, cells_nil, cells_v, cells_no, open_nil, open_v, open_no, cells_own, open_own, shut_own, shut_nil, shut_v, shut_no, T_run, for_nil, walk_val_l, walk_val_t,
    fin_rt, fin_nx, fin_exc, env0_eq, List.map_cons, List.map_nil, List.replicate, List.cons_append, List.nil_append, List.append_nil, List.getElem?_cons_zero, List.getElem?_cons_succ, List.set_cons_zero, List.set_cons_succ, Option.map_some, if_true, Nat.reduceSub, Nat.reduceAdd, subTy, Nat.reduceLeDiff, reduceIte, Bool.not_true, Bool.not_false, Nat.reduceBEq, Bool.false_eq_true, Bool.or_false, Bool.or_true, Bool.false_or, Bool.true_or, Bool.and_true, Bool.true_and, Bool.and_false, Bool.false_and, lenI_nil, lenI_cons, Int.reduceAdd, Int.reduceEq, Int.reduceLT, Int.reduceLE, Int.reduceNeg, decide_true, decide_false, eq_self, not_true_eq_false, not_false_eq_true, pl_wr, pl_par, pl_cells, pl_open, pl_shut, Option.getD_some, h1, hv]
theorem b2_ok (m : Nat) (sc : D) (x2 x3 x4 x5 x6 x7 x8 : Sl) (p2 : Pl x2) (p3 : Pl x3) (p4 : Pl x4) (p5 : Pl x5) (p6 : Pl x6) (p7 : Pl x7) (p8 : Pl x8) (o0 o1 o2 : Ob) (r1 r2 a1 a2 : D) (h1 : (CX m).call 26 [.ref 3, r1] [.cel none, .cel none, .cel none, o0] = .ok a1 [.cel none, .cel none, .cel none, o1]) (h2 : (CX m).call 26 [.ref 3, r2] [.cel none, .cel none, .cel none, o1] = .ok a2 [.cel none, .cel none, .cel none, o2]) : KP.S (CX m) lb2 [.v sc, .v (.ref 3), x2, .v r1, .v r2, x5, x6, x7, x8, .cel 0, .cel 1, .cel 2] [.cel none, .cel none, .cel none, o0] = .ok .nx [.v sc, .v (.ref 3), x2, .v r1, .v r2, .v a1, .v a2, x7, x8, .cel 0, .cel 1, .cel 2] [.cel none, .cel none, .cel none, o2] := by
  unfold lb2
  simp (disch := first | assumption | omega | exact small_of (by decide) | rfl | decide) only [e_c, e_v, e_neg, negR_int, e_not, e_bin, e_cmp, e_and, e_or, e_ite, andR_t, andR_f, orR_t, orR_f, iteR_t, iteR_f, e_tup, e_lst, e_ix, e_call, e_app, goApp_fn, goApp_clo, e_bi, e_lam, cellsOf_nil, cellsOf_cons, cofV_cel, cofK_some, es_nil, es_cons, s_pass, s_ex, s_set, s_par, s_own, ownR_lst, ownV_no, ownV_v, s_setix, ownO_own, appK_ok, appR_eq, s_app, s_ite, ifR_t, ifR_f, s_loop, s_ret, s_brk, s_cont, s_rais, s_tri, triR_ok, ss_nil, ss_cons, seqR_nx, seqR_rt, seqR_bk, seqR_ct, R.bind_ok, R.bind_exc, R.of_some, rd_eq, rdv_v, rdv_cel, rdc_some, bi_len_tup, bi_len_lst, bi_abs, bi_max2, bi_min2, bi_gcd, bi_repr, bi_int, bi_list_l, bi_list_t, bi_bits, bi_isinst, bi_isinsts, isT_some, isTs_some, isAny_nil, isAny_cons,
    tyOf_int, tyOf_bl, tyOf_str, tyOf_lst, tyOf_tup, tyOf_non, tyOf_dct, bo_add, bo_sub, bo_mul, bo_fdiv, bo_mod, bo_pow, co_lt, co_le, co_gt, co_ge, co_eq, co_ne, co_is_bl, eqv_int, tru_non, tru_bl, tru_int, tru_tup, tru_lst, truR_eq, ix_tup, ix_lst, ix_ref, ixr_str, item0, item1, item2, lookK_cons,
    putAt_ref, putR_dic, keyOf_str, wr_eq, wrv_no, wrv_v, wrv_cel, wrc_cel, asg_nm, asg_tup, asgs_nil, asgs_cons, asgK_some, par_nil, par_cons, back_same, back_sameX, cells_cel, celB_some, celB_none, open_cel, parv_no, parv_v, back_ok, back_exc, cells_nil, cells_v, cells_no, open_nil, open_v, open_no, cells_own, open_own, shut_own, shut_nil, shut_v, shut_no, T_run, for_nil, walk_val_l, walk_val_t,
    fin_rt, fin_nx, fin_exc, env0_eq, List.map_cons, List.map_nil, List.replicate, List.cons_append, List.nil_append, List.append_nil, List.getElem?_cons_zero, List.getElem?_cons_succ, List.set_cons_zero, List.set_cons_succ, Option.map_some, if_true, Nat.reduceSub, Nat.reduceAdd, subTy, Nat.reduceLeDiff, reduceIte, Bool.not_true, Bool.not_false, Nat.reduceBEq, Bool.false_eq_true, Bool.or_false, Bool.or_true, Bool.false_or, Bool.true_or, Bool.and_true, Bool.true_and, Bool.and_false, Bool.false_and, lenI_nil, lenI_cons, Int.reduceAdd, Int.reduceEq, Int.reduceLT, Int.reduceLE, Int.reduceNeg, decide_true, decide_false, eq_self, not_true_eq_false, not_false_eq_true, pl_wr, pl_par, pl_cells, pl_open, pl_shut, Option.getD_some, h1, h2]
theorem b3_ok (m : Nat) (sc : D) (x2 x3 x4 x5 x6 x7 x8 : Sl) (p2 : Pl x2) (p3 : Pl x3) (p4 : Pl x4) (p5 : Pl x5) (p6 : Pl x6) (p7 : Pl x7) (p8 : Pl x8) (o : Ob) (r1 r2 y1 y2 y3 y4 : D) (h1 : (CX m).call 20 [r1, r2] [.cel none, .cel none, .cel none, o] = .ok y1 [.cel none, .cel none, .cel none, o]) (h2 : (CX m).call 23 [r1, r2] [.cel none, .cel none, .cel none, o] = .ok y2 [.cel none, .cel none, .cel none, o]) (h3 : (CX m).call 21 [r1, r2] [.cel none, .cel none, .cel none, o] = .ok y3 [.cel none, .cel none, .cel none, o]) (h4 : (CX m).call 22 [r1, r2] [.cel none, .cel none, .cel none, o] = .ok y4 [.cel none, .cel none, .cel none, o]) : KP.S (CX m) lb3 [.v sc, .v (.ref 3), x2, .v r1, .v r2, x5, x6, x7, x8, .cel 0, .cel 1, .cel 2] [.cel none, .cel none, .cel none, o] = .ok .nx [.v sc, .v (.ref 3), x2, .v r1, .v r2, x5, x6, .v (.lst [r1, y1, y2, y3, y4]), x8, .cel 0, .cel 1, .cel 2] [.cel none, .cel none, .cel none, o] := by
  unfold lb3
  simp (disch := first | assumption | omega | exact small_of (by decide) | rfl | decide) only [e_c, e_v, e_neg, negR_int, e_not, e_bin, e_cmp, e_and, e_or, e_ite, andR_t, andR_f, orR_t, orR_f, iteR_t, iteR_f, e_tup, e_lst, e_ix, e_call, e_app, goApp_fn, goApp_clo, e_bi, e_lam, cellsOf_nil, cellsOf_cons, cofV_cel, cofK_some, es_nil, es_cons, s_pass, s_ex, s_set, s_par, s_own, ownR_lst, ownV_no, ownV_v, s_setix, ownO_own, appK_ok, appR_eq, s_app, s_ite, ifR_t, ifR_f, s_loop, s_ret, s_brk, s_cont, s_rais, s_tri, triR_ok, ss_nil, ss_cons, seqR_nx, seqR_rt, seqR_bk, seqR_ct, R.bind_ok, R.bind_exc, R.of_some, rd_eq, rdv_v, rdv_cel, rdc_some, bi_len_tup, bi_len_lst, bi_abs, bi_max2, bi_min2, bi_gcd, bi_repr, bi_int, bi_list_l, bi_list_t, bi_bits, bi_isinst, bi_isinsts, isT_some, isTs_some, isAny_nil, isAny_cons,
    tyOf_int, tyOf_bl, tyOf_str, tyOf_lst, tyOf_tup, tyOf_non, tyOf_dct, bo_add, bo_sub, bo_mul, bo_fdiv, bo_mod, bo_pow, co_lt, co_le, co_gt, co_ge, co_eq, co_ne, co_is_bl, eqv_int, tru_non, tru_bl, tru_int, tru_tup, tru_lst, truR_eq, ix_tup, ix_lst, ix_ref, ixr_str, item0, item1, item2, lookK_cons,
    putAt_ref, putR_dic, keyOf_str, wr_eq, wrv_no, wrv_v, wrv_cel, wrc_cel, asg_nm, asg_tup, asgs_nil, asgs_cons, asgK_some, par_nil, par_cons, back_same, back_sameX, cells_cel, celB_some, celB_none, open_cel, parv_no, parv_v, back_ok, back_exc, cells_nil, cells_v, cells_no, open_nil, open_v, open_no, cells_own, open_own, shut_own, shut_nil, shut_v, shut_no, T_run, for_nil, walk_val_l, walk_val_t,
    fin_rt, fin_nx, fin_exc, env0_eq, List.map_cons, List.map_nil, List.replicate, List.cons_append, List.nil_append, List.append_nil, List.getElem?_cons_zero, List.getElem?_cons_succ, List.set_cons_zero, List.set_cons_succ, Option.map_some, if_true, Nat.reduceSub, Nat.reduceAdd, subTy, Nat.reduceLeDiff, reduceIte, Bool.not_true, Bool.not_false, Nat.reduceBEq, Bool.false_eq_true, Bool.or_false, Bool.or_true, Bool.false_or, Bool.true_or, Bool.and_true, Bool.true_and, Bool.and_false, Bool.false_and, lenI_nil, lenI_cons, Int.reduceAdd, Int.reduceEq, Int.reduceLT, Int.reduceLE, Int.reduceNeg, decide_true, decide_false, eq_self, not_true_eq_false, not_false_eq_true, pl_wr, pl_par, pl_cells, pl_open, pl_shut, Option.getD_some, h1, h2, h3, h4]
theorem b4_ok (m : Nat) (sc : D) (x2 x3 x4 x5 x6 x7 x8 : Sl) (p2 : Pl x2) (p3 : Pl x3) (p4 : Pl x4) (p5 : Pl x5) (p6 : Pl x6) (p7 : Pl x7) (p8 : Pl x8) (o : Ob) (a1 a2 r1 y1 y2 y3 y4 : D) (t : Str) (h0 : (CX m).call 4 [a1] [.cel none, .cel none, .cel none, o] = .ok r1 [.cel none, .cel none, .cel none, o]) (h1 : (CX m).call 10 [a1, a2] [.cel none, .cel none, .cel none, o] = .ok y1 [.cel none, .cel none, .cel none, o]) (h2 : (CX m).call 11 [a1, a2] [.cel none, .cel none, .cel none, o] = .ok y2 [.cel none, .cel none, .cel none, o]) (h3 : (CX m).call 12 [a1, a2] [.cel none, .cel none, .cel none, o] = .ok y3 [.cel none, .cel none, .cel none, o]) (h4 : (CX m).call 14 [a1, a2] [.cel none, .cel none, .cel none, o] = .ok y4 [.cel none, .cel none, .cel none, o]) (hr : reprD (.lst [r1, y1, y2, y3, y4]) = some t) (ht : dataEq (.str t) (.str t) = some true) : KP.S (CX m) lb4 [.v sc, .v (.ref 3), x2, x3, x4, .v a1, .v a2, .v (.lst [r1, y1, y2, y3, y4]), x8, .cel 0, .cel 1, .cel 2] [.cel none, .cel none, .cel none, o] = .ok .nx [.v sc, .v (.ref 3), x2, x3, x4, .v a1, .v a2, .v (.lst [r1, y1, y2, y3, y4]), x8, .cel 0, .cel 1, .cel 2] [.cel none, .cel none, .cel none, o] := by
  unfold lb4
  simp (disch := first | assumption | omega | exact small_of (by decide) | rfl | decide) only [e_c, e_v, e_neg, negR_int, e_not, e_bin, e_cmp, e_and, e_or, e_ite, andR_t, andR_f, orR_t, orR_f, iteR_t, iteR_f, e_tup, e_lst, e_ix, e_call, e_app, goApp_fn, goApp_clo, e_bi, e_lam, cellsOf_nil, cellsOf_cons, cofV_cel, cofK_some, es_nil, es_cons, s_pass, s_ex, s_set, s_par, s_own, ownR_lst, ownV_no, ownV_v, s_setix, ownO_own, appK_ok, appR_eq, s_app, s_ite, ifR_t, ifR_f, s_loop, s_ret, s_brk, s_cont, s_rais, s_tri, triR_ok, ss_nil, ss_cons, seqR_nx, seqR_rt, seqR_bk, seqR_ct, R.bind_ok, R.bind_exc, R.of_some, rd_eq, rdv_v, rdv_cel, rdc_some, bi_len_tup, bi_len_lst, bi_abs, bi_max2, bi_min2, bi_gcd, bi_repr, bi_int, bi_list_l, bi_list_t, bi_bits, bi_isinst, bi_isinsts, isT_some, isTs_some, isAny_nil, isAny_cons,
    tyOf_int, tyOf_bl, tyOf_str, tyOf_lst, tyOf_tup, tyOf_non, tyOf_dct, bo_add, bo_sub, bo_mul, bo_fdiv, bo_mod, bo_pow, co_lt, co_le, co_gt, co_ge, co_eq, co_ne, co_is_bl, eqv_int, tru_non, tru_bl, tru_int, tru_tup, tru_lst, truR_eq, ix_tup, ix_lst, ix_ref, ixr_str, item0, item1, item2, lookK_cons,
    putAt_ref, putR_dic, keyOf_str, wr_eq, wrv_no, wrv_v, wrv_cel, wrc_cel, asg_nm, asg_tup, asgs_nil, asgs_cons, asgK_some, par_nil, par_cons, back_same, back_sameX, cells_cel, celB_some, celB_none, open_cel, parv_no, parv_v, back_ok, back_exc, cells_nil, cells_v, cells_no, open_nil, open_v, open_no, cells_own, open_own, shut_own, shut_nil, shut_v, shut_no, T_run, for_nil, walk_val_l, walk_val_t,
    fin_rt, fin_nx, fin_exc, env0_eq, List.map_cons, List.map_nil, List.replicate, List.cons_append, List.nil_append, List.append_nil, List.getElem?_cons_zero, List.getElem?_cons_succ, List.set_cons_zero, List.set_cons_succ, Option.map_some, if_true, Nat.reduceSub, Nat.reduceAdd, subTy, Nat.reduceLeDiff, reduceIte, Bool.not_true, Bool.not_false, Nat.reduceBEq, Bool.false_eq_true, Bool.or_false, Bool.or_true, Bool.false_or, Bool.true_or, Bool.and_true, Bool.true_and, Bool.and_false, Bool.false_and, lenI_nil, lenI_cons, Int.reduceAdd, Int.reduceEq, Int.reduceLT, Int.reduceLE, Int.reduceNeg, decide_true, decide_false, eq_self, not_true_eq_false, not_false_eq_true, pl_wr, pl_par, pl_cells, pl_open, pl_shut, Option.getD_some, h0, h1, h2, h3, h4, hr, ht]
theorem b5_ok (m : Nat) (sc : D) (x2 x3 x4 x5 x6 x7 x8 : Sl) (p2 : Pl x2) (p3 : Pl x3) (p4 : Pl x4) (p5 : Pl x5) (p6 : Pl x6) (p7 : Pl x7) (p8 : Pl x8) (o : Ob) (a1 : D) (q : Bool) (k : Nat) (t : Str) (h1 : (CX m).call 2 [a1] [.cel none, .cel none, .cel none, o] = .ok (.bl (!q)) [.cel none, .cel none, .cel none, o]) (h2 : ∀ s, tyOf s a1 = some k) (h3 : isT (some k) 3 = some (.bl q)) (hr : reprD (.bl (!q)) = some t) (ht : dataEq (.str t) (.str t) = some true) : KP.S (CX m) lb5 [.v sc, .v (.ref 3), x2, x3, x4, .v a1, x6, x7, x8, .cel 0, .cel 1, .cel 2] [.cel none, .cel none, .cel none, o] = .ok .nx [.v sc, .v (.ref 3), x2, x3, x4, .v a1, x6, x7, x8, .cel 0, .cel 1, .cel 2] [.cel none, .cel none, .cel none, o] := by
  unfold lb5
  simp (disch := first | assumption | omega | exact small_of (by decide) | rfl | decide) only [e_c, e_v, e_neg, negR_int, e_not, e_bin, e_cmp, e_and, e_or, e_ite, andR_t, andR_f, orR_t, orR_f, iteR_t, iteR_f, e_tup, e_lst, e_ix, e_call, e_app, goApp_fn, goApp_clo, e_bi, e_lam, cellsOf_nil, cellsOf_cons, cofV_cel, cofK_some, es_nil, es_cons, s_pass, s_ex, s_set, s_par, s_own, ownR_lst, ownV_no, ownV_v, s_setix, ownO_own, appK_ok, appR_eq, s_app, s_ite, ifR_t, ifR_f, s_loop, s_ret, s_brk, s_cont, s_rais, s_tri, triR_ok, ss_nil, ss_cons, seqR_nx, seqR_rt, seqR_bk, seqR_ct, R.bind_ok, R.bind_exc, R.of_some, rd_eq, rdv_v, rdv_cel, rdc_some, bi_len_tup, bi_len_lst, bi_abs, bi_max2, bi_min2, bi_gcd, bi_repr, bi_int, bi_list_l, bi_list_t, bi_bits, bi_isinst, bi_isinsts, isT_some, isTs_some, isAny_nil, isAny_cons,
    tyOf_int, tyOf_bl, tyOf_str, tyOf_lst, tyOf_tup, tyOf_non, tyOf_dct, bo_add, bo_sub, bo_mul, bo_fdiv, bo_mod, bo_pow, co_lt, co_le, co_gt, co_ge, co_eq, co_ne, co_is_bl, eqv_int, tru_non, tru_bl, tru_int, tru_tup, tru_lst, truR_eq, ix_tup, ix_lst, ix_ref, ixr_str, item0, item1, item2, lookK_cons,
    putAt_ref, putR_dic, keyOf_str, wr_eq, wrv_no, wrv_v, wrv_cel, wrc_cel, asg_nm, asg_tup, asgs_nil, asgs_cons, asgK_some, par_nil, par_cons, back_same, back_sameX, cells_cel, celB_some, celB_none, open_cel, parv_no, parv_v, back_ok, back_exc, cells_nil, cells_v, cells_no, open_nil, open_v, open_no, cells_own, open_own, shut_own, shut_nil, shut_v, shut_no, T_run, for_nil, walk_val_l, walk_val_t,
    fin_rt, fin_nx, fin_exc, env0_eq, List.map_cons, List.map_nil, List.replicate, List.cons_append, List.nil_append, List.append_nil, List.getElem?_cons_zero, List.getElem?_cons_succ, List.set_cons_zero, List.set_cons_succ, Option.map_some, if_true, Nat.reduceSub, Nat.reduceAdd, subTy, Nat.reduceLeDiff, reduceIte, Bool.not_true, Bool.not_false, Nat.reduceBEq, Bool.false_eq_true, Bool.or_false, Bool.or_true, Bool.false_or, Bool.true_or, Bool.and_true, Bool.true_and, Bool.and_false, Bool.false_and, lenI_nil, lenI_cons, Int.reduceAdd, Int.reduceEq, Int.reduceLT, Int.reduceLE, Int.reduceNeg, decide_true, decide_false, eq_self, not_true_eq_false, not_false_eq_true, pl_wr, pl_par, pl_cells, pl_open, pl_shut, Option.getD_some, h1, h2, h3, hr, ht]
theorem b6_0 (m : Nat) (sc : D) (x2 x3 x4 x5 x6 x7 x8 : Sl) (p2 : Pl x2) (p3 : Pl x3) (p4 : Pl x4) (p5 : Pl x5) (p6 : Pl x6) (p7 : Pl x7) (p8 : Pl x8) (o : Ob) (d : Int) : KP.S (CX m) lb6 [.v sc, .v (.ref 3), x2, x3, .v (rt 0 d), x5, x6, x7, x8, .cel 0, .cel 1, .cel 2] [.cel none, .cel none, .cel none, o] = .ok .nx [.v sc, .v (.ref 3), x2, x3, .v (rt 0 d), x5, x6, x7, x8, .cel 0, .cel 1, .cel 2] [.cel none, .cel none, .cel none, o] := by
  unfold lb6
  simp (disch := first | assumption | omega | exact small_of (by decide) | rfl | decide) only [e_c, e_v, e_neg, negR_int, e_not, e_bin, e_cmp, e_and, e_or, e_ite, andR_t, andR_f, orR_t, orR_f, iteR_t, iteR_f, e_tup, e_lst, e_ix, e_call, e_app, goApp_fn, goApp_clo, e_bi, e_lam, cellsOf_nil, cellsOf_cons, cofV_cel, cofK_some, es_nil, es_cons, s_pass, s_ex, s_set, s_par, s_own, ownR_lst, ownV_no, ownV_v, s_setix, ownO_own, appK_ok, appR_eq, s_app, s_ite, ifR_t, ifR_f, s_loop, s_ret, s_brk, s_cont, s_rais, s_tri, triR_ok, ss_nil, ss_cons, seqR_nx, seqR_rt, seqR_bk, seqR_ct, R.bind_ok, R.bind_exc, R.of_some, rd_eq, rdv_v, rdv_cel, rdc_some, bi_len_tup, bi_len_lst, bi_abs, bi_max2, bi_min2, bi_gcd, bi_repr, bi_int, bi_list_l, bi_list_t, bi_bits, bi_isinst, bi_isinsts, isT_some, isTs_some, isAny_nil, isAny_cons,
    tyOf_int, tyOf_bl, tyOf_str, tyOf_lst, tyOf_tup, tyOf_non, tyOf_dct, bo_add, bo_sub, bo_mul, bo_fdiv, bo_mod, bo_pow, co_lt, co_le, co_gt, co_ge, co_eq, co_ne, co_is_bl, eqv_int, tru_non, tru_bl, tru_int, tru_tup, tru_lst, truR_eq, ix_tup, ix_lst, ix_ref, ixr_str, item0, item1, item2, lookK_cons,
    putAt_ref, putR_dic, keyOf_str, wr_eq, wrv_no, wrv_v, wrv_cel, wrc_cel, asg_nm, asg_tup, asgs_nil, asgs_cons, asgK_some, par_nil, par_cons, back_same, back_sameX, cells_cel, celB_some, celB_none, open_cel, parv_no, parv_v, back_ok, back_exc, cells_nil, cells_v, cells_no, open_nil, open_v, open_no, cells_own, open_own, shut_own, shut_nil, shut_v, shut_no, T_run, for_nil, walk_val_l, walk_val_t,
    fin_rt, fin_nx, fin_exc, env0_eq, List.map_cons, List.map_nil, List.replicate, List.cons_append, List.nil_append, List.append_nil, List.getElem?_cons_zero, List.getElem?_cons_succ, List.set_cons_zero, List.set_cons_succ, Option.map_some, if_true, Nat.reduceSub, Nat.reduceAdd, subTy, Nat.reduceLeDiff, reduceIte, Bool.not_true, Bool.not_false, Nat.reduceBEq, Bool.false_eq_true, Bool.or_false, Bool.or_true, Bool.false_or, Bool.true_or, Bool.and_true, Bool.true_and, Bool.and_false, Bool.false_and, lenI_nil, lenI_cons, Int.reduceAdd, Int.reduceEq, Int.reduceLT, Int.reduceLE, Int.reduceNeg, decide_true, decide_false, eq_self, not_true_eq_false, not_false_eq_true, pl_wr, pl_par, pl_cells, pl_open, pl_shut, Option.getD_some, ix_rt0]
theorem b6_1 (m : Nat) (sc : D) (x2 x3 x4 x5 x6 x7 x8 : Sl) (p2 : Pl x2) (p3 : Pl x3) (p4 : Pl x4) (p5 : Pl x5) (p6 : Pl x6) (p7 : Pl x7) (p8 : Pl x8) (o : Ob) (a1 a2 r1 y : D) (c d : Int) (t : Str) (hc : ¬ c = 0) (h1 : (CX m).call 13 [a1, a2] [.cel none, .cel none, .cel none, o] = .ok y [.cel none, .cel none, .cel none, o]) (h2 : (CX m).call 24 [r1, rt c d] [.cel none, .cel none, .cel none, o] = .ok y [.cel none, .cel none, .cel none, o]) (hr : reprD y = some t) (ht : dataEq (.str t) (.str t) = some true) : KP.S (CX m) lb6 [.v sc, .v (.ref 3), x2, .v r1, .v (rt c d), .v a1, .v a2, x7, x8, .cel 0, .cel 1, .cel 2] [.cel none, .cel none, .cel none, o] = .ok .nx [.v sc, .v (.ref 3), x2, .v r1, .v (rt c d), .v a1, .v a2, x7, x8, .cel 0, .cel 1, .cel 2] [.cel none, .cel none, .cel none, o] := by
  unfold lb6
  simp (disch := first | assumption | omega | exact small_of (by decide) | rfl | decide) only [e_c, e_v, e_neg, negR_int, e_not, e_bin, e_cmp, e_and, e_or, e_ite, andR_t, andR_f, orR_t, orR_f, iteR_t, iteR_f, e_tup, e_lst, e_ix, e_call, e_app, goApp_fn, goApp_clo, e_bi, e_lam, cellsOf_nil, cellsOf_cons, cofV_cel, cofK_some, es_nil, es_cons, s_pass, s_ex, s_set, s_par, s_own, ownR_lst, ownV_no, ownV_v, s_setix, ownO_own, appK_ok, appR_eq, s_app, s_ite, ifR_t, ifR_f, s_loop, s_ret, s_brk, s_cont, s_rais, s_tri, triR_ok, ss_nil, ss_cons, seqR_nx, seqR_rt, seqR_bk, seqR_ct, R.bind_ok, R.bind_exc, R.of_some, rd_eq, rdv_v, rdv_cel, rdc_some, bi_len_tup, bi_len_lst, bi_abs, bi_max2, bi_min2, bi_gcd, bi_repr, bi_int, bi_list_l, bi_list_t, bi_bits, bi_isinst, bi_isinsts, isT_some, isTs_some, isAny_nil, isAny_cons,
    tyOf_int, tyOf_bl, tyOf_str, tyOf_lst, tyOf_tup, tyOf_non, tyOf_dct, bo_add, bo_sub, bo_mul, bo_fdiv, bo_mod, bo_pow, co_lt, co_le, co_gt, co_ge, co_eq, co_ne, co_is_bl, eqv_int, tru_non, tru_bl, tru_int, tru_tup, tru_lst, truR_eq, ix_tup, ix_lst, ix_ref, ixr_str, item0, item1, item2, lookK_cons,
    putAt_ref, putR_dic, keyOf_str, wr_eq, wrv_no, wrv_v, wrv_cel, wrc_cel, asg_nm, asg_tup, asgs_nil, asgs_cons, asgK_some, par_nil, par_cons, back_same, back_sameX, cells_cel, celB_some, celB_none, open_cel, parv_no, parv_v, back_ok, back_exc, cells_nil, cells_v, cells_no, open_nil, open_v, open_no, cells_own, open_own, shut_own, shut_nil, shut_v, shut_no, T_run, for_nil, walk_val_l, walk_val_t,
    fin_rt, fin_nx, fin_exc, env0_eq, List.map_cons, List.map_nil, List.replicate, List.cons_append, List.nil_append, List.append_nil, List.getElem?_cons_zero, List.getElem?_cons_succ, List.set_cons_zero, List.set_cons_succ, Option.map_some, if_true, Nat.reduceSub, Nat.reduceAdd, subTy, Nat.reduceLeDiff, reduceIte, Bool.not_true, Bool.not_false, Nat.reduceBEq, Bool.false_eq_true, Bool.or_false, Bool.or_true, Bool.false_or, Bool.true_or, Bool.and_true, Bool.true_and, Bool.and_false, Bool.false_and, lenI_nil, lenI_cons, Int.reduceAdd, Int.reduceEq, Int.reduceLT, Int.reduceLE, Int.reduceNeg, decide_true, decide_false, eq_self, not_true_eq_false, not_false_eq_true, pl_wr, pl_par, pl_cells, pl_open, pl_shut, Option.getD_some, h1, h2, hr, ht, hc, ix_rt0]
def lapB : Sts := .cons (lb0) (.cons (lb1) (.cons (lb2) (.cons (lb3) (.cons (lb4) (.cons (lb5) (.cons (lb6) .nil))))))
theorem fdiv_neg_neg (a b : Int) : a.fdiv (-b) = (-a).fdiv b := by
  have := Int.neg_fdiv_neg (-a) b
  rw [Int.neg_neg] at this
  exact this
theorem Red.small {a b : Int} (r : Red a b) (ha : a.natAbs ≤ 1000000) (hb : b ≤ 1000000) : KP.small a = true ∧ KP.small b = true := ⟨small_of (by omega), small_of (by have := r.pos; omega)⟩
theorem sh_rt {a b : Int} (ha : a.natAbs < 1152921504606846976) (hb : b.natAbs < 1152921504606846976) : shB (rt a b) = true := by
  have k : (1152921504606846976 : Nat) ≤ 2 ^ 1900 := by decide +kernel
  have h1 : decide (a.natAbs < 2 ^ 1900) = true := decide_eq_true (Nat.lt_of_lt_of_le ha k)
  have h2 : decide (b.natAbs < 2 ^ 1900) = true := decide_eq_true (Nat.lt_of_lt_of_le hb k)
  show (decide (a.natAbs < 2 ^ 1900) && (decide (b.natAbs < 2 ^ 1900) && true)) = true
  rw [h1, h2]
  rfl
/-- bounds of a product -/
theorem mul_bd {x y : Int} {p q : Nat} (hx : x.natAbs ≤ p) (hy : y.natAbs ≤ q) : (x * y).natAbs ≤ p * q := by
  rw [Int.natAbs_mul]
  exact Nat.mul_le_mul hx hy
/-- the rest of a lap, from the first two numbers -/
theorem lap2 (m : Nat) (hm : 8 ≤ m) (C : Int) (hC : C ≤ 80000) (sc : D) (x2 x5 x6 x7 x8 : Sl) (p2 : Pl x2) (p5 : Pl x5) (p6 : Pl x6) (p7 : Pl x7) (p8 : Pl x8) (o : Ob) (hp : PenOb C o) (a b c d : Int) (r : Red a b) (q : Red c d)
    (ha : a.natAbs ≤ 500000) (hb : b ≤ 999959) (hcb : c.natAbs ≤ 9) (hd : d ≤ 3) : ∃ y5 y6 y7 o', Pl y5 ∧ Pl y6 ∧ Pl y7 ∧ PenOb (C + 6) o' ∧
    KP.Ss (CX m) (.cons (lb2) (.cons (lb3) (.cons (lb4) (.cons (lb5) (.cons (lb6) .nil))))) [.v sc, .v (.ref 3), x2, .v (rt a b), .v (rt c d), x5, x6, x7, x8, .cel 0, .cel 1, .cel 2] [.cel none, .cel none, .cel none, o] = .ok .nx [.v sc, .v (.ref 3), x2, .v (rt a b), .v (rt c d), y5, y6, y7, x8, .cel 0, .cel 1, .cel 2] [.cel none, .cel none, .cel none, o'] := by
  have rp := r.pos
  have qp := q.pos
  have pv : ∀ d : D, Pl (.v d) := pl_v
  obtain ⟨sa, sb⟩ := r.small (by omega) (by omega)
  obtain ⟨sc', sd⟩ := q.small (by omega) (by omega)
  obtain ⟨xa, o1, h1, q1, e1⟩ := handed m (by omega) C (by omega) 3 [.cel none, .cel none, .cel none, o] o rfl hp a b r (by omega) (by omega)
  have e1 : (CX m).call 26 [.ref 3, rt a b] [.cel none, .cel none, .cel none, o] = .ok xa [.cel none, .cel none, .cel none, o1] := e1
  obtain ⟨xb, o2, h2, q2, e2⟩ := handed m (by omega) (C + 3) (by omega) 3 [.cel none, .cel none, .cel none, o1] o1 rfl q1 c d q (by omega) (by omega)
  have e2 : (CX m).call 26 [.ref 3, rt c d] [.cel none, .cel none, .cel none, o1] = .ok xb [.cel none, .cel none, .cel none, o2] := e2
  have ta := h1.told r (by omega)
  have tb := h2.told q (by omega)
  have hbd : 0 < b * d := Int.mul_pos rp qp
  have ad : (a * d).natAbs ≤ 500000 * 3 := mul_bd ha (by omega)
  have cb : (c * b).natAbs ≤ 9 * 999959 := mul_bd hcb (by omega)
  have ac : (a * c).natAbs ≤ 500000 * 9 := mul_bd ha hcb
  have bd : (b * d).natAbs ≤ 999959 * 3 := mul_bd (by omega) (by omega)
  have bc : (b * c).natAbs ≤ 999959 * 9 := mul_bd (by omega) hcb
  have gz : ∀ t, gs t (b * d) ≠ 0 := fun t => gs_ne (by omega)
  have gk : ∀ t, small (gs t (b * d)) = true := fun t => gs_small (by omega) (by omega)
  have sbd : small (b * d) = true := small_of (by omega)
  obtain ⟨a1, b1, k1, r1, l1, m1⟩ := red_of (a * d + c * b) (b * d) hbd
  obtain ⟨a2, b2, k2, r2, l2, m2⟩ := red_of (a * d - c * b) (b * d) hbd
  obtain ⟨a3, b3, k3, r3, l3, m3⟩ := red_of (a * c) (b * d) hbd
  have p1' := r1.pos
  have p2' := r2.pos
  have p3' := r3.pos
  have hsh : shB (.lst [rt a b, Qd (a * d + c * b) (b * d), Qd (a * d - c * b) (b * d), Qd (a * c) (b * d), .bl (decide (a * d < c * b))]) = true := by
    rw [k1, k2, k3]
    show (shB (rt a b) && (shB (rt a1 b1) && (shB (rt a2 b2) && (shB (rt a3 b3) && (true && true))))) = true
    rw [sh_rt (by omega) (by omega), sh_rt (by omega) (by omega), sh_rt (by omega) (by omega), sh_rt (by omega) (by omega)]
    rfl
  obtain ⟨t, tr, tk⟩ := repr_ok hsh (Nat.le_of_ble_eq_true (by rw [k1, k2, k3]; rfl)) (Nat.le_of_ble_eq_true (by rw [k1, k2, k3]; rfl))
  have te := same_str tk
  obtain ⟨fl, ty, i1, i2, i3⟩ := h1.kind r
  obtain ⟨t', tr', tk'⟩ := repr_ok (d := .bl (!fl)) rfl (Nat.le_of_ble_eq_true rfl) (Nat.le_of_ble_eq_true rfl)
  have te' := same_str tk'
  have i4 : isT (some ty) 3 = some (.bl fl) := by rw [isT_some ty 3 (by decide), i3]
  have s2 := b2_ok m sc x2 (.v (rt a b)) (.v (rt c d)) x5 x6 x7 x8 p2 (pv _) (pv _) p5 p6 p7 p8 o o1 o2 _ _ _ _ e1 e2
  have s3 := b3_ok m sc x2 (.v (rt a b)) (.v (rt c d)) (.v xa) (.v xb) x7 x8 p2 (pv _) (pv _) (pv _) (pv _) p7 p8 o2 _ _ _ _ _ _ (law_plus m (by omega) a b c d _ sa sb sc' sd (by omega) sbd (gz _) (gk _)) (law_minus m (by omega) a b c d _ sa sb sc' sd (by omega) sbd (gz _) (gk _)) (law_times m (by omega) a b c d _ sa sb sc' sd (by omega) sbd (gz _) (gk _)) (law_less m (by omega) a b c d _ sa sb sc' sd)
  have s4 := b4_ok m sc x2 (.v (rt a b)) (.v (rt c d)) (.v xa) (.v xb) (.v (.lst [rt a b, Qd (a * d + c * b) (b * d), Qd (a * d - c * b) (b * d), Qd (a * c) (b * d), .bl (decide (a * d < c * b))])) x8 p2 (pv _) (pv _) (pv _) (pv _) (pv _) p8 o2 xa xb _ _ _ _ _ t (ta m _ (by omega)) (plus m (by omega) a b c d xa xb ta tb _ sa sb sc' sd (gz _) (gk _)) (minus m (by omega) a b c d xa xb ta tb _ sa sb sc' sd (gz _) (gk _)) (times m (by omega) a b c d xa xb ta tb _ sa sb sc' sd (gz _) (gk _)) (less m (by omega) a b c d xa xb ta tb _ sa sb sc' sd) tr te
  have s5 := b5_ok m sc x2 (.v (rt a b)) (.v (rt c d)) (.v xa) (.v xb) (.v (.lst [rt a b, Qd (a * d + c * b) (b * d), Qd (a * d - c * b) (b * d), Qd (a * c) (b * d), .bl (decide (a * d < c * b))])) x8 p2 (pv _) (pv _) (pv _) (pv _) (pv _) p8 o2 xa fl ty t' (i1 m _ (by omega)) i2 i4 tr' te'
  have s6 : KP.S (CX m) lb6 [.v sc, .v (.ref 3), x2, .v (rt a b), .v (rt c d), .v xa, .v xb, .v (.lst [rt a b, Qd (a * d + c * b) (b * d), Qd (a * d - c * b) (b * d), Qd (a * c) (b * d), .bl (decide (a * d < c * b))]), x8, .cel 0, .cel 1, .cel 2] [.cel none, .cel none, .cel none, o2] = .ok .nx [.v sc, .v (.ref 3), x2, .v (rt a b), .v (rt c d), .v xa, .v xb, .v (.lst [rt a b, Qd (a * d + c * b) (b * d), Qd (a * d - c * b) (b * d), Qd (a * c) (b * d), .bl (decide (a * d < c * b))]), x8, .cel 0, .cel 1, .cel 2] [.cel none, .cel none, .cel none, o2] := by
    by_cases hc : c = 0
    · subst hc
      exact b6_0 m sc x2 (.v (rt a b)) (.v (rt 0 d)) (.v xa) (.v xb) _ x8 p2 (pv _) (pv _) (pv _) (pv _) (pv _) p8 o2 d
    · have hbc : b * c ≠ 0 := by
        intro z
        rcases Int.mul_eq_zero.mp z with z | z <;> omega
      have g0 : gs (a * d) (b * c) ≠ 0 := gs_ne hbc
      have g1 : small (gs (a * d) (b * c)) = true := gs_small hbc (by omega)
      have sq : shB (Qd (a * d) (b * c)) = true := by
        by_cases hp' : 0 < b * c
        · obtain ⟨a4, b4, k4, r4, l4, m4⟩ := red_of (a * d) (b * c) hp'
          have := r4.pos
          rw [k4]
          exact sh_rt (by omega) (by omega)
        · obtain ⟨a4, b4, k4, r4, l4, m4⟩ := red_of (-(a * d)) (-(b * c)) (by omega)
          have := r4.pos
          have e : Qd (a * d) (b * c) = Qd (-(a * d)) (-(b * c)) := by
            unfold Qd
            have e3 : gs (a * d) (b * c) = -gs (-(a * d)) (-(b * c)) := by
              rw [gs_neg hp', gs_pos (by omega), Int.natAbs_neg, Int.natAbs_neg]
            rw [e3, fdiv_neg_neg, fdiv_neg_neg]
          rw [e, k4]
          exact sh_rt (by omega) (by omega)
      have e5 : ∃ u v, Qd (a * d) (b * c) = rt u v := ⟨_, _, rfl⟩
      obtain ⟨t2, tr2, tk2⟩ := repr_ok sq (Nat.le_of_ble_eq_true rfl) (Nat.le_of_ble_eq_true rfl)
      exact b6_1 m sc x2 (.v (rt a b)) (.v (rt c d)) (.v xa) (.v xb) _ x8 p2 (pv _) (pv _) (pv _) (pv _) (pv _) p8 o2 xa xb (rt a b) _ c d t2 hc (share m (by omega) a b c d xa xb ta tb _ sa sb sc' sd hc g0 g1) (law_share m (by omega) a b c d _ sa sb sc' sd hbc (small_of (by omega)) g0 g1) tr2 (same_str tk2)
  refine ⟨.v xa, .v xb, .v (.lst [rt a b, Qd (a * d + c * b) (b * d), Qd (a * d - c * b) (b * d), Qd (a * c) (b * d), .bl (decide (a * d < c * b))]), o2, pv _, pv _, pv _, ?_, ?_⟩
  · have e : C + 3 + 3 = C + 6 := by omega
    rw [e] at q2
    exact q2
  · rw [ss_cons, s2, R.bind_ok, seqR_nx, ss_cons, s3, R.bind_ok, seqR_nx, ss_cons, s4, R.bind_ok, seqR_nx, ss_cons, s5, R.bind_ok, seqR_nx, ss_cons, s6, R.bind_ok, seqR_nx, ss_nil]
/-- one lap -/
theorem lap (m : Nat) (hm : 8 ≤ m) (C : Int) (hC : C ≤ 70000) (sc x : D) (x2 x3 x4 x5 x6 x7 : Sl) (p2 : Pl x2) (p3 : Pl x3) (p4 : Pl x4) (p5 : Pl x5) (p6 : Pl x6) (p7 : Pl x7) (o : Ob) (hp : PenOb C o) : ∃ y2 y3 y4 y5 y6 y7 o', Pl y2 ∧ Pl y3 ∧ Pl y4 ∧ Pl y5 ∧ Pl y6 ∧ Pl y7 ∧ PenOb (C + 20) o' ∧
    lp (CX m) (.nm 2) lapB x [.v sc, .v (.ref 3), x2, x3, x4, x5, x6, x7, .no, .cel 0, .cel 1, .cel 2] [.cel none, .cel none, .cel none, o] = .ok .nx [.v sc, .v (.ref 3), y2, y3, y4, y5, y6, y7, .no, .cel 0, .cel 1, .cel 2] [.cel none, .cel none, .cel none, o'] := by
  have pv : ∀ d : D, Pl (.v d) := pl_v
  have p8 : Pl .no := pl_no
  have mono : ∀ {c d : Int} {o : Ob}, c ≤ d → PenOb c o → PenOb d o := fun {c d o} l ⟨c1, a1, g1, t1, f1, e, q1, q2, q3, q4, q5, q6, q7⟩ => ⟨c1, a1, g1, t1, f1, e, q1, q2, q3, q4, by omega, q6, q7⟩
  obtain ⟨y, o1, hy, q1, e1⟩ := pick m (by omega) C (by omega) 3 [.cel none, .cel none, .cel none, o] o rfl hp [.int 4, .int 99999] (by simp) (by simp)
  have e1 : (CX m).call 17 [.ref 3, .lst [.int 4, .int 99999]] [.cel none, .cel none, .cel none, o] = .ok y [.cel none, .cel none, .cel none, o1] := e1
  obtain ⟨mst, rfl, h0, hM⟩ : ∃ mst, y = .int mst ∧ 0 ≤ mst ∧ mst ≤ 99999 := by
    simp at hy
    rcases hy with rfl | rfl <;> exact ⟨_, rfl, by decide, by decide⟩
  obtain ⟨a, b, o2, r, hb, ha, q2, e2⟩ := number m (by omega) (C + 1) (by omega) 3 [.cel none, .cel none, .cel none, o1] o1 rfl q1 mst h0 (by omega)
  have e2 : (CX m).call 25 [.ref 3, .int mst] [.cel none, .cel none, .cel none, o1] = .ok (rt a b) [.cel none, .cel none, .cel none, o2] := e2
  obtain ⟨c, d, o3, q, hd, hc, q3, e3⟩ := number m (by omega) (C + 1 + 2) (by omega) 3 [.cel none, .cel none, .cel none, o2] o2 rfl q2 9 (by omega) (by omega)
  have e3 : (CX m).call 25 [.ref 3, .int 9] [.cel none, .cel none, .cel none, o2] = .ok (rt c d) [.cel none, .cel none, .cel none, o3] := e3
  obtain ⟨v, o4, v0, v1, q4, e4⟩ := draw m (by omega) (C + 1 + 2 + 2) (by omega) 3 [.cel none, .cel none, .cel none, o3] o3 rfl q3 3 (by omega) (by omega)
  have e4 : (CX m).call 16 [.ref 3, .int 3] [.cel none, .cel none, .cel none, o3] = .ok (.int v) [.cel none, .cel none, .cel none, o4] := e4
  have rp := r.pos
  have s0 := b0_ok m sc (.v x) x3 x4 x5 x6 x7 .no (pv _) p3 p4 p5 p6 p7 p8 o o1 o2 o3 mst _ _ e1 e2 e3
  -- the first number, made odder now and then
  obtain ⟨a0, b0, ea, eb⟩ : ∃ a0 b0, a0 = a ∧ b0 = b := ⟨a, b, rfl, rfl⟩
  rw [← ea, ← eb] at s0
  have mid : ∃ a b, Red a b ∧ a.natAbs ≤ 500000 ∧ b ≤ 999959 ∧ KP.S (CX m) lb1 [.v sc, .v (.ref 3), .v x, .v (rt a0 b0), .v (rt c d), x5, x6, x7, .no, .cel 0, .cel 1, .cel 2] [.cel none, .cel none, .cel none, o3] = .ok .nx [.v sc, .v (.ref 3), .v x, .v (rt a b), .v (rt c d), x5, x6, x7, .no, .cel 0, .cel 1, .cel 2] [.cel none, .cel none, .cel none, o4] := by
    rw [ea, eb]
    by_cases hv : v = 0
    · subst hv
      obtain ⟨a', b', k, r', l1, l2⟩ := red_of (a * 5 - 3) 999959 (by omega)
      have hq := law_q m (by omega) (a * 5 - 3) 999959 [.cel none, .cel none, .cel none, o4] (by omega) (small_of (by omega)) (gs_ne (by omega)) (gs_small (by omega) (by omega))
      rw [k] at hq
      exact ⟨a', b', r', by omega, by omega, b1_0 m sc (.v x) x3 (.v (rt c d)) x5 x6 x7 .no (pv _) p3 (pv _) p5 p6 p7 p8 o3 o4 a b _ (small_of (by omega)) e4 hq⟩
    · exact ⟨a, b, r, by omega, by omega, b1_1 m sc (.v x) x3 (.v (rt c d)) x5 x6 x7 .no (pv _) p3 (pv _) p5 p6 p7 p8 o3 o4 v _ hv e4⟩
  obtain ⟨a', b', r', ha', hb', s1⟩ := mid
  obtain ⟨y5, y6, y7, o5, w5, w6, w7, q5, s2⟩ := lap2 m hm (C + 1 + 2 + 2 + 1) (by omega) sc (.v x) x5 x6 x7 .no (pv _) p5 p6 p7 p8 o4 q4 a' b' c d r' q ha' hb' (by omega) hd
  refine ⟨.v x, .v (rt a' b'), .v (rt c d), y5, y6, y7, o5, pv _, pv _, pv _, w5, w6, w7, mono (by omega) q5, ?_⟩
  have st : R.of (asgT (.nm 2) x [.v sc, .v (.ref 3), x2, x3, x4, x5, x6, x7, .no, .cel 0, .cel 1, .cel 2] [.cel none, .cel none, .cel none, o]) [.v sc, .v (.ref 3), x2, x3, x4, x5, x6, x7, .no, .cel 0, .cel 1, .cel 2] [.cel none, .cel none, .cel none, o] = .ok ([.v sc, .v (.ref 3), .v x, x3, x4, x5, x6, x7, .no, .cel 0, .cel 1, .cel 2], [.cel none, .cel none, .cel none, o]) [.v sc, .v (.ref 3), x2, x3, x4, x5, x6, x7, .no, .cel 0, .cel 1, .cel 2] [.cel none, .cel none, .cel none, o] := by
    simp (disch := first | assumption | omega | exact small_of (by decide) | rfl | decide) only [e_c, e_v, e_neg, negR_int, e_not, e_bin, e_cmp, e_and, e_or, e_ite, andR_t, andR_f, orR_t, orR_f, iteR_t, iteR_f, e_tup, e_lst, e_ix, e_call, e_app, goApp_fn, goApp_clo, e_bi, e_lam, cellsOf_nil, cellsOf_cons, cofV_cel, cofK_some, es_nil, es_cons, s_pass, s_ex, s_set, s_par, s_own, ownR_lst, ownV_no, ownV_v, s_setix, ownO_own, appK_ok, appR_eq, s_app, s_ite, ifR_t, ifR_f, s_loop, s_ret, s_brk, s_cont, s_rais, s_tri, triR_ok, ss_nil, ss_cons, seqR_nx, seqR_rt, seqR_bk, seqR_ct, R.bind_ok, R.bind_exc, R.of_some, rd_eq, rdv_v, rdv_cel, rdc_some, bi_len_tup, bi_len_lst, bi_abs, bi_max2, bi_min2, bi_gcd, bi_repr, bi_int, bi_list_l, bi_list_t, bi_bits, bi_isinst, bi_isinsts, isT_some, isTs_some, isAny_nil, isAny_cons,
    tyOf_int, tyOf_bl, tyOf_str, tyOf_lst, tyOf_tup, tyOf_non, tyOf_dct, bo_add, bo_sub, bo_mul, bo_fdiv, bo_mod, bo_pow, co_lt, co_le, co_gt, co_ge, co_eq, co_ne, co_is_bl, eqv_int, tru_non, tru_bl, tru_int, tru_tup, tru_lst, truR_eq, ix_tup, ix_lst, ix_ref, ixr_str, item0, item1, item2, lookK_cons,
    putAt_ref, putR_dic, keyOf_str, wr_eq, wrv_no, wrv_v, wrv_cel, wrc_cel, asg_nm, asg_tup, asgs_nil, asgs_cons, asgK_some, par_nil, par_cons, back_same, back_sameX, cells_cel, celB_some, celB_none, open_cel, parv_no, parv_v, back_ok, back_exc, cells_nil, cells_v, cells_no, open_nil, open_v, open_no, cells_own, open_own, shut_own, shut_nil, shut_v, shut_no, T_run, for_nil, walk_val_l, walk_val_t,
    fin_rt, fin_nx, fin_exc, env0_eq, List.map_cons, List.map_nil, List.replicate, List.cons_append, List.nil_append, List.append_nil, List.getElem?_cons_zero, List.getElem?_cons_succ, List.set_cons_zero, List.set_cons_succ, Option.map_some, if_true, Nat.reduceSub, Nat.reduceAdd, subTy, Nat.reduceLeDiff, reduceIte, Bool.not_true, Bool.not_false, Nat.reduceBEq, Bool.false_eq_true, Bool.or_false, Bool.or_true, Bool.false_or, Bool.true_or, Bool.and_true, Bool.true_and, Bool.and_false, Bool.false_and, lenI_nil, lenI_cons, Int.reduceAdd, Int.reduceEq, Int.reduceLT, Int.reduceLE, Int.reduceNeg, decide_true, decide_false, eq_self, not_true_eq_false, not_false_eq_true, pl_wr, pl_par, pl_cells, pl_open, pl_shut]
  rw [lp_eq, st, R.bind_ok]
  show KP.Ss (CX m) lapB [.v sc, .v (.ref 3), .v x, x3, x4, x5, x6, x7, .no, .cel 0, .cel 1, .cel 2] [.cel none, .cel none, .cel none, o] = _
  unfold lapB
  rw [ss_cons, s0, R.bind_ok, seqR_nx, ss_cons, s1, R.bind_ok, seqR_nx]
  exact s2
def tl0 : KP.St := .set (.nm 1) (.call 15 (.cons (.v 0) .nil))
def tl2 : KP.St := .set (.nm 9) (.call 17 (.cons (.v 1) (.cons (.lst (.cons (.c .non) (.cons (.c (.str (.ofString "1"))) (.cons (.tup (.cons (.c (.int 1)) .nil)) (.cons (.tup (.cons (.c (.int 1)) (.cons (.c (.int 0)) .nil))) (.cons (.tup (.cons (.c (.int 1)) (.cons (.neg (.c (.int 2))) .nil))) (.cons (.tup (.cons (.c (.bl true)) (.cons (.c (.int 2)) .nil))) (.cons (.tup (.cons (.c (.int 1)) (.cons (.c (.bl true)) .nil))) (.cons (.c (.bl true)) (.cons (.tup (.cons (.c (.int 1)) (.cons (.c (.int 2)) (.cons (.c (.int 3)) .nil)))) (.cons (.lst (.nil)) (.cons (.dct [] .nil) .nil)))))))))))) .nil)))
def tl3 : KP.St := .set (.tup [.nm 10, .nm 11]) (.tup (.cons (.call 17 (.cons (.v 1) (.cons (.lst (.cons (.c (.str (.ofString "x"))) (.cons (.tup (.cons (.c (.int 0)) (.cons (.c (.int 0)) .nil))) (.cons (.c .non) .nil)))) .nil))) (.cons (.call 17 (.cons (.v 1) (.cons (.lst (.cons (.c (.int 0)) (.cons (.tup (.cons (.c (.int 0)) (.cons (.c (.int 6)) .nil))) .nil))) .nil))) .nil)))
def tl4 : KP.St := .own 8 (.lst (.cons (.tup (.cons (.lam 0 [9]) (.cons (.tup (.cons (.c (.str (.ofString "row"))) (.cons (.v 9) .nil))) .nil))) .nil))
def tl5 : KP.St := .app 8 (.tup (.cons (.lam 1 [9, 10]) (.cons (.tup (.cons (.c (.str (.ofString "row"))) (.cons (.v 9) .nil))) .nil)))
def tl6 : KP.St := .app 8 (.tup (.cons (.lam 2 [9]) (.cons (.tup (.cons (.c (.str (.ofString "row"))) (.cons (.v 9) .nil))) .nil)))
def tl7 : KP.St := .app 8 (.tup (.cons (.lam 3 [9, 10]) (.cons (.tup (.cons (.c (.str (.ofString "row"))) (.cons (.v 10) .nil))) .nil)))
def tl8 : KP.St := .app 8 (.tup (.cons (.lam 4 [9]) (.cons (.tup (.cons (.c (.str (.ofString "row"))) (.cons (.v 9) .nil))) .nil)))
def tl9 : KP.St := .app 8 (.tup (.cons (.lam 5 [9]) (.cons (.tup (.cons (.c (.str (.ofString "row"))) (.cons (.v 9) .nil))) .nil)))
def tl10 : KP.St := .app 8 (.tup (.cons (.lam 6 [9]) (.cons (.tup (.cons (.c (.str (.ofString "row"))) (.cons (.v 9) .nil))) .nil)))
def tl11 : KP.St := .app 8 (.tup (.cons (.lam 7 [11]) (.cons (.tup (.cons (.c (.str (.ofString "number"))) (.cons (.c (.str (.ofString "share"))) (.cons (.c (.int 0)) .nil)))) .nil)))
def tl12 : KP.St := .ret (.and (.cmp .is (.call 2 (.cons (.v 9) .nil)) (.c (.bl false))) (.call 28 (.cons (.v 8) .nil)))
theorem f29_eq : f29 = ⟨1, 12, [9, 10, 11], .cons (tl0) (.cons (.loop (.nm 2) .rng1 (.cons (.c (.int 6)) .nil) lapB) (.cons (tl2) (.cons (tl3) (.cons (tl4) (.cons (tl5) (.cons (tl6) (.cons (tl7) (.cons (tl8) (.cons (tl9) (.cons (tl10) (.cons (tl11) (.cons (tl12) .nil))))))))))))⟩ := rfl
/-- values that are no ratios -/
structure No (x : D) : Prop where
  bad : Bad x
  nr : ∀ n s, 3 ≤ n → (CX n).call 2 [x] s = .ok (.bl false) s
  sh : shB x = true
  shn : shN x ≤ 20000
  shd : shD x ≤ 5
theorem no_non : No (.non) := ⟨fun n s h => nt_non n h s, fun n s h => nr_non n h s, by decide +kernel, by decide +kernel, by decide +kernel⟩
theorem no_s1 : No (.str (.ofString "1")) := ⟨fun n s h => nt_s1 n h s, fun n s h => nr_s1 n h s, by decide +kernel, by decide +kernel, by decide +kernel⟩
theorem no_t1 : No (.tup [.int 1]) := ⟨fun n s h => nt_t1 n h s, fun n s h => nr_t1 n h s, by decide +kernel, by decide +kernel, by decide +kernel⟩
theorem no_t10 : No (.tup [.int 1, .int 0]) := ⟨fun n s h => nt_t10 n h s, fun n s h => nr_t10 n h s, by decide +kernel, by decide +kernel, by decide +kernel⟩
theorem no_t1m2 : No (.tup [.int 1, .int (-2)]) := ⟨fun n s h => nt_t1m2 n h s, fun n s h => nr_t1m2 n h s, by decide +kernel, by decide +kernel, by decide +kernel⟩
theorem no_tT2 : No (.tup [.bl true, .int 2]) := ⟨fun n s h => nt_tT2 n h s, fun n s h => nr_tT2 n h s, by decide +kernel, by decide +kernel, by decide +kernel⟩
theorem no_t1T : No (.tup [.int 1, .bl true]) := ⟨fun n s h => nt_t1T n h s, fun n s h => nr_t1T n h s, by decide +kernel, by decide +kernel, by decide +kernel⟩
theorem no_T : No (.bl true) := ⟨fun n s h => nt_T n h s, fun n s h => nr_T n h s, by decide +kernel, by decide +kernel, by decide +kernel⟩
theorem no_t123 : No (.tup [.int 1, .int 2, .int 3]) := ⟨fun n s h => nt_t123 n h s, fun n s h => nr_t123 n h s, by decide +kernel, by decide +kernel, by decide +kernel⟩
theorem no_l : No (.lst []) := ⟨fun n s h => nt_l n h s, fun n s h => nr_l n h s, by decide +kernel, by decide +kernel, by decide +kernel⟩
theorem no_d : No (.dct [] []) := ⟨fun n s h => nt_d n h s, fun n s h => nr_d n h s, by decide +kernel, by decide +kernel, by decide +kernel⟩
theorem no_x : No (.str (.ofString "x")) := ⟨fun n s h => nt_x n h s, fun n s h => nr_x n h s, by decide +kernel, by decide +kernel, by decide +kernel⟩
theorem no_t00 : No (.tup [.int 0, .int 0]) := ⟨fun n s h => nt_t00 n h s, fun n s h => nr_t00 n h s, by decide +kernel, by decide +kernel, by decide +kernel⟩
theorem no_bads : ∀ x ∈ [.non, .str (.ofString "1"), .tup [.int 1], .tup [.int 1, .int 0], .tup [.int 1, .int (-2)], .tup [.bl true, .int 2], .tup [.int 1, .bl true], .bl true, .tup [.int 1, .int 2, .int 3], .lst [], .dct [] []], No x := by
  simp only [List.mem_cons, List.not_mem_nil, or_false, forall_eq_or_imp, forall_eq]
  exact ⟨no_non, no_s1, no_t1, no_t10, no_t1m2, no_tT2, no_t1T, no_T, no_t123, no_l, no_d⟩
theorem no_odds : ∀ x ∈ [.str (.ofString "x"), .tup [.int 0, .int 0], .non], No x := by
  simp only [List.mem_cons, List.not_mem_nil, or_false, forall_eq_or_imp, forall_eq]
  exact ⟨no_x, no_t00, no_non⟩
theorem t2_ok (m : Nat) (sc : D) (x2 x3 x4 x5 x6 x7 : Sl) (p2 : Pl x2) (p3 : Pl x3) (p4 : Pl x4) (p5 : Pl x5) (p6 : Pl x6) (p7 : Pl x7) (o o1 : Ob) (bad : D) (h1 : (CX m).call 17 [.ref 3, .lst [.non, .str (.ofString "1"), .tup [.int 1], .tup [.int 1, .int 0], .tup [.int 1, .int (-2)], .tup [.bl true, .int 2], .tup [.int 1, .bl true], .bl true, .tup [.int 1, .int 2, .int 3], .lst [], .dct [] []]] [.cel none, .cel none, .cel none, o] = .ok bad [.cel none, .cel none, .cel none, o1]) : KP.S (CX m) tl2 [.v sc, .v (.ref 3), x2, x3, x4, x5, x6, x7, .no, .cel 0, .cel 1, .cel 2] [.cel none, .cel none, .cel none, o] = .ok .nx [.v sc, .v (.ref 3), x2, x3, x4, x5, x6, x7, .no, .cel 0, .cel 1, .cel 2] [.cel (some bad), .cel (none), .cel (none), o1] := by
  unfold tl2
  have hd : ∀ e s, KP.E (CX m) (.dct [] .nil) e s = .ok (.dct [] []) e s := fun e s => by
    rw [e_dct, es_nil, R.bind_ok]
    rfl
  simp (disch := first | assumption | omega | exact small_of (by decide) | rfl | decide) only [e_c, e_v, e_neg, negR_int, e_not, e_bin, e_cmp, e_and, e_or, e_ite, andR_t, andR_f, orR_t, orR_f, iteR_t, iteR_f, e_tup, e_lst, e_ix, e_call, e_app, goApp_fn, goApp_clo, e_bi, e_lam, cellsOf_nil, cellsOf_cons, cofV_cel, cofK_some, es_nil, es_cons, s_pass, s_ex, s_set, s_par, s_own, ownR_lst, ownV_no, ownV_v, s_setix, ownO_own, appK_ok, appR_eq, s_app, s_ite, ifR_t, ifR_f, s_loop, s_ret, s_brk, s_cont, s_rais, s_tri, triR_ok, ss_nil, ss_cons, seqR_nx, seqR_rt, seqR_bk, seqR_ct, R.bind_ok, R.bind_exc, R.of_some, rd_eq, rdv_v, rdv_cel, rdc_some, bi_len_tup, bi_len_lst, bi_abs, bi_max2, bi_min2, bi_gcd, bi_repr, bi_int, bi_list_l, bi_list_t, bi_bits, bi_isinst, bi_isinsts, isT_some, isTs_some, isAny_nil, isAny_cons,
    tyOf_int, tyOf_bl, tyOf_str, tyOf_lst, tyOf_tup, tyOf_non, tyOf_dct, bo_add, bo_sub, bo_mul, bo_fdiv, bo_mod, bo_pow, co_lt, co_le, co_gt, co_ge, co_eq, co_ne, co_is_bl, eqv_int, tru_non, tru_bl, tru_int, tru_tup, tru_lst, truR_eq, ix_tup, ix_lst, ix_ref, ixr_str, item0, item1, item2, lookK_cons,
    putAt_ref, putR_dic, keyOf_str, wr_eq, wrv_no, wrv_v, wrv_cel, wrc_cel, asg_nm, asg_tup, asgs_nil, asgs_cons, asgK_some, par_nil, par_cons, back_same, back_sameX, cells_cel, celB_some, celB_none, open_cel, parv_no, parv_v, back_ok, back_exc, cells_nil, cells_v, cells_no, open_nil, open_v, open_no, cells_own, open_own, shut_own, shut_nil, shut_v, shut_no, T_run, for_nil, walk_val_l, walk_val_t,
    fin_rt, fin_nx, fin_exc, env0_eq, List.map_cons, List.map_nil, List.replicate, List.cons_append, List.nil_append, List.append_nil, List.getElem?_cons_zero, List.getElem?_cons_succ, List.set_cons_zero, List.set_cons_succ, Option.map_some, if_true, Nat.reduceSub, Nat.reduceAdd, subTy, Nat.reduceLeDiff, reduceIte, Bool.not_true, Bool.not_false, Nat.reduceBEq, Bool.false_eq_true, Bool.or_false, Bool.or_true, Bool.false_or, Bool.true_or, Bool.and_true, Bool.true_and, Bool.and_false, Bool.false_and, lenI_nil, lenI_cons, Int.reduceAdd, Int.reduceEq, Int.reduceLT, Int.reduceLE, Int.reduceNeg, decide_true, decide_false, eq_self, not_true_eq_false, not_false_eq_true, pl_wr, pl_par, pl_cells, pl_open, pl_shut, Option.getD_some, hd, h1]
theorem t3_ok (m : Nat) (sc : D) (x2 x3 x4 x5 x6 x7 : Sl) (p2 : Pl x2) (p3 : Pl x3) (p4 : Pl x4) (p5 : Pl x5) (p6 : Pl x6) (p7 : Pl x7) (o o1 o2 : Ob) (bad odd zero : D) (h1 : (CX m).call 17 [.ref 3, .lst [.str (.ofString "x"), .tup [.int 0, .int 0], .non]] [.cel (some bad), .cel (none), .cel (none), o] = .ok odd [.cel (some bad), .cel (none), .cel (none), o1]) (h2 : (CX m).call 17 [.ref 3, .lst [.int 0, .tup [.int 0, .int 6]]] [.cel (some bad), .cel (none), .cel (none), o1] = .ok zero [.cel (some bad), .cel (none), .cel (none), o2]) : KP.S (CX m) tl3 [.v sc, .v (.ref 3), x2, x3, x4, x5, x6, x7, .no, .cel 0, .cel 1, .cel 2] [.cel (some bad), .cel (none), .cel (none), o] = .ok .nx [.v sc, .v (.ref 3), x2, x3, x4, x5, x6, x7, .no, .cel 0, .cel 1, .cel 2] [.cel (some bad), .cel (some odd), .cel (some zero), o2] := by
  unfold tl3
  simp (disch := first | assumption | omega | exact small_of (by decide) | rfl | decide) only [e_c, e_v, e_neg, negR_int, e_not, e_bin, e_cmp, e_and, e_or, e_ite, andR_t, andR_f, orR_t, orR_f, iteR_t, iteR_f, e_tup, e_lst, e_ix, e_call, e_app, goApp_fn, goApp_clo, e_bi, e_lam, cellsOf_nil, cellsOf_cons, cofV_cel, cofK_some, es_nil, es_cons, s_pass, s_ex, s_set, s_par, s_own, ownR_lst, ownV_no, ownV_v, s_setix, ownO_own, appK_ok, appR_eq, s_app, s_ite, ifR_t, ifR_f, s_loop, s_ret, s_brk, s_cont, s_rais, s_tri, triR_ok, ss_nil, ss_cons, seqR_nx, seqR_rt, seqR_bk, seqR_ct, R.bind_ok, R.bind_exc, R.of_some, rd_eq, rdv_v, rdv_cel, rdc_some, bi_len_tup, bi_len_lst, bi_abs, bi_max2, bi_min2, bi_gcd, bi_repr, bi_int, bi_list_l, bi_list_t, bi_bits, bi_isinst, bi_isinsts, isT_some, isTs_some, isAny_nil, isAny_cons,
    tyOf_int, tyOf_bl, tyOf_str, tyOf_lst, tyOf_tup, tyOf_non, tyOf_dct, bo_add, bo_sub, bo_mul, bo_fdiv, bo_mod, bo_pow, co_lt, co_le, co_gt, co_ge, co_eq, co_ne, co_is_bl, eqv_int, tru_non, tru_bl, tru_int, tru_tup, tru_lst, truR_eq, ix_tup, ix_lst, ix_ref, ixr_str, item0, item1, item2, lookK_cons,
    putAt_ref, putR_dic, keyOf_str, wr_eq, wrv_no, wrv_v, wrv_cel, wrc_cel, asg_nm, asg_tup, asgs_nil, asgs_cons, asgK_some, par_nil, par_cons, back_same, back_sameX, cells_cel, celB_some, celB_none, open_cel, parv_no, parv_v, back_ok, back_exc, cells_nil, cells_v, cells_no, open_nil, open_v, open_no, cells_own, open_own, shut_own, shut_nil, shut_v, shut_no, T_run, for_nil, walk_val_l, walk_val_t,
    fin_rt, fin_nx, fin_exc, env0_eq, List.map_cons, List.map_nil, List.replicate, List.cons_append, List.nil_append, List.append_nil, List.getElem?_cons_zero, List.getElem?_cons_succ, List.set_cons_zero, List.set_cons_succ, Option.map_some, if_true, Nat.reduceSub, Nat.reduceAdd, subTy, Nat.reduceLeDiff, reduceIte, Bool.not_true, Bool.not_false, Nat.reduceBEq, Bool.false_eq_true, Bool.or_false, Bool.or_true, Bool.false_or, Bool.true_or, Bool.and_true, Bool.true_and, Bool.and_false, Bool.false_and, lenI_nil, lenI_cons, Int.reduceAdd, Int.reduceEq, Int.reduceLT, Int.reduceLE, Int.reduceNeg, decide_true, decide_false, eq_self, not_true_eq_false, not_false_eq_true, pl_wr, pl_par, pl_cells, pl_open, pl_shut, Option.getD_some, h1, h2]
theorem tries_ok (m : Nat) (sc : D) (x2 x3 x4 x5 x6 x7 : Sl) (p2 : Pl x2) (p3 : Pl x3) (p4 : Pl x4) (p5 : Pl x5) (p6 : Pl x6) (p7 : Pl x7) (o : Ob) (bad odd zero : D) (r : Sts) : KP.Ss (CX m) (.cons tl4 (.cons tl5 (.cons tl6 (.cons tl7 (.cons tl8 (.cons tl9 (.cons tl10 (.cons tl11 r)))))))) [.v sc, .v (.ref 3), x2, x3, x4, x5, x6, x7, .no, .cel 0, .cel 1, .cel 2] [.cel (some bad), .cel (some odd), .cel (some zero), o] = KP.Ss (CX m) r [.v sc, .v (.ref 3), x2, x3, x4, x5, x6, x7, .own [.tup [.clo 0 [0], .tup [.str (.ofString "row"), bad]], .tup [.clo 1 [0, 1], .tup [.str (.ofString "row"), bad]], .tup [.clo 2 [0], .tup [.str (.ofString "row"), bad]], .tup [.clo 3 [0, 1], .tup [.str (.ofString "row"), odd]], .tup [.clo 4 [0], .tup [.str (.ofString "row"), bad]], .tup [.clo 5 [0], .tup [.str (.ofString "row"), bad]], .tup [.clo 6 [0], .tup [.str (.ofString "row"), bad]], .tup [.clo 7 [2], .tup [.str (.ofString "number"), .str (.ofString "share"), .int 0]]], .cel 0, .cel 1, .cel 2] [.cel (some bad), .cel (some odd), .cel (some zero), o] := by
  unfold tl4 tl5 tl6 tl7 tl8 tl9 tl10 tl11
  have hz : ∀ n : Nat, n ≤ 100 → n < sizeLine := fun n h => by
    unfold sizeLine
    omega
  simp (disch := first | assumption | exact hz _ (Nat.le_of_ble_eq_true rfl) | omega | exact small_of (by decide) | rfl | decide) only [e_c, e_v, e_neg, negR_int, e_not, e_bin, e_cmp, e_and, e_or, e_ite, andR_t, andR_f, orR_t, orR_f, iteR_t, iteR_f, e_tup, e_lst, e_ix, e_call, e_app, goApp_fn, goApp_clo, e_bi, e_lam, cellsOf_nil, cellsOf_cons, cofV_cel, cofK_some, es_nil, es_cons, s_pass, s_ex, s_set, s_par, s_own, ownR_lst, ownV_no, ownV_v, s_setix, ownO_own, appK_ok, appR_eq, s_app, s_ite, ifR_t, ifR_f, s_loop, s_ret, s_brk, s_cont, s_rais, s_tri, triR_ok, ss_nil, ss_cons, seqR_nx, seqR_rt, seqR_bk, seqR_ct, R.bind_ok, R.bind_exc, R.of_some, rd_eq, rdv_v, rdv_cel, rdc_some, bi_len_tup, bi_len_lst, bi_abs, bi_max2, bi_min2, bi_gcd, bi_repr, bi_int, bi_list_l, bi_list_t, bi_bits, bi_isinst, bi_isinsts, isT_some, isTs_some, isAny_nil, isAny_cons,
    tyOf_int, tyOf_bl, tyOf_str, tyOf_lst, tyOf_tup, tyOf_non, tyOf_dct, bo_add, bo_sub, bo_mul, bo_fdiv, bo_mod, bo_pow, co_lt, co_le, co_gt, co_ge, co_eq, co_ne, co_is_bl, eqv_int, tru_non, tru_bl, tru_int, tru_tup, tru_lst, truR_eq, ix_tup, ix_lst, ix_ref, ixr_str, item0, item1, item2, lookK_cons,
    putAt_ref, putR_dic, keyOf_str, wr_eq, wrv_no, wrv_v, wrv_cel, wrc_cel, asg_nm, asg_tup, asgs_nil, asgs_cons, asgK_some, par_nil, par_cons, back_same, back_sameX, cells_cel, celB_some, celB_none, open_cel, parv_no, parv_v, back_ok, back_exc, cells_nil, cells_v, cells_no, open_nil, open_v, open_no, cells_own, open_own, shut_own, shut_nil, shut_v, shut_no, T_run, for_nil, walk_val_l, walk_val_t,
    fin_rt, fin_nx, fin_exc, env0_eq, List.map_cons, List.map_nil, List.replicate, List.cons_append, List.nil_append, List.append_nil, List.getElem?_cons_zero, List.getElem?_cons_succ, List.set_cons_zero, List.set_cons_succ, Option.map_some, if_true, Nat.reduceSub, Nat.reduceAdd, subTy, Nat.reduceLeDiff, reduceIte, Bool.not_true, Bool.not_false, Nat.reduceBEq, Bool.false_eq_true, Bool.or_false, Bool.or_true, Bool.false_or, Bool.true_or, Bool.and_true, Bool.true_and, Bool.and_false, Bool.false_and, lenI_nil, lenI_cons, Int.reduceAdd, Int.reduceEq, Int.reduceLT, Int.reduceLE, Int.reduceNeg, decide_true, decide_false, eq_self, not_true_eq_false, not_false_eq_true, pl_wr, pl_par, pl_cells, pl_open, pl_shut]
theorem told1 : Told (.int 1) 1 1 := fun n s h => told_int n h 1 s
theorem told3 : Told (.int 3) 3 1 := fun n s h => told_int n h 3 s
theorem told0 : Told (.int 0) 0 1 := fun n s h => told_int n h 0 s
theorem told12 : Told (.tup [.int 1, .int 2]) ((1 : Int).fdiv (gs 1 2)) ((2 : Int).fdiv (gs 1 2)) := fun n s h => told_tup n h 1 2 s (by omega) (gs_ne (by omega)) (gs_small (by omega) (by omega))
theorem told06 : Told (.tup [.int 0, .int 6]) 0 ((6 : Int).fdiv (gs 0 6)) := fun n s h => by
  have z := told_tup n h 0 6 s (by omega) (gs_ne (by omega)) (gs_small (by omega) (by omega))
  unfold Qd at z
  rw [Int.zero_fdiv] at z
  exact z
theorem ap0 (n : Nat) (hn : 7 ≤ n) (o : Ob) (bad odd zero : D) (hb : Bad bad) : (CX n).app 0 [0] [] [.cel (some bad), .cel (some odd), .cel (some zero), o] = .exc ⟨2, [bad]⟩ [.cel (some bad), .cel (some odd), .cel (some zero), o] := by
  obtain ⟨m, rfl⟩ : ∃ m, n = m + 1 := ⟨n - 1, by omega⟩
  rw [app_eq m 0 l0 rfl]
  unfold l0 runL
  rw [if_pos ⟨rfl, rfl, by decide, rfl⟩]
  simp (disch := first | assumption | omega | exact small_of (by decide) | rfl | decide) only [e_c, e_v, e_neg, negR_int, e_not, e_bin, e_cmp, e_and, e_or, e_ite, andR_t, andR_f, orR_t, orR_f, iteR_t, iteR_f, e_tup, e_lst, e_ix, e_call, e_app, goApp_fn, goApp_clo, e_bi, e_lam, cellsOf_nil, cellsOf_cons, cofV_cel, cofK_some, es_nil, es_cons, s_pass, s_ex, s_set, s_par, s_own, ownR_lst, ownV_no, ownV_v, s_setix, ownO_own, appK_ok, appR_eq, s_app, s_ite, ifR_t, ifR_f, s_loop, s_ret, s_brk, s_cont, s_rais, s_tri, triR_ok, ss_nil, ss_cons, seqR_nx, seqR_rt, seqR_bk, seqR_ct, R.bind_ok, R.bind_exc, R.of_some, rd_eq, rdv_v, rdv_cel, rdc_some, bi_len_tup, bi_len_lst, bi_abs, bi_max2, bi_min2, bi_gcd, bi_repr, bi_int, bi_list_l, bi_list_t, bi_bits, bi_isinst, bi_isinsts, isT_some, isTs_some, isAny_nil, isAny_cons,
    tyOf_int, tyOf_bl, tyOf_str, tyOf_lst, tyOf_tup, tyOf_non, tyOf_dct, bo_add, bo_sub, bo_mul, bo_fdiv, bo_mod, bo_pow, co_lt, co_le, co_gt, co_ge, co_eq, co_ne, co_is_bl, eqv_int, tru_non, tru_bl, tru_int, tru_tup, tru_lst, truR_eq, ix_tup, ix_lst, ix_ref, ixr_str, item0, item1, item2, lookK_cons,
    putAt_ref, putR_dic, keyOf_str, wr_eq, wrv_no, wrv_v, wrv_cel, wrc_cel, asg_nm, asg_tup, asgs_nil, asgs_cons, asgK_some, par_nil, par_cons, back_same, back_sameX, cells_cel, celB_some, celB_none, open_cel, parv_no, parv_v, back_ok, back_exc, cells_nil, cells_v, cells_no, open_nil, open_v, open_no, cells_own, open_own, shut_own, shut_nil, shut_v, shut_no, T_run, for_nil, walk_val_l, walk_val_t,
    fin_rt, fin_nx, fin_exc, env0_eq, List.map_cons, List.map_nil, List.replicate, List.cons_append, List.nil_append, List.append_nil, List.getElem?_cons_zero, List.getElem?_cons_succ, List.set_cons_zero, List.set_cons_succ, Option.map_some, if_true, Nat.reduceSub, Nat.reduceAdd, subTy, Nat.reduceLeDiff, reduceIte, Bool.not_true, Bool.not_false, Nat.reduceBEq, Bool.false_eq_true, Bool.or_false, Bool.or_true, Bool.false_or, Bool.true_or, Bool.and_true, Bool.true_and, Bool.and_false, Bool.false_and, lenI_nil, lenI_cons, Int.reduceAdd, Int.reduceEq, Int.reduceLT, Int.reduceLE, Int.reduceNeg, decide_true, decide_false, eq_self, not_true_eq_false, not_false_eq_true, finE_exc, Option.getD_some, hb m _ (by omega)]
theorem ap1 (n : Nat) (hn : 7 ≤ n) (o : Ob) (bad odd zero : D) (hb : Bad bad) : (CX n).app 1 [0, 1] [] [.cel (some bad), .cel (some odd), .cel (some zero), o] = .exc ⟨2, [bad]⟩ [.cel (some bad), .cel (some odd), .cel (some zero), o] := by
  obtain ⟨m, rfl⟩ : ∃ m, n = m + 1 := ⟨n - 1, by omega⟩
  rw [app_eq m 1 l1 rfl]
  unfold l1 runL
  rw [if_pos ⟨rfl, rfl, by decide, rfl⟩]
  simp (disch := first | assumption | omega | exact small_of (by decide) | rfl | decide) only [e_c, e_v, e_neg, negR_int, e_not, e_bin, e_cmp, e_and, e_or, e_ite, andR_t, andR_f, orR_t, orR_f, iteR_t, iteR_f, e_tup, e_lst, e_ix, e_call, e_app, goApp_fn, goApp_clo, e_bi, e_lam, cellsOf_nil, cellsOf_cons, cofV_cel, cofK_some, es_nil, es_cons, s_pass, s_ex, s_set, s_par, s_own, ownR_lst, ownV_no, ownV_v, s_setix, ownO_own, appK_ok, appR_eq, s_app, s_ite, ifR_t, ifR_f, s_loop, s_ret, s_brk, s_cont, s_rais, s_tri, triR_ok, ss_nil, ss_cons, seqR_nx, seqR_rt, seqR_bk, seqR_ct, R.bind_ok, R.bind_exc, R.of_some, rd_eq, rdv_v, rdv_cel, rdc_some, bi_len_tup, bi_len_lst, bi_abs, bi_max2, bi_min2, bi_gcd, bi_repr, bi_int, bi_list_l, bi_list_t, bi_bits, bi_isinst, bi_isinsts, isT_some, isTs_some, isAny_nil, isAny_cons,
    tyOf_int, tyOf_bl, tyOf_str, tyOf_lst, tyOf_tup, tyOf_non, tyOf_dct, bo_add, bo_sub, bo_mul, bo_fdiv, bo_mod, bo_pow, co_lt, co_le, co_gt, co_ge, co_eq, co_ne, co_is_bl, eqv_int, tru_non, tru_bl, tru_int, tru_tup, tru_lst, truR_eq, ix_tup, ix_lst, ix_ref, ixr_str, item0, item1, item2, lookK_cons,
    putAt_ref, putR_dic, keyOf_str, wr_eq, wrv_no, wrv_v, wrv_cel, wrc_cel, asg_nm, asg_tup, asgs_nil, asgs_cons, asgK_some, par_nil, par_cons, back_same, back_sameX, cells_cel, celB_some, celB_none, open_cel, parv_no, parv_v, back_ok, back_exc, cells_nil, cells_v, cells_no, open_nil, open_v, open_no, cells_own, open_own, shut_own, shut_nil, shut_v, shut_no, T_run, for_nil, walk_val_l, walk_val_t,
    fin_rt, fin_nx, fin_exc, env0_eq, List.map_cons, List.map_nil, List.replicate, List.cons_append, List.nil_append, List.append_nil, List.getElem?_cons_zero, List.getElem?_cons_succ, List.set_cons_zero, List.set_cons_succ, Option.map_some, if_true, Nat.reduceSub, Nat.reduceAdd, subTy, Nat.reduceLeDiff, reduceIte, Bool.not_true, Bool.not_false, Nat.reduceBEq, Bool.false_eq_true, Bool.or_false, Bool.or_true, Bool.false_or, Bool.true_or, Bool.and_true, Bool.true_and, Bool.and_false, Bool.false_and, lenI_nil, lenI_cons, Int.reduceAdd, Int.reduceEq, Int.reduceLT, Int.reduceLE, Int.reduceNeg, decide_true, decide_false, eq_self, not_true_eq_false, not_false_eq_true, finE_exc, Option.getD_some, plus_b1 m (by omega) bad odd hb]
theorem ap2 (n : Nat) (hn : 7 ≤ n) (o : Ob) (bad odd zero : D) (hb : Bad bad) : (CX n).app 2 [0] [] [.cel (some bad), .cel (some odd), .cel (some zero), o] = .exc ⟨2, [bad]⟩ [.cel (some bad), .cel (some odd), .cel (some zero), o] := by
  obtain ⟨m, rfl⟩ : ∃ m, n = m + 1 := ⟨n - 1, by omega⟩
  rw [app_eq m 2 l2 rfl]
  unfold l2 runL
  rw [if_pos ⟨rfl, rfl, by decide, rfl⟩]
  simp (disch := first | assumption | omega | exact small_of (by decide) | rfl | decide) only [e_c, e_v, e_neg, negR_int, e_not, e_bin, e_cmp, e_and, e_or, e_ite, andR_t, andR_f, orR_t, orR_f, iteR_t, iteR_f, e_tup, e_lst, e_ix, e_call, e_app, goApp_fn, goApp_clo, e_bi, e_lam, cellsOf_nil, cellsOf_cons, cofV_cel, cofK_some, es_nil, es_cons, s_pass, s_ex, s_set, s_par, s_own, ownR_lst, ownV_no, ownV_v, s_setix, ownO_own, appK_ok, appR_eq, s_app, s_ite, ifR_t, ifR_f, s_loop, s_ret, s_brk, s_cont, s_rais, s_tri, triR_ok, ss_nil, ss_cons, seqR_nx, seqR_rt, seqR_bk, seqR_ct, R.bind_ok, R.bind_exc, R.of_some, rd_eq, rdv_v, rdv_cel, rdc_some, bi_len_tup, bi_len_lst, bi_abs, bi_max2, bi_min2, bi_gcd, bi_repr, bi_int, bi_list_l, bi_list_t, bi_bits, bi_isinst, bi_isinsts, isT_some, isTs_some, isAny_nil, isAny_cons,
    tyOf_int, tyOf_bl, tyOf_str, tyOf_lst, tyOf_tup, tyOf_non, tyOf_dct, bo_add, bo_sub, bo_mul, bo_fdiv, bo_mod, bo_pow, co_lt, co_le, co_gt, co_ge, co_eq, co_ne, co_is_bl, eqv_int, tru_non, tru_bl, tru_int, tru_tup, tru_lst, truR_eq, ix_tup, ix_lst, ix_ref, ixr_str, item0, item1, item2, lookK_cons,
    putAt_ref, putR_dic, keyOf_str, wr_eq, wrv_no, wrv_v, wrv_cel, wrc_cel, asg_nm, asg_tup, asgs_nil, asgs_cons, asgK_some, par_nil, par_cons, back_same, back_sameX, cells_cel, celB_some, celB_none, open_cel, parv_no, parv_v, back_ok, back_exc, cells_nil, cells_v, cells_no, open_nil, open_v, open_no, cells_own, open_own, shut_own, shut_nil, shut_v, shut_no, T_run, for_nil, walk_val_l, walk_val_t,
    fin_rt, fin_nx, fin_exc, env0_eq, List.map_cons, List.map_nil, List.replicate, List.cons_append, List.nil_append, List.append_nil, List.getElem?_cons_zero, List.getElem?_cons_succ, List.set_cons_zero, List.set_cons_succ, Option.map_some, if_true, Nat.reduceSub, Nat.reduceAdd, subTy, Nat.reduceLeDiff, reduceIte, Bool.not_true, Bool.not_false, Nat.reduceBEq, Bool.false_eq_true, Bool.or_false, Bool.or_true, Bool.false_or, Bool.true_or, Bool.and_true, Bool.true_and, Bool.and_false, Bool.false_and, lenI_nil, lenI_cons, Int.reduceAdd, Int.reduceEq, Int.reduceLT, Int.reduceLE, Int.reduceNeg, decide_true, decide_false, eq_self, not_true_eq_false, not_false_eq_true, finE_exc, Option.getD_some, minus_b2 m (by omega) 1 1 (.int 1) bad told1 hb]
theorem ap3 (n : Nat) (hn : 7 ≤ n) (o : Ob) (bad odd zero : D) (ho : Bad odd) : (CX n).app 3 [0, 1] [] [.cel (some bad), .cel (some odd), .cel (some zero), o] = .exc ⟨2, [odd]⟩ [.cel (some bad), .cel (some odd), .cel (some zero), o] := by
  obtain ⟨m, rfl⟩ : ∃ m, n = m + 1 := ⟨n - 1, by omega⟩
  rw [app_eq m 3 l3 rfl]
  unfold l3 runL
  rw [if_pos ⟨rfl, rfl, by decide, rfl⟩]
  simp (disch := first | assumption | omega | exact small_of (by decide) | rfl | decide) only [e_c, e_v, e_neg, negR_int, e_not, e_bin, e_cmp, e_and, e_or, e_ite, andR_t, andR_f, orR_t, orR_f, iteR_t, iteR_f, e_tup, e_lst, e_ix, e_call, e_app, goApp_fn, goApp_clo, e_bi, e_lam, cellsOf_nil, cellsOf_cons, cofV_cel, cofK_some, es_nil, es_cons, s_pass, s_ex, s_set, s_par, s_own, ownR_lst, ownV_no, ownV_v, s_setix, ownO_own, appK_ok, appR_eq, s_app, s_ite, ifR_t, ifR_f, s_loop, s_ret, s_brk, s_cont, s_rais, s_tri, triR_ok, ss_nil, ss_cons, seqR_nx, seqR_rt, seqR_bk, seqR_ct, R.bind_ok, R.bind_exc, R.of_some, rd_eq, rdv_v, rdv_cel, rdc_some, bi_len_tup, bi_len_lst, bi_abs, bi_max2, bi_min2, bi_gcd, bi_repr, bi_int, bi_list_l, bi_list_t, bi_bits, bi_isinst, bi_isinsts, isT_some, isTs_some, isAny_nil, isAny_cons,
    tyOf_int, tyOf_bl, tyOf_str, tyOf_lst, tyOf_tup, tyOf_non, tyOf_dct, bo_add, bo_sub, bo_mul, bo_fdiv, bo_mod, bo_pow, co_lt, co_le, co_gt, co_ge, co_eq, co_ne, co_is_bl, eqv_int, tru_non, tru_bl, tru_int, tru_tup, tru_lst, truR_eq, ix_tup, ix_lst, ix_ref, ixr_str, item0, item1, item2, lookK_cons,
    putAt_ref, putR_dic, keyOf_str, wr_eq, wrv_no, wrv_v, wrv_cel, wrc_cel, asg_nm, asg_tup, asgs_nil, asgs_cons, asgK_some, par_nil, par_cons, back_same, back_sameX, cells_cel, celB_some, celB_none, open_cel, parv_no, parv_v, back_ok, back_exc, cells_nil, cells_v, cells_no, open_nil, open_v, open_no, cells_own, open_own, shut_own, shut_nil, shut_v, shut_no, T_run, for_nil, walk_val_l, walk_val_t,
    fin_rt, fin_nx, fin_exc, env0_eq, List.map_cons, List.map_nil, List.replicate, List.cons_append, List.nil_append, List.append_nil, List.getElem?_cons_zero, List.getElem?_cons_succ, List.set_cons_zero, List.set_cons_succ, Option.map_some, if_true, Nat.reduceSub, Nat.reduceAdd, subTy, Nat.reduceLeDiff, reduceIte, Bool.not_true, Bool.not_false, Nat.reduceBEq, Bool.false_eq_true, Bool.or_false, Bool.or_true, Bool.false_or, Bool.true_or, Bool.and_true, Bool.true_and, Bool.and_false, Bool.false_and, lenI_nil, lenI_cons, Int.reduceAdd, Int.reduceEq, Int.reduceLT, Int.reduceLE, Int.reduceNeg, decide_true, decide_false, eq_self, not_true_eq_false, not_false_eq_true, finE_exc, Option.getD_some, times_b1 m (by omega) odd bad ho]
theorem ap4 (n : Nat) (hn : 7 ≤ n) (o : Ob) (bad odd zero : D) (hb : Bad bad) : (CX n).app 4 [0] [] [.cel (some bad), .cel (some odd), .cel (some zero), o] = .exc ⟨2, [bad]⟩ [.cel (some bad), .cel (some odd), .cel (some zero), o] := by
  obtain ⟨m, rfl⟩ : ∃ m, n = m + 1 := ⟨n - 1, by omega⟩
  rw [app_eq m 4 l4 rfl]
  unfold l4 runL
  rw [if_pos ⟨rfl, rfl, by decide, rfl⟩]
  simp (disch := first | assumption | omega | exact small_of (by decide) | rfl | decide) only [e_c, e_v, e_neg, negR_int, e_not, e_bin, e_cmp, e_and, e_or, e_ite, andR_t, andR_f, orR_t, orR_f, iteR_t, iteR_f, e_tup, e_lst, e_ix, e_call, e_app, goApp_fn, goApp_clo, e_bi, e_lam, cellsOf_nil, cellsOf_cons, cofV_cel, cofK_some, es_nil, es_cons, s_pass, s_ex, s_set, s_par, s_own, ownR_lst, ownV_no, ownV_v, s_setix, ownO_own, appK_ok, appR_eq, s_app, s_ite, ifR_t, ifR_f, s_loop, s_ret, s_brk, s_cont, s_rais, s_tri, triR_ok, ss_nil, ss_cons, seqR_nx, seqR_rt, seqR_bk, seqR_ct, R.bind_ok, R.bind_exc, R.of_some, rd_eq, rdv_v, rdv_cel, rdc_some, bi_len_tup, bi_len_lst, bi_abs, bi_max2, bi_min2, bi_gcd, bi_repr, bi_int, bi_list_l, bi_list_t, bi_bits, bi_isinst, bi_isinsts, isT_some, isTs_some, isAny_nil, isAny_cons,
    tyOf_int, tyOf_bl, tyOf_str, tyOf_lst, tyOf_tup, tyOf_non, tyOf_dct, bo_add, bo_sub, bo_mul, bo_fdiv, bo_mod, bo_pow, co_lt, co_le, co_gt, co_ge, co_eq, co_ne, co_is_bl, eqv_int, tru_non, tru_bl, tru_int, tru_tup, tru_lst, truR_eq, ix_tup, ix_lst, ix_ref, ixr_str, item0, item1, item2, lookK_cons,
    putAt_ref, putR_dic, keyOf_str, wr_eq, wrv_no, wrv_v, wrv_cel, wrc_cel, asg_nm, asg_tup, asgs_nil, asgs_cons, asgK_some, par_nil, par_cons, back_same, back_sameX, cells_cel, celB_some, celB_none, open_cel, parv_no, parv_v, back_ok, back_exc, cells_nil, cells_v, cells_no, open_nil, open_v, open_no, cells_own, open_own, shut_own, shut_nil, shut_v, shut_no, T_run, for_nil, walk_val_l, walk_val_t,
    fin_rt, fin_nx, fin_exc, env0_eq, List.map_cons, List.map_nil, List.replicate, List.cons_append, List.nil_append, List.append_nil, List.getElem?_cons_zero, List.getElem?_cons_succ, List.set_cons_zero, List.set_cons_succ, Option.map_some, if_true, Nat.reduceSub, Nat.reduceAdd, subTy, Nat.reduceLeDiff, reduceIte, Bool.not_true, Bool.not_false, Nat.reduceBEq, Bool.false_eq_true, Bool.or_false, Bool.or_true, Bool.false_or, Bool.true_or, Bool.and_true, Bool.true_and, Bool.and_false, Bool.false_and, lenI_nil, lenI_cons, Int.reduceAdd, Int.reduceEq, Int.reduceLT, Int.reduceLE, Int.reduceNeg, decide_true, decide_false, eq_self, not_true_eq_false, not_false_eq_true, finE_exc, Option.getD_some, less_b2 m (by omega) _ _ (.tup [.int 1, .int 2]) bad told12 hb]
theorem ap5 (n : Nat) (hn : 7 ≤ n) (o : Ob) (bad odd zero : D) (hb : Bad bad) : (CX n).app 5 [0] [] [.cel (some bad), .cel (some odd), .cel (some zero), o] = .exc ⟨2, [bad]⟩ [.cel (some bad), .cel (some odd), .cel (some zero), o] := by
  obtain ⟨m, rfl⟩ : ∃ m, n = m + 1 := ⟨n - 1, by omega⟩
  rw [app_eq m 5 l5 rfl]
  unfold l5 runL
  rw [if_pos ⟨rfl, rfl, by decide, rfl⟩]
  simp (disch := first | assumption | omega | exact small_of (by decide) | rfl | decide) only [e_c, e_v, e_neg, negR_int, e_not, e_bin, e_cmp, e_and, e_or, e_ite, andR_t, andR_f, orR_t, orR_f, iteR_t, iteR_f, e_tup, e_lst, e_ix, e_call, e_app, goApp_fn, goApp_clo, e_bi, e_lam, cellsOf_nil, cellsOf_cons, cofV_cel, cofK_some, es_nil, es_cons, s_pass, s_ex, s_set, s_par, s_own, ownR_lst, ownV_no, ownV_v, s_setix, ownO_own, appK_ok, appR_eq, s_app, s_ite, ifR_t, ifR_f, s_loop, s_ret, s_brk, s_cont, s_rais, s_tri, triR_ok, ss_nil, ss_cons, seqR_nx, seqR_rt, seqR_bk, seqR_ct, R.bind_ok, R.bind_exc, R.of_some, rd_eq, rdv_v, rdv_cel, rdc_some, bi_len_tup, bi_len_lst, bi_abs, bi_max2, bi_min2, bi_gcd, bi_repr, bi_int, bi_list_l, bi_list_t, bi_bits, bi_isinst, bi_isinsts, isT_some, isTs_some, isAny_nil, isAny_cons,
    tyOf_int, tyOf_bl, tyOf_str, tyOf_lst, tyOf_tup, tyOf_non, tyOf_dct, bo_add, bo_sub, bo_mul, bo_fdiv, bo_mod, bo_pow, co_lt, co_le, co_gt, co_ge, co_eq, co_ne, co_is_bl, eqv_int, tru_non, tru_bl, tru_int, tru_tup, tru_lst, truR_eq, ix_tup, ix_lst, ix_ref, ixr_str, item0, item1, item2, lookK_cons,
    putAt_ref, putR_dic, keyOf_str, wr_eq, wrv_no, wrv_v, wrv_cel, wrc_cel, asg_nm, asg_tup, asgs_nil, asgs_cons, asgK_some, par_nil, par_cons, back_same, back_sameX, cells_cel, celB_some, celB_none, open_cel, parv_no, parv_v, back_ok, back_exc, cells_nil, cells_v, cells_no, open_nil, open_v, open_no, cells_own, open_own, shut_own, shut_nil, shut_v, shut_no, T_run, for_nil, walk_val_l, walk_val_t,
    fin_rt, fin_nx, fin_exc, env0_eq, List.map_cons, List.map_nil, List.replicate, List.cons_append, List.nil_append, List.append_nil, List.getElem?_cons_zero, List.getElem?_cons_succ, List.set_cons_zero, List.set_cons_succ, Option.map_some, if_true, Nat.reduceSub, Nat.reduceAdd, subTy, Nat.reduceLeDiff, reduceIte, Bool.not_true, Bool.not_false, Nat.reduceBEq, Bool.false_eq_true, Bool.or_false, Bool.or_true, Bool.false_or, Bool.true_or, Bool.and_true, Bool.true_and, Bool.and_false, Bool.false_and, lenI_nil, lenI_cons, Int.reduceAdd, Int.reduceEq, Int.reduceLT, Int.reduceLE, Int.reduceNeg, decide_true, decide_false, eq_self, not_true_eq_false, not_false_eq_true, finE_exc, Option.getD_some, share_b1 m (by omega) bad (.int 0) hb]
theorem ap6 (n : Nat) (hn : 7 ≤ n) (o : Ob) (bad odd zero : D) (hb : Bad bad) : (CX n).app 6 [0] [] [.cel (some bad), .cel (some odd), .cel (some zero), o] = .exc ⟨2, [bad]⟩ [.cel (some bad), .cel (some odd), .cel (some zero), o] := by
  obtain ⟨m, rfl⟩ : ∃ m, n = m + 1 := ⟨n - 1, by omega⟩
  rw [app_eq m 6 l6 rfl]
  unfold l6 runL
  rw [if_pos ⟨rfl, rfl, by decide, rfl⟩]
  simp (disch := first | assumption | omega | exact small_of (by decide) | rfl | decide) only [e_c, e_v, e_neg, negR_int, e_not, e_bin, e_cmp, e_and, e_or, e_ite, andR_t, andR_f, orR_t, orR_f, iteR_t, iteR_f, e_tup, e_lst, e_ix, e_call, e_app, goApp_fn, goApp_clo, e_bi, e_lam, cellsOf_nil, cellsOf_cons, cofV_cel, cofK_some, es_nil, es_cons, s_pass, s_ex, s_set, s_par, s_own, ownR_lst, ownV_no, ownV_v, s_setix, ownO_own, appK_ok, appR_eq, s_app, s_ite, ifR_t, ifR_f, s_loop, s_ret, s_brk, s_cont, s_rais, s_tri, triR_ok, ss_nil, ss_cons, seqR_nx, seqR_rt, seqR_bk, seqR_ct, R.bind_ok, R.bind_exc, R.of_some, rd_eq, rdv_v, rdv_cel, rdc_some, bi_len_tup, bi_len_lst, bi_abs, bi_max2, bi_min2, bi_gcd, bi_repr, bi_int, bi_list_l, bi_list_t, bi_bits, bi_isinst, bi_isinsts, isT_some, isTs_some, isAny_nil, isAny_cons,
    tyOf_int, tyOf_bl, tyOf_str, tyOf_lst, tyOf_tup, tyOf_non, tyOf_dct, bo_add, bo_sub, bo_mul, bo_fdiv, bo_mod, bo_pow, co_lt, co_le, co_gt, co_ge, co_eq, co_ne, co_is_bl, eqv_int, tru_non, tru_bl, tru_int, tru_tup, tru_lst, truR_eq, ix_tup, ix_lst, ix_ref, ixr_str, item0, item1, item2, lookK_cons,
    putAt_ref, putR_dic, keyOf_str, wr_eq, wrv_no, wrv_v, wrv_cel, wrc_cel, asg_nm, asg_tup, asgs_nil, asgs_cons, asgK_some, par_nil, par_cons, back_same, back_sameX, cells_cel, celB_some, celB_none, open_cel, parv_no, parv_v, back_ok, back_exc, cells_nil, cells_v, cells_no, open_nil, open_v, open_no, cells_own, open_own, shut_own, shut_nil, shut_v, shut_no, T_run, for_nil, walk_val_l, walk_val_t,
    fin_rt, fin_nx, fin_exc, env0_eq, List.map_cons, List.map_nil, List.replicate, List.cons_append, List.nil_append, List.append_nil, List.getElem?_cons_zero, List.getElem?_cons_succ, List.set_cons_zero, List.set_cons_succ, Option.map_some, if_true, Nat.reduceSub, Nat.reduceAdd, subTy, Nat.reduceLeDiff, reduceIte, Bool.not_true, Bool.not_false, Nat.reduceBEq, Bool.false_eq_true, Bool.or_false, Bool.or_true, Bool.false_or, Bool.true_or, Bool.and_true, Bool.true_and, Bool.and_false, Bool.false_and, lenI_nil, lenI_cons, Int.reduceAdd, Int.reduceEq, Int.reduceLT, Int.reduceLE, Int.reduceNeg, decide_true, decide_false, eq_self, not_true_eq_false, not_false_eq_true, finE_exc, Option.getD_some, share_b2 m (by omega) 1 1 (.int 1) bad told1 hb]
theorem ap7 (n : Nat) (hn : 7 ≤ n) (o : Ob) (bad odd zero : D) (d : Int) (hz : Told zero 0 d) : (CX n).app 7 [2] [] [.cel (some bad), .cel (some odd), .cel (some zero), o] = .exc ⟨0, [.str (.ofString "share"), .int 0]⟩ [.cel (some bad), .cel (some odd), .cel (some zero), o] := by
  obtain ⟨m, rfl⟩ : ∃ m, n = m + 1 := ⟨n - 1, by omega⟩
  rw [app_eq m 7 l7 rfl]
  unfold l7 runL
  rw [if_pos ⟨rfl, rfl, by decide, rfl⟩]
  simp (disch := first | assumption | omega | exact small_of (by decide) | rfl | decide) only [e_c, e_v, e_neg, negR_int, e_not, e_bin, e_cmp, e_and, e_or, e_ite, andR_t, andR_f, orR_t, orR_f, iteR_t, iteR_f, e_tup, e_lst, e_ix, e_call, e_app, goApp_fn, goApp_clo, e_bi, e_lam, cellsOf_nil, cellsOf_cons, cofV_cel, cofK_some, es_nil, es_cons, s_pass, s_ex, s_set, s_par, s_own, ownR_lst, ownV_no, ownV_v, s_setix, ownO_own, appK_ok, appR_eq, s_app, s_ite, ifR_t, ifR_f, s_loop, s_ret, s_brk, s_cont, s_rais, s_tri, triR_ok, ss_nil, ss_cons, seqR_nx, seqR_rt, seqR_bk, seqR_ct, R.bind_ok, R.bind_exc, R.of_some, rd_eq, rdv_v, rdv_cel, rdc_some, bi_len_tup, bi_len_lst, bi_abs, bi_max2, bi_min2, bi_gcd, bi_repr, bi_int, bi_list_l, bi_list_t, bi_bits, bi_isinst, bi_isinsts, isT_some, isTs_some, isAny_nil, isAny_cons,
    tyOf_int, tyOf_bl, tyOf_str, tyOf_lst, tyOf_tup, tyOf_non, tyOf_dct, bo_add, bo_sub, bo_mul, bo_fdiv, bo_mod, bo_pow, co_lt, co_le, co_gt, co_ge, co_eq, co_ne, co_is_bl, eqv_int, tru_non, tru_bl, tru_int, tru_tup, tru_lst, truR_eq, ix_tup, ix_lst, ix_ref, ixr_str, item0, item1, item2, lookK_cons,
    putAt_ref, putR_dic, keyOf_str, wr_eq, wrv_no, wrv_v, wrv_cel, wrc_cel, asg_nm, asg_tup, asgs_nil, asgs_cons, asgK_some, par_nil, par_cons, back_same, back_sameX, cells_cel, celB_some, celB_none, open_cel, parv_no, parv_v, back_ok, back_exc, cells_nil, cells_v, cells_no, open_nil, open_v, open_no, cells_own, open_own, shut_own, shut_nil, shut_v, shut_no, T_run, for_nil, walk_val_l, walk_val_t,
    fin_rt, fin_nx, fin_exc, env0_eq, List.map_cons, List.map_nil, List.replicate, List.cons_append, List.nil_append, List.append_nil, List.getElem?_cons_zero, List.getElem?_cons_succ, List.set_cons_zero, List.set_cons_succ, Option.map_some, if_true, Nat.reduceSub, Nat.reduceAdd, subTy, Nat.reduceLeDiff, reduceIte, Bool.not_true, Bool.not_false, Nat.reduceBEq, Bool.false_eq_true, Bool.or_false, Bool.or_true, Bool.false_or, Bool.true_or, Bool.and_true, Bool.true_and, Bool.and_false, Bool.false_and, lenI_nil, lenI_cons, Int.reduceAdd, Int.reduceEq, Int.reduceLT, Int.reduceLE, Int.reduceNeg, decide_true, decide_false, eq_self, not_true_eq_false, not_false_eq_true, finE_exc, Option.getD_some, share_0 m (by omega) 3 1 d (.int 3) zero told3 hz]
theorem sh_row {x : D} (h : No x) : shB (.tup [.str (.ofString "row"), x]) = true ∧ shN (.tup [.str (.ofString "row"), x]) ≤ 1000000 ∧ shD (.tup [.str (.ofString "row"), x]) ≤ 60 := by
  have h1 : PyData.strOk (reprText (.ofString "row")) = true := by decide +kernel
  have h2 : (reprText (.ofString "row")).length ≤ 100 := by decide +kernel
  refine ⟨?_, ?_, ?_⟩
  · show (PyData.strOk (reprText (.ofString "row")) && (shB x && true)) = true
    rw [h1, h.sh]
    rfl
  · show 3 + ((reprText (.ofString "row")).length + 2 + (shN x + 2 + 0)) ≤ 1000000
    have := h.shn
    omega
  · show max 0 (max (shD x) 0) + 1 ≤ 60
    have := h.shd
    omega
theorem sh_num : shB (.tup [.str (.ofString "number"), .str (.ofString "share"), .int 0]) = true ∧ shN (.tup [.str (.ofString "number"), .str (.ofString "share"), .int 0]) ≤ 1000000 ∧ shD (.tup [.str (.ofString "number"), .str (.ofString "share"), .int 0]) ≤ 60 := by decide +kernel
theorem all_tries (n : Nat) (hn : 8 ≤ n) (o : Ob) (bad odd zero : D) (hb : No bad) (ho : No odd) (d : Int) (hz : Told zero 0 d) : ∀ x ∈ [.tup [.clo 0 [0], .tup [.str (.ofString "row"), bad]], .tup [.clo 1 [0, 1], .tup [.str (.ofString "row"), bad]], .tup [.clo 2 [0], .tup [.str (.ofString "row"), bad]], .tup [.clo 3 [0, 1], .tup [.str (.ofString "row"), odd]], .tup [.clo 4 [0], .tup [.str (.ofString "row"), bad]], .tup [.clo 5 [0], .tup [.str (.ofString "row"), bad]], .tup [.clo 6 [0], .tup [.str (.ofString "row"), bad]], .tup [.clo 7 [2], .tup [.str (.ofString "number"), .str (.ofString "share"), .int 0]]], TryOk n [.cel (some bad), .cel (some odd), .cel (some zero), o] x := by
  simp only [List.mem_cons, List.not_mem_nil, or_false, forall_eq_or_imp, forall_eq]
  refine ⟨?_, ?_, ?_, ?_, ?_, ?_, ?_, ?_⟩
  · exact ⟨_, _, _, rfl, fault n (by omega) _ _ _ _ _ (ap0 (n - 1) (by omega) o bad odd zero hb.bad) rfl rfl, sh_row hb⟩
  · exact ⟨_, _, _, rfl, fault n (by omega) _ _ _ _ _ (ap1 (n - 1) (by omega) o bad odd zero hb.bad) rfl rfl, sh_row hb⟩
  · exact ⟨_, _, _, rfl, fault n (by omega) _ _ _ _ _ (ap2 (n - 1) (by omega) o bad odd zero hb.bad) rfl rfl, sh_row hb⟩
  · exact ⟨_, _, _, rfl, fault n (by omega) _ _ _ _ _ (ap3 (n - 1) (by omega) o bad odd zero ho.bad) rfl rfl, sh_row ho⟩
  · exact ⟨_, _, _, rfl, fault n (by omega) _ _ _ _ _ (ap4 (n - 1) (by omega) o bad odd zero hb.bad) rfl rfl, sh_row hb⟩
  · exact ⟨_, _, _, rfl, fault n (by omega) _ _ _ _ _ (ap5 (n - 1) (by omega) o bad odd zero hb.bad) rfl rfl, sh_row hb⟩
  · exact ⟨_, _, _, rfl, fault n (by omega) _ _ _ _ _ (ap6 (n - 1) (by omega) o bad odd zero hb.bad) rfl rfl, sh_row hb⟩
  · exact ⟨_, _, _, rfl, fault n (by omega) _ _ _ _ _ (ap7 (n - 1) (by omega) o bad odd zero d hz) rfl rfl, sh_num⟩
theorem t12_ok (m : Nat) (hm : 9 ≤ m) (sc : D) (x2 x3 x4 x5 x6 x7 : Sl) (p2 : Pl x2) (p3 : Pl x3) (p4 : Pl x4) (p5 : Pl x5) (p6 : Pl x6) (p7 : Pl x7) (o : Ob) (bad odd zero : D) (hb : No bad) (ho : No odd) (d : Int) (hz : Told zero 0 d) : ∃ e', KP.S (CX m) tl12 [.v sc, .v (.ref 3), x2, x3, x4, x5, x6, x7, .own [.tup [.clo 0 [0], .tup [.str (.ofString "row"), bad]], .tup [.clo 1 [0, 1], .tup [.str (.ofString "row"), bad]], .tup [.clo 2 [0], .tup [.str (.ofString "row"), bad]], .tup [.clo 3 [0, 1], .tup [.str (.ofString "row"), odd]], .tup [.clo 4 [0], .tup [.str (.ofString "row"), bad]], .tup [.clo 5 [0], .tup [.str (.ofString "row"), bad]], .tup [.clo 6 [0], .tup [.str (.ofString "row"), bad]], .tup [.clo 7 [2], .tup [.str (.ofString "number"), .str (.ofString "share"), .int 0]]], .cel 0, .cel 1, .cel 2] [.cel (some bad), .cel (some odd), .cel (some zero), o] = .ok (.rt (.bl true)) e' [.cel (some bad), .cel (some odd), .cel (some zero), o] := by
  have h2 := are_due m (by omega) [.cel (some bad), .cel (some odd), .cel (some zero), o] [.tup [.clo 0 [0], .tup [.str (.ofString "row"), bad]], .tup [.clo 1 [0, 1], .tup [.str (.ofString "row"), bad]], .tup [.clo 2 [0], .tup [.str (.ofString "row"), bad]], .tup [.clo 3 [0, 1], .tup [.str (.ofString "row"), odd]], .tup [.clo 4 [0], .tup [.str (.ofString "row"), bad]], .tup [.clo 5 [0], .tup [.str (.ofString "row"), bad]], .tup [.clo 6 [0], .tup [.str (.ofString "row"), bad]], .tup [.clo 7 [2], .tup [.str (.ofString "number"), .str (.ofString "share"), .int 0]]] (by simp) (all_tries (m - 1) (by omega) o bad odd zero hb ho d hz)
  refine ⟨[.v sc, .v (.ref 3), x2, x3, x4, x5, x6, x7, .v (.lst [.tup [.clo 0 [0], .tup [.str (.ofString "row"), bad]], .tup [.clo 1 [0, 1], .tup [.str (.ofString "row"), bad]], .tup [.clo 2 [0], .tup [.str (.ofString "row"), bad]], .tup [.clo 3 [0, 1], .tup [.str (.ofString "row"), odd]], .tup [.clo 4 [0], .tup [.str (.ofString "row"), bad]], .tup [.clo 5 [0], .tup [.str (.ofString "row"), bad]], .tup [.clo 6 [0], .tup [.str (.ofString "row"), bad]], .tup [.clo 7 [2], .tup [.str (.ofString "number"), .str (.ofString "share"), .int 0]]]), .cel 0, .cel 1, .cel 2], ?_⟩
  unfold tl12
  simp (disch := first | assumption | omega | exact small_of (by decide) | rfl | decide) only [e_c, e_v, e_neg, negR_int, e_not, e_bin, e_cmp, e_and, e_or, e_ite, andR_t, andR_f, orR_t, orR_f, iteR_t, iteR_f, e_tup, e_lst, e_ix, e_call, e_app, goApp_fn, goApp_clo, e_bi, e_lam, cellsOf_nil, cellsOf_cons, cofV_cel, cofK_some, es_nil, es_cons, s_pass, s_ex, s_set, s_par, s_own, ownR_lst, ownV_no, ownV_v, s_setix, ownO_own, appK_ok, appR_eq, s_app, s_ite, ifR_t, ifR_f, s_loop, s_ret, s_brk, s_cont, s_rais, s_tri, triR_ok, ss_nil, ss_cons, seqR_nx, seqR_rt, seqR_bk, seqR_ct, R.bind_ok, R.bind_exc, R.of_some, rd_eq, rdv_v, rdv_cel, rdc_some, bi_len_tup, bi_len_lst, bi_abs, bi_max2, bi_min2, bi_gcd, bi_repr, bi_int, bi_list_l, bi_list_t, bi_bits, bi_isinst, bi_isinsts, isT_some, isTs_some, isAny_nil, isAny_cons,
    tyOf_int, tyOf_bl, tyOf_str, tyOf_lst, tyOf_tup, tyOf_non, tyOf_dct, bo_add, bo_sub, bo_mul, bo_fdiv, bo_mod, bo_pow, co_lt, co_le, co_gt, co_ge, co_eq, co_ne, co_is_bl, eqv_int, tru_non, tru_bl, tru_int, tru_tup, tru_lst, truR_eq, ix_tup, ix_lst, ix_ref, ixr_str, item0, item1, item2, lookK_cons,
    putAt_ref, putR_dic, keyOf_str, wr_eq, wrv_no, wrv_v, wrv_cel, wrc_cel, asg_nm, asg_tup, asgs_nil, asgs_cons, asgK_some, par_nil, par_cons, back_same, back_sameX, cells_cel, celB_some, celB_none, open_cel, parv_no, parv_v, back_ok, back_exc, cells_nil, cells_v, cells_no, open_nil, open_v, open_no, cells_own, open_own, shut_own, shut_nil, shut_v, shut_no, T_run, for_nil, walk_val_l, walk_val_t,
    fin_rt, fin_nx, fin_exc, env0_eq, List.map_cons, List.map_nil, List.replicate, List.cons_append, List.nil_append, List.append_nil, List.getElem?_cons_zero, List.getElem?_cons_succ, List.set_cons_zero, List.set_cons_succ, Option.map_some, if_true, Nat.reduceSub, Nat.reduceAdd, subTy, Nat.reduceLeDiff, reduceIte, Bool.not_true, Bool.not_false, Nat.reduceBEq, Bool.false_eq_true, Bool.or_false, Bool.or_true, Bool.false_or, Bool.true_or, Bool.and_true, Bool.true_and, Bool.and_false, Bool.false_and, lenI_nil, lenI_cons, Int.reduceAdd, Int.reduceEq, Int.reduceLT, Int.reduceLE, Int.reduceNeg, decide_true, decide_false, eq_self, not_true_eq_false, not_false_eq_true, pl_wr, pl_par, pl_cells, pl_open, pl_shut, rdv_own, Option.getD_some, hb.nr m _ (by omega), h2, beq_self_eq_true]
theorem t0_ok (m : Nat) (hm : 1 ≤ m) (ns : List Int) : ∃ o, PenOb 0 o ∧ KP.S (CX m) tl0 [.v (.lst (ns.map D.int)), .no, .no, .no, .no, .no, .no, .no, .no, .cel 0, .cel 1, .cel 2] [.cel none, .cel none, .cel none] = .ok .nx [.v (.lst (ns.map D.int)), .v (.ref 3), .no, .no, .no, .no, .no, .no, .no, .cel 0, .cel 1, .cel 2] [.cel none, .cel none, .cel none, o] := by
  obtain ⟨o, hp, h⟩ := law_pen m hm ns [.cel none, .cel none, .cel none]
  have h : (CX m).call 15 [.lst (ns.map D.int)] [.cel none, .cel none, .cel none] = .ok (.ref 3) [.cel none, .cel none, .cel none, o] := h
  refine ⟨o, hp, ?_⟩
  unfold tl0
  simp (disch := first | assumption | omega | exact small_of (by decide) | rfl | decide) only [e_c, e_v, e_neg, negR_int, e_not, e_bin, e_cmp, e_and, e_or, e_ite, andR_t, andR_f, orR_t, orR_f, iteR_t, iteR_f, e_tup, e_lst, e_ix, e_call, e_app, goApp_fn, goApp_clo, e_bi, e_lam, cellsOf_nil, cellsOf_cons, cofV_cel, cofK_some, es_nil, es_cons, s_pass, s_ex, s_set, s_par, s_own, ownR_lst, ownV_no, ownV_v, s_setix, ownO_own, appK_ok, appR_eq, s_app, s_ite, ifR_t, ifR_f, s_loop, s_ret, s_brk, s_cont, s_rais, s_tri, triR_ok, ss_nil, ss_cons, seqR_nx, seqR_rt, seqR_bk, seqR_ct, R.bind_ok, R.bind_exc, R.of_some, rd_eq, rdv_v, rdv_cel, rdc_some, bi_len_tup, bi_len_lst, bi_abs, bi_max2, bi_min2, bi_gcd, bi_repr, bi_int, bi_list_l, bi_list_t, bi_bits, bi_isinst, bi_isinsts, isT_some, isTs_some, isAny_nil, isAny_cons,
    tyOf_int, tyOf_bl, tyOf_str, tyOf_lst, tyOf_tup, tyOf_non, tyOf_dct, bo_add, bo_sub, bo_mul, bo_fdiv, bo_mod, bo_pow, co_lt, co_le, co_gt, co_ge, co_eq, co_ne, co_is_bl, eqv_int, tru_non, tru_bl, tru_int, tru_tup, tru_lst, truR_eq, ix_tup, ix_lst, ix_ref, ixr_str, item0, item1, item2, lookK_cons,
    putAt_ref, putR_dic, keyOf_str, wr_eq, wrv_no, wrv_v, wrv_cel, wrc_cel, asg_nm, asg_tup, asgs_nil, asgs_cons, asgK_some, par_nil, par_cons, back_same, back_sameX, cells_cel, celB_some, celB_none, open_cel, parv_no, parv_v, back_ok, back_exc, cells_nil, cells_v, cells_no, open_nil, open_v, open_no, cells_own, open_own, shut_own, shut_nil, shut_v, shut_no, T_run, for_nil, walk_val_l, walk_val_t,
    fin_rt, fin_nx, fin_exc, env0_eq, List.map_cons, List.map_nil, List.replicate, List.cons_append, List.nil_append, List.append_nil, List.getElem?_cons_zero, List.getElem?_cons_succ, List.set_cons_zero, List.set_cons_succ, Option.map_some, if_true, Nat.reduceSub, Nat.reduceAdd, subTy, Nat.reduceLeDiff, reduceIte, Bool.not_true, Bool.not_false, Nat.reduceBEq, Bool.false_eq_true, Bool.or_false, Bool.or_true, Bool.false_or, Bool.true_or, Bool.and_true, Bool.true_and, Bool.and_false, Bool.false_and, lenI_nil, lenI_cons, Int.reduceAdd, Int.reduceEq, Int.reduceLT, Int.reduceLE, Int.reduceNeg, decide_true, decide_false, eq_self, not_true_eq_false, not_false_eq_true, Option.getD_some, h]
theorem law_ok (ns : List Int) (hl : ns.length ≤ 63) (hb : ∀ z ∈ ns, Builtin.Int.intBits z ≤ 1048576) : ∃ st', (cc ⟨(mo.ts.map (·.i)).map (·.F), mo.ls⟩ 1000 30).call 29 [.lst (ns.map .int)] [] = .ok (.bl true) st' := by
  show ∃ st', (CX (29 + 1)).call 29 [.lst (ns.map D.int)] [] = .ok (.bl true) st'
  obtain ⟨o0, q0, s0⟩ := t0_ok 29 (by omega) ns
  have q00 : PenOb (20 * ((0 : Nat) : Int)) o0 := by
    rw [show 20 * ((0 : Nat) : Int) = 0 from rfl]
    exact q0
  obtain ⟨e1, st1, hl1, x2, x3, x4, x5, x6, x7, o, p2, p3, p4, p5, p6, p7, q1, rfl, rfl⟩ := for_inv (I := fun k e s => ∃ x2 x3 x4 x5 x6 x7 o, Pl x2 ∧ Pl x3 ∧ Pl x4 ∧ Pl x5 ∧ Pl x6 ∧ Pl x7 ∧ PenOb (20 * (k : Int)) o ∧ e = [.v (.lst (ns.map D.int)), .v (.ref 3), x2, x3, x4, x5, x6, x7, .no, .cel 0, .cel 1, .cel 2] ∧ s = [.cel none, .cel none, .cel none, o]) (st := lp (CX 29) (.nm 2) lapB) (rng 0 6) 0 [.v (.lst (ns.map D.int)), .v (.ref 3), .no, .no, .no, .no, .no, .no, .no, .cel 0, .cel 1, .cel 2] [.cel none, .cel none, .cel none, o0]
    ⟨.no, .no, .no, .no, .no, .no, o0, pl_no, pl_no, pl_no, pl_no, pl_no, pl_no, q00, rfl, rfl⟩ fun j x e s hx hI => by
      obtain ⟨x2, x3, x4, x5, x6, x7, o, p2, p3, p4, p5, p6, p7, q, rfl, rfl⟩ := hI
      have hj : j < 6 := by
        have z := (List.getElem?_eq_some_iff.mp hx).1
        rw [rngL] at z
        omega
      obtain ⟨y2, y3, y4, y5, y6, y7, o', w2, w3, w4, w5, w6, w7, q', h⟩ := lap 29 (by omega) (20 * ((0 + j : Nat) : Int)) (by omega) (.lst (ns.map D.int)) x x2 x3 x4 x5 x6 x7 p2 p3 p4 p5 p6 p7 o q
      refine ⟨_, _, h, y2, y3, y4, y5, y6, y7, o', w2, w3, w4, w5, w6, w7, ?_, rfl, rfl⟩
      have e : 20 * ((0 + j : Nat) : Int) + 20 = 20 * ((0 + j + 1 : Nat) : Int) := by omega
      rw [e] at q'
      exact q'
  have q1 : PenOb 120 o := by
    rw [show 20 * ((0 + (rng 0 6).length : Nat) : Int) = 120 from rfl] at q1
    exact q1
  obtain ⟨bad, o1, hbad, q2, c1⟩ := pick 29 (by omega) 120 (by omega) 3 [.cel none, .cel none, .cel none, o] o rfl q1 [.non, .str (.ofString "1"), .tup [.int 1], .tup [.int 1, .int 0], .tup [.int 1, .int (-2)], .tup [.bl true, .int 2], .tup [.int 1, .bl true], .bl true, .tup [.int 1, .int 2, .int 3], .lst [], .dct [] []] (by simp) (by simp)
  have nb := no_bads bad hbad
  obtain ⟨odd, o2, hodd, q3, c2⟩ := pick 29 (by omega) (120 + 1) (by omega) 3 [.cel (some bad), .cel (none), .cel (none), o1] o1 rfl q2 [.str (.ofString "x"), .tup [.int 0, .int 0], .non] (by simp) (by simp)
  have no := no_odds odd hodd
  obtain ⟨zero, o3, hzero, q4, c3⟩ := pick 29 (by omega) (120 + 1 + 1) (by omega) 3 [.cel (some bad), .cel (none), .cel (none), o2] o2 rfl q3 [.int 0, .tup [.int 0, .int 6]] (by simp) (by simp)
  have hz : ∃ d, Told zero 0 d := by
    simp at hzero
    rcases hzero with rfl | rfl
    · exact ⟨_, told0⟩
    · exact ⟨_, told06⟩
  obtain ⟨d, hz⟩ := hz
  have s2 := t2_ok 29 (.lst (ns.map D.int)) x2 x3 x4 x5 x6 x7 p2 p3 p4 p5 p6 p7 o o1 bad c1
  have s3 := t3_ok 29 (.lst (ns.map D.int)) x2 x3 x4 x5 x6 x7 p2 p3 p4 p5 p6 p7 o1 o2 o3 bad odd zero c2 c3
  have s4 := tries_ok 29 (.lst (ns.map D.int)) x2 x3 x4 x5 x6 x7 p2 p3 p4 p5 p6 p7 o3 bad odd zero (.cons tl12 .nil)
  obtain ⟨e5, s5⟩ := t12_ok 29 (by omega) (.lst (ns.map D.int)) x2 x3 x4 x5 x6 x7 p2 p3 p4 p5 p6 p7 o3 bad odd zero nb no d hz
  have wk := wk_rng1 6 (by omega) (by omega)
  rw [call_eq 29 29 f29 rfl, f29_eq]
  show ∃ st', fin (KP.Ss (CX 29) _ [.v (.lst (ns.map D.int)), .no, .no, .no, .no, .no, .no, .no, .no, .cel 0, .cel 1, .cel 2] [.cel none, .cel none, .cel none]) = _
  rw [ss_cons, s0, R.bind_ok, seqR_nx, ss_cons, s_loop, es_cons, e_c, R.bind_ok, es_nil, R.bind_ok, R.bind_ok, wk, R.of_some, R.bind_ok, hl1, R.bind_ok, seqR_nx, ss_cons, s2, R.bind_ok, seqR_nx, ss_cons, s3, R.bind_ok, seqR_nx, s4, ss_cons, s5, R.bind_ok, seqR_rt]
  exact ⟨_, rfl⟩
end K02
end
section
set_option Elab.async false
set_option linter.all false
set_option maxRecDepth 100000
set_option maxHeartbeats 0
namespace K02
open PySem PySem.Spec PyProof.Rows L2 KP
abbrev rowR : PySem.W.OpenRow := PySem.W.OpenLaw.row rw_
abbrev qv : Program := PySem.W.view rowR.prog [0, 40]
def names : List Str := [.ofString "BeamError", .ofString "BadNumber", .ofString "BadText", .ofString "BadRow", .ofString "Unlike", .ofString "TooMany", .ofString "is_whole", .ofString "is_pair", .ofString "is_ratio", .ofString "lowest", .ofString "told", .ofString "summed", .ofString "lessened", .ofString "scaled", .ofString "parted", .ofString "below", .ofString "plus", .ofString "minus", .ofString "times", .ofString "share", .ofString "less", .ofString "_law_pen", .ofString "_law_draw", .ofString "_law_pick", .ofString "_law_gcd", .ofString "_law_q", .ofString "_law_plus", .ofString "_law_times", .ofString "_law_less", .ofString "_law_minus", .ofString "_law_share", .ofString "_law_number", .ofString "_law_handed", .ofString "_law_fault", .ofString "_law_are_due"]
def ob (s : PySem.W.SharedT) : Bool × List He.FnW := mo.obs 5 (HandSHeadRun.getT s)
theorem ob_eq (s : PySem.W.SharedT) : ob s = (mo.hook 5).obs s.abs := by
  have e : HandSHeadRun.getT s = s.abs.heap.get? := funext (HandSHeadRun.getT_eq s)
  unfold ob
  rw [e]
  rfl
end K02
namespace K02
open PySem PySem.Spec PyProof.Rows L2 KP
theorem run (w : World) : HandSHeadRun.RunEqI rowR qv (mo.hook 5) ob 20000 names w := by
  unfold HandSHeadRun.RunEqI
  kernel_rfl
end K02
end
set_option Elab.async false
set_option linter.all false
set_option maxRecDepth 100000
set_option maxHeartbeats 0
namespace K02
open PySem PySem.Spec PyProof.Rows L2 KP
end K02
open PySem PySem.W PySem.Calls PyProof.Rows
theorem PySem.Challenge.cw_beampapers_k02_ratios_holds : PySem.Challenge.rw_beampapers_k02_ratios.Holds := by
  w_on; o_law
  refine HandSHeadRun.head_imp (r := OpenLaw.row PySem.Challenge.rw_beampapers_k02_ratios) (q := K02.qv) (H := K02.mo.hook 5) (ob := K02.ob) (M := 20000) (loose := K02.names) (d := HandSHeadRun.topDef (OpenLaw.row PySem.Challenge.rw_beampapers_k02_ratios).prog 40) (kwd := []) K02.ob_eq
    K02.run (by kernel_rfl) (by kernel_rfl) (by kernel_rfl) (by rfl) (by first | assumption | decide +kernel) (by decide +kernel) ⟨rfl, rfl, rfl, rfl, rfl, by decide +kernel⟩ ?hw ?hc
  case hw => w_witness2
  case hc => exact KP.walk_law (m := K02.mo) (nH := 5) (n := 63) (f := 29) (fuel := 1000) (lvl := 30) rfl (by decide) (by kernel_rfl) ⟨rfl, by decide, by decide⟩ K02.okT K02.bds K02.bes (by kernel_rfl) K02.law_ok
