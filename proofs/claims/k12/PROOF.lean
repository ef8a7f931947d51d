import PyProof.Rows.All
import HandS.ForMost
import KE.KDictKeyed
import KE.KeyNested
import KE.KDictDisplayH
import HandS.Lambda
import HandS.TupMul
import HandS.TupAny
import HandS.IsInst
import HandS.Deep
import HandS.SortInts
import PyProof.ReprRoads
import HandS.Walk
import HandS.Zip
import KE.GoesEnum
import HandS.Strs
import HandS.SetFor
import HandS.Style
import HandS.Comp
import HandS.Codes
import HandS.EndBits
import HandS.Defaults
import HandS.ExcOwn
import HandS.Flow
import HandS.Small
import PyProof.Rows.TupTab
import HandS.ExcIs
import HandS.TryOnly
import HandS.Conv
import HandS.Ends
import HandS.HeadEnd
import HandS.EndTab
import HandS.Words
import HandS.WordsExc
import HandS.More
import HandS.Head0
import HandS.Head1
import HandS.Head2
import HandS.HeadHook1
import HandS.HeadHook2
import HandS.HeadHook4
import KE.KNestM
import PyProof.ExcBaseAll.RuntimeError
import PyProof.ExcBaseAll.LookupError
import PyProof.ReprBulk
import PyProof.Rows.ReprOcc
import PyProof.Rows.ReprShort
import PySem.Challenge.RW_boardcrowds_k12_whole_moves_by_hand
set_option linter.all false
set_option Elab.async false
section
/-! A small by-value language over PyData, and its interpreter. -/
namespace Z
open PySem

/-- what a name may hold: data, an object of the store, a def of the text -/
inductive D where
  | dat (d : PyData)
  | ref (n : Nat)
  | fn (x : Str)
  | scr (ns : List Int)
  | own (xs : List PyData)
  | odc (m : Bool) (kvs : List (PyData × PyData))
  | fdc (m : Bool) (kvs : List (PyData × PyData))
/-- a list or a dict that its name alone holds -/
def D.isOwn : D → Bool
  | .own _ => true
  | .odc _ _ => true
  | _ => false
inductive Ob where
  | lst (xs : List PyData)
structure Er where
  cls : Str
  fs : List (Str × PyData)
abbrev Sto := List Ob
abbrev Env := List (Option D)

inductive R (α : Type) where
  | ok (a : α) (s : Sto)
  | er (x : Er) (s : Sto)
  | no
namespace R
def bd {α β : Type} (m : R α) (f : α → Sto → R β) : R β := match m with
  | .ok a s => f a s
  | .er x s => .er x s
  | .no => .no
/-- where nothing may be raised -/
def calm {α : Type} (m : R α) : R α := match m with
  | .ok a s => .ok a s
  | _ => .no
def opt {α : Type} (o : Option α) (s : Sto) : R α := match o with
  | some a => .ok a s
  | none => .no
@[simp] theorem bd_ok {α β : Type} (a : α) (s : Sto) (f : α → Sto → R β) : (R.ok a s).bd f = f a s := rfl
@[simp] theorem bd_er {α β : Type} (x : Er) (s : Sto) (f : α → Sto → R β) : (R.er x s : R α).bd f = .er x s := rfl
@[simp] theorem bd_no {α β : Type} (f : α → Sto → R β) : (R.no : R α).bd f = .no := rfl
@[simp] theorem calm_ok {α : Type} (a : α) (s : Sto) : (R.ok a s).calm = .ok a s := rfl
@[simp] theorem opt_some {α : Type} (a : α) (s : Sto) : R.opt (some a) s = .ok a s := rfl
@[simp] theorem opt_none {α : Type} (s : Sto) : R.opt (none : Option α) s = .no := rfl
end R

inductive Bop where
  | add | sub | mul | fdiv | mod | pow
  deriving DecidableEq
inductive Cop where
  | lt | le | gt | ge | eq | ne | inn | nin
  deriving DecidableEq
inductive Bf where
  | len | abs | max | min | sum | all | any | tuple | list | int | repr | divmod | sorted
  deriving DecidableEq
inductive Ty where
  | int | bool | str | tuple | list | dict
  deriving DecidableEq
inductive Sk where
  | it | rng | zip | enum
  deriving DecidableEq

inductive Tg where
  | nm (i : Nat)
  | tup (ts : List Tg)

inductive Ex where
  | abs
  | nev
  | var (i : Nat)
  | ovar (i : Nat)
  | glob (x : Str)
  | non
  | bl (b : Bool)
  | num (i : Int)
  | txt (s : Str)
  | tup (es : List Ex)
  | lst (es : List Ex)
  | refl (es : List Ex)
  | dic0
  | bin (o : Bop) (a b : Ex)
  | neg (a : Ex)
  | nt (a : Ex)
  | an (es : List Ex)
  | or (es : List Ex)
  | cmp (o : Cop) (a b : Ex)
  | ch (o p : Cop) (a b c : Ex)
  | isN (a : Ex)
  | notN (a : Ex)
  | ife (c a b : Ex)
  | call (f : Str) (es : List Ex)
  | callk (f : Str) (es ks : List Ex) (ns : List Str) (π : List Nat)
  | bf (f : Bf) (es : List Ex)
  | isi (a : Ex) (ts : List Ty) (w : Bool)
  | idx (a i : Ex)
  | slc (a lo hi : Ex)
  | comp (e : Ex) (t : Tg) (k : Sk) (ss cs : List Ex)
  | sset (a : Ex)
  | isB (a : Ex) (b w : Bool)
  | rev (a : Ex)
  | fnr (x : Str)
  | callv (i : Nat) (l : List Ex)
  | tmp (i : Nat) (a : Ex)
  | dget (i : Nat) (a : Ex)
  | dlen (i : Nat)
  | din (i : Nat) (a : Ex) (w : Bool)
  | hear (h : Str) (a : Ex)
  | rg1 (t : Bool) (a : Ex)
  | rg2 (t : Bool) (a b : Ex)

inductive Sm where
  | asg (i : Nat) (e : Ex)
  | own (i : Nat) (e : Ex)
  | asgT (ts : List Tg) (e : Ex)
  | sub2 (v : Nat) (i : Int) (d : Nat) (e : Ex)
  | nev
  | par (os : List Bool) (is : List Nat) (es : List Ex)
  | setI (v : Nat) (i e : Ex)
  | app (v : Nat) (e : Ex)
  | ext (v : Nat) (e : Ex)
  | frz (v : Nat)
  | ret (e : Ex)
  | retN
  | ife (c : Ex) (a b : List Sm)
  | whl (c : Ex) (b : List Sm)
  | fr (t : Tg) (k : Sk) (ss : List Ex) (b : List Sm)
  | frO (t : Tg) (v : Nat) (b : List Sm)
  | exp (e : Ex)
  | pas
  | brk
  | cnt
  | odc (m : Bool) (i : Nat) (e : Ex)
  | dset (v : Nat) (k e : Ex)
  | rse (x : Str)

/-- a def: its parameters, how many names it has, the names that hold lists of its own, its body; fresh: what it hands back is new -/
structure Fd where
  ps : List Str
  n : Nat
  fr : Bool
  body : List Sm

/-- a def that hears a lambda out: the class that it excepts; then the list of a word and isinstance of another class -/
structure HdK where
  cls : Str
  w : Str
  is : Str
structure Gam where
  fns : Str → Option Fd
  cst : Str → Option PyData
  W : Nat
  hrs : Str → Option HdK := fun _ => none

/-! ### operations on data -/
def b2i (b : Bool) : Int := if b then 1 else 0
def vw (d : D) (s : Sto) : Option PyData := match d with
  | .dat d => some d
  | .ref n => match s[n]? with
    | some (.lst xs) => some (.list xs)
    | none => none
  | .own xs => some (.list xs)
  | _ => none
/-- the script too -/
def vwI (d : D) (s : Sto) : Option PyData := match d with
  | .scr ns => some (.list (ns.map .int))
  | d => vw d s
def big (n : Nat) : Bool := decide (n ≤ sizeLine)
def mulOk (i j : Int) : Bool := (decide (-(2 ^ 64) < i) && decide (i < 2 ^ 64)) || (decide (-(2 ^ 64) < j) && decide (j < 2 ^ 64))
def binD : Bop → PyData → PyData → Option PyData
  | .add, .int i, .int j => some (.int (i + j))
  | .add, .int i, .bool j => some (.int (i + b2i j))
  | .add, .str x, .str y => if x.length + y.length ≤ sizeLine then some (.str (x ++ y)) else none
  | .add, .tuple xs, .tuple ys => if xs.length + ys.length ≤ sizeLine then some (.tuple (xs ++ ys)) else none
  | .add, .list xs, .list ys => if xs.length + ys.length ≤ sizeLine then some (.list (xs ++ ys)) else none
  | .sub, .int i, .int j => some (.int (i - j))
  | .mul, .int i, .int j => if mulOk i j then some (.int (i * j)) else none
  | .mul, .tuple xs, .int k => if 0 ≤ k ∧ k ≤ 1000 ∧ xs.length ≤ 1000 then some (.tuple (List.replicate k.toNat xs).flatten) else none
  | .mul, .list xs, .int k => if 0 ≤ k ∧ k < 2 ^ 62 ∧ xs.length * k.toNat ≤ sizeLine then some (.list (List.replicate k.toNat xs).flatten) else none
  | .fdiv, .int i, .int j => if 0 < j ∧ j < 1073741824 then some (.int (i / j)) else none
  | .mod, .int i, .int j => if 0 < j then some (.int (i % j)) else none
  | .pow, .int i, .int j => if 0 ≤ j ∧ j ≤ 1000000 ∧ i.natAbs < 2 ^ 64 then some (.int (i ^ j.toNat)) else none
  | _, _, _ => none
def flatD : PyData → Bool
  | .none | .bool _ | .int _ | .str _ => true
  | _ => false
def allFlat : List PyData → Bool
  | [] => true
  | d :: r => flatD d && allFlat r
def scalD : PyData → PyData → Bool
  | .bool _, .int _ | .int _, .bool _ => false
  | d, e => flatD d && flatD e
def eqD (d e : PyData) : Option Bool := if (scalD d e || (SeqAt.shaped d && SeqAt.shaped e)) = true then some (PyData.eqv d e) else none
def inD (d : PyData) : PyData → Option Bool
  | .list xs | .tuple xs => if ((flatD d && allFlat xs) || (SeqAt.shaped d && SeqAt.shaped (.list xs))) = true then some (xs.any fun z => PyData.eqv z d) else none
  | _ => none
def cmpD : Cop → PyData → PyData → Option Bool
  | .lt, .int i, .int j => some (decide (i < j))
  | .le, .int i, .int j => some (decide (i ≤ j))
  | .gt, .int i, .int j => some (decide (j < i))
  | .ge, .int i, .int j => some (decide (j ≤ i))
  | .eq, d, e => eqD d e
  | .ne, d, e => (eqD d e).map not
  | .inn, d, e => inD d e
  | .nin, d, e => (inD d e).map not
  | _, _, _ => none
def ixN (n : Nat) (i : Int) : Option Nat := if 0 ≤ i then (if i < n then some i.toNat else none) else if -(n : Int) ≤ i then some (i + n).toNat else none
def idxD : PyData → PyData → Option PyData
  | .list xs, .int i | .tuple xs, .int i => (ixN xs.length i).bind fun j => xs[j]?
  | _, _ => none
def sIx (n d : Nat) : Option Int → Nat
  | none => d
  | some v => if v < 0 then (v + (n : Int)).toNat else min v.toNat n
def cut {α : Type} (xs : List α) (lo hi : Option Int) : List α := (xs.drop (sIx xs.length 0 lo)).take (sIx xs.length xs.length hi - sIx xs.length 0 lo)
def slcD (lo hi : Option Int) : PyData → Option PyData
  | .list xs => some (.list (cut xs lo hi))
  | .tuple xs => some (.tuple (cut xs lo hi))
  | _ => none
def intsOf : List PyData → Option (List Int)
  | [] => some []
  | .int i :: r => (intsOf r).map (i :: ·)
  | _ :: _ => none
def boolsOf : List PyData → Option (List Bool)
  | [] => some []
  | .bool b :: r => (boolsOf r).map (b :: ·)
  | _ :: _ => none
def maxI : Int → List Int → Int
  | m, [] => m
  | m, x :: r => maxI (if m < x then x else m) r
def minI : Int → List Int → Int
  | m, [] => m
  | m, x :: r => minI (if x < m then x else m) r
def noDict : PyData → Bool
  | .dict [] => true
  | d => !d.hasDict
def reprOk (d : PyData) : Bool := d.showable && decide (d.shown.length ≤ sizeLine) && decide (d.depth ≤ 64) && noDict d
def lenD : List PyData → Option PyData
  | [.list xs] => some (.int xs.length)
  | [.tuple xs] => some (.int xs.length)
  | [.str x] => if x.length ≤ sizeLine then some (.int x.length) else none
  | _ => none
def absD : List PyData → Option PyData
  | [.int i] => some (.int (if i < 0 then -i else i))
  | _ => none
def maxD : List PyData → Option PyData
  | [.int i, .int j] => some (.int (if j > i then j else i))
  | [.list xs] => match intsOf xs with
    | some (n :: ns) => some (.int (maxI n ns))
    | _ => none
  | _ => none
def minD : List PyData → Option PyData
  | [.int i, .int j] => some (.int (if j < i then j else i))
  | [.list xs] => match intsOf xs with
    | some (n :: ns) => some (.int (minI n ns))
    | _ => none
  | _ => none
def sumD : List PyData → Option PyData
  | [.list xs] => (intsOf xs).map fun ns => .int ns.sum
  | _ => none
def allD : List PyData → Option PyData
  | [.list xs] => (boolsOf xs).map fun bs => .bool (bs.all id)
  | _ => none
def anyD : List PyData → Option PyData
  | [.list xs] => (boolsOf xs).map fun bs => .bool (bs.any id)
  | _ => none
def tupD : List PyData → Option PyData
  | [.list xs] => some (.tuple xs)
  | [.tuple xs] => some (.tuple xs)
  | _ => none
def lstD : List PyData → Option PyData
  | [.list xs] => some (.list xs)
  | [.tuple xs] => some (.list xs)
  | _ => none
def intD : List PyData → Option PyData
  | [.int i] => some (.int i)
  | [.bool b] => some (.int (b2i b))
  | _ => none
def reprD : List PyData → Option PyData
  | [d] => if reprOk d = true then some (.str d.shown) else none
  | _ => none
def dvmD : List PyData → Option PyData
  | [.int i, .int j] => if 0 < j ∧ j < 1073741824 then some (.tuple [.int (i / j), .int (i % j)]) else none
  | _ => none
def insL (x : Int) : List Int → List Int
  | [] => [x]
  | y :: r => if x ≤ y then x :: y :: r else y :: insL x r
def isort (ns : List Int) : List Int := ns.foldr insL []
def srtD : List PyData → Option PyData
  | [.list xs] => (intsOf xs).map fun ns => .list ((isort ns).map .int)
  | [.tuple xs] => (intsOf xs).map fun ns => .list ((isort ns).map .int)
  | _ => none
def isBD (b : Bool) : PyData → Option Bool
  | .bool c => some (decide (c = b))
  | _ => none
def revD : PyData → Option PyData
  | .list xs => some (.list xs.reverse)
  | _ => none
def bfD : Bf → List PyData → Option PyData
  | .len => lenD
  | .abs => absD
  | .max => maxD
  | .min => minD
  | .sum => sumD
  | .all => allD
  | .any => anyD
  | .tuple => tupD
  | .list => lstD
  | .int => intD
  | .repr => reprD
  | .divmod => dvmD
  | .sorted => srtD
def isT : PyData → Ty → Bool
  | .int _, .int => true
  | .bool _, .int => true
  | .bool _, .bool => true
  | .str _, .str => true
  | .tuple _, .tuple => true
  | .list _, .list => true
  | .dict _, .dict => true
  | _, _ => false
/-- the distinct ones, in order -/
def insU (x : Int) : List Int → List Int
  | [] => [x]
  | y :: r => if x < y then x :: y :: r else if x = y then y :: r else y :: insU x r
def uniq (ns : List Int) : List Int := ns.foldr insU []
/-- sorted(set(t)), t a tuple of ints -/
def ssetD : PyData → Option PyData
  | .tuple xs => (intsOf xs).bind fun ns => if ns.length < 63 then some (.list ((uniq ns).map .int)) else none
  | _ => none
def truD : PyData → Option Bool
  | .bool b => some b
  | _ => none
def rngOk (a b : Int) : Bool := decide (-(2 ^ 62) ≤ a) && decide (a < 2 ^ 62) && decide (-(2 ^ 62) ≤ b) && decide (b < 2 ^ 62) && decide ((b - a).toNat ≤ 2 ^ 24)
def rngL (a : Int) (n : Nat) : List PyData := (List.range n).map fun (k : Nat) => .int (a + k)
def zipL : List PyData → List PyData → List PyData
  | x :: xs, y :: ys => .tuple [x, y] :: zipL xs ys
  | _, _ => []
def enumL : Nat → List PyData → List PyData
  | _, [] => []
  | k, x :: xs => .tuple [.int k, x] :: enumL (k + 1) xs
/-- the items of a walk -/
def srcD : Sk → List PyData → Option (List PyData)
  | .it, [.list xs] | .it, [.tuple xs] => some xs
  | .rng, [.int b] => if rngOk 0 b then some (rngL 0 b.toNat) else none
  | .rng, [.int a, .int b] => if rngOk a b then some (rngL a (b - a).toNat) else none
  | .zip, [.list xs, .list ys] | .zip, [.tuple xs, .tuple ys] => some (zipL xs ys)
  | .enum, [.list xs] | .enum, [.tuple xs] => some (enumL 0 xs)
  | _, _ => none

/-! ### names -/
mutual
def bindT : Tg → PyData → Env → Option Env
  | .nm i, d, η => if i < η.length then some (η.set i (some (.dat d))) else none
  | .tup ts, .tuple ds, η => bindTs ts ds η
  | .tup _, _, _ => none
def bindTs : List Tg → List PyData → Env → Option Env
  | [], [], η => some η
  | t :: ts, d :: ds, η => (bindT t d η).bind fun η' => bindTs ts ds η'
  | _, _, _ => none
end

mutual
/-- the places of a target -/
def Tg.at : Tg → List Nat
  | .nm i => [i]
  | .tup ts => Tg.ats ts
def Tg.ats : List Tg → List Nat
  | [] => []
  | t :: ts => Tg.at t ++ Tg.ats ts
end
def wipeE (η : Env) : List Nat → Env
  | [] => η
  | v :: vs => (wipeE η vs).set v none

/-! ### the walk of a comprehension -/
def cgo (f : PyData → Sto → R (Option PyData)) : List PyData → Sto → R (List PyData)
  | [], s => .ok [] s
  | x :: r, s => (f x s).bd fun o s => (cgo f r s).bd fun l s => .ok (match o with | some y => y :: l | none => l) s

def datOf : D → Option PyData
  | .dat d => some d
  | _ => none
def datO : D → Option PyData
  | .dat d => some d
  | .own xs => some (.list xs)
  | _ => none
def datOs : List D → Option (List PyData)
  | [] => some []
  | d :: r => (datO d).bind fun x => (datOs r).map (x :: ·)
def datsOf : List D → Option (List PyData)
  | [] => some []
  | d :: r => (datOf d).bind fun x => (datsOf r).map (x :: ·)
def vws : List D → Sto → Option (List PyData)
  | [], _ => some []
  | d :: r, s => (vw d s).bind fun x => (vws r s).map (x :: ·)
def vwF (f : Bf) (ds : List D) (s : Sto) : Option (List PyData) := match f, ds with
  | .len, [d] => (vwI d s).map fun x => [x]
  | _, ds => vws ds s
def loHi : D → Option (Option Int)
  | .dat (.int i) => some (some i)
  | _ => none

section
variable (C : Str → List D → Sto → R D) (G : Gam)
def look (η : Env) (i : Nat) (s : Sto) : R D := match η[i]? with
  | some (some (.own _)) => .no
  | some (some (.odc _ _)) => .no
  | some (some d) => .ok d s
  | _ => .no
/-- a dict that a name alone holds -/
def lookC (η : Env) (i : Nat) (s : Sto) : R (Bool × List (PyData × PyData)) := match η[i]? with
  | some (some (.odc m kvs)) => .ok (m, kvs) s
  | some (some (.fdc m kvs)) => .ok (m, kvs) s
  | _ => .no
def lookO (η : Env) (i : Nat) (s : Sto) : R D := match η[i]? with
  | some (some (.own xs)) => .ok (.own xs) s
  | some (some (.odc m kvs)) => .ok (.odc m kvs) s
  | _ => .no
def lookA (η : Env) (i : Nat) (s : Sto) : R D := match η[i]? with
  | some (some d) => .ok d s
  | _ => .no
def globD (x : Str) (s : Sto) : R D := match G.cst x with
  | some d => .ok (.dat d) s
  | none => .no
/-- some of them -/
def pick {α : Type} (π : List Nat) (ws : List α) : List α := π.filterMap fun i => ws[i]?
/-- m arguments by place, the others by name, in the parameters' order -/
def kArgs (m : Nat) (π : List Nat) (ds : List D) : List D := ds.take m ++ pick π (ds.drop m)

/-- what an expression means: its value, as a test, as a slice's bound -/
structure ES where
  v : Env → Sto → R D
  t : Env → Sto → R Bool
  b : Env → Sto → R (Option Int)
def valT (v : Env → Sto → R D) : Env → Sto → R Bool := fun η s => (v η s).bd fun d s => (R.opt (datOf d) s).bd fun d s => R.opt (truD d) s
def valB (v : Env → Sto → R D) : Env → Sto → R (Option Int) := fun η s => (v η s).bd fun d s => R.opt (loHi d) s
def es (v : Env → Sto → R D) : ES := ⟨v, valT v, valB v⟩
def seqV : List ES → Env → Sto → R (List D)
  | [], _, s => .ok [] s
  | e :: es, η, s => (e.v η s).bd fun d s => (seqV es η s).bd fun ds s => .ok (d :: ds) s
def anV : List ES → Env → Sto → R D
  | [], _, _ => .no
  | [e], η, s => e.v η s
  | e :: f :: es, η, s => (e.v η s).bd fun d s => match d with
      | .dat (.bool true) => anV (f :: es) η s
      | .dat (.bool false) => .ok (.dat (.bool false)) s
      | _ => .no
def orV : List ES → Env → Sto → R D
  | [], _, _ => .no
  | [e], η, s => e.v η s
  | e :: f :: es, η, s => (e.v η s).bd fun d s => match d with
      | .dat (.bool false) => orV (f :: es) η s
      | .dat (.bool true) => .ok (.dat (.bool true)) s
      | _ => .no
def anT : List ES → Env → Sto → R Bool
  | [], _, _ => .no
  | [e], η, s => e.t η s
  | e :: f :: es, η, s => (e.t η s).bd fun b s => if b then anT (f :: es) η s else .ok false s
def orT : List ES → Env → Sto → R Bool
  | [], _, _ => .no
  | [e], η, s => e.t η s
  | e :: f :: es, η, s => (e.t η s).bd fun b s => if b then .ok true s else orT (f :: es) η s
/-- the tests of a comprehension -/
def allT : List ES → Env → Sto → R Bool
  | [], _, s => .ok true s
  | e :: es, η, s => (e.t η s).bd fun b s => if b then allT es η s else .ok false s
def vCmp (o : Cop) (a b : ES) (η : Env) (s : Sto) : R Bool := (a.v η s).bd fun x s => (b.v η s).bd fun y s => (R.opt (vw x s) s).bd fun x s => (R.opt (vw y s) s).bd fun y s => R.opt (cmpD o x y) s
def vCh (o p : Cop) (a b c : ES) (η : Env) (s : Sto) : R Bool := (a.v η s).bd fun x s => (b.v η s).bd fun y s => (R.opt (datOf x) s).bd fun x s => (R.opt (datOf y) s).bd fun y s => (R.opt (cmpD o x y) s).bd fun d s =>
      if d then (c.v η s).bd fun z s => (R.opt (datOf z) s).bd fun z s => R.opt (cmpD p y z) s else .ok false s
def isNon : D → Bool
  | .dat .none => true
  | _ => false
/-- a test as a value -/
def tv (t : Env → Sto → R Bool) : Env → Sto → R D := fun η s => (t η s).bd fun b s => .ok (.dat (.bool b)) s
def tst (t : Env → Sto → R Bool) : ES := ⟨tv t, t, fun _ _ => .no⟩
def vBin (o : Bop) (a b : ES) (η : Env) (s : Sto) : R D := (a.v η s).bd fun x s => (b.v η s).bd fun y s => (R.opt (vw x s) s).bd fun x s => (R.opt (vw y s) s).bd fun y s => (R.opt (binD o x y) s).bd fun d s => .ok (.dat d) s
def vNeg (a : ES) (η : Env) (s : Sto) : R D := (a.v η s).bd fun x s => match x with
    | .dat (.int i) => .ok (.dat (.int (-i))) s
    | _ => .no
def vTup (es : List ES) (η : Env) (s : Sto) : R D := (seqV es η s).bd fun ds s => (R.opt (datsOf ds) s).bd fun xs s => .ok (.dat (.tuple xs)) s
def vLst (es : List ES) (η : Env) (s : Sto) : R D := (seqV es η s).bd fun ds s => (R.opt (datsOf ds) s).bd fun xs s => .ok (.dat (.list xs)) s
def vRefl (es : List ES) (η : Env) (s : Sto) : R D := (seqV es η s).bd fun ds s => (R.opt (datsOf ds) s).bd fun xs s => .ok (.ref s.length) (s ++ [.lst xs])
def vCall (f : Str) (es : List ES) (η : Env) (s : Sto) : R D := (seqV es η s).bd fun ds s => C f ds s
def vCallk (f : Str) (es ks : List ES) (π : List Nat) (η : Env) (s : Sto) : R D := (seqV (es ++ ks) η s).bd fun ds s => C f (kArgs es.length π ds) s
def vBf (f : Bf) (es : List ES) (η : Env) (s : Sto) : R D := (seqV es η s).bd fun ds s => (R.opt (vwF f ds s) s).bd fun xs s => (R.opt (bfD f xs) s).bd fun d s => .ok (.dat d) s
def vIsi (a : ES) (ts : List Ty) (η : Env) (s : Sto) : R D := (a.v η s).bd fun x s => (R.opt (vw x s) s).bd fun x s => .ok (.dat (.bool (ts.any (isT x)))) s
def vIdx (a i : ES) (η : Env) (s : Sto) : R D := (a.v η s).bd fun x s => (i.v η s).bd fun y s => (R.opt (vwI x s) s).bd fun x s => (R.opt (vw y s) s).bd fun y s => (R.opt (idxD x y) s).bd fun d s => .ok (.dat d) s
def vSlc (a lo hi : ES) (η : Env) (s : Sto) : R D := (a.v η s).bd fun x s => (lo.b η s).bd fun l s => (hi.b η s).bd fun h s => (R.opt (vw x s) s).bd fun x s => (R.opt (slcD l h x) s).bd fun d s => .ok (.dat d) s
def turnC (t : Tg) (cs : List ES) (e : ES) (η : Env) (x : PyData) (s : Sto) : R (Option PyData) :=
  (R.opt (bindT t x (wipeE η t.at)) s).bd fun η' s => (allT cs η' s).bd fun k s => if k then (e.v η' s).bd fun d s => (R.opt (datOf d) s).bd fun d s => .ok (some d) s else .ok none s
def vSrc (k : Sk) (ss : List ES) (η : Env) (s : Sto) : R (List PyData) := (seqV ss η s).bd fun ds s => (R.opt (datOs ds) s).bd fun xs s => R.opt (srcD k xs) s
def vComp (e : ES) (t : Tg) (k : Sk) (ss cs : List ES) (η : Env) (s : Sto) : R D := (vSrc k ss η s).bd fun l s => (R.opt (if big l.length = true then some l else none) s).bd fun l s => ((cgo (turnC t cs e η) l s).calm).bd fun l s => .ok (.dat (.list l)) s
def vIfe (c a b : ES) (η : Env) (s : Sto) : R D := (c.t η s).bd fun k s => if k then a.v η s else b.v η s

def vSset (a : ES) (η : Env) (s : Sto) : R D := (a.v η s).bd fun x s => (R.opt (datOf x) s).bd fun x s => (R.opt (ssetD x) s).bd fun d s => .ok (.dat d) s

def vIsB (a : ES) (b w : Bool) (η : Env) (s : Sto) : R Bool := (a.v η s).bd fun x s => (R.opt (datOf x) s).bd fun d s => (R.opt (isBD b d) s).bd fun c s => .ok (if w then !c else c) s
def vRev (a : ES) (η : Env) (s : Sto) : R D := (a.v η s).bd fun x s => (R.opt (vw x s) s).bd fun x s => (R.opt (revD x) s).bd fun d s => .ok (.dat d) s
def vFnr (x : Str) (s : Sto) : R D := match G.fns x with
  | some _ => .ok (.fn x) s
  | none => .no
/-- a call of what a name holds -/
def callD (f : Str) (fd : Fd) (ds : List D) (s : Sto) : R D := if ds.length = fd.ps.length then C f ds s else .no
def callO (f : Str) (o : Option Fd) (es : List ES) (η : Env) (s : Sto) : R D := match o with
  | some fd => (seqV es η s).bd (callD C f fd)
  | none => .no
def callX (d : D) (es : List ES) (η : Env) (s : Sto) : R D := match d with
  | .fn f => callO C f (G.fns f) es η s
  | _ => .no
def vCallv (i : Nat) (es : List ES) (η : Env) (s : Sto) : R D := (look η i s).bd fun d s => callX C G d es η s

/-! dicts that a name alone holds: keys ints and texts -/
mutual
/-- a key of any depth -/
def keyN : PyData → Option NestedKey
  | .none => some .none
  | .bool b => some (.num (b2i b))
  | .int i => some (.num i)
  | .str x => some (.text x)
  | .tuple ds => (keyNs ds).map .tup
  | .list _ | .dict _ => none
def keyNs : List PyData → Option (List NestedKey)
  | [] => some []
  | d :: r => (keyN d).bind fun k => (keyNs r).map (k :: ·)
end
def isKey : PyData → Bool
  | .int _ | .str _ => true
  | _ => false
def nkB : Option NestedKey → Bool
  | some k => decide (k.depth ≤ 8)
  | none => false
/-- the keys of a dict: ints and texts, or tuples -/
def isKeyM : Bool → PyData → Bool
  | false, k => isKey k
  | true, .tuple ds => nkB (keyN (.tuple ds))
  | true, _ => false
def sameN : Option NestedKey → Option NestedKey → Bool
  | some a, some b => decide (a = b)
  | _, _ => false
def sameK : PyData → PyData → Bool
  | .int i, .int j => decide (i = j)
  | .str x, .str y => decide (x = y)
  | .tuple a, .tuple b => sameN (keyN (.tuple a)) (keyN (.tuple b))
  | _, _ => false
def getK : List (PyData × PyData) → PyData → Option PyData
  | [], _ => none
  | p :: r, k => if sameK p.1 k = true then some p.2 else getK r k
def subK (k v : PyData) (p : PyData × PyData) : PyData × PyData := if sameK p.1 k = true then (p.1, v) else p
def putKd (kvs : List (PyData × PyData)) (k v : PyData) : List (PyData × PyData) := if (getK kvs k).isSome = true then kvs.map (subK k v) else kvs ++ [(k, v)]
def prD (m : Bool) : PyData → Option (PyData × PyData)
  | .tuple [k, v] => if isKeyM m k = true then some (k, v) else none
  | _ => none
def prsD (m : Bool) : List PyData → Option (List (PyData × PyData))
  | [] => some []
  | p :: r => (prD m p).bind fun q => (prsD m r).map (q :: ·)
def mrgD : List (PyData × PyData) → List (PyData × PyData) → List (PyData × PyData)
  | kvs, [] => kvs
  | kvs, p :: r => mrgD (putKd kvs p.1 p.2) r
def dictD (m : Bool) : PyData → Option (List (PyData × PyData))
  | .list ps => (prsD m ps).map (mrgD [])
  | _ => none
def dicsD (m : Bool) : List PyData → Option (List (PyData × PyData))
  | [d] => dictD m d
  | _ => none
def vDic (m : Bool) (l : List ES) (η : Env) (s : Sto) : R (List (PyData × PyData)) := (seqV l η s).bd fun ds s => (R.opt (datsOf ds) s).bd fun ps s => R.opt (dicsD m ps) s
def getM (c : Bool × List (PyData × PyData)) (k : PyData) : Option PyData := if isKeyM c.1 k = true then getK c.2 k else none
def vDget (i : Nat) (a : ES) (η : Env) (s : Sto) : R D := (lookC η i s).bd fun c s => (a.v η s).bd fun y s => (R.opt (datOf y) s).bd fun y s => (R.opt (getM c y) s).bd fun d s => .ok (.dat d) s
def lenM : Bool × List (PyData × PyData) → Option Int
  | (false, kvs) => some kvs.length
  | (true, _) => none
def vDlen (i : Nat) (η : Env) (s : Sto) : R D := (lookC η i s).bd fun c s => (R.opt (lenM c) s).bd fun n s => .ok (.dat (.int n)) s
def inK (w : Bool) (k : PyData) (c : Bool × List (PyData × PyData)) : Option Bool := if isKeyM c.1 k = true then some (if w then !(getK c.2 k).isSome else (getK c.2 k).isSome) else none
def vDin (i : Nat) (a : ES) (w : Bool) (η : Env) (s : Sto) : R Bool := (a.v η s).bd fun y s => (R.opt (datOf y) s).bd fun y s => (lookC η i s).bd fun c s => R.opt (inK w y c) s

/-! a list of its own that is looked at as a value, for the time of a test -/
def flatO : Ob → Bool
  | .lst xs => xs.all flatD
def flatSto (s : Sto) : Bool := s.all flatO
def flatR : D → Bool
  | .dat d => flatD d
  | _ => false
def tmpO (i : Nat) (η : Env) : Option (Option D) → Option Env
  | some (some (.own xs)) => some (η.set i (some (.dat (.list xs))))
  | _ => none
def tmpE (i : Nat) (η : Env) : Option Env := tmpO i η η[i]?
def endV : R D → R D
  | .ok d s => if (flatR d && flatSto s) = true then .ok d s else .no
  | _ => .no
def endT : R Bool → R Bool
  | .ok d s => if flatSto s = true then .ok d s else .no
  | _ => .no
def tmpV (v : Env → Sto → R D) (s : Sto) : Option Env → R D
  | some η => endV (v η s)
  | none => .no
def tmpT (v : Env → Sto → R Bool) (s : Sto) : Option Env → R Bool
  | some η => endT (v η s)
  | none => .no
def vTmp (i : Nat) (a : ES) (η : Env) (s : Sto) : R D := tmpV a.v s (tmpE i η)
def tTmp (i : Nat) (a : ES) (η : Env) (s : Sto) : R Bool := tmpT a.t s (tmpE i η)

/-- tuple(range(..)), list(range(..)) -/
def intOf : D → Option Int
  | .dat (.int i) => some i
  | _ => none
def rgD (t : Bool) (a b : Int) : Option PyData := if rngOk a b = true then some (if t then .tuple (rngL a (b - a).toNat) else .list (rngL a (b - a).toNat)) else none
def vRg1 (t : Bool) (a : ES) (η : Env) (s : Sto) : R D := (a.v η s).bd fun x s => (R.opt (intOf x) s).bd fun i s => (R.opt (rgD t 0 i) s).bd fun d s => .ok (.dat d) s
def vRg2 (t : Bool) (a b : ES) (η : Env) (s : Sto) : R D := (a.v η s).bd fun x s => (b.v η s).bd fun y s => (R.opt (intOf x) s).bd fun i s => (R.opt (intOf y) s).bd fun j s => (R.opt (rgD t i j) s).bd fun d s => .ok (.dat d) s
def HdK.ret (h : HdK) : PyData := .list [.str h.w, .bool true]
def hearR (o : Option HdK) (r : R D) : R D := match o, r with
  | some _, .ok d s => .ok d s
  | some h, .er x s => if x.cls = h.cls ∧ x.fs.isEmpty = true then .ok (.dat h.ret) s else .no
  | _, _ => .no
def vHear (h : Str) (a : ES) (η : Env) (s : Sto) : R D := hearR (G.hrs h) (a.v η s)

mutual
def eX : Ex → ES
  | .abs => ⟨fun _ _ => .no, fun _ _ => .no, fun _ s => .ok none s⟩
  | .nev => ⟨fun _ _ => .no, fun _ _ => .no, fun _ _ => .no⟩
  | .var i => es fun η s => look η i s
  | .ovar i => es fun η s => lookO η i s
  | .glob x => es fun _ s => globD G x s
  | .non => es fun _ s => .ok (.dat .none) s
  | .bl b => es fun _ s => .ok (.dat (.bool b)) s
  | .num i => es fun _ s => .ok (.dat (.int i)) s
  | .txt x => es fun _ s => .ok (.dat (.str x)) s
  | .tup l => es (vTup (eXs l))
  | .lst l => es (vLst (eXs l))
  | .refl l => es (vRefl (eXs l))
  | .dic0 => es fun _ s => .ok (.dat (.dict [])) s
  | .bin o a b => es (vBin o (eX a) (eX b))
  | .neg a => es (vNeg (eX a))
  | .nt a => ⟨tv fun η s => (valT (eX a).v η s).bd fun b s => .ok (!b) s, fun η s => ((eX a).t η s).bd fun b s => .ok (!b) s, fun _ _ => .no⟩
  | .an l => ⟨anV (eXs l), anT (eXs l), fun _ _ => .no⟩
  | .or l => ⟨orV (eXs l), orT (eXs l), fun _ _ => .no⟩
  | .cmp o a b => tst (vCmp o (eX a) (eX b))
  | .ch o p a b c => tst (vCh o p (eX a) (eX b) (eX c))
  | .isN a => tst fun η s => ((eX a).v η s).bd fun x s => .ok (isNon x) s
  | .notN a => tst fun η s => ((eX a).v η s).bd fun x s => .ok (!isNon x) s
  | .ife c a b => ⟨vIfe (eX c) (eX a) (eX b), fun _ _ => .no, valB (vIfe (eX c) (eX a) (eX b))⟩
  | .call f l => es (vCall C f (eXs l))
  | .callk f l m _ π => es (vCallk C f (eXs l) (eXs m) π)
  | .bf f l => es (vBf f (eXs l))
  | .isi a ts _ => es (vIsi (eX a) ts)
  | .idx a i => es (vIdx (eX a) (eX i))
  | .slc a lo hi => es (vSlc (eX a) (eX lo) (eX hi))
  | .comp e t k ss cs => es (vComp (eX e) t k (eXs ss) (eXs cs))
  | .sset a => es (vSset (eX a))
  | .isB a b w => tst (vIsB (eX a) b w)
  | .rev a => es (vRev (eX a))
  | .fnr x => es fun _ s => vFnr G x s
  | .callv i l => es (vCallv C G i (eXs l))
  | .tmp i a => ⟨vTmp i (eX a), tTmp i (eX a), fun _ _ => .no⟩
  | .dget i a => es (vDget i (eX a))
  | .dlen i => es (vDlen i)
  | .din i a w => tst (vDin i (eX a) w)
  | .hear h a => es (vHear G h (eX a))
  | .rg1 t a => es (vRg1 t (eX a))
  | .rg2 t a b => es (vRg2 t (eX a) (eX b))
def eXs : List Ex → List ES
  | [] => []
  | e :: l => eX e :: eXs l
end
abbrev ev (e : Ex) : Env → Sto → R D := (eX C G e).v
abbrev evs (l : List Ex) : Env → Sto → R (List D) := seqV (eXs C G l)
abbrev evT (e : Ex) : Env → Sto → R Bool := (eX C G e).t

/-! ### statements -/
inductive Fl where
  | nx (η : Env)
  | rt (d : D)
  | bk (η : Env)
  | ct (η : Env)
inductive RS where
  | fl (f : Fl) (s : Sto)
  | er (x : Er) (η : Env) (s : Sto)
  | no
/-- an expression ahead of a statement -/
def RS.of {α : Type} (η : Env) (m : R α) (f : α → Sto → RS) : RS := match m with
  | .ok a s => f a s
  | .er x s => .er x η s
  | .no => .no
@[simp] theorem RS.of_ok {α : Type} (η : Env) (a : α) (s : Sto) (f : α → Sto → RS) : RS.of η (.ok a s) f = f a s := rfl
@[simp] theorem RS.of_no {α : Type} (η : Env) (f : α → Sto → RS) : RS.of η (.no : R α) f = .no := rfl
@[simp] theorem RS.of_er {α : Type} (η : Env) (x : Er) (s : Sto) (f : α → Sto → RS) : RS.of η (.er x s : R α) f = .er x η s := rfl
def RS.nxt (r : RS) (f : Env → Sto → RS) : RS := match r with
  | .fl (.nx η) s => f η s
  | r => r
@[simp] theorem RS.nxt_nx (η : Env) (s : Sto) (f : Env → Sto → RS) : RS.nxt (.fl (.nx η) s) f = f η s := rfl
@[simp] theorem RS.nxt_rt (d : D) (s : Sto) (f : Env → Sto → RS) : RS.nxt (.fl (.rt d) s) f = .fl (.rt d) s := rfl
@[simp] theorem RS.nxt_no (f : Env → Sto → RS) : RS.nxt .no f = .no := rfl
/-- behind a loop's turn -/
def RS.turn (r : RS) (f : Env → Sto → RS) : RS := match r with
  | .fl (.nx η) s => f η s
  | .fl (.ct η) s => f η s
  | .fl (.bk η) s => .fl (.nx η) s
  | r => r
def wgo (c : Env → Sto → R Bool) (b : Env → Sto → RS) : Nat → Env → Sto → RS
  | 0, _, _ => .no
  | n + 1, η, s => RS.of η (c η s) fun k s => if k then (b η s).turn fun η s => wgo c b n η s else .fl (.nx η) s
def fgo (b : PyData → Env → Sto → RS) : List PyData → Env → Sto → RS
  | [], η, s => .fl (.nx η) s
  | x :: r, η, s => (b x η s).turn fun η s => fgo b r η s
/-- the walk over a list that a name alone holds -/
def ogo (v : Nat) (b : PyData → Env → Sto → RS) : Nat → Nat → Env → Sto → RS
  | 0, _, _, _ => .no
  | n + 1, k, η, s => match η[v]? with
    | some (some (.own xs)) => match xs[k]? with
      | some x => (b x η s).turn fun η s => ogo v b n (k + 1) η s
      | none => .fl (.nx η) s
    | _ => .no
def put (η : Env) (i : Nat) (d : D) (s : Sto) : RS := if i < η.length ∧ d.isOwn = false then .fl (.nx (η.set i (some d))) s else .no
/-- what a name alone is to hold -/
def toOwn : D → Option (List PyData)
  | .dat (.list xs) => some xs
  | _ => none
/-- several names at once; the marked ones take lists of their own -/
def puts : List Bool → List Nat → List D → Env → Option Env
  | [], [], [], η => some η
  | o :: os, i :: is, d :: ds, η => if i < η.length ∧ i ∉ is then (match o with
      | true => (toOwn d).bind fun xs => puts os is ds (η.set i (some (.own xs)))
      | false => if d.isOwn then none else puts os is ds (η.set i (some d))) else none
  | _, _, _, _ => none
def setD (xs : List PyData) (i : PyData) (d : PyData) : Option (List PyData) := match i with
  | .int i => (ixN xs.length i).map fun j => xs.set j d
  | _ => none
/-- a list is changed where it stands -/
def chg (v : Nat) (f : List PyData → Option (List PyData)) (η : Env) (s : Sto) : RS := match η[v]? with
  | some (some (.own xs)) => match f xs with
    | some ys => .fl (.nx (η.set v (some (.own ys)))) s
    | none => .no
  | some (some (.ref n)) => match s[n]? with
    | some (.lst xs) => match f xs with
      | some ys => .fl (.nx η) (s.set n (.lst ys))
      | none => .no
    | none => .no
  | _ => .no
/-- a list that may be changed -/
def isLst (η : Env) (v : Nat) (s : Sto) : R Unit := match η[v]? with
  | some (some (.own _)) => .ok () s
  | some (some (.ref n)) => if n < s.length then .ok () s else .no
  | _ => .no
def appD (d : PyData) (xs : List PyData) : Option (List PyData) := if xs.length < sizeLine then some (xs ++ [d]) else none
def extD : PyData → List PyData → Option (List PyData)
  | .list ys, xs => if xs.length + ys.length ≤ sizeLine then some (xs ++ ys) else none
  | _, _ => none
/-- what goes out -/
def unown : D → D
  | .own xs => .dat (.list xs)
  | .odc m kvs => .fdc m kvs
  | d => d
def pairD : PyData → Option (PyData × PyData)
  | .tuple [x, y] => some (x, y)
  | _ => none
def putC (m : Bool) (i : Nat) (η : Env) (kvs : List (PyData × PyData)) (s : Sto) : RS := if i < η.length then .fl (.nx (η.set i (some (.odc m kvs)))) s else .no
def chgC (v : Nat) (k d : PyData) (η : Env) (s : Sto) : RS := match η[v]? with
  | some (some (.odc m kvs)) => if isKeyM m k = true ∧ kvs.length < sizeLine then .fl (.nx (η.set v (some (.odc m (putKd kvs k d))))) s else .no
  | _ => .no
def frzE (v : Nat) (η : Env) (s : Sto) : RS := match η[v]? with
  | some (some (.own xs)) => .fl (.nx (η.set v (some (.dat (.list xs))))) s
  | _ => .no

mutual
def exec : Sm → Env → Sto → RS
  | .asg i e, η, s => RS.of η (ev C G e η s) fun d s => put η i d s
  | .own i e, η, s => RS.of η (ev C G e η s) fun d s => RS.of η (R.opt (toOwn d) s) fun xs s => if i < η.length then .fl (.nx (η.set i (some (.own xs)))) s else .no
  | .asgT ts e, η, s => RS.of η (ev C G e η s) fun d s => RS.of η (R.opt (datOf d) s) fun d s => RS.of η (R.opt (bindT (.tup ts) d η) s) fun η s => .fl (.nx η) s
  | .sub2 v i d e, η, s => RS.of η (ev C G e η s) fun p s => RS.of η (R.opt (datOf p) s) fun p s => RS.of η (R.opt (pairD p) s) fun xy s => (chg v (fun xs => setD xs (.int i) xy.1) η s).nxt fun η s => put η d (.dat xy.2) s
  | .nev, _, _ => .no
  | .par os is es, η, s => RS.of η (evs C G es η s) fun ds s => RS.of η (R.opt (puts os is ds η) s) fun η s => .fl (.nx η) s
  | .setI v i e, η, s => RS.of η (ev C G e η s) fun d s => RS.of η (R.opt (datOf d) s) fun d s => RS.of η (isLst η v s) fun _ s => RS.of η (ev C G i η s) fun k s => RS.of η (R.opt (datOf k) s) fun k s => chg v (fun xs => setD xs k d) η s
  | .app v e, η, s => RS.of η (isLst η v s) fun _ s => RS.of η (ev C G e η s) fun d s => RS.of η (R.opt (datOf d) s) fun d s => chg v (appD d) η s
  | .ext v e, η, s => RS.of η (isLst η v s) fun _ s => RS.of η (ev C G e η s) fun d s => RS.of η (R.opt (datOf d) s) fun d s => chg v (extD d) η s
  | .frz v, η, s => frzE v η s
  | .ret e, η, s => RS.of η (ev C G e η s) fun d s => .fl (.rt (unown d)) s
  | .retN, _, s => .fl (.rt (.dat .none)) s
  | .ife c a b, η, s => RS.of η (evT C G c η s) fun k s => if k then execs a η s else execs b η s
  | .whl c b, η, s => wgo (evT C G c) (execs b) G.W η s
  | .fr t k ss b, η, s => RS.of η (vSrc k (eXs C G ss) η s) fun l s =>
      fgo (fun x η s => RS.of η (R.opt (bindT t x η) s) fun η s => execs b η s) l η s
  | .frO t v b, η, s => ogo v (fun x η s => RS.of η (R.opt (bindT t x η) s) fun η s => execs b η s) G.W 0 η s
  | .exp e, η, s => RS.of η (ev C G e η s) fun _ s => .fl (.nx η) s
  | .pas, η, s => .fl (.nx η) s
  | .brk, η, s => .fl (.bk η) s
  | .cnt, η, s => .fl (.ct η) s
  | .odc m i e, η, s => RS.of η (vDic m (eXs C G [e]) η s) fun kvs s => putC m i η kvs s
  | .dset v k e, η, s => RS.of η (ev C G e η s) fun d s => RS.of η (R.opt (datOf d) s) fun d s => RS.of η (lookC η v s) fun _ s => RS.of η (ev C G k η s) fun k s => RS.of η (R.opt (datOf k) s) fun k s => chgC v k d η s
  | .rse x, η, s => .er ⟨x, []⟩ η s
def execs : List Sm → Env → Sto → RS
  | [], η, s => .fl (.nx η) s
  | x :: r, η, s => (exec x η s).nxt fun η s => execs r η s
end
end

def start (n : Nat) (ds : List D) : Env := ds.map some ++ List.replicate (n - ds.length) none
/-- the end of a def -/
def fin : RS → R D
  | .fl (.rt d) s => .ok d s
  | .fl (.nx _) s => .ok (.dat .none) s
  | .er x _ s => .er x s
  | _ => .no
/-- a call, k calls deep at most -/
def callF (G : Gam) : Nat → Str → List D → Sto → R D
  | 0, _, _, _ => .no
  | k + 1, f, ds, s => match G.fns f with
    | some fd => if ds.length = fd.ps.length then fin (execs (callF G k) G fd.body (start fd.n ds) s) else .no
    | none => .no
end Z
end

section
set_option maxRecDepth 100000
/-! What stands in the heap for what the interpreter holds. -/
namespace Z
open PySem PySem.Spec PyProof.Rows L2
/-- the world that hashes -/
class HW where
  w : PySem.World
  T : List (Addr × Str)
variable [HW]
/-- an entry of a dict whose keys are tuples -/
def entN (x : NestedKey × Addr × Value) : DictEntry := ⟨x.1.hash HW.w, .ref x.2.1, x.2.2⟩
/-- such a dict at a -/
def ndO (a : Addr) (xs : List (NestedKey × Addr × Value)) : HO := .ext fun h => xs.length ≤ sizeLine ∧ (a == sysModules) = false ∧ ∃ o es ep, h.get? a = some o ∧ o.ExactDict ∧ o.data = .dict es ep ∧ es.toList = xs.map entN ∧ (xs.map (·.1)).Nodup

section
variable (K : PySem.W.Frag)
mutual
/-- frozen data: F is the part of the abstract heap that stays as it is -/
inductive Rv (F : Hp) : V → PyData → Prop
  | non : Rv F .non .none
  | bl (b : Bool) : Rv F (.bl b) (.bool b)
  | int (i : Int) : Rv F (.int i) (.int i)
  | str (x : Str) : Rv F (.str x) (.str x)
  | lst {a : Addr} {vs : List V} {ds : List PyData} : F a = some (.lst vs) → RvAll F vs ds → Rv F (.ref a) (.list ds)
  | tup {a : Addr} {vs : List V} {ds : List PyData} : SqT K F a vs → RvAll F vs ds → Rv F (.ref a) (.tuple ds)
  | dic {a : Addr} : F a = some (.dK []) → Rv F (.ref a) (.dict [])
inductive RvAll (F : Hp) : List V → List PyData → Prop
  | nil : RvAll F [] []
  | cons {v : V} {vs : List V} {d : PyData} {ds : List PyData} : Rv F v d → RvAll F vs ds → RvAll F (v :: vs) (d :: ds)
end
end

abbrev HLe (F F' : Hp) : Prop := ∀ a o, F a = some o → F' a = some o
theorem HLe.refl (F : Hp) : HLe F F := fun _ _ h => h
theorem HLe.trans {F F1 F2 : Hp} (h : HLe F F1) (h' : HLe F1 F2) : HLe F F2 := fun a o e => h' a o (h a o e)
theorem HLe.upd {F : Hp} {p : Addr} {o : HO} (h : F p = none) : HLe F (upd F p o) := fun a u e => by
  rw [upd_ne (ne_of_none e h)]; exact e
section
variable {K : PySem.W.Frag} {F F' H H' : Hp}
theorem rd_mono (h : HLe F F') {a : Addr} {u : HO} (r : L2.Rd F a u) : L2.Rd F' a u := by
  rcases r with r | ⟨o, r⟩
  · exact .inl (h _ _ r)
  · exact .inr ⟨o, h _ _ r⟩
theorem sqL_mono (h : HLe F F') {a : Addr} {xs : List V} (r : SqL K F a xs) : SqL K F' a xs := by
  rcases r with r | r
  · exact .inl (rd_mono h r)
  · exact .inr r
theorem sqT_mono (h : HLe F F') {a : Addr} {xs : List V} (r : SqT K F a xs) : SqT K F' a xs := by
  rcases r with r | r
  · exact .inl (rd_mono h r)
  · exact .inr r
mutual
theorem Rv.mono (h : HLe F F') : ∀ {v : V} {d : PyData}, Rv K F v d → Rv K F' v d
  | _, _, .non => .non
  | _, _, .bl b => .bl b
  | _, _, .int i => .int i
  | _, _, .str x => .str x
  | _, _, .lst s r => .lst (h _ _ s) (RvAll.mono h r)
  | _, _, .tup s r => .tup (sqT_mono h s) (RvAll.mono h r)
  | _, _, .dic s => .dic (h _ _ s)
theorem RvAll.mono (h : HLe F F') : ∀ {v : List V} {d : List PyData}, RvAll K F v d → RvAll K F' v d
  | _, _, .nil => .nil
  | _, _, .cons r s => .cons (Rv.mono h r) (RvAll.mono h s)
end
theorem RvAll.len : ∀ {vs : List V} {ds : List PyData}, RvAll K F vs ds → vs.length = ds.length
  | _, _, .nil => rfl
  | _, _, .cons _ s => congrArg (· + 1) (RvAll.len s)
theorem RvAll.get : ∀ {vs : List V} {ds : List PyData} {i : Nat} {d : PyData}, RvAll K F vs ds → ds[i]? = some d → ∃ v, vs[i]? = some v ∧ Rv K F v d
  | _, _, _, _, .nil, e => by simp at e
  | _, _, 0, _, .cons r _, e => by simp at e; subst e; exact ⟨_, rfl, r⟩
  | _, _, i + 1, d, .cons _ s, e => by
    obtain ⟨v, h1, h2⟩ := RvAll.get (i := i) (d := d) s (by simpa using e)
    exact ⟨v, by simpa using h1, h2⟩
theorem RvAll.get' : ∀ {vs : List V} {ds : List PyData} {i : Nat} {v : V}, RvAll K F vs ds → vs[i]? = some v → ∃ d, ds[i]? = some d ∧ Rv K F v d
  | _, _, _, _, .nil, e => by simp at e
  | _, _, 0, _, .cons r _, e => by simp at e; subst e; exact ⟨_, rfl, r⟩
  | _, _, i + 1, d, .cons _ s, e => by
    obtain ⟨v, h1, h2⟩ := RvAll.get' (i := i) (v := d) s (by simpa using e)
    exact ⟨v, by simpa using h1, h2⟩
theorem RvAll.app : ∀ {vs ws : List V} {ds es : List PyData}, RvAll K F vs ds → RvAll K F ws es → RvAll K F (vs ++ ws) (ds ++ es)
  | _, _, _, _, .nil, s => s
  | _, _, _, _, .cons r t, s => .cons r (RvAll.app t s)
theorem RvAll.take : ∀ {vs : List V} {ds : List PyData} (n : Nat), RvAll K F vs ds → RvAll K F (vs.take n) (ds.take n)
  | _, _, 0, _ => by simpa using RvAll.nil
  | _, _, _ + 1, .nil => .nil
  | _, _, n + 1, .cons r t => .cons r (RvAll.take n t)
theorem RvAll.drop : ∀ {vs : List V} {ds : List PyData} (n : Nat), RvAll K F vs ds → RvAll K F (vs.drop n) (ds.drop n)
  | _, _, 0, r => r
  | _, _, _ + 1, .nil => .nil
  | _, _, n + 1, .cons _ t => RvAll.drop n t
theorem RvAll.set {v : V} {d : PyData} (r : Rv K F v d) : ∀ {vs : List V} {ds : List PyData} (i : Nat), RvAll K F vs ds → RvAll K F (vs.set i v) (ds.set i d)
  | _, _, _, .nil => .nil
  | _, _, 0, .cons _ t => .cons r t
  | _, _, i + 1, .cons q t => .cons q (RvAll.set r i t)
theorem RvAll.rep {vs : List V} {ds : List PyData} (h : RvAll K F vs ds) : ∀ k : Nat, RvAll K F (List.replicate k vs).flatten (List.replicate k ds).flatten
  | 0 => .nil
  | k + 1 => by
    rw [List.replicate_succ, List.replicate_succ, List.flatten_cons, List.flatten_cons]
    exact h.app (RvAll.rep h k)
end

def keyP : L2.Key → PyData
  | .inl i => .int i
  | .inr x => .str x
/-- what a dict holds, its values frozen -/
inductive KvAll (K : PySem.W.Frag) (F : Hp) : List (L2.Key × V) → List (PyData × PyData) → Prop
  | nil : KvAll K F [] []
  | cons {k : L2.Key} {v : V} {d : PyData} {ks : List (L2.Key × V)} {kvs : List (PyData × PyData)} : Rv K F v d → KvAll K F ks kvs → KvAll K F ((k, v) :: ks) ((keyP k, d) :: kvs)
theorem KvAll.mono {K : PySem.W.Frag} {F F' : Hp} (h : HLe F F') {ks : List (L2.Key × V)} {kvs : List (PyData × PyData)} (r : KvAll K F ks kvs) : KvAll K F' ks kvs := by
  induction r with
  | nil => exact .nil
  | cons r _ ih => exact .cons (r.mono h) ih
inductive NvAll (K : PySem.W.Frag) (F : Hp) : List (NestedKey × Addr × Value) → List (PyData × PyData) → Prop
  | nil : NvAll K F [] []
  | cons {nk : NestedKey} {b : Addr} {u : Value} {v : V} {ks : List PyData} {d : PyData} {xs : List (NestedKey × Addr × Value)} {kvs : List (PyData × PyData)} : keyN (.tuple ks) = some nk → nk.depth ≤ 8 → Rv K F (.ref b) (.tuple ks) → Rv K F v d → RelV v u → NvAll K F xs kvs → NvAll K F ((nk, b, u) :: xs) ((.tuple ks, d) :: kvs)
theorem NvAll.mono {K : PySem.W.Frag} {F F' : Hp} (h : HLe F F') {xs : List (NestedKey × Addr × Value)} {kvs : List (PyData × PyData)} (r : NvAll K F xs kvs) : NvAll K F' xs kvs := by
  induction r with
  | nil => exact .nil
  | cons e1 e2 r1 r2 e3 _ ih => exact .cons e1 e2 (r1.mono h) (r2.mono h) e3 ih
/-- a dict at a, by what it holds -/
def DicAt (K : PySem.W.Frag) (F H : Hp) (a : Addr) (kvs : List (PyData × PyData)) : Bool → Prop
  | false => ∃ ks, H a = some (.dK ks) ∧ KvAll K F ks kvs
  | true => ∃ xs, H a = some (ndO a xs) ∧ NvAll K F xs kvs
theorem DicAt.mono {K : PySem.W.Frag} {F F' H H' : Hp} {a : Addr} {kvs : List (PyData × PyData)} (h : HLe F F') (hh : ∀ o, H a = some o → H' a = some o) : ∀ {m : Bool}, DicAt K F H a kvs m → DicAt K F' H' a kvs m
  | false, ⟨vs, e, r⟩ => ⟨vs, hh _ e, r.mono h⟩
  | true, ⟨vs, e, r⟩ => ⟨vs, hh _ e, r.mono h⟩
theorem DicAt.some {K : PySem.W.Frag} {F H : Hp} {a : Addr} {kvs : List (PyData × PyData)} : ∀ {m : Bool}, DicAt K F H a kvs m → ∃ o, H a = some o
  | false, ⟨vs, e, r⟩ => ⟨_, e⟩
  | true, ⟨vs, e, r⟩ => ⟨_, e⟩
/-- a list that stands at a now, its items frozen -/
def ConAt (K : PySem.W.Frag) (F H : Hp) (a : Addr) : D → Prop
  | .own ds => ∃ vs, H a = some (.lst vs) ∧ RvAll K F vs ds
  | .odc m kvs => DicAt K F H a kvs m
  | _ => False
def ObAt (K : PySem.W.Frag) (F H : Hp) (a : Addr) : Ob → Prop
  | .lst ds => ∃ vs, H a = some (.lst vs) ∧ RvAll K F vs ds
/-- a value of the interpreter, shared -/
def RD (K : PySem.W.Frag) (mg : Str → Option Value) (F : Hp) (φ : List Addr) (v : V) : D → Prop
  | .dat d => Rv K F v d
  | .ref n => ∃ a, φ[n]? = some a ∧ v = .ref a
  | .fn x => ∃ f, mg x = some (.ref f) ∧ v = .ref f
  | .scr ns => ∃ a, v = .ref a ∧ SqL K F a (ns.map V.int)
  | .own _ => False
  | .odc _ _ => False
  | .fdc m kvs => ∃ a, v = .ref a ∧ DicAt K F F a kvs m
theorem ConAt.mono {K : PySem.W.Frag} {F F' H H' : Hp} {a : Addr} (h : HLe F F') (hh : ∀ o, H a = some o → H' a = some o) : ∀ {d : D}, ConAt K F H a d → ConAt K F' H' a d
  | .own _, ⟨vs, e, r⟩ => ⟨vs, hh _ e, r.mono h⟩
  | .odc _ _, x => DicAt.mono h hh x
  | .fdc _ _, x => x.elim
  | .dat _, x => x.elim
  | .ref _, x => x.elim
  | .fn _, x => x.elim
  | .scr _, x => x.elim
theorem ConAt.some {K : PySem.W.Frag} {F H : Hp} {a : Addr} : ∀ {d : D}, ConAt K F H a d → ∃ o, H a = some o
  | .own _, ⟨vs, e, r⟩ => ⟨_, e⟩
  | .odc _ _, x => DicAt.some x
  | .fdc _ _, x => x.elim
  | .dat _, x => x.elim
  | .ref _, x => x.elim
  | .fn _, x => x.elim
  | .scr _, x => x.elim
theorem ObAt.mono {K : PySem.W.Frag} {F F' H H' : Hp} {a : Addr} (h : HLe F F') (hh : ∀ o, H a = .some o → H' a = .some o) : ∀ {d : Ob}, ObAt K F H a d → ObAt K F' H' a d
  | .lst _, ⟨vs, e, r⟩ => ⟨vs, hh _ e, r.mono h⟩
theorem ObAt.some {K : PySem.W.Frag} {F H : Hp} {a : Addr} : ∀ {d : Ob}, ObAt K F H a d → ∃ o, H a = .some o
  | .lst _, ⟨vs, e, r⟩ => ⟨_, e⟩
abbrev PLe (φ φ' : List Addr) : Prop := ∀ (n : Nat) (a : Addr), φ[n]? = some a → φ'[n]? = some a
theorem RD.mono {K : PySem.W.Frag} {mg : Str → Option Value} {F F' : Hp} {φ φ' : List Addr} {v : V} (h : HLe F F') (hp : PLe φ φ') : ∀ {d : D}, RD K mg F φ v d → RD K mg F' φ' v d
  | .dat _, r => Rv.mono h r
  | .ref n, ⟨a, e, q⟩ => ⟨a, hp _ _ e, q⟩
  | .fn _, r => r
  | .scr _, ⟨a, e, r⟩ => ⟨a, e, sqL_mono h r⟩
  | .own _, r => r
  | .odc _ _, r => r
  | .fdc _ _, ⟨a, e, r⟩ => ⟨a, e, r.mono h fun o q => h _ _ q⟩

/-- no table of code objects, no code object -/
def NoT (o : HO) : Prop := ∀ ps, o ≠ .tbl ps
def NoC (o : HO) : Prop := ∀ c q, o ≠ LamX.CodeO c q
theorem noC_lst {vs : List V} : NoC (.lst vs) := fun c q h => by unfold LamX.CodeO at h; cases h
theorem noC_dK {ks : List (L2.Key × V)} : NoC (.dK ks) := fun c q h => by unfold LamX.CodeO at h; cases h
theorem noC_nd {a : Addr} {xs : List (NestedKey × Addr × Value)} : NoC (ndO a xs) := fun c q h => by
  unfold LamX.CodeO ndO at h
  have h := HO.ext.inj h
  have ho : ∀ b o, ({ objs := Array.replicate (c + 1) { cls := .none, data := .fields #[.none, .str q 0] } } : Heap).get? b = some o → o.data = .fields #[.none, .str q 0] := fun b o e => by
    simp only [Heap.get?] at e
    rw [Array.getElem?_replicate] at e
    by_cases hb : b < c + 1
    · rw [if_pos hb] at e; cases e; rfl
    · rw [if_neg hb] at e; cases e
  have h1 := congrFun h { objs := Array.replicate (c + 1) { cls := .none, data := .fields #[.none, .str q 0] } }
  have h2 := h1.mpr ⟨{ cls := .none, data := .fields #[.none, .str q 0] }, #[.none, .str q 0], 0, by
    simp only [Heap.get?]
    rw [Array.getElem?_replicate, if_pos (Nat.lt_succ_self c)], rfl, rfl⟩
  obtain ⟨_, _, o, es, ep, e1, _, e2, _⟩ := h2
  rw [ho _ _ e1] at e2
  cases e2
theorem DicAt.no {K : PySem.W.Frag} {F H : Hp} {a : Addr} {kvs : List (PyData × PyData)} {o : HO} : ∀ {m : Bool}, DicAt K F H a kvs m → H a = .some o → NoT o ∧ NoC o
  | false, ⟨vs, e, r⟩, h => by rw [e] at h; cases h; exact ⟨nofun, noC_dK⟩
  | true, ⟨vs, e, r⟩, h => by rw [e] at h; cases h; exact ⟨nofun, noC_nd⟩
theorem ConAt.no {K : PySem.W.Frag} {F H : Hp} {a : Addr} {o : HO} : ∀ {d : D}, ConAt K F H a d → H a = .some o → NoT o ∧ NoC o
  | .own _, ⟨vs, e, r⟩, h => by rw [e] at h; cases h; exact ⟨nofun, noC_lst⟩
  | .odc _ _, x, h => DicAt.no x h
  | .fdc _ _, x, _ => x.elim
  | .dat _, x, _ => x.elim
  | .ref _, x, _ => x.elim
  | .fn _, x, _ => x.elim
  | .scr _, x, _ => x.elim
theorem ObAt.no {K : PySem.W.Frag} {F H : Hp} {a : Addr} {o : HO} : ∀ {d : Ob}, ObAt K F H a d → H a = .some o → NoT o ∧ NoC o
  | .lst _, ⟨vs, e, r⟩, h => by rw [e] at h; cases h; exact ⟨nofun, noC_lst⟩
/-- the tables of code objects, which grow -/
structure TabW (K0 F H : Hp) : Prop where
  tabs : LamX.Tabs HW.T H
  k0 : ∀ a o, K0 a = some o → NoT o
  ff : ∀ a o, F a = some o → NoT o
section
variable {K0 F H : Hp} {a : Addr} {o : HO}
theorem TabW.ch (t : TabW K0 F H) (h : ∀ u, H a = some u → NoT u ∧ NoC u) : TabW K0 F (upd H a o) := ⟨fun p hp => by
  obtain ⟨ps, h1, h2, h3⟩ := t.tabs p hp
  refine ⟨ps, by rw [upd_ne (fun z => by rw [z] at h1; exact (h _ h1).1 _ rfl)]; exact h1, h2, fun pos cv hc => ?_⟩
  obtain ⟨c, e1, e2⟩ := h3 pos cv hc
  exact ⟨c, e1, by rw [upd_ne (fun z => by rw [z] at e2; exact (h _ e2).2 _ _ rfl)]; exact e2⟩, t.k0, t.ff⟩
theorem TabW.new (t : TabW K0 F H) (h : H a = none) : TabW K0 F (upd H a o) := t.ch fun u e => by rw [h] at e; cases e
theorem TabW.inF (t : TabW K0 F H) (no : NoT o) : TabW K0 (upd F a o) H := ⟨t.tabs, t.k0, fun b u e => by
  by_cases z : b = a
  · subst z; rw [upd_same] at e; cases e; exact no
  · rw [upd_ne z] at e; exact t.ff b u e⟩
theorem TabW.inK (t : TabW K0 F H) (no : NoT o) : TabW (upd K0 a o) F H := ⟨t.tabs, fun b u e => by
  by_cases z : b = a
  · subst z; rw [upd_same] at e; cases e; exact no
  · rw [upd_ne z] at e; exact t.k0 b u e, t.ff⟩
end
/-- what the code at hand knows -/
structure Kn where
  K : PySem.W.Frag
  mg : Str → Option Value

/-- the interpreter's state in the heap: K0 what stays while an expression is reckoned (others' things, and the own lists), F what is frozen, φ where the store's objects stand -/
structure Sim (Γ : Kn) (K0 F : Hp) (φ : List Addr) (η : Env) (s : Sto) (σ : L2.St) (H : Hp) : Prop where
  kp : ∀ a o, K0 a = some o → H a = some o ∧ F a = none ∧ a ∉ φ
  fz : ∀ a o, F a = some o → H a = some o ∧ a ∉ φ
  nd : φ.Nodup
  ln : s.length = φ.length
  so : ∀ (n : Nat) a ob, φ[n]? = some a → s[n]? = some ob → ObAt Γ.K F H a ob
  sz : η.length = σ.length
  sl : ∀ (i : Nat) d, d.isOwn = false → η[i]? = some (some d) → ∃ v, σ[i]? = some (some v) ∧ RD Γ.K Γ.mg F φ v d
  ow : ∀ (i : Nat) d, d.isOwn = true → η[i]? = some (some d) → ∃ a, σ[i]? = some (some (.ref a)) ∧ ConAt Γ.K F K0 a d
  ds : ∀ (i j : Nat) a d e, d.isOwn = true → e.isOwn = true → η[i]? = some (some d) → η[j]? = some (some e) → σ[i]? = some (some (.ref a)) → σ[j]? = some (some (.ref a)) → i = j
  tb : TabW K0 F H

section
variable {Γ : Kn} {K0 F H : Hp} {φ : List Addr} {η : Env} {s : Sto} {σ : L2.St}
theorem Sim.fle (S : Sim Γ K0 F φ η s σ H) : HLe F H := fun a o e => (S.fz a o e).1
/-- a new object, frozen at once -/
theorem Sim.ice (S : Sim Γ K0 F φ η s σ H) {p : Addr} (hp : H p = none) (o : HO) (no : NoT o := by nofun) : Sim Γ K0 (upd F p o) φ η s σ (upd H p o) ∧ HLe F (upd F p o) := by
  have hF : F p = none := by
    cases e : F p with
    | none => rfl
    | some u => rw [(S.fz p u e).1] at hp; cases hp
  have hle : HLe F (upd F p o) := HLe.upd hF
  have nφ : ∀ {n a}, φ[n]? = some a → a ≠ p := fun {n a} e z => by
    obtain ⟨ob, hob⟩ : ∃ ob, s[n]? = some ob := by
      have : n < φ.length := (List.getElem?_eq_some_iff.mp e).1
      exact ⟨_, List.getElem?_eq_getElem (by rw [S.ln]; exact this)⟩
    obtain ⟨u, hu⟩ := (S.so n a ob e hob).some
    rw [z, hp] at hu; cases hu
  have nmem : p ∉ φ := fun hm => by
    obtain ⟨n, hn⟩ := List.mem_iff_getElem?.mp hm
    exact nφ hn rfl
  have keepH : ∀ {a u}, H a = some u → (upd H p o) a = some u := fun {a u} e => by rw [upd_ne (ne_of_none e hp)]; exact e
  refine ⟨⟨fun a u e => ?_, fun a u e => ?_, S.nd, S.ln, fun n a ob e1 e2 => ?_, S.sz, fun i d hi e => ?_, fun i d hi e => ?_, S.ds, (S.tb.new hp).inF no⟩, hle⟩
  · obtain ⟨h1, h2, h3⟩ := S.kp a u e
    exact ⟨keepH h1, by rw [upd_ne (ne_of_none h1 hp)]; exact h2, h3⟩
  · by_cases z : a = p
    · subst z
      rw [upd_same] at e; cases e
      exact ⟨upd_same, nmem⟩
    · rw [upd_ne z] at e
      obtain ⟨h1, h2⟩ := S.fz a u e
      exact ⟨keepH h1, h2⟩
  · exact (S.so n a ob e1 e2).mono hle fun u e => keepH e
  · obtain ⟨v, h1, h2⟩ := S.sl i d hi e
    exact ⟨v, h1, h2.mono hle fun _ _ q => q⟩
  · obtain ⟨a, h1, h5⟩ := S.ow i d hi e
    exact ⟨a, h1, h5.mono hle fun u e => e⟩
/-- a new object, nobody's yet -/
theorem Sim.new (S : Sim Γ K0 F φ η s σ H) {p : Addr} (hp : H p = none) (o : HO) : Sim Γ K0 F φ η s σ (upd H p o) ∧ F p = none ∧ p ∉ φ ∧ K0 p = none := by
  have hF : F p = none := by
    cases e : F p with
    | none => rfl
    | some u => rw [(S.fz p u e).1] at hp; cases hp
  have nφ : ∀ {n a}, φ[n]? = some a → a ≠ p := fun {n a} e z => by
    obtain ⟨ob, hob⟩ : ∃ ob, s[n]? = some ob := by
      have : n < φ.length := (List.getElem?_eq_some_iff.mp e).1
      exact ⟨_, List.getElem?_eq_getElem (by rw [S.ln]; exact this)⟩
    obtain ⟨u, hu⟩ := (S.so n a ob e hob).some
    rw [z, hp] at hu; cases hu
  have nmem : p ∉ φ := fun hm => by
    obtain ⟨n, hn⟩ := List.mem_iff_getElem?.mp hm
    exact nφ hn rfl
  have keepH : ∀ {a u}, H a = some u → (upd H p o) a = some u := fun {a u} e => by rw [upd_ne (ne_of_none e hp)]; exact e
  refine ⟨⟨fun a u e => ?_, fun a u e => ?_, S.nd, S.ln, fun n a ob e1 e2 => ?_, S.sz, S.sl, S.ow, S.ds, S.tb.new hp⟩, hF, nmem, ?_⟩
  · obtain ⟨h1, h2, h3⟩ := S.kp a u e
    exact ⟨keepH h1, h2, h3⟩
  · obtain ⟨h1, h2⟩ := S.fz a u e
    exact ⟨keepH h1, h2⟩
  · exact (S.so n a ob e1 e2).mono (HLe.refl F) fun u e => keepH e
  · cases e : K0 p with
    | none => rfl
    | some u => rw [(S.kp p u e).1] at hp; cases hp
/-- somebody's new object is frozen -/
theorem Sim.chill (S : Sim Γ K0 F φ η s σ H) {p : Addr} {o : HO} (hp : H p = some o) (h1 : F p = none) (h2 : p ∉ φ) (h3 : K0 p = none) (no : NoT o := by nofun) : Sim Γ K0 (upd F p o) φ η s σ H ∧ HLe F (upd F p o) := by
  have hle : HLe F (upd F p o) := HLe.upd h1
  refine ⟨⟨fun a u e => ?_, fun a u e => ?_, S.nd, S.ln, fun n a ob e1 e2 => ?_, S.sz, fun i d hi e => ?_, fun i d hi e => ?_, S.ds, S.tb.inF no⟩, hle⟩
  · obtain ⟨q1, q2, q3⟩ := S.kp a u e
    exact ⟨q1, by rw [upd_ne (fun z => by subst z; rw [h3] at e; cases e)]; exact q2, q3⟩
  · by_cases z : a = p
    · subst z
      rw [upd_same] at e; cases e
      exact ⟨hp, h2⟩
    · rw [upd_ne z] at e
      exact S.fz a u e
  · exact (S.so n a ob e1 e2).mono hle fun u e => e
  · obtain ⟨v, q1, q2⟩ := S.sl i d hi e
    exact ⟨v, q1, q2.mono hle fun _ _ q => q⟩
  · obtain ⟨a, q1, q5⟩ := S.ow i d hi e
    exact ⟨a, q1, q5.mono hle fun u e => e⟩
/-- all else than the frame's own, the store and the tables -/
def tblAt : Option HO → Bool
  | some (.tbl _) => true
  | _ => false
theorem tblAt_no {o : HO} (h : NoT o) : tblAt (some o) = false := by
  unfold tblAt
  split
  · rename_i e; cases e; exact (h _ rfl).elim
  · rfl
def rest (H F : Hp) (φ : List Addr) : Hp := fun a => if (a ∈ φ ∨ (F a).isSome = true) ∨ tblAt (H a) = true then none else H a
theorem rest_some {a : Addr} {o : HO} (h1 : H a = some o) (h2 : F a = none) (h3 : a ∉ φ) (h4 : NoT o) : rest H F φ a = some o := by
  unfold rest
  rw [if_neg (by rw [h2, h1, tblAt_no h4]; simp [h3])]
  exact h1
theorem of_rest {a : Addr} {o : HO} (h : rest H F φ a = some o) : H a = some o ∧ F a = none ∧ a ∉ φ := by
  unfold rest at h
  split at h
  · cases h
  · rename_i hn
    refine ⟨h, ?_, fun z => hn (.inl (.inl z))⟩
    cases e : F a with
    | none => rfl
    | some u => exact absurd (.inl (.inr (by rw [e]; rfl))) hn
theorem rest_no {a : Addr} {o : HO} (h : rest H F φ a = some o) : NoT o := by
  unfold rest at h
  split at h
  · cases h
  · rename_i hn
    intro ps e
    subst e
    exact hn (.inr (by rw [h]; rfl))
/-- the world as a callee meets it -/
abbrev World (Γ : Kn) (K0 F : Hp) (φ : List Addr) (s : Sto) (H : Hp) : Prop := Sim Γ K0 F φ [] s [] H
theorem Sim.world (S : Sim Γ K0 F φ η s σ H) (Γ' : Kn) (hK : Γ'.K = Γ.K) : World Γ' (rest H F φ) F φ s H :=
  ⟨fun a o e => of_rest e, S.fz, S.nd, S.ln, fun n a ob e1 e2 => by rw [hK]; exact S.so n a ob e1 e2, rfl, fun i d _ e => by simp at e, fun i d _ e => by simp at e, fun i j a d e _ _ h => by simp at h, ⟨S.tb.tabs, fun a o e => rest_no e, S.tb.ff⟩⟩
/-- back from a callee -/
theorem Sim.back (S : Sim Γ K0 F φ η s σ H) {Γ' : Kn} (hK : Γ'.K = Γ.K) {F' H' : Hp} {φ' : List Addr} {s' : Sto} (hle : HLe F F') (hp : PLe φ φ') (W : World Γ' (rest H F φ) F' φ' s' H') : Sim Γ K0 F' φ' η s' σ H' := by
  have kr : ∀ {a o}, NoT o → H a = some o → F a = none → a ∉ φ → H' a = some o ∧ F' a = none ∧ a ∉ φ' := fun h0 h1 h2 h3 => W.kp _ _ (rest_some h1 h2 h3 h0)
  refine ⟨fun a u e => ?_, W.fz, W.nd, W.ln, fun n a ob e1 e2 => by rw [← hK]; exact W.so n a ob e1 e2, S.sz, fun i d hi e => ?_, fun i d hi e => ?_, S.ds, ⟨W.tb.tabs, S.tb.k0, W.tb.ff⟩⟩
  · obtain ⟨h1, h2, h3⟩ := S.kp a u e
    exact kr (S.tb.k0 a u e) h1 h2 h3
  · obtain ⟨v, h1, h2⟩ := S.sl i d hi e
    exact ⟨v, h1, h2.mono hle hp⟩
  · obtain ⟨a, h1, h5⟩ := S.ow i d hi e
    exact ⟨a, h1, h5.mono hle fun u e => e⟩
/-- a shared value is stored -/
theorem Sim.put (S : Sim Γ K0 F φ η s σ H) {i : Nat} {v : V} {d : D} (hi : d.isOwn = false) (hl : i < η.length) (r : RD Γ.K Γ.mg F φ v d) : Sim Γ K0 F φ (η.set i (some d)) s (σ.set i (some v)) H := by
  have hl' : i < σ.length := by rw [← S.sz]; exact hl
  have ne : ∀ {j : Nat} {e : D}, e.isOwn = true → (η.set i (some d))[j]? = some (some e) → i ≠ j := fun {j e} hj he z => by
    subst z
    rw [List.getElem?_set_self hl] at he
    cases he
    rw [hi] at hj; cases hj
  refine ⟨S.kp, S.fz, S.nd, S.ln, S.so, by simp [S.sz], fun j e hj he => ?_, fun j e hj he => ?_, fun j k a d1 d2 hj hk e1 e2 e3 e4 => ?_, S.tb⟩
  · by_cases z : i = j
    · subst z
      rw [List.getElem?_set_self hl] at he
      cases he
      exact ⟨v, List.getElem?_set_self hl', r⟩
    · rw [List.getElem?_set_ne z] at he
      rw [List.getElem?_set_ne z]
      exact S.sl j e hj he
  · have z := ne hj he
    rw [List.getElem?_set_ne z] at he
    rw [List.getElem?_set_ne z]
    exact S.ow j e hj he
  · have z1 := ne hj e1
    have z2 := ne hk e2
    rw [List.getElem?_set_ne z1] at e1 e3
    rw [List.getElem?_set_ne z2] at e2 e4
    exact S.ds j k a d1 d2 hj hk e1 e2 e3 e4
/-- the own things and others' -/
theorem Sim.keepMore (S : Sim Γ K0 F φ η s σ H) {a : Addr} {o : HO} (ha : H a = some o) (h1 : F a = none) (h2 : a ∉ φ) (h3 : K0 a = none) (no : NoT o := by nofun) : Sim Γ (upd K0 a o) F φ η s σ H := by
  have hle : HLe K0 (upd K0 a o) := HLe.upd h3
  refine ⟨fun b u e => ?_, S.fz, S.nd, S.ln, S.so, S.sz, S.sl, fun i d hi e => ?_, S.ds, S.tb.inK no⟩
  · by_cases z : b = a
    · subst z
      rw [upd_same] at e; cases e
      exact ⟨ha, h1, h2⟩
    · rw [upd_ne z] at e
      exact S.kp b u e
  · obtain ⟨b, q1, q5⟩ := S.ow i d hi e
    exact ⟨b, q1, q5.mono (HLe.refl F) fun u e => hle _ _ e⟩
theorem Sim.keepLess (S : Sim Γ K0 F φ η s σ H) {K1 : Hp} (hle : HLe K1 K0) (ho : ∀ (i : Nat) d, d.isOwn = true → η[i]? = some (some d) → ∃ a, σ[i]? = some (some (.ref a)) ∧ ConAt Γ.K F K1 a d) : Sim Γ K1 F φ η s σ H :=
  ⟨fun b u e => S.kp b u (hle _ _ e), S.fz, S.nd, S.ln, S.so, S.sz, S.sl, ho, S.ds, ⟨S.tb.tabs, fun a o e => S.tb.k0 a o (hle _ _ e), S.tb.ff⟩⟩
/-- a name takes a new list for its own -/
theorem Sim.takeC (S : Sim Γ K0 F φ η s σ H) {i : Nat} {a : Addr} {d : D} {o : HO} (hd : d.isOwn = true) (hl : i < η.length) (ha : H a = some o) (hr : ConAt Γ.K F (upd K0 a o) a d) (h1 : F a = none) (h2 : a ∉ φ) (h3 : K0 a = none) :
    Sim Γ (upd K0 a o) F φ (η.set i (some d)) s (σ.set i (some (.ref a))) H := by
  have hl' : i < σ.length := by rw [← S.sz]; exact hl
  have S2 := S.keepMore ha h1 h2 h3 (hr.no upd_same).1
  have other : ∀ (j : Nat) e, e.isOwn = true → η[j]? = some (some e) → σ[j]? ≠ some (some (.ref a)) := fun j e hj he z => by
    obtain ⟨b, q1, q5⟩ := S.ow j e hj he
    rw [z] at q1; cases q1
    obtain ⟨u, hu⟩ := q5.some
    rw [h3] at hu; cases hu
  refine ⟨S2.kp, S.fz, S.nd, S.ln, S.so, by simp [S.sz], fun j e hj he => ?_, fun j e hj he => ?_, fun j k b d1 d2 hj hk e1 e2 e3 e4 => ?_, S2.tb⟩
  · by_cases z : i = j
    · subst z
      rw [List.getElem?_set_self hl] at he
      cases he
      rw [hd] at hj; cases hj
    · rw [List.getElem?_set_ne z] at he
      rw [List.getElem?_set_ne z]
      exact S.sl j e hj he
  · by_cases z : i = j
    · subst z
      rw [List.getElem?_set_self hl] at he
      cases he
      exact ⟨a, List.getElem?_set_self hl', hr⟩
    · rw [List.getElem?_set_ne z] at he
      rw [List.getElem?_set_ne z]
      exact S2.ow j e hj he
  · by_cases z : i = j
    · by_cases y : i = k
      · exact z.symm.trans y
      · subst z
        rw [List.getElem?_set_self hl'] at e3
        cases e3
        rw [List.getElem?_set_ne y] at e2 e4
        exact absurd e4 (other k d2 hk e2)
    · rw [List.getElem?_set_ne z] at e1 e3
      by_cases y : i = k
      · subst y
        rw [List.getElem?_set_self hl'] at e4
        cases e4
        exact absurd e3 (other j d1 hj e1)
      · rw [List.getElem?_set_ne y] at e2 e4
        exact S.ds j k b d1 d2 hj hk e1 e2 e3 e4
theorem Sim.take (S : Sim Γ K0 F φ η s σ H) {i : Nat} {a : Addr} {ds : List PyData} {vs : List V} (hl : i < η.length) (ha : H a = some (.lst vs)) (hr : RvAll Γ.K F vs ds) (h1 : F a = none) (h2 : a ∉ φ) (h3 : K0 a = none) :
    Sim Γ (upd K0 a (.lst vs)) F φ (η.set i (some (.own ds))) s (σ.set i (some (.ref a))) H := S.takeC rfl hl ha ⟨vs, upd_same, hr⟩ h1 h2 h3
/-- a name's own list is written -/
theorem Sim.writeC (S : Sim Γ K0 F φ η s σ H) {i : Nat} {a : Addr} {d0 d : D} {o : HO} (hd : d.isOwn = true) (hi : d0.isOwn = true) (he : η[i]? = some (some d0)) (ha : σ[i]? = some (some (.ref a))) (hr : ConAt Γ.K F (upd K0 a o) a d) :
    Sim Γ (upd K0 a o) F φ (η.set i (some d)) s σ (upd H a o) := by
  have hl : i < η.length := (List.getElem?_eq_some_iff.mp he).1
  obtain ⟨a', h0, h5⟩ := S.ow i d0 hi he
  rw [ha] at h0; cases h0
  obtain ⟨u, hu⟩ := h5.some
  obtain ⟨g1, g2, g3⟩ := S.kp a u hu
  have keepH : ∀ {b w}, H b = some w → b ≠ a → (upd H a o) b = some w := fun {b w} e z => by rw [upd_ne z]; exact e
  refine ⟨fun b w e => ?_, fun b w e => ?_, S.nd, S.ln, fun n b ob e1 e2 => ?_, by simp [S.sz], fun j e hj he' => ?_, fun j e hj he' => ?_, fun j k b d1 d2 hj hk e1 e2 e3 e4 => ?_, (S.tb.ch fun w e => by rw [g1] at e; cases e; exact h5.no hu).inK (hr.no upd_same).1⟩
  · by_cases z : b = a
    · subst z
      rw [upd_same] at e; cases e
      exact ⟨upd_same, g2, g3⟩
    · rw [upd_ne z] at e
      obtain ⟨q1, q2, q3⟩ := S.kp b w e
      exact ⟨keepH q1 z, q2, q3⟩
  · obtain ⟨q1, q2⟩ := S.fz b w e
    exact ⟨keepH q1 (fun z => by subst z; rw [g2] at e; cases e), q2⟩
  · exact (S.so n b ob e1 e2).mono (HLe.refl F) fun w e => keepH e fun z => g3 (z ▸ List.mem_of_getElem? e1)
  · by_cases z : i = j
    · subst z
      rw [List.getElem?_set_self hl] at he'
      cases he'
      rw [hd] at hj; cases hj
    · rw [List.getElem?_set_ne z] at he'
      exact S.sl j e hj he'
  · by_cases z : i = j
    · subst z
      rw [List.getElem?_set_self hl] at he'
      cases he'
      exact ⟨a, ha, hr⟩
    · rw [List.getElem?_set_ne z] at he'
      obtain ⟨b, q1, q5⟩ := S.ow j e hj he'
      exact ⟨b, q1, q5.mono (HLe.refl F) fun w e' => by rw [upd_ne (fun (y : b = a) => z (S.ds i j a d0 e hi hj he he' ha (by rw [← y]; exact q1)))]; exact e'⟩
  · have cut : ∀ {m : Nat} {x : D}, x.isOwn = true → (η.set i (some d))[m]? = some (some x) → ∃ x', x'.isOwn = true ∧ η[m]? = some (some x') := fun {m x} hx e => by
      by_cases z : i = m
      · subst z; exact ⟨d0, hi, he⟩
      · rw [List.getElem?_set_ne z] at e; exact ⟨x, hx, e⟩
    obtain ⟨x1, o1, y1⟩ := cut hj e1
    obtain ⟨x2, o2, y2⟩ := cut hk e2
    exact S.ds j k b x1 x2 o1 o2 y1 y2 e3 e4
theorem Sim.write (S : Sim Γ K0 F φ η s σ H) {i : Nat} {a : Addr} {d0 : D} {ds : List PyData} {vs : List V} (hi : d0.isOwn = true) (he : η[i]? = some (some d0)) (ha : σ[i]? = some (some (.ref a))) (hr : RvAll Γ.K F vs ds) :
    Sim Γ (upd K0 a (.lst vs)) F φ (η.set i (some (.own ds))) s σ (upd H a (.lst vs)) := S.writeC rfl hi he ha ⟨vs, upd_same, hr⟩
/-- an object of the store is written -/
theorem Sim.store (S : Sim Γ K0 F φ η s σ H) {n : Nat} {a : Addr} {ob : Ob} {o : HO} (he : φ[n]? = some a) (h4 : ObAt Γ.K F (upd H a o) a ob) : Sim Γ K0 F φ η (s.set n ob) σ (upd H a o) := by
  have hl : n < s.length := by rw [S.ln]; exact (List.getElem?_eq_some_iff.mp he).1
  have hm : a ∈ φ := List.mem_of_getElem? he
  have keepH : ∀ {b w}, H b = some w → b ≠ a → (upd H a o) b = some w := fun {b w} e z => by rw [upd_ne z]; exact e
  refine ⟨fun b w e => ?_, fun b w e => ?_, S.nd, by simp [S.ln], fun m b ob' e1 e2 => ?_, S.sz, S.sl, S.ow, S.ds, S.tb.ch fun w e => (S.so n a _ he (List.getElem?_eq_getElem hl)).no e⟩
  · obtain ⟨q1, q2, q3⟩ := S.kp b w e
    exact ⟨keepH q1 fun z => q3 (z ▸ hm), q2, q3⟩
  · obtain ⟨q1, q2⟩ := S.fz b w e
    exact ⟨keepH q1 fun z => q2 (z ▸ hm), q2⟩
  · by_cases z : n = m
    · subst z
      rw [he] at e1; cases e1
      rw [List.getElem?_set_self hl] at e2; cases e2
      exact h4
    · rw [List.getElem?_set_ne z] at e2
      refine (S.so m b ob' e1 e2).mono (HLe.refl F) fun w e => keepH e fun y => z ?_
      subst y
      obtain ⟨h1, x1⟩ := List.getElem?_eq_some_iff.mp he
      obtain ⟨h2, x2⟩ := List.getElem?_eq_some_iff.mp e1
      exact (List.getElem_inj S.nd).mp (x1.trans x2.symm)
/-- a new object comes into the store -/
theorem Sim.ref (S : Sim Γ K0 F φ η s σ H) {p : Addr} (hp : H p = none) {ob : Ob} {o : HO} (h4 : ObAt Γ.K F (upd H p o) p ob) : Sim Γ K0 F (φ ++ [p]) η (s ++ [ob]) σ (upd H p o) ∧ PLe φ (φ ++ [p]) := by
  obtain ⟨S1, hF, hφ, hK⟩ := S.new hp o
  have hle : PLe φ (φ ++ [p]) := fun n a e => by rw [List.getElem?_append_left (List.getElem?_eq_some_iff.mp e).1]; exact e
  refine ⟨⟨fun b w e => ?_, fun b w e => ?_, ?_, by simp [S.ln], fun m b ob' e1 e2 => ?_, S.sz, fun i d hi e => ?_, S.ow, S.ds, S1.tb⟩, hle⟩
  · obtain ⟨q1, q2, q3⟩ := S1.kp b w e
    refine ⟨q1, q2, fun z => ?_⟩
    rcases List.mem_append.mp z with z | z
    · exact q3 z
    · rw [List.mem_singleton.mp z, hK] at e; cases e
  · obtain ⟨q1, q2⟩ := S1.fz b w e
    refine ⟨q1, fun z => ?_⟩
    rcases List.mem_append.mp z with z | z
    · exact q2 z
    · rw [List.mem_singleton.mp z, hF] at e; cases e
  · rw [List.nodup_append]
    exact ⟨S.nd, by simp, fun a ha b hb => by rw [List.mem_singleton.mp hb]; exact fun z => hφ (z ▸ ha)⟩
  · by_cases z : m < φ.length
    · rw [List.getElem?_append_left z] at e1
      rw [List.getElem?_append_left (by rw [S.ln]; exact z)] at e2
      exact S1.so m b ob' e1 e2
    · have hm : m = φ.length := by
        have := (List.getElem?_eq_some_iff.mp e1).1
        simp at this; omega
      subst hm
      rw [List.getElem?_append_right (Nat.le_refl _)] at e1
      rw [List.getElem?_append_right (by rw [S.ln]; exact Nat.le_refl _)] at e2
      simp at e1
      rw [S.ln] at e2
      simp at e2
      subst e1; subst e2
      exact h4
  · obtain ⟨v, h1, h2⟩ := S1.sl i d hi e
    exact ⟨v, h1, h2.mono (HLe.refl F) hle⟩
end
end Z
end

section
set_option maxRecDepth 100000
set_option maxHeartbeats 4000000
namespace Z
open PySem PySem.Spec PyProof.Rows L2
variable [HW]

/-- a tuple times 1, an empty one times anything: itself -/
theorem tm_same (l : Addr) (vs : Array Value) (m : Nat) (dd : Option Addr) (sl : Array (Option Value)) (x : Int) (u : Tok) (hx : (decide (x < -(2 ^ 63)) || decide (x ≥ 2 ^ 63)) = false) (he : (vs.isEmpty || x == 1) = true) :
    Meets (Builtin.«tuple.__mul__» ⟨[.ref l, .int x u], []⟩) (fun _ R s => s.heap.get? l = some { cls := .type "tuple", dict := dd, data := .seq vs m, slots := sl } ∧ R (.ok (.ret (Value.ref l))) s) :=
  .of_wp fun prog w A R s h => by
    obtain ⟨hp, g, d, tk, os⟩ := s
    obtain ⟨hl, h⟩ := h
    have f1 := AutoSeq1.idx_int
    wp_walk using wpAny_loadPart' hl
    repeat (first
      | (refine wpAny_ite_false (decide_eq_false (by rw [hx]; exact Bool.false_ne_true)) ?_; wp_walk using wpAny_loadPart' hl)
      | (refine wpAny_ite_true (decide_eq_true he) ?_; wp_walk using wpAny_loadPart' hl))
    exact ⟨_, rfl, h⟩
/-- a tuple times 0: a new empty one -/
theorem tm_zero (l : Addr) (vs : Array Value) (m : Nat) (dd : Option Addr) (sl : Array (Option Value)) (x : Int) (u : Tok) (hx : (decide (x < -(2 ^ 63)) || decide (x ≥ 2 ^ 63)) = false) (he : (vs.isEmpty || x == 1) = false) (h0 : (decide (x ≤ 0) || vs.isEmpty) = true) :
    Meets (Builtin.«tuple.__mul__» ⟨[.ref l, .int x u], []⟩) (fun _ R s => s.heap.get? l = some { cls := .type "tuple", dict := dd, data := .seq vs m, slots := sl } ∧
      R (.ok (.ret (Value.ref s.heap.objs.size))) { s with heap := s.heap.push { cls := Value.type "tuple", data := Data.seq (#[] : Array Value) } }) :=
  .of_wp fun prog w A R s h => by
    obtain ⟨hp, g, d, tk, os⟩ := s
    obtain ⟨hl, h⟩ := h
    have f1 := AutoSeq1.idx_int
    wp_walk using wpAny_loadPart' hl
    repeat (first
      | (refine wpAny_ite_false (decide_eq_false (by rw [hx]; exact Bool.false_ne_true)) ?_; wp_walk using wpAny_loadPart' hl)
      | (refine wpAny_ite_false (decide_eq_false (by rw [he]; exact Bool.false_ne_true)) ?_; wp_walk using wpAny_loadPart' hl)
      | (refine wpAny_ite_true (decide_eq_true h0) ?_; wp_walk using wpAny_loadPart' hl))
    exact ⟨_, rfl, h⟩

section
variable {X : Cx}
/-- a tuple times an int from 0 on -/
def rMulT (K : PySem.W.Frag) : R2 := fun x y H Q => ∃ l k xs, x = .ref l ∧ y = .int k ∧ SqT K H l xs ∧ 0 ≤ k ∧ k ≤ 1000 ∧ xs.length ≤ 1000 ∧
  ((xs = [] ∨ k = 1) → Q (.ref l) H) ∧ ∀ p, H p = none → Q (.ref p) (upd H p (.tup (List.replicate k.toNat xs).flatten))
theorem op_mulT : OpR X (binaryOp .Mult) (rMulT X.K) := by
  intro pins s σ H x y v u Q I rx ry h
  obtain ⟨l, k, xs, rfl, rfl, hT, h0, h1, hz, q1, q2⟩ := h
  by_cases hs : xs = [] ∨ k = 1
  · cases rx
    obtain ⟨t, rfl⟩ := ry
    obtain ⟨its, r, ⟨⟨cls, dd, data, sl⟩, ho, hc, n, hd⟩, hs'⟩ := I.tuple hT
    simp only at hc hd
    subst hc hd
    have c0 : (decide (k < -(2 ^ 63)) || decide (k ≥ 2 ^ 63)) = false := by
      rw [decide_eq_false (by omega), decide_eq_false (by omega)] <;> rfl
    have c1 : (its.toArray.isEmpty || k == 1) = true := by
      rcases hs with e | e
      · subst e
        cases r
        rfl
      · rw [e]; simp
    refine wpAny_binaryOp_repeat_ref (T := "tuple") (U := "int") (by decide) ⟨_, ho, rfl⟩ (fun s' => typeIs_int s' k t) noFill_tuple_mul F.fills_int_mul F.slot_int_rmul repeat_tuple F.slot_int_index.lookup
      (call_meets F.slot_int_rmul (typeIs_int s k t) F.entry_int_rmul (F.args_int_rmul_2 _ _) (int_rmul_tuple k t l its.toArray n dd sl)
        ⟨ho, rfl, ⟨_, ho, rfl⟩, call_meets F.slot_tuple_mul ⟨_, ho, rfl⟩ F.entry_tuple_mul (F.args_tuple_mul_2 _ _) (tm_same l its.toArray n dd sl k t c0 c1) ⟨ho, ?_⟩⟩)
    exact ⟨.ref l, H, I, rfl, q1 hs⟩
  · by_cases hk : k = 0
    · subst hk
      cases rx
      obtain ⟨t, rfl⟩ := ry
      obtain ⟨its, r, ⟨⟨cls, dd, data, sl⟩, ho, hc, n, hd⟩, hs'⟩ := I.tuple hT
      simp only at hc hd
      subst hc hd
      have hne : its.toArray.isEmpty = false := by
        cases its with
        | nil => cases r; exact absurd (.inl rfl) hs
        | cons a b => rfl
      refine wpAny_binaryOp_repeat_ref (T := "tuple") (U := "int") (by decide) ⟨_, ho, rfl⟩ (fun s' => typeIs_int s' 0 t) noFill_tuple_mul F.fills_int_mul F.slot_int_rmul repeat_tuple F.slot_int_index.lookup
        (call_meets F.slot_int_rmul (typeIs_int s 0 t) F.entry_int_rmul (F.args_int_rmul_2 _ _) (int_rmul_tuple 0 t l its.toArray n dd sl)
          ⟨ho, rfl, ⟨_, ho, rfl⟩, call_meets F.slot_tuple_mul ⟨_, ho, rfl⟩ F.entry_tuple_mul (F.args_tuple_mul_2 _ _) (tm_zero l its.toArray n dd sl 0 t (by decide) (by rw [hne]; decide) (by simp)) ⟨ho, ?_⟩⟩)
      refine ⟨.ref s.heap.objs.size, _, I.laid (t' := s.toks) (o := .tup []) (fun b ob q => Heap.get?_push_of_some _ q) (Nat.le_refl _) ?_, rfl, q2 _ (I.hok.fresh (Nat.le_refl _))⟩
      exact ⟨Nat.zero_le _, [], .nil, IsTup.new _ _⟩
    · exact op_repT pins s σ H _ _ v u Q I rx ry ⟨l, k, xs, rfl, rfl, hT, fun e => hs (.inl e), by have : k ≠ 1 := fun e => hs (.inr e); omega, h1, hz, q2⟩
end
end Z
end

section
set_option maxRecDepth 100000
set_option maxHeartbeats 4000000
/-! Operations on values that stand for data. -/
namespace Z
open PySem PySem.Spec PyProof.Rows L2
variable [HW]

section
variable (K : PySem.W.Frag) (F H : Hp)
/-- data as it can be looked at now -/
def Vw (v : V) : PyData → Prop
  | .list ds => ∃ a vs, v = .ref a ∧ H a = some (.lst vs) ∧ RvAll K F vs ds
  | d => Rv K F v d
/-- what an operation gives: something that stands, or a new thing -/
def Out (d : PyData) (Q : VK) : Prop := match d with
  | .list ds => ∀ p vs, H p = none → RvAll K F vs ds → Q (.ref p) (upd H p (.lst vs))
  | .tuple ds => (∀ v, Rv K F v (.tuple ds) → Q v H) ∧ ∀ p vs, H p = none → RvAll K F vs ds → Q (.ref p) (upd H p (.tup vs))
  | d => ∀ v, Rv K F v d → Q v H
end
section
variable {K : PySem.W.Frag} {F H : Hp}
theorem Rv.vw (h : HLe F H) {v : V} : ∀ {d : PyData}, Rv K F v d → Vw K F H v d
  | .list ds, r => by
    cases r with
    | lst e r => exact ⟨_, _, rfl, h _ _ e, r⟩
  | .none, r => r
  | .bool _, r => r
  | .int _, r => r
  | .str _, r => r
  | .tuple _, r => r
  | .dict _, r => r
theorem vw_int {v : V} {i : Int} (h : Vw K F H v (.int i)) : v = .int i := by
  cases (show Rv K F v (.int i) from h); rfl
theorem vw_bool {v : V} {b : Bool} (h : Vw K F H v (.bool b)) : v = .bl b := by
  cases (show Rv K F v (.bool b) from h); rfl
theorem vw_str {v : V} {x : Str} (h : Vw K F H v (.str x)) : v = .str x := by
  cases (show Rv K F v (.str x) from h); rfl
theorem vw_none {v : V} (h : Vw K F H v .none) : v = .non := by
  cases (show Rv K F v .none from h); rfl
theorem vw_tup {v : V} {ds : List PyData} (h : Vw K F H v (.tuple ds)) : ∃ a vs, v = .ref a ∧ SqT K F a vs ∧ RvAll K F vs ds := by
  cases (show Rv K F v (.tuple ds) from h) with
  | tup s r => exact ⟨_, _, rfl, s, r⟩
theorem flat_nil_of {α : Type} {xs : List α} (h : xs = []) (k : Nat) : (List.replicate k xs).flatten = [] := by
  subst h
  induction k with
  | zero => rfl
  | succ k ih => rw [List.replicate_succ, List.flatten_cons, ih]; rfl
theorem flat_one {α : Type} (xs : List α) : (List.replicate (1 : Int).toNat xs).flatten = xs := by simp
end

section
variable {X : Cx}
/-- Python's operator -/
def Bop.py : Bop → Operator
  | .add => .Add
  | .sub => .Sub
  | .mul => .Mult
  | .fdiv => .FloorDiv
  | .mod => .Mod
  | .pow => .Pow
theorem mulOk_iff {i j : Int} (h : mulOk i j = true) : CMul i j := by
  simp only [mulOk, Bool.or_eq_true, Bool.and_eq_true, decide_eq_true_eq] at h
  exact h
/-- a op b -/
def rBin (K : PySem.W.Frag) (o : Bop) : R2 := fun x y H Q => ∃ F d1 d2 d, HLe F H ∧ Vw K F H x d1 ∧ Vw K F H y d2 ∧ binD o d1 d2 = some d ∧ Out K F H d Q
theorem op_bin (o : Bop) : OpR X (binaryOp o.py) (rBin X.K o) := by
  intro pins s σ H x y v u Q I rx ry h
  obtain ⟨F, d1, d2, d, hle, w1, w2, hb, q⟩ := h
  unfold binD at hb
  split at hb
  · cases vw_int w1; cases vw_int w2; cases hb
    exact op_add pins s σ H _ _ v u Q I rx ry ⟨_, _, rfl, rfl, q _ (.int _)⟩
  · cases vw_int w1; cases vw_bool w2; cases hb
    exact op_add_ib pins s σ H _ _ v u Q I rx ry ⟨_, _, rfl, rfl, q _ (.int _)⟩
  · cases vw_str w1; cases vw_str w2
    split at hb
    · cases hb
      rename_i hz
      exact op_add_str pins s σ H _ _ v u Q I rx ry ⟨_, _, rfl, rfl, hz, q _ (.str _)⟩
    · cases hb
  · obtain ⟨a, vs, rfl, s1, r1⟩ := vw_tup w1
    obtain ⟨b, ws, rfl, s2, r2⟩ := vw_tup w2
    split at hb
    · cases hb
      rename_i hz
      refine op_catA pins s σ H _ _ v u Q I rx ry ⟨a, b, vs, ws, rfl, rfl, sqT_mono hle s1, sqT_mono hle s2, by rw [r1.len, r2.len]; exact hz, fun e => ?_, fun _ e => ?_, fun _ _ p hp => q.2 p _ hp (r1.app r2)⟩
      · subst e
        cases r1
        exact q.1 _ (.tup s2 (by simpa using r2))
      · subst e
        cases r2
        exact q.1 _ (.tup s1 (by simpa using r1))
    · cases hb
  · obtain ⟨a, vs, rfl, s1, r1⟩ := w1
    obtain ⟨b, ws, rfl, s2, r2⟩ := w2
    split at hb
    · cases hb
      rename_i hz
      exact op_cat pins s σ H _ _ v u Q I rx ry ⟨a, b, vs, ws, rfl, rfl, s1, s2, by rw [r1.len, r2.len]; exact hz, fun p hp => q p _ hp (r1.app r2)⟩
    · cases hb
  · cases vw_int w1; cases vw_int w2; cases hb
    exact op_sub pins s σ H _ _ v u Q I rx ry ⟨_, _, rfl, rfl, q _ (.int _)⟩
  · cases vw_int w1; cases vw_int w2
    split at hb
    · cases hb
      rename_i hz
      exact op_mul pins s σ H _ _ v u Q I rx ry ⟨_, _, rfl, rfl, mulOk_iff hz, q _ (.int _)⟩
    · cases hb
  · obtain ⟨a, vs, rfl, s1, r1⟩ := vw_tup w1
    cases vw_int w2
    split at hb
    · cases hb
      rename_i hz
      obtain ⟨h0, h1, h2⟩ := hz
      refine op_mulT pins s σ H _ _ v u Q I rx ry ⟨a, _, vs, rfl, rfl, sqT_mono hle s1, h0, h1, by rw [r1.len]; exact h2, fun e => ?_, fun p hp => q.2 p _ hp (r1.rep _)⟩
      refine q.1 _ (.tup s1 ?_)
      rcases e with e | e
      · subst e
        cases r1
        rw [flat_nil_of rfl]
        exact .nil
      · subst e
        rw [flat_one]
        exact r1
    · cases hb
  · obtain ⟨a, vs, rfl, s1, r1⟩ := w1
    cases vw_int w2
    split at hb
    · cases hb
      rename_i hz
      obtain ⟨h0, h1, h2⟩ := hz
      exact op_rep pins s σ H _ _ v u Q I rx ry ⟨a, _, vs, rfl, rfl, s1, by omega, by omega, by rw [r1.len]; exact h2, fun p hp => q p _ hp (r1.rep _)⟩
    · cases hb
  · cases vw_int w1; cases vw_int w2
    split at hb
    · cases hb
      rename_i hz
      exact op_fdiv pins s σ H _ _ v u Q I rx ry ⟨_, _, rfl, rfl, hz, q _ (.int _)⟩
    · cases hb
  · cases vw_int w1; cases vw_int w2
    split at hb
    · cases hb
      rename_i hz
      exact op_mod pins s σ H _ _ v u Q I rx ry ⟨_, _, rfl, rfl, hz, q _ (.int _)⟩
    · cases hb
  · cases vw_int w1; cases vw_int w2
    split at hb
    · cases hb
      rename_i hz
      exact op_pow pins s σ H _ _ v u Q I rx ry ⟨_, _, rfl, rfl, hz, q _ (.int _)⟩
    · cases hb
  · cases hb
end
end Z
end

section
set_option maxRecDepth 100000
set_option maxHeartbeats 4000000
/-! Comparisons. -/
namespace Z
open PySem PySem.Spec PyProof.Rows L2
variable [HW]

section
variable {K : PySem.W.Frag} {F H : Hp}
mutual
theorem Rv.dp (h : HLe F H) : ∀ {d : PyData} {v : V}, Rv K F v d → d.canLay0 = true → Dp K H v d
  | .none, _, .non, _ => .non
  | .bool _, _, .bl b, _ => .bl b
  | .int _, _, .int i, _ => .int i
  | .str _, _, .str x, _ => .str x
  | .list ds, _, .lst s r, c => .lst (SqL.of (h _ _ s)) (RvAll.dp h r (by simpa [PyData.canLay0] using c))
  | .tuple ds, _, .tup s r, c => .tup (sqT_mono h s) (RvAll.dp h r (by simpa [PyData.canLay0] using c))
  | .dict _, _, _, c => by simp [PyData.canLay0] at c
theorem RvAll.dp (h : HLe F H) : ∀ {ds : List PyData} {vs : List V}, RvAll K F vs ds → PyData.canLayAll0 ds = true → DpAll K H vs ds
  | [], _, .nil, _ => .nil
  | d :: ds, _, .cons r s, c => by
    have c' : d.canLay0 = true ∧ PyData.canLayAll0 ds = true := by simpa [PyData.canLayAll0] using c
    exact .cons (Rv.dp h r c'.1) (RvAll.dp h s c'.2)
end
theorem Vw.dp (h : HLe F H) {v : V} : ∀ {d : PyData}, Vw K F H v d → d.canLay0 = true → Dp K H v d
  | .list ds, ⟨a, vs, e, s, r⟩, c => by
    subst e
    exact .lst (SqL.of s) (RvAll.dp h r (by simpa [PyData.canLay0] using c))
  | .none, r, c => Rv.dp h r c
  | .bool _, r, c => Rv.dp h r c
  | .int _, r, c => Rv.dp h r c
  | .str _, r, c => Rv.dp h r c
  | .tuple _, r, c => Rv.dp h r c
  | .dict _, r, c => Rv.dp h r c
/-- the V of a flat datum -/
def flV : PyData → V
  | .none => .non
  | .bool b => .bl b
  | .int i => .int i
  | .str x => .str x
  | _ => .non
theorem vw_flat {v : V} : ∀ {d : PyData}, Vw K F H v d → flatD d = true → v = flV d
  | .none, h, _ => vw_none h
  | .bool _, h, _ => vw_bool h
  | .int _, h, _ => vw_int h
  | .str _, h, _ => vw_str h
  | .list _, _, c => by cases c
  | .tuple _, _, c => by cases c
  | .dict _, _, c => by cases c
theorem rv_flat {v : V} : ∀ {d : PyData}, Rv K F v d → flatD d = true → v = flV d
  | .none, h, _ => by cases h; rfl
  | .bool _, h, _ => by cases h; rfl
  | .int _, h, _ => by cases h; rfl
  | .str _, h, _ => by cases h; rfl
  | .list _, _, c => by cases c
  | .tuple _, _, c => by cases c
  | .dict _, _, c => by cases c
theorem flat_flatV : ∀ {d : PyData}, flatD d = true → flatV (flV d) = true
  | .none, _ => rfl
  | .bool _, _ => rfl
  | .int _, _ => rfl
  | .str _, _ => rfl
  | .list _, c => by cases c
  | .tuple _, c => by cases c
  | .dict _, c => by cases c
theorem rvAll_flat : ∀ {vs : List V} {ds : List PyData}, RvAll K F vs ds → allFlat ds = true → vs = ds.map flV ∧ vs.all flatV = true
  | _, _, .nil, _ => ⟨rfl, rfl⟩
  | _, _, .cons (d := d) (ds := ds) r s, c => by
    have c' : flatD d = true ∧ allFlat ds = true := by simpa [allFlat] using c
    obtain ⟨e1, e2⟩ := rvAll_flat s c'.2
    cases rv_flat r c'.1
    exact ⟨by rw [List.map_cons, ← e1], by rw [List.all_cons, flat_flatV c'.1, e2]; rfl⟩
theorem eqV_eqv : ∀ {d e : PyData}, flatD d = true → flatD e = true → eqV (flV d) (flV e) = PyData.eqv d e := by
  intro d e h1 h2
  cases d <;> first | (cases h1; done) | skip
  all_goals cases e <;> first | (cases h2; done) | rfl
theorem inV_any : ∀ {xs : List PyData} {d : PyData}, allFlat xs = true → flatD d = true → inV (flV d) (xs.map flV) = xs.any fun z => PyData.eqv z d
  | [], _, _, _ => rfl
  | x :: xs, d, c, h => by
    have c' : flatD x = true ∧ allFlat xs = true := by simpa [allFlat] using c
    have ih := inV_any (xs := xs) c'.2 h
    unfold inV at ih ⊢
    rw [List.map_cons, List.any_cons, List.any_cons, eqV_eqv c'.1 h, ih]
theorem scal_ok {d e : PyData} (h : scalD d e = true) : scal (flV d) (flV e) = true ∧ decide (flV d = flV e) = PyData.eqv d e ∧ flatD d = true ∧ flatD e = true := by
  cases d <;> cases e <;> first | (cases h; done) | (refine ⟨rfl, ?_, rfl, rfl⟩; rw [Bool.eq_iff_iff]; simp [flV, PyData.eqv])
theorem canLayAll_of_shaped {xs : List PyData} (h : SeqAt.shaped (.list xs) = true) : PyData.canLayAll0 xs = true := by
  have := SeqAt.canLay_of_shaped h
  simpa [PyData.canLay0] using this
end

section
variable {X : Cx}
/-- Python's comparison -/
def Cop.py : Cop → CmpOp
  | .lt => .Lt
  | .le => .LtE
  | .gt => .Gt
  | .ge => .GtE
  | .eq => .Eq
  | .ne => .NotEq
  | .inn => .In
  | .nin => .NotIn
/-- a op b -/
def rCmp (K : PySem.W.Frag) (o : Cop) : R2 := fun x y H Q => ∃ F d1 d2 b, HLe F H ∧ Vw K F H x d1 ∧ Vw K F H y d2 ∧ cmpD o d1 d2 = some b ∧ Q (.bl b) H
theorem eq_data (hu : X.A.units + 65 < cLine) {F H : Hp} (hle : HLe F H) {pins : List (Addr × Obj)} {s : Shared} {σ : L2.St} {x y : V} {v u : Value} {Q : VK} (I : Inv X pins σ H s) (rx : RelV x v) (ry : RelV y u) {d e : PyData} {b : Bool}
    (w1 : Vw X.K F H x d) (w2 : Vw X.K F H y e) (h : eqD d e = some b) (q : Q (.bl b) H) : wpAny (model X.prog X.w) X.A (compareOp .Eq v u) (EP X pins σ Q) X.xe s := by
  unfold eqD at h
  split at h
  · cases h
    rename_i hc
    rw [Bool.or_eq_true, Bool.and_eq_true] at hc
    rcases hc with hc | ⟨h1, h2⟩
    · obtain ⟨e1, e2, f1, f2⟩ := scal_ok hc
      cases vw_flat w1 f1; cases vw_flat w2 f2
      exact op_eq pins s σ H _ _ v u Q I rx ry ⟨e1, by rw [e2]; exact q⟩
    · exact op_eqD (by omega) pins s σ H _ _ v u Q I rx ry ⟨d, e, w1.dp hle (SeqAt.canLay_of_shaped h1), w2.dp hle (SeqAt.canLay_of_shaped h2), h1, h2, q⟩
  · cases h
theorem ne_data (hu : X.A.units + 65 < cLine) {F H : Hp} (hle : HLe F H) {pins : List (Addr × Obj)} {s : Shared} {σ : L2.St} {x y : V} {v u : Value} {Q : VK} (I : Inv X pins σ H s) (rx : RelV x v) (ry : RelV y u) {d e : PyData} {b : Bool}
    (w1 : Vw X.K F H x d) (w2 : Vw X.K F H y e) (h : eqD d e = some b) (q : Q (.bl (!b)) H) : wpAny (model X.prog X.w) X.A (compareOp .NotEq v u) (EP X pins σ Q) X.xe s := by
  unfold eqD at h
  split at h
  · cases h
    rename_i hc
    rw [Bool.or_eq_true, Bool.and_eq_true] at hc
    rcases hc with hc | ⟨h1, h2⟩
    · obtain ⟨e1, e2, f1, f2⟩ := scal_ok hc
      cases vw_flat w1 f1; cases vw_flat w2 f2
      exact op_ne pins s σ H _ _ v u Q I rx ry ⟨e1, by rw [e2]; exact q⟩
    · exact op_neD (by omega) pins s σ H _ _ v u Q I rx ry ⟨d, e, w1.dp hle (SeqAt.canLay_of_shaped h1), w2.dp hle (SeqAt.canLay_of_shaped h2), h1, h2, q⟩
  · cases h
theorem in_data (hu : X.A.units + 65 < cLine) {F H : Hp} (hle : HLe F H) {pins : List (Addr × Obj)} {s : Shared} {σ : L2.St} {x y : V} {v u : Value} {Q : VK} (I : Inv X pins σ H s) (rx : RelV x v) (ry : RelV y u) {d e : PyData} {b : Bool}
    (w1 : Vw X.K F H x d) (w2 : Vw X.K F H y e) (h : inD d e = some b) :
    (Q (.bl b) H → wpAny (model X.prog X.w) X.A (compareOp .In v u) (EP X pins σ Q) X.xe s) ∧ (Q (.bl (!b)) H → wpAny (model X.prog X.w) X.A (compareOp .NotIn v u) (EP X pins σ Q) X.xe s) := by
  unfold inD at h
  split at h
  · rename_i xs
    split at h
    · cases h
      rename_i hc
      rw [Bool.or_eq_true, Bool.and_eq_true, Bool.and_eq_true] at hc
      obtain ⟨a, vs, rfl, hs, r⟩ := w2
      rcases hc with ⟨f1, f2⟩ | ⟨h1, h2⟩
      · cases vw_flat w1 f1
        obtain ⟨e1, e2⟩ := rvAll_flat r f2
        subst e1
        exact ⟨fun q => op_in_seq pins s σ H _ _ v u Q I rx ry ⟨a, _, rfl, .inl (SqL.of hs), flat_flatV f1, e2, by rw [inV_any f2 f1]; exact q⟩,
          fun q => op_notIn_seq pins s σ H _ _ v u Q I rx ry ⟨a, _, rfl, .inl (SqL.of hs), flat_flatV f1, e2, by rw [inV_any f2 f1]; exact q⟩⟩
      · have d1 := w1.dp hle (SeqAt.canLay_of_shaped h1)
        have d2 : Dp X.K H (.ref a) (.list xs) := .lst (SqL.of hs) (RvAll.dp hle r (canLayAll_of_shaped h2))
        exact ⟨fun q => op_inD hu pins s σ H _ _ v u Q I rx ry ⟨d, xs, d1, d2, h1, h2, q⟩, fun q => op_notInD hu pins s σ H _ _ v u Q I rx ry ⟨d, xs, d1, d2, h1, h2, q⟩⟩
    · cases h
  · rename_i xs
    split at h
    · cases h
      rename_i hc
      rw [Bool.or_eq_true, Bool.and_eq_true, Bool.and_eq_true] at hc
      obtain ⟨a, vs, rfl, hs, r⟩ := vw_tup w2
      rcases hc with ⟨f1, f2⟩ | ⟨h1, h2⟩
      · cases vw_flat w1 f1
        obtain ⟨e1, e2⟩ := rvAll_flat r f2
        subst e1
        exact ⟨fun q => op_in_seq pins s σ H _ _ v u Q I rx ry ⟨a, _, rfl, .inr (sqT_mono hle hs), flat_flatV f1, e2, by rw [inV_any f2 f1]; exact q⟩,
          fun q => op_notIn_seq pins s σ H _ _ v u Q I rx ry ⟨a, _, rfl, .inr (sqT_mono hle hs), flat_flatV f1, e2, by rw [inV_any f2 f1]; exact q⟩⟩
      · have d1 := w1.dp hle (SeqAt.canLay_of_shaped h1)
        have d2 : Dp X.K H (.ref a) (.tuple xs) := .tup (sqT_mono hle hs) (RvAll.dp hle r (canLayAll_of_shaped h2))
        obtain ⟨as, r1⟩ := Dp.reads I d x v d1 rx
        obtain ⟨bs, r2⟩ := Dp.reads I (.tuple xs) _ u d2 ry
        exact ⟨fun q => SeqAt.in_tuple_reads r2 r1 (canLayAll_of_shaped h2) (SeqAt.canLay_of_shaped h1) (room_in_shaped h1 hu) ⟨.bl _, H, I, rfl, q⟩,
          fun q => SeqAt.notIn_tuple_reads r2 r1 (canLayAll_of_shaped h2) (SeqAt.canLay_of_shaped h1) (room_in_shaped h1 hu) ⟨.bl _, H, I, rfl, q⟩⟩
    · cases h
  · cases h
theorem op_cmp (hu : X.A.units + 65 < cLine) (o : Cop) : OpR X (compareOp o.py) (rCmp X.K o) := by
  intro pins s σ H x y v u Q I rx ry h
  obtain ⟨F, d1, d2, b, hle, w1, w2, hb, q⟩ := h
  unfold cmpD at hb
  split at hb
  · cases vw_int w1; cases vw_int w2; cases hb
    exact op_lt pins s σ H _ _ v u Q I rx ry ⟨_, _, rfl, rfl, q⟩
  · cases vw_int w1; cases vw_int w2; cases hb
    exact op_le pins s σ H _ _ v u Q I rx ry ⟨_, _, rfl, rfl, q⟩
  · cases vw_int w1; cases vw_int w2; cases hb
    exact op_gt pins s σ H _ _ v u Q I rx ry ⟨_, _, rfl, rfl, q⟩
  · cases vw_int w1; cases vw_int w2; cases hb
    exact op_ge pins s σ H _ _ v u Q I rx ry ⟨_, _, rfl, rfl, q⟩
  · exact eq_data hu hle I rx ry w1 w2 hb q
  · obtain ⟨c, hc, rfl⟩ := Option.map_eq_some_iff.mp hb
    exact ne_data hu hle I rx ry w1 w2 hc q
  · exact (in_data hu hle I rx ry w1 w2 hb).1 q
  · obtain ⟨c, hc, rfl⟩ := Option.map_eq_some_iff.mp hb
    exact (in_data hu hle I rx ry w1 w2 hc).2 q
  · cases hb
end
end Z
end

section
set_option maxRecDepth 100000
set_option maxHeartbeats 4000000
/-! sorted(t), t a tuple of ints. -/
namespace Z
open PySem PySem.Spec PyProof.Rows L2 Srt SrtO
variable [HW]

/-- the heap behind a collected tuple -/
abbrev colH (h : Heap) (vs : List Value) : Heap := (h.push (seqObj "list" #[] 0)).update h.objs.size (Obj.mapSeq (· ++ vs.toArray))
section
variable {prog : Program} {w : PySem.World} {A : Around} {E : Value → Shared → Prop} {s : Shared} {l : Addr} {vs : List Value}
theorem colH_size (h : Heap) : (colH h vs).objs.size = h.objs.size + 1 := by unfold colH; rw [Heap.size_update, size_push']
theorem colH_old {h : Heap} {b : Addr} {o : Obj} (q : h.get? b = some o) : (colH h vs).get? b = some o := by
  have hne := Nat.ne_of_lt (Heap.lt_size q)
  exact (Heap.get?_update_ne _ _ _ _ hne).trans (Heap.get?_push_of_some _ q)
theorem collectT {Q : List Value → Shared → Prop} (hl : IsTup s.heap l vs.toArray) (hz : vs.length ≤ sizeLine) (h : Q vs { s with heap := colH s.heap vs }) : wpAny (model prog w) A (collect (.ref l)) Q E s := by
  obtain ⟨o, e, ec, n, ed⟩ := id hl
  unfold collect
  refine wpAny_bind (wpAny_runValue (codeAny_builtin entry_proto_collect' ?_))
  refine wpAny_bind (wpAny_newList (wpAny_pure ⟨Code.quiet_builtin _ (by decide +kernel), codeAny_builtin entry_list_iadd' ?_⟩))
  show wpAny _ _ (Builtin.List.listExtendWith _ (.ref l) _) _ _ { s with heap := s.heap.push _ }
  unfold Builtin.List.listExtendWith
  have e' : (s.heap.push (seqObj "list" #[] 0)).get? l = some o := Heap.get?_push_of_some _ e
  refine wpAny_bind (wpAny_typeOf (T := "tuple") ⟨o, e', ec⟩ ?_)
  rw [if_pos (by simp)]
  refine wpAny_bind (listItems_at e' ed (wpAny_bind (listItems_at (xs := #[]) (n := 0) (Heap.get?_push_size _ rfl) rfl ?_)))
  rw [if_neg (by simp)]
  have z : (#[] ++ vs.toArray).size ≤ sizeLine + 1 := by
    simp only [Array.size_append, List.size_toArray, List.length_nil]; omega
  refine wpAny_bind (listUpdate_at (xs := #[]) (n := 0) (Heap.get?_push_size _ rfl) rfl ?_ (Nat.zero_le _) z)
  refine wpAny_pure ?_
  refine wpAny_bind (wpAny_load (get?_update_seq (Heap.get?_push_size _ rfl) _) ?_)
  have y : ((#[] : Array Value) ++ vs.toArray).toList = vs := by simp
  show wpAny _ _ (pure ((#[] : Array Value) ++ vs.toArray).toList) Q E _
  rw [y]
  exact wpAny_pure h
theorem sortedT {ltv : Value → Value → Bool} {Q : Value → Shared → Prop} (O : Swo ltv) (hl : IsTup s.heap l vs.toArray) (hz : vs.length ≤ sizeLine)
    (hS : 2 ≤ vs.length → ∀ (h₁ : Heap) (a : Addr), SortableO prog w A.in1.in1 { s with heap := h₁ } a vs ltv)
    (h : ∀ out : List Value, Srtd ltv out → Stb ltv out vs → Q (.ref (s.heap.objs.size + 1)) { s with heap := sortedAll s.heap vs out.toArray }) : wpAny (model prog w) A (call (.builtin "sorted") [.ref l]) Q E s := by
  refine Calls.call_function_entry kind_sorted plain_sorted entry_sorted (args_sorted1 _) ?_
  unfold Builtin.«sorted»
  refine wpAny_bind (m := checkCount "sorted" 1 1 _) (wpAny_pure (wpAny_bind (collectT hl hz (wpAny_bind (wpAny_newList ?_ hz)))))
  have at1 : ((colH s.heap vs).push (seqObj "list" vs.toArray 0)).get? (s.heap.objs.size + 1) = some (seqObj "list" vs.toArray 0) := by
    rw [← colH_size (vs := vs) s.heap]; exact Heap.get?_push_size _ rfl
  show wpAny _ _ _ _ _ { s with heap := (colH s.heap vs).push (seqObj "list" vs.toArray 0) }
  rw [colH_size]
  refine wpAny_bind (wpAny_holding (wpAny_call_entry slot_list_sort ⟨_, at1, rfl⟩ entry_list_sort ?_ (args_list_sort _)))
  exact list_sort_ord O at1 hz (fun h2 => hS h2 _ _) fun out hs hb => ⟨_, rfl, wpAny_pure ⟨_, rfl, h out hs hb⟩⟩
end
section
variable {X : Cx}
def rSortedTI (K : PySem.W.Frag) : List V → Hp → VK → Prop := fun vs H Q => ∃ (a : Addr) (ns : List Int), vs = [V.ref a] ∧ SqT K H a (ns.map V.int) ∧
  ∀ (ms : List Int) (p : Addr), ms.Perm ns → ms.Pairwise (· ≤ ·) → H p = none → Q (.ref p) (upd H p (.lst (ms.map V.int)))
theorem cr_sortedTI : CallR X (.builtin "sorted") (rSortedTI X.K) := by
  intro pins s σ H vs us Q I r h
  obtain ⟨a, ns, rfl, hs, q⟩ := h
  obtain ⟨its, rv, ht, hz⟩ := I.tuple hs
  rw [Vals.ref1 r]
  have hi := rv.ints
  refine sortedT swo_int ht (by rw [← rv.length]; exact hz) (fun h2 h₁ a' => ints_sortable hi h2) fun out h1 h2 => ?_
  obtain ⟨k1, k2, k3⟩ := ints_out hi h1 h2
  obtain ⟨ep, he'⟩ := sortedAll_at s.heap its out.toArray
  have hlen : ((out.map iv).map V.int).length ≤ sizeLine := by
    rw [List.length_map] at hz ⊢
    rw [k2.length_eq]; exact hz
  exact ⟨.ref _, upd H (s.heap.objs.size + 1) (.lst ((out.map iv).map V.int)), I.laid (t' := s.toks) (fun _ _ => sortedAll_old) (Nat.le_succ _) ⟨hlen, out, ep, vals_of_ints k1, he'⟩, rfl, q _ _ k2 k3 (I.hok.fresh (Nat.le_succ _))⟩
end
end Z
end

section
set_option maxRecDepth 100000
set_option maxHeartbeats 4000000
/-! Items, slices, built-in functions. -/
namespace Z
open PySem PySem.Spec PyProof.Rows L2
variable [HW]

section
variable (K : PySem.W.Frag) (F H : Hp)
/-- .. the script too -/
def VwI (v : V) (d : PyData) : Prop := Vw K F H v d ∨ ∃ (a : Addr) (ns : List Int), v = .ref a ∧ d = .list (ns.map .int) ∧ SqL K F a (ns.map V.int)
inductive VwAll : List V → List PyData → Prop
  | nil : VwAll [] []
  | cons {v : V} {vs : List V} {d : PyData} {ds : List PyData} : Vw K F H v d → VwAll vs ds → VwAll (v :: vs) (d :: ds)
end
section
variable {K : PySem.W.Frag} {F H : Hp}
theorem rvAll_ints : ∀ (ns : List Int), RvAll K F (ns.map V.int) (ns.map PyData.int)
  | [] => .nil
  | n :: r => .cons (.int n) (rvAll_ints r)
theorem VwI.list (hle : HLe F H) {v : V} {ds : List PyData} (h : VwI K F H v (.list ds)) : ∃ a vs, v = .ref a ∧ SqL K H a vs ∧ RvAll K F vs ds := by
  rcases h with ⟨a, vs, e, s, r⟩ | ⟨a, ns, e, e2, s⟩
  · exact ⟨a, vs, e, SqL.of s, r⟩
  · cases e2
    exact ⟨a, _, e, sqL_mono hle s, rvAll_ints ns⟩
theorem VwI.other {v : V} {d : PyData} (h : VwI K F H v d) (hd : ∀ ds, d ≠ .list ds) : Vw K F H v d := by
  rcases h with h | ⟨_, ns, _, e, _⟩
  · exact h
  · exact absurd e (hd _)
theorem ints_of : ∀ {vs : List V} {ds : List PyData} {ns : List Int}, RvAll K F vs ds → intsOf ds = some ns → vs = ns.map V.int
  | _, _, _, .nil, e => by cases e; rfl
  | _, _, _, .cons (ds := ds) r s, e => by
    cases r with
    | int i =>
      obtain ⟨r', e1, e2⟩ := Option.map_eq_some_iff.mp (show (intsOf ds).map (i :: ·) = _ from e)
      subst e2
      rw [ints_of s e1]; rfl
    | _ => cases e
theorem bools_of : ∀ {vs : List V} {ds : List PyData} {ns : List Bool}, RvAll K F vs ds → boolsOf ds = some ns → vs = ns.map V.bl
  | _, _, _, .nil, e => by cases e; rfl
  | _, _, _, .cons (ds := ds) r s, e => by
    cases r with
    | bl i =>
      obtain ⟨r', e1, e2⟩ := Option.map_eq_some_iff.mp (show (boolsOf ds).map (i :: ·) = _ from e)
      subst e2
      rw [bools_of s e1]; rfl
    | _ => cases e
end

/-! ### ints in order -/
omit [HW] in
theorem insL_perm (x : Int) : ∀ l : List Int, (insL x l).Perm (x :: l)
  | [] => .refl _
  | y :: r => by
    simp only [insL]
    split
    · exact .refl _
    · exact ((insL_perm x r).cons y).trans (.swap x y r)
omit [HW] in
theorem insL_le (x : Int) : ∀ {l : List Int}, l.Pairwise (· ≤ ·) → (insL x l).Pairwise (· ≤ ·)
  | [], _ => by simp [insL]
  | y :: r, h => by
    have h := List.pairwise_cons.mp h
    simp only [insL]
    split
    · rename_i hx
      refine List.pairwise_cons.mpr ⟨fun z hz => ?_, List.pairwise_cons.mpr h⟩
      rcases List.mem_cons.mp hz with rfl | hz
      · exact hx
      · have := h.1 z hz; omega
    · refine List.pairwise_cons.mpr ⟨fun z hz => ?_, insL_le x h.2⟩
      rcases List.mem_cons.mp ((insL_perm x r).mem_iff.mp hz) with rfl | hz
      · omega
      · exact h.1 z hz
omit [HW] in
theorem isort_perm : ∀ l : List Int, (isort l).Perm l
  | [] => .refl _
  | x :: l => (insL_perm x _).trans ((isort_perm l).cons x)
omit [HW] in
theorem isort_le : ∀ l : List Int, (isort l).Pairwise (· ≤ ·)
  | [] => List.Pairwise.nil
  | x :: l => insL_le x (isort_le l)
theorem le_same : ∀ {l m : List Int}, l.Pairwise (· ≤ ·) → m.Pairwise (· ≤ ·) → l.Perm m → l = m
  | [], m, _, _, h => (List.nil_perm.mp h).symm
  | x :: l, [], _, _, h => absurd (List.perm_nil.mp h) (by simp)
  | x :: l, y :: m, hl, hm, h => by
    have hl' := List.pairwise_cons.mp hl
    have hm' := List.pairwise_cons.mp hm
    have e : x = y := by
      have h1 : x ≤ y := by
        rcases List.mem_cons.mp (h.mem_iff.mpr (List.mem_cons_self ..)) with e | e
        · omega
        · exact hl'.1 y e
      have h2 : y ≤ x := by
        rcases List.mem_cons.mp (h.mem_iff.mp (List.mem_cons_self ..)) with e | e
        · omega
        · exact hm'.1 x e
      omega
    subst e
    rw [le_same hl'.2 hm'.2 (List.Perm.cons_inv h)]
section
variable {X : Cx}
/-- a[i] -/
def rIdx (K : PySem.W.Frag) : R2 := fun x y H Q => ∃ F d1 d2 d, HLe F H ∧ VwI K F H x d1 ∧ Vw K F H y d2 ∧ idxD d1 d2 = some d ∧ ∀ v, Rv K F v d → Q v H
theorem atI_of {K : PySem.W.Frag} {F : Hp} {vs : List V} {ds : List PyData} {i : Int} {d : PyData} (r : RvAll K F vs ds) (h : (ixN ds.length i).bind (fun j => ds[j]?) = some d) : ∃ v, atI vs i = some v ∧ Rv K F v d := by
  obtain ⟨j, h1, h2⟩ := Option.bind_eq_some_iff.mp h
  obtain ⟨v, h3, h4⟩ := r.get h2
  refine ⟨v, ?_, h4⟩
  unfold atI
  have e : L2.ixN vs.length i = some j := by rw [r.len]; exact h1
  rw [e]
  exact h3
theorem ix_idx : IxR X (rIdx X.K) := by
  intro value slice pins s σ H x y v u Q I rx ry h hs
  obtain ⟨F, d1, d2, d, hle, w1, w2, hd, q⟩ := h
  unfold idxD at hd
  split at hd
  · obtain ⟨a, vs, rfl, s1, r1⟩ := w1.list hle
    cases vw_int w2
    obtain ⟨w, e1, e2⟩ := atI_of r1 hd
    exact ix_list value slice pins s σ H _ _ v u Q I rx ry ⟨a, vs, _, w, rfl, rfl, s1, e1, q w e2⟩ hs
  · obtain ⟨a, vs, rfl, s1, r1⟩ := vw_tup (w1.other (fun _ => nofun))
    cases vw_int w2
    obtain ⟨w, e1, e2⟩ := atI_of r1 hd
    exact ix_tup value slice pins s σ H _ _ v u Q I rx ry ⟨a, vs, _, w, rfl, rfl, sqT_mono hle s1, e1, q w e2⟩ hs
  · cases hd
/-- a[lo:hi] -/
def rSlc (K : PySem.W.Frag) : V → Option Int → Option Int → Hp → VK → Prop := fun x lo hi H Q => ∃ F d1 d, HLe F H ∧ Vw K F H x d1 ∧ slcD lo hi d1 = some d ∧ Out K F H d Q
theorem cut_of {K : PySem.W.Frag} {F : Hp} {vs : List V} {ds : List PyData} (r : RvAll K F vs ds) (lo hi : Option Int) : RvAll K F (cutV vs lo hi) (cut ds lo hi) := by
  have e : vs.length = ds.length := r.len
  show RvAll K F ((vs.drop (sIx vs.length 0 lo)).take (sIx vs.length vs.length hi - sIx vs.length 0 lo)) _
  rw [e]
  exact (r.drop _).take _
theorem cut_all {α : Type} {xs : List α} {lo hi : Option Int} (h : sIx xs.length 0 lo = 0 ∧ sIx xs.length xs.length hi = xs.length) : cut xs lo hi = xs := by
  unfold cut
  rw [h.1, h.2]
  simp
theorem sl_slc : SlR X (rSlc X.K) := by
  intro pins s σ H x v vl vu lo hi sl Q I rx hs pl pu h
  obtain ⟨F, d1, d, hle, w1, hd, q⟩ := h
  unfold slcD at hd
  split at hd
  · obtain ⟨a, vs, rfl, s1, r1⟩ := w1
    cases hd
    exact sl_list pins s σ H _ v vl vu lo hi sl Q I rx hs pl pu ⟨a, vs, rfl, SqL.of s1, fun p hp => q p _ hp (cut_of r1 lo hi)⟩
  · obtain ⟨a, vs, rfl, s1, r1⟩ := vw_tup w1
    cases hd
    refine sl_tupA pins s σ H _ v vl vu lo hi sl Q I rx hs pl pu ⟨a, vs, rfl, sqT_mono hle s1, fun e => ?_, fun _ p hp => q.2 p _ hp (cut_of r1 lo hi)⟩
    refine q.1 _ (.tup s1 ?_)
    have e' : sIx vs.length 0 lo = 0 ∧ sIx vs.length vs.length hi = vs.length := e
    rw [r1.len] at e'
    rw [cut_all e']
    exact r1
  · cases hd

/-! ### built-in functions -/
def Bf.nm : Bf → Str
  | .len => "len"
  | .abs => "abs"
  | .max => "max"
  | .min => "min"
  | .sum => "sum"
  | .all => "all"
  | .any => "any"
  | .tuple => "tuple"
  | .list => "list"
  | .int => "int"
  | .repr => "repr"
  | .divmod => "divmod"
  | .sorted => "sorted"
def Bf.val : Bf → Value
  | .len => .builtin "len"
  | .abs => .builtin "abs"
  | .max => .builtin "max"
  | .min => .builtin "min"
  | .sum => .builtin "sum"
  | .all => .builtin "all"
  | .any => .builtin "any"
  | .tuple => .type "tuple"
  | .list => .type "list"
  | .int => .type "int"
  | .repr => .builtin "repr"
  | .divmod => .builtin "divmod"
  | .sorted => .builtin "sorted"
/-- a built-in function's values; len looks at the script, too -/
def VwF (K : PySem.W.Frag) (F H : Hp) (f : Bf) (vs : List V) (ds : List PyData) : Prop := VwAll K F H vs ds ∨ (f = .len ∧ ∃ v d, vs = [v] ∧ ds = [d] ∧ VwI K F H v d)
def rBf (K : PySem.W.Frag) (f : Bf) : List V → Hp → VK → Prop := fun vs H Q => ∃ F ds d, HLe F H ∧ VwF K F H f vs ds ∧ bfD f ds = some d ∧ Out K F H d Q
theorem vwAll1 {K : PySem.W.Frag} {F H : Hp} {vs : List V} {d : PyData} (h : VwAll K F H vs [d]) : ∃ v, vs = [v] ∧ Vw K F H v d := by
  cases h with
  | cons a b => cases b; exact ⟨_, rfl, a⟩
theorem vwAll2 {K : PySem.W.Frag} {F H : Hp} {vs : List V} {d e : PyData} (h : VwAll K F H vs [d, e]) : ∃ v w, vs = [v, w] ∧ Vw K F H v d ∧ Vw K F H w e := by
  cases h with
  | cons a b => cases b with | cons c b => cases b; exact ⟨_, _, rfl, a, c⟩
theorem VwF.all {K : PySem.W.Frag} {F H : Hp} {f : Bf} {vs : List V} {ds : List PyData} (h : VwF K F H f vs ds) (hf : f ≠ .len) : VwAll K F H vs ds := h.elim id fun z => absurd z.1 hf
theorem VwF.one {K : PySem.W.Frag} {F H : Hp} {f : Bf} {vs : List V} {d : PyData} (h : VwF K F H f vs [d]) : ∃ v, vs = [v] ∧ VwI K F H v d := by
  rcases h with h | ⟨_, v, d', rfl, e, h⟩
  · obtain ⟨v, e, h⟩ := vwAll1 h
    exact ⟨v, e, .inl h⟩
  · cases e
    exact ⟨v, rfl, h⟩
mutual
theorem Rv.reads0 {F H : Hp} (hle : HLe F H) {pins : List (Addr × Obj)} {s : Shared} {σ : L2.St} (I : Inv X pins σ H s) : ∀ {d : PyData} {v : V} {u : Value}, Rv X.K F v d → RelV v u → d.hasDict = false → ∃ as, Reads s.heap u d as
  | .none, _, _, .non, r, _ => by cases r; exact ⟨_, .none⟩
  | .bool _, _, _, .bl b, r, _ => by cases r; exact ⟨_, .bool b⟩
  | .int _, _, _, .int i, r, _ => by obtain ⟨t, rfl⟩ := r; exact ⟨_, .int i t⟩
  | .str _, _, _, .str x, r, _ => by obtain ⟨t, rfl⟩ := r; exact ⟨_, .str x t⟩
  | .list ds, _, _, .lst hs ha, r, c => by
    cases r
    obtain ⟨its, rv, ⟨o, n, ho, hc, _, hd⟩, _⟩ := I.list (SqL.of (hle _ _ hs))
    obtain ⟨as, hr⟩ := RvAll.reads0 hle I ha rv (by simpa [PyData.hasDict] using c)
    exact ⟨_, Reads.list ho hc hd hr⟩
  | .tuple ds, _, _, .tup hs ha, r, c => by
    cases r
    obtain ⟨its, rv, ⟨o, ho, hc, n, hd⟩, _⟩ := I.tuple (sqT_mono hle hs)
    obtain ⟨as, hr⟩ := RvAll.reads0 hle I ha rv (by simpa [PyData.hasDict] using c)
    exact ⟨_, Reads.tuple ho hc hd hr⟩
  | .dict _, _, _, _, _, c => by simp [PyData.hasDict] at c
theorem RvAll.reads0 {F H : Hp} (hle : HLe F H) {pins : List (Addr × Obj)} {s : Shared} {σ : L2.St} (I : Inv X pins σ H s) : ∀ {ds : List PyData} {vs : List V} {us : List Value}, RvAll X.K F vs ds → Vals vs us → PyData.hasDictAll ds = false → ∃ as, ReadsAll s.heap us ds as
  | [], _, _, .nil, r, _ => by cases r; exact ⟨_, .nil⟩
  | d :: ds, _, _, .cons h1 h2, r, c => by
    have c' : d.hasDict = false ∧ PyData.hasDictAll ds = false := by simpa [PyData.hasDictAll] using c
    cases r with
    | cons r1 r2 =>
      obtain ⟨as, q1⟩ := Rv.reads0 hle I h1 r1 c'.1
      obtain ⟨bs, q2⟩ := RvAll.reads0 hle I h2 r2 c'.2
      exact ⟨_, .cons q1 q2⟩
end
theorem noDict_of {d : PyData} (h : noDict d = true) : d = .dict [] ∨ d.hasDict = false := by
  cases d with
  | dict kvs =>
    cases kvs with
    | nil => exact .inl rfl
    | cons a r => simp [noDict, PyData.hasDict] at h
  | _ => exact .inr (by simpa [noDict] using h)
theorem Vw.reads {F H : Hp} (hle : HLe F H) {pins : List (Addr × Obj)} {s : Shared} {σ : L2.St} (I : Inv X pins σ H s) {v : V} {u : Value} {d : PyData} (w : Vw X.K F H v d) (r : RelV v u) (hd : noDict d = true) :
    ∃ as, Reads s.heap u d as ∧ (d.hasDict = true → sysModules ∉ as) := by
  rcases noDict_of hd with e | e
  · subst e
    cases (show Rv X.K F v (.dict []) from w) with
    | dic h =>
      cases r
      obtain ⟨_, hsys, vs, kv, o, es, ep, h1, h2, h3, _, h4, _⟩ := (show ObjOk X.prog X.w H s.heap _ (.dK []) from I.hok _ _ (hle _ _ h))
      cases kv
      have he : es.toList = [] := by
        generalize es.toList = l at h4
        cases h4
        rfl
      refine ⟨_, Reads.dict (kvs := []) (as := []) (bs := []) h1 h2.1 h3 (by rw [he]; exact .nil) (by rw [he]; exact .nil), fun _ hm => ?_⟩
      simp at hm
      rw [hm] at hsys
      simp at hsys
  · have key : ∃ as, Reads s.heap u d as := by
      cases d with
      | list ds =>
        obtain ⟨a, vs, e1, hs, ha⟩ := w
        subst e1
        cases r
        obtain ⟨its, rv, ⟨o, n, ho, hc, _, hd⟩, _⟩ := I.list (SqL.of hs)
        obtain ⟨as, hr⟩ := RvAll.reads0 hle I ha rv (by simpa [PyData.hasDict] using e)
        exact ⟨_, Reads.list ho hc hd hr⟩
      | _ => exact Rv.reads0 hle I w r e
    obtain ⟨as, h⟩ := key
    exact ⟨as, h, fun z => by rw [e] at z; cases z⟩
theorem cr_repr (hg : X.A.guards = some []) (hu : X.A.units + 66 < cLine) : CallR X (.builtin "repr") (rBf X.K .repr) := by
  intro pins s σ H vs us Q I r h
  obtain ⟨F, ds, d, hle, w, hd, q⟩ := h
  have w := w.all nofun
  unfold bfD at hd
  simp only at hd
  unfold reprD at hd
  split at hd
  · rename_i d0
    split at hd
    · cases hd
      rename_i hok
      simp only [reprOk, Bool.and_eq_true, decide_eq_true_eq] at hok
      obtain ⟨⟨⟨h1, h2⟩, h3⟩, h4⟩ := hok
      obtain ⟨v, rfl, w1⟩ := vwAll1 w
      obtain ⟨u, rfl, r1⟩ := vals1 r
      obtain ⟨as, rd, hsm⟩ := w1.reads hle I r1 h4
      have q' := q _ (.str _)
      cases rd with
      | none => exact PySem.P.repr_of_none ⟨.str _, H, I.tok _, ⟨_, rfl⟩, by simpa [PyData.shown] using q'⟩
      | bool b => exact PySem.P.repr_of_bool ⟨.str _, H, I.tok _, ⟨_, rfl⟩, by simpa [PyData.shown] using q'⟩
      | int i t => exact PySem.P.repr_of_int (by simpa [PyData.showable] using h1) ⟨.str _, H, I.tok _, ⟨_, rfl⟩, by simpa [PyData.shown] using q'⟩
      | str x t => exact PySem.P.repr_of_str ⟨.str _, H, I.tok _, ⟨_, rfl⟩, by simpa [PyData.shown] using q'⟩ (by simpa [PyData.shown] using h2)
      | list e1 e2 e3 e4 => exact repr_of_reads' (Reads.list e1 e2 e3 e4) h1 hsm hg (by omega) (fun _ _ e => e) (fun h' u tk hk => ⟨.str _, H, I.kept hk, ⟨_, rfl⟩, q'⟩) h2
      | tuple e1 e2 e3 e4 => exact repr_of_reads' (Reads.tuple e1 e2 e3 e4) h1 hsm hg (by omega) (fun _ _ e => e) (fun h' u tk hk => ⟨.str _, H, I.kept hk, ⟨_, rfl⟩, q'⟩) h2
      | dict e1 e2 e3 e4 e5 => exact repr_of_reads' (Reads.dict e1 e2 e3 e4 e5) h1 hsm hg (by omega) (fun _ _ e => e) (fun h' u tk hk => ⟨.str _, H, I.kept hk, ⟨_, rfl⟩, q'⟩) h2
    · cases hd
  · cases hd
theorem maxI_spec : ∀ (ns : List Int) (n : Int), maxI n ns ∈ n :: ns ∧ ∀ y ∈ n :: ns, y ≤ maxI n ns
  | [], n => ⟨List.mem_singleton.mpr rfl, fun y hy => by rw [List.mem_singleton.mp hy]; exact Int.le_refl _⟩
  | x :: r, n => by
    obtain ⟨h1, h2⟩ := maxI_spec r (if n < x then x else n)
    show maxI (if n < x then x else n) r ∈ _ ∧ ∀ y ∈ _, y ≤ maxI (if n < x then x else n) r
    have h3 := h2 _ List.mem_cons_self
    refine ⟨?_, fun y hy => ?_⟩
    · rcases List.mem_cons.mp h1 with e | e
      · rw [e]
        split <;> simp
      · exact List.mem_cons_of_mem _ (List.mem_cons_of_mem _ e)
    · rcases List.mem_cons.mp hy with e | hy
      · subst e
        refine Int.le_trans ?_ h3
        split <;> omega
      · rcases List.mem_cons.mp hy with e | hy
        · subst e
          refine Int.le_trans ?_ h3
          split <;> omega
        · exact h2 y (List.mem_cons_of_mem _ hy)
theorem minI_spec : ∀ (ns : List Int) (n : Int), minI n ns ∈ n :: ns ∧ ∀ y ∈ n :: ns, minI n ns ≤ y
  | [], n => ⟨List.mem_singleton.mpr rfl, fun y hy => by rw [List.mem_singleton.mp hy]; exact Int.le_refl _⟩
  | x :: r, n => by
    obtain ⟨h1, h2⟩ := minI_spec r (if x < n then x else n)
    show minI (if x < n then x else n) r ∈ _ ∧ ∀ y ∈ _, minI (if x < n then x else n) r ≤ y
    have h3 := h2 _ List.mem_cons_self
    refine ⟨?_, fun y hy => ?_⟩
    · rcases List.mem_cons.mp h1 with e | e
      · rw [e]
        split <;> simp
      · exact List.mem_cons_of_mem _ (List.mem_cons_of_mem _ e)
    · rcases List.mem_cons.mp hy with e | hy
      · subst e
        refine Int.le_trans h3 ?_
        split <;> omega
      · rcases List.mem_cons.mp hy with e | hy
        · subst e
          refine Int.le_trans h3 ?_
          split <;> omega
        · exact h2 y (List.mem_cons_of_mem _ hy)
theorem vw_list {K : PySem.W.Frag} {F H : Hp} {v : V} {ds : List PyData} (h : Vw K F H v (.list ds)) : ∃ a vs, v = .ref a ∧ H a = some (.lst vs) ∧ RvAll K F vs ds := h
theorem cr_bf (hg : X.A.guards = some []) (hu : X.A.units + 66 < cLine) (hc : X.calm = true) (f : Bf) : CallR X f.val (rBf X.K f) := by
  cases f
  case repr => exact cr_repr hg hu
  all_goals
    intro pins s σ H vs us Q I r h
    obtain ⟨F, ds, d, hle, w, hd, q⟩ := h
    unfold bfD at hd
    simp only at hd
  case len =>
    unfold lenD at hd
    split at hd
    · cases hd
      obtain ⟨v, rfl, w1⟩ := w.one
      obtain ⟨a, vs, rfl, s1, r1⟩ := w1.list hle
      refine call_len_seq pins s σ H _ us Q I r ⟨a, vs, rfl, .inl s1, ?_⟩
      rw [r1.len]
      exact q _ (.int _)
    · cases hd
      obtain ⟨v, rfl, w1⟩ := w.one
      obtain ⟨a, vs, rfl, s1, r1⟩ := vw_tup (w1.other fun _ => nofun)
      refine call_len_seq pins s σ H _ us Q I r ⟨a, vs, rfl, .inr (sqT_mono hle s1), ?_⟩
      rw [r1.len]
      exact q _ (.int _)
    · split at hd
      · cases hd
        rename_i hz
        obtain ⟨v, rfl, w1⟩ := w.one
        cases vw_str (w1.other fun _ => nofun)
        exact call_len_str pins s σ H _ us Q I r ⟨_, rfl, hz, q _ (.int _)⟩
      · cases hd
    · cases hd
  case abs =>
    have w := w.all nofun
    unfold absD at hd
    split at hd
    · cases hd
      obtain ⟨v, rfl, w1⟩ := vwAll1 w
      cases vw_int w1
      exact call_abs pins s σ H _ us Q I r ⟨_, rfl, q _ (.int _)⟩
    · cases hd
  case max =>
    have w := w.all nofun
    unfold maxD at hd
    split at hd
    · cases hd
      obtain ⟨v, v', rfl, w1, w2⟩ := vwAll2 w
      cases vw_int w1; cases vw_int w2
      exact call_max2 hc pins s σ H _ us Q I r ⟨_, _, rfl, q _ (.int _)⟩
    · split at hd
      · cases hd
        rename_i n ns hi
        obtain ⟨v, rfl, w1⟩ := vwAll1 w
        obtain ⟨a, vs, rfl, s1, r1⟩ := vw_list w1
        have e := ints_of r1 hi
        subst e
        refine cr_max hc pins s σ H _ us Q I r ⟨a, _, rfl, SqL.of s1, by simp, fun m h1 h2 => ?_⟩
        obtain ⟨g1, g2⟩ := maxI_spec ns n
        have : m = maxI n ns := Int.le_antisymm (g2 m h1) (h2 _ g1)
        subst this
        exact q _ (.int _)
      · cases hd
    · cases hd
  case min =>
    have w := w.all nofun
    unfold minD at hd
    split at hd
    · cases hd
      obtain ⟨v, v', rfl, w1, w2⟩ := vwAll2 w
      cases vw_int w1; cases vw_int w2
      exact call_min2 hc pins s σ H _ us Q I r ⟨_, _, rfl, q _ (.int _)⟩
    · split at hd
      · cases hd
        rename_i n ns hi
        obtain ⟨v, rfl, w1⟩ := vwAll1 w
        obtain ⟨a, vs, rfl, s1, r1⟩ := vw_list w1
        have e := ints_of r1 hi
        subst e
        refine cr_min hc pins s σ H _ us Q I r ⟨a, _, rfl, SqL.of s1, by simp, fun m h1 h2 => ?_⟩
        obtain ⟨g1, g2⟩ := minI_spec ns n
        have : m = minI n ns := Int.le_antisymm (h2 _ g1) (g2 m h1)
        subst this
        exact q _ (.int _)
      · cases hd
    · cases hd
  case sum =>
    have w := w.all nofun
    unfold sumD at hd
    split at hd
    · obtain ⟨ns, hi, e2⟩ := Option.map_eq_some_iff.mp hd
      subst e2
      obtain ⟨v, rfl, w1⟩ := vwAll1 w
      obtain ⟨a, vs, rfl, s1, r1⟩ := vw_list w1
      have e := ints_of r1 hi
      subst e
      exact cr_sum hc pins s σ H _ us Q I r ⟨a, ns, rfl, SqL.of s1, q _ (.int _)⟩
    · cases hd
  case all =>
    have w := w.all nofun
    unfold allD at hd
    split at hd
    · obtain ⟨ns, hi, e2⟩ := Option.map_eq_some_iff.mp hd
      subst e2
      obtain ⟨v, rfl, w1⟩ := vwAll1 w
      obtain ⟨a, vs, rfl, s1, r1⟩ := vw_list w1
      have e := bools_of r1 hi
      subst e
      exact cr_all hc pins s σ H _ us Q I r ⟨a, ns, rfl, SqL.of s1, q _ (.bl _)⟩
    · cases hd
  case any =>
    have w := w.all nofun
    unfold anyD at hd
    split at hd
    · obtain ⟨ns, hi, e2⟩ := Option.map_eq_some_iff.mp hd
      subst e2
      obtain ⟨v, rfl, w1⟩ := vwAll1 w
      obtain ⟨a, vs, rfl, s1, r1⟩ := vw_list w1
      have e := bools_of r1 hi
      subst e
      exact cr_any hc pins s σ H _ us Q I r ⟨a, ns, rfl, SqL.of s1, q _ (.bl _)⟩
    · cases hd
  case tuple =>
    have w := w.all nofun
    unfold tupD at hd
    split at hd
    · cases hd
      obtain ⟨v, rfl, w1⟩ := vwAll1 w
      obtain ⟨a, vs, rfl, s1, r1⟩ := vw_list w1
      exact call_tuple_of pins s σ H _ us Q I r ⟨a, vs, rfl, .inl ⟨SqL.of s1, fun l hl => q.2 l _ hl r1⟩⟩
    · cases hd
      obtain ⟨v, rfl, w1⟩ := vwAll1 w
      obtain ⟨a, vs, rfl, s1, r1⟩ := vw_tup w1
      exact call_tuple_of pins s σ H _ us Q I r ⟨a, vs, rfl, .inr ⟨sqT_mono hle s1, q.1 _ (.tup s1 r1)⟩⟩
    · cases hd
  case list =>
    have w := w.all nofun
    unfold lstD at hd
    split at hd
    · cases hd
      obtain ⟨v, rfl, w1⟩ := vwAll1 w
      obtain ⟨a, vs, rfl, s1, r1⟩ := vw_list w1
      exact call_list_of pins s σ H _ us Q I r ⟨a, vs, rfl, .inl (SqL.of s1), fun l hl => q l _ hl r1⟩
    · cases hd
      obtain ⟨v, rfl, w1⟩ := vwAll1 w
      obtain ⟨a, vs, rfl, s1, r1⟩ := vw_tup w1
      exact call_list_of pins s σ H _ us Q I r ⟨a, vs, rfl, .inr (sqT_mono hle s1), fun l hl => q l _ hl r1⟩
    · cases hd
  case int =>
    have w := w.all nofun
    unfold intD at hd
    split at hd
    · cases hd
      obtain ⟨v, rfl, w1⟩ := vwAll1 w
      cases vw_int w1
      exact call_int1 pins s σ H _ us Q I r (.inl ⟨_, rfl, q _ (.int _)⟩)
    · cases hd
      obtain ⟨v, rfl, w1⟩ := vwAll1 w
      cases vw_bool w1
      exact call_int1 pins s σ H _ us Q I r (.inr ⟨_, rfl, q _ (.int _)⟩)
    · cases hd
  case divmod =>
    have w := w.all nofun
    unfold dvmD at hd
    split at hd
    · split at hd
      · cases hd
        rename_i hz
        obtain ⟨v, v', rfl, w1, w2⟩ := vwAll2 w
        cases vw_int w1; cases vw_int w2
        exact call_divmod pins s σ H _ us Q I r ⟨_, _, rfl, hz, fun p hp => q.2 p _ hp (.cons (.int _) (.cons (.int _) .nil))⟩
      · cases hd
    · cases hd
  case sorted =>
    have w := w.all nofun
    unfold srtD at hd
    split at hd
    · obtain ⟨ns, hi, e2⟩ := Option.map_eq_some_iff.mp hd
      subst e2
      obtain ⟨v, rfl, w1⟩ := vwAll1 w
      obtain ⟨a, vs, rfl, s1, r1⟩ := vw_list w1
      have e := ints_of r1 hi
      subst e
      refine cr_sortedI pins s σ H _ us Q I r ⟨a, ns, rfl, SqL.of s1, fun ms p h1 h2 hp => ?_⟩
      have em : ms = isort ns := le_same h2 (isort_le ns) (h1.trans (isort_perm ns).symm)
      subst em
      exact q p _ hp (rvAll_ints _)
    · obtain ⟨ns, hi, e2⟩ := Option.map_eq_some_iff.mp hd
      subst e2
      obtain ⟨v, rfl, w1⟩ := vwAll1 w
      obtain ⟨a, vs, rfl, s1, r1⟩ := vw_tup w1
      have e := ints_of r1 hi
      subst e
      refine cr_sortedTI pins s σ H _ us Q I r ⟨a, ns, rfl, sqT_mono hle s1, fun ms p h1 h2 hp => ?_⟩
      have em : ms = isort ns := le_same h2 (isort_le ns) (h1.trans (isort_perm ns).symm)
      subst em
      exact q p _ hp (rvAll_ints _)
    · cases hd
end
end Z
end

section
set_option maxRecDepth 100000
set_option maxHeartbeats 4000000
/-! Readings by the interpreter. -/
namespace Z
open PySem PySem.Spec PyProof.Rows L2
variable [HW]

/-- a new list, nobody's yet -/
def Fresh (Γ : Kn) (K0 F : Hp) (φ : List Addr) (H : Hp) (v : V) (ds : List PyData) : Prop :=
  ∃ a vs, v = .ref a ∧ H a = some (.lst vs) ∧ RvAll Γ.K F vs ds ∧ F a = none ∧ a ∉ φ ∧ K0 a = none
/-- a value; b: a list is a new one -/
def FD (b : Bool) (Γ : Kn) (K0 F : Hp) (φ : List Addr) (H : Hp) (v : V) (d : D) : Prop := match b, d with
  | true, .dat (.list ds) => Fresh Γ K0 F φ H v ds
  | _, d => RD Γ.K Γ.mg F φ v d
/-- a value, or (o) what an own name holds -/
def OD (o : Bool) (Γ : Kn) (F : Hp) (φ : List Addr) (η : Env) (σ : L2.St) (v : V) (d : D) : Prop :=
  RD Γ.K Γ.mg F φ v d ∨ (o = true ∧ ∃ i : Nat, d.isOwn = true ∧ η[i]? = some (some d) ∧ σ[i]? = some (some v))
/-- what is wished where the interpreter errs -/
abbrev EW := Hp → Hp → List Addr → Env → Sto → L2.St → Hp → Er → Prop
/-- an error x as it is raised: its class, its dict -/
def ErAt (mg : Str → Option Value) (cls : Value) (d : Option Addr) (x : Er) : Prop := x.fs = [] ∧ d = none ∧ ∃ C : Addr, mg x.cls = some (.ref C) ∧ cls = .ref C
/-- what is asked of an error by what is asked of its class and dict -/
def WQ (Γ : Kn) (w : L2.WX) : EW := fun _ _ _ _ _ σ H x => ∀ cls d, ErAt Γ.mg cls d x → w cls d σ H
/-- from here on the interpreter comes to r: then k, wherever new things have come to stand -/
def Run {α : Type} (Γ : Kn) (W : EW) (K0 F : Hp) (φ : List Addr) (η : Env) (σ : L2.St) (r : R α) (k : Hp → List Addr → Hp → α → Sto → Prop) : Prop := match r with
  | .ok a s' => ∀ F' φ' H', HLe F F' → PLe φ φ' → Sim Γ K0 F' φ' η s' σ H' → k F' φ' H' a s'
  | .er x s' => ∀ F' φ' H', HLe F F' → PLe φ φ' → Sim Γ K0 F' φ' η s' σ H' → W K0 F' φ' η s' σ H' x
  | .no => False
section
variable {α β : Type} {Γ : Kn} {W : EW} {K0 F H : Hp} {φ : List Addr} {η : Env} {σ : L2.St} {s : Sto} {k : Hp → List Addr → Hp → α → Sto → Prop} {k' : Hp → List Addr → Hp → β → Sto → Prop}
theorem PLe.rfl' : PLe φ φ := fun _ _ h => h
theorem PLe.trans' {φ1 φ2 : List Addr} (h : PLe φ φ1) (h' : PLe φ1 φ2) : PLe φ φ2 := fun n a e => h' n a (h n a e)
theorem Run.later {F1 : Hp} {φ1 : List Addr} {r : R α} (h : Run Γ W K0 F φ η σ r k) (hle : HLe F F1) (hp : PLe φ φ1) : Run Γ W K0 F1 φ1 η σ r k := by
  cases r with
  | ok a s' => exact fun F' φ' H' l p S => h F' φ' H' (hle.trans l) (PLe.trans' hp p) S
  | er x s' => exact fun F' φ' H' l p S => h F' φ' H' (hle.trans l) (PLe.trans' hp p) S
  | no => exact h
theorem Run.step {m : R α} {f : α → Sto → R β} (h : Run Γ W K0 F φ η σ (m.bd f) k') : Run Γ W K0 F φ η σ m fun F1 φ1 H1 a s1 => Run Γ W K0 F1 φ1 η σ (f a s1) k' := by
  cases m with
  | ok a s1 => exact fun F1 φ1 H1 l p S => Run.later h l p
  | er x s1 => exact h
  | no => exact h
theorem Run.mono {k2 : Hp → List Addr → Hp → α → Sto → Prop} {r : R α} (h : Run Γ W K0 F φ η σ r k) (hk : ∀ F' φ' H' a s', HLe F F' → PLe φ φ' → Sim Γ K0 F' φ' η s' σ H' → k F' φ' H' a s' → k2 F' φ' H' a s') : Run Γ W K0 F φ η σ r k2 := by
  cases r with
  | ok a s' => exact fun F' φ' H' l p S => hk F' φ' H' a s' l p S (h F' φ' H' l p S)
  | er x s' => exact h
  | no => exact h
theorem Run.some {o : Option α} {f : α → Sto → R β} (h : Run Γ W K0 F φ η σ ((R.opt o s).bd f) k') : ∃ a, o = some a ∧ Run Γ W K0 F φ η σ (f a s) k' := by
  cases o with
  | none => exact h.elim
  | some a => exact ⟨a, rfl, h⟩
theorem Run.here {a : α} (h : Run Γ W K0 F φ η σ (.ok a s) k) (S : Sim Γ K0 F φ η s σ H) : k F φ H a s := h F φ H (HLe.refl F) PLe.rfl' S
theorem Run.at {F1 H1 : Hp} {φ1 : List Addr} {a : α} (h : Run Γ W K0 F φ η σ (.ok a s) k) (l : HLe F F1) (p : PLe φ φ1) (S : Sim Γ K0 F1 φ1 η s σ H1) : k F1 φ1 H1 a s := h F1 φ1 H1 l p S
end

/-- the reading of an expression -/
def rdX (Γ : Kn) (W : EW) (b : Bool) (v : Env → Sto → R D) : TE := fun σ H Q => ∃ K0 F φ η s, Sim Γ K0 F φ η s σ H ∧ Run Γ W K0 F φ η σ (v η s) fun F' φ' H' d _ => ∀ x, FD b Γ K0 F' φ' H' x d → Q x H'
/-- .. as an operand -/
def rdO (Γ : Kn) (W : EW) (o : Bool) (v : Env → Sto → R D) : TE := fun σ H Q => ∃ K0 F φ η s, Sim Γ K0 F φ η s σ H ∧ Run Γ W K0 F φ η σ (v η s) fun F' φ' H' d _ => ∀ x, OD o Γ F' φ' η σ x d → Q x H'
/-- .. as a test -/
def rdT (Γ : Kn) (W : EW) (t : Env → Sto → R Bool) : TT := fun σ H Q => ∃ K0 F φ η s, Sim Γ K0 F φ η s σ H ∧ Run Γ W K0 F φ η σ (t η s) fun _ _ H' b _ => Q b H'
/-- of an argument list -/
inductive ODs (o : Bool) (Γ : Kn) (F : Hp) (φ : List Addr) (η : Env) (σ : L2.St) : List V → List D → Prop
  | nil : ODs o Γ F φ η σ [] []
  | cons {v : V} {vs : List V} {d : D} {ds : List D} : OD o Γ F φ η σ v d → ODs o Γ F φ η σ vs ds → ODs o Γ F φ η σ (v :: vs) (d :: ds)
def rdA (Γ : Kn) (W : EW) (o : Bool) (v : Env → Sto → R (List D)) : TA := fun σ H Q => ∃ K0 F φ η s, Sim Γ K0 F φ η s σ H ∧ Run Γ W K0 F φ η σ (v η s) fun F' φ' H' ds _ => ∀ xs, ODs o Γ F' φ' η σ xs ds → Q xs H'

section
variable {Γ : Kn} {W : EW} {K0 F F' H : Hp} {φ φ' : List Addr} {η : Env} {σ : L2.St} {s : Sto}
theorem OD.mono {o : Bool} {v : V} {d : D} (h : OD o Γ F φ η σ v d) (l : HLe F F') (p : PLe φ φ') : OD o Γ F' φ' η σ v d := h.imp (fun r => r.mono l p) id
theorem ODs.mono {o : Bool} : ∀ {vs : List V} {ds : List D}, ODs o Γ F φ η σ vs ds → HLe F F' → PLe φ φ' → ODs o Γ F' φ' η σ vs ds
  | _, _, .nil, _, _ => .nil
  | _, _, .cons a r, l, p => .cons (a.mono l p) (ODs.mono r l p)
theorem OD.rd {v : V} {d : D} (h : OD false Γ F φ η σ v d) : RD Γ.K Γ.mg F φ v d := h.elim id fun z => absurd z.1 (by decide)
theorem ODs.len {o : Bool} : ∀ {vs : List V} {ds : List D}, ODs o Γ F φ η σ vs ds → vs.length = ds.length
  | _, _, .nil => rfl
  | _, _, .cons _ r => congrArg (· + 1) (ODs.len r)
theorem FD.rd {b : Bool} {v : V} {d : D} (h : FD b Γ K0 F φ H v d) (hd : ∀ ds, d ≠ .dat (.list ds)) : RD Γ.K Γ.mg F φ v d := by
  cases b with
  | false => exact h
  | true =>
    cases d with
    | dat d => cases d with
      | list ds => exact absurd rfl (hd ds)
      | _ => exact h
    | _ => exact h
/-- a value that is no list -/
theorem FD.of {b : Bool} {v : V} {d : D} (h : RD Γ.K Γ.mg F φ v d) (hd : b = true → ∀ ds, d ≠ .dat (.list ds)) : FD b Γ K0 F φ H v d := by
  cases b with
  | false => exact h
  | true =>
    cases d with
    | dat d => cases d with
      | list ds => exact absurd rfl (hd rfl ds)
      | _ => exact h
    | _ => exact h
/-- a new list is frozen -/
theorem FD.chill {b : Bool} {v : V} {d : D} (S : Sim Γ K0 F φ η s σ H) (h : FD b Γ K0 F φ H v d) : ∃ F', HLe F F' ∧ Sim Γ K0 F' φ η s σ H ∧ RD Γ.K Γ.mg F' φ v d := by
  cases b with
  | false => exact ⟨F, HLe.refl F, S, h⟩
  | true =>
    cases d with
    | dat d =>
      cases d with
      | list ds =>
        obtain ⟨a, vs, rfl, h1, h2, h3, h4, h5⟩ := h
        obtain ⟨S', l⟩ := S.chill h1 h3 h4 h5
        exact ⟨_, l, S', .lst upd_same (h2.mono l)⟩
      | _ => exact ⟨F, HLe.refl F, S, h⟩
    | _ => exact ⟨F, HLe.refl F, S, h⟩
/-- what can be looked at -/
theorem OD.view {o : Bool} {v : V} {d : D} {p : PyData} (S : Sim Γ K0 F φ η s σ H) (h : OD o Γ F φ η σ v d) (e : vw d s = some p) : Vw Γ.K F H v p := by
  rcases h with h | ⟨_, i, hi, h1, h2⟩
  · cases d with
    | dat d => cases e; exact Rv.vw S.fle h
    | ref n =>
      obtain ⟨a, ha, rfl⟩ := h
      unfold vw at e
      simp only at e
      split at e
      · rename_i xs hs
        cases e
        obtain ⟨vs, q1, q2⟩ := S.so n a _ ha hs
        exact ⟨a, vs, rfl, q1, q2⟩
      · cases e
    | fn x => cases e
    | scr ns => cases e
    | own xs => exact h.elim
    | odc m kvs => cases e
    | fdc m kvs => cases e
  · obtain ⟨a, q1, q5⟩ := S.ow i d hi h1
    rw [h2] at q1
    cases q1
    cases d with
    | own ds => cases e; obtain ⟨vs, r1, r2⟩ := q5; exact ⟨a, vs, rfl, (S.kp _ _ r1).1, r2⟩
    | odc m kvs => cases e
    | _ => cases hi
theorem OD.viewI {o : Bool} {v : V} {d : D} {p : PyData} (S : Sim Γ K0 F φ η s σ H) (h : OD o Γ F φ η σ v d) (e : vwI d s = some p) : VwI Γ.K F H v p := by
  cases d with
  | scr ns =>
    cases e
    rcases h with ⟨a, h1, h2⟩ | ⟨_, i, hi, h1, h2⟩
    · exact .inr ⟨a, ns, h1, rfl, h2⟩
    · cases hi
  | own d => exact .inl (h.view S e)
  | odc m kvs => exact .inl (h.view S e)
  | fdc m kvs => exact .inl (h.view S e)
  | dat d => exact .inl (h.view S e)
  | ref n => exact .inl (h.view S e)
  | fn x => exact .inl (h.view S e)
theorem ODs.view {o : Bool} (S : Sim Γ K0 F φ η s σ H) : ∀ {vs : List V} {ds : List D} {ps : List PyData}, ODs o Γ F φ η σ vs ds → vws ds s = some ps → VwAll Γ.K F H vs ps
  | _, _, _, .nil, e => by cases e; exact .nil
  | _, _, _, .cons (d := d) (ds := ds) a r, e => by
    obtain ⟨p, e1, e2⟩ := Option.bind_eq_some_iff.mp (show (vw d s).bind (fun x => (vws ds s).map (x :: ·)) = _ from e)
    obtain ⟨ps, e3, e4⟩ := Option.map_eq_some_iff.mp e2
    subst e4
    exact .cons (a.view S e1) (ODs.view S r e3)
theorem ODs.viewF {o : Bool} (S : Sim Γ K0 F φ η s σ H) {f : Bf} {vs : List V} {ds : List D} {ps : List PyData} (h : ODs o Γ F φ η σ vs ds) (e : vwF f ds s = some ps) : VwF Γ.K F H f vs ps := by
  unfold vwF at e
  split at e
  · obtain ⟨p, e1, e2⟩ := Option.map_eq_some_iff.mp e
    subst e2
    cases h with
    | cons a r =>
      cases r
      exact .inr ⟨rfl, _, _, rfl, rfl, a.viewI S e1⟩
  · exact .inl (h.view S e)
theorem RD.dat {v : V} {d : D} {p : PyData} (h : RD Γ.K Γ.mg F φ v d) (e : datOf d = some p) : Rv Γ.K F v p := by
  cases d with
  | dat d => cases e; exact h
  | _ => cases e
theorem OD.dat' {v : V} {d : D} {p : PyData} (h : OD false Γ F φ η σ v d) (e : datOf d = some p) : Rv Γ.K F v p := RD.dat h.rd e
theorem ODs.dats : ∀ {vs : List V} {ds : List D} {ps : List PyData}, ODs false Γ F φ η σ vs ds → datsOf ds = some ps → RvAll Γ.K F vs ps
  | _, _, _, .nil, e => by cases e; exact .nil
  | _, _, _, .cons (d := d) (ds := ds) a r, e => by
    obtain ⟨p, e1, e2⟩ := Option.bind_eq_some_iff.mp (show (datOf d).bind (fun x => (datsOf ds).map (x :: ·)) = _ from e)
    obtain ⟨ps, e3, e4⟩ := Option.map_eq_some_iff.mp e2
    subst e4
    exact .cons (a.dat' e1) (ODs.dats r e3)
end

section
variable {X : Cx} {e : Expr} {t t' : TE}
/-- a stronger reading -/
theorem pe_imp (h : PE X e t) (hi : ∀ σ H Q, t' σ H Q → t σ H Q) : PE X e t' := ⟨fun pins s σ H Q I hw => h.run pins s σ H Q I (hi σ H Q hw)⟩
theorem pt_imp {t t' : TT} (h : PT X e t) (hi : ∀ σ H Q, t' σ H Q → t σ H Q) : PT X e t' := ⟨fun pins s σ H Q I hw => h.run pins s σ H Q I (hi σ H Q hw)⟩
theorem pw_imp {t t' : TT} (h : PW X e t) (hi : ∀ σ H Q, t' σ H Q → t σ H Q) : PW X e t' := ⟨fun wh pins s σ H Q I hw => h.run wh pins s σ H Q I (hi σ H Q hw)⟩
theorem pa_imp {es : List Expr} {t t' : TA} (h : PA X es t) (hi : ∀ σ H Q, t' σ H Q → t σ H Q) : PA X es t' := ⟨fun ps pins s σ H Q I hw => h.run ps pins s σ H Q I (hi σ H Q hw)⟩
variable {Γ : Kn} {W : EW} {b o : Bool} {v : Env → Sto → R D}
/-- what is wished of shared values holds of new ones too -/
theorem Run.chill {K0 F : Hp} {φ : List Addr} {η : Env} {σ : L2.St} {r : R D} {Q : VK} (h : Run Γ W K0 F φ η σ r fun F' φ' H' d _ => ∀ x, RD Γ.K Γ.mg F' φ' x d → Q x H') (b : Bool) :
    Run Γ W K0 F φ η σ r fun F' φ' H' d _ => ∀ x, FD b Γ K0 F' φ' H' x d → Q x H' := by
  cases r with
  | ok d s' =>
    intro F' φ' H' l p S' x hx
    obtain ⟨F2, l2, S2, r2⟩ := hx.chill S'
    exact h F2 φ' H' (l.trans l2) p S2 x r2
  | er x s' => exact h
  | no => exact h
theorem pe_E (h : PE X e (rdX Γ W b v)) : PE X e (rdX Γ W false v) := pe_imp h fun σ H Q ⟨K0, F, φ, η, s, S, r⟩ => ⟨K0, F, φ, η, s, S, Run.chill r b⟩
theorem pe_O (h : PE X e (rdX Γ W b v)) (o : Bool) : PE X e (rdO Γ W o v) := pe_imp (pe_E h) fun σ H Q ⟨K0, F, φ, η, s, S, r⟩ =>
  ⟨K0, F, φ, η, s, S, r.mono fun F' φ' H' d s' l p S' hk x hx => hk x (.inl hx)⟩
end
end Z
end

section
set_option maxRecDepth 100000
set_option maxHeartbeats 4000000
/-! Rules: one for each form of an expression. -/
namespace Z
open PySem PySem.Spec PyProof.Rows L2
variable [HW]

section
variable {Γ : Kn} {W : EW} {K0 F F' H : Hp} {φ φ' : List Addr} {η : Env} {σ : L2.St} {s : Sto}
theorem Sim.fresh (S : Sim Γ K0 F φ η s σ H) {p : Addr} {vs : List V} {ds : List PyData} (hp : H p = none) (r : RvAll Γ.K F vs ds) :
    Sim Γ K0 F φ η s σ (upd H p (.lst vs)) ∧ Fresh Γ K0 F φ (upd H p (.lst vs)) (.ref p) ds := by
  obtain ⟨S', hF, hφ, hK⟩ := S.new hp (.lst vs)
  exact ⟨S', p, vs, rfl, upd_same, r, hF, hφ, hK⟩
/-- an operation's end -/
theorem out_of {b : Bool} {d : PyData} {Q : VK} (S : Sim Γ K0 F φ η s σ H) (r : Run Γ W K0 F φ η σ (.ok (.dat d) s) fun F' φ' H' d _ => ∀ x, FD b Γ K0 F' φ' H' x d → Q x H') : Out Γ.K F H d Q := by
  cases d with
  | list ds =>
    intro p vs hp hr
    obtain ⟨S', f⟩ := S.fresh hp hr
    cases b with
    | true => exact r F φ _ (HLe.refl F) PLe.rfl' S' _ f
    | false =>
      obtain ⟨F2, l2, S2, r2⟩ := FD.chill (b := true) (d := .dat (.list ds)) S' f
      exact r F2 φ _ l2 PLe.rfl' S2 _ r2
  | tuple ds =>
    refine ⟨fun v hv => r.here S _ (FD.of hv fun _ _ => nofun), fun p vs hp hr => ?_⟩
    obtain ⟨S', l⟩ := S.ice hp (.tup vs)
    exact r.at l PLe.rfl' S' _ (FD.of (show Rv Γ.K _ _ _ from .tup (SqT.of upd_same) (hr.mono l)) fun _ _ => nofun)
  | none => exact fun v hv => r.here S _ (FD.of hv fun _ _ => nofun)
  | bool _ => exact fun v hv => r.here S _ (FD.of hv fun _ _ => nofun)
  | int _ => exact fun v hv => r.here S _ (FD.of hv fun _ _ => nofun)
  | str _ => exact fun v hv => r.here S _ (FD.of hv fun _ _ => nofun)
  | dict _ => exact fun v hv => r.here S _ (FD.of hv fun _ _ => nofun)
end

section
variable {X : Cx} {Γ : Kn} {W : EW}
variable {a b c : Expr} {A B C : ES} {pos : Pos}
theorem x_bin (hK : X.K = Γ.K) {o : Bop} (ha : PE X a (rdO Γ W true A.v)) (hb : PE X b (rdO Γ W true B.v)) : PE X (.BinOp a o.py b pos) (rdX Γ W true (vBin o A B)) := by
  refine pe_imp (pe_op (op_bin o) ha hb) fun σ H Q ⟨K0, F, φ, η, s, S, r⟩ => ?_
  refine ⟨K0, F, φ, η, s, S, (Run.step r).mono fun F1 φ1 H1 x s1 l1 p1 S1 r1 xv hx => ⟨K0, F1, φ1, η, s1, S1, (Run.step r1).mono fun F2 φ2 H2 y s2 l2 p2 S2 r2 yv hy => ?_⟩⟩
  obtain ⟨dx, e1, r2⟩ := Run.some r2
  obtain ⟨dy, e2, r2⟩ := Run.some r2
  obtain ⟨d, e3, r2⟩ := Run.some r2
  rw [hK]
  exact ⟨F2, dx, dy, d, S2.fle, (hx.mono l2 p2).view S2 e1, hy.view S2 e2, e3, out_of S2 r2⟩
/-- one comparison -/
theorem cmp_ends {o : Cop} (hK : X.K = Γ.K) {K0 F : Hp} {φ : List Addr} {η : Env} {s : Sto} {σ : L2.St} {H : Hp} {Qb : Bool → Hp → Prop} (S : Sim Γ K0 F φ η s σ H) (r : Run Γ W K0 F φ η σ (vCmp o A B η s) fun _ _ H' k _ => Qb k H') :
    tOp (rCmp X.K o) (rdO Γ W true A.v) (rdO Γ W true B.v) σ H (fun x H' => ∃ k, x = .bl k ∧ Qb k H') := by
  refine ⟨K0, F, φ, η, s, S, (Run.step r).mono fun F1 φ1 H1 x s1 l1 p1 S1 r1 xv hx => ⟨K0, F1, φ1, η, s1, S1, (Run.step r1).mono fun F2 φ2 H2 y s2 l2 p2 S2 r2 yv hy => ?_⟩⟩
  obtain ⟨dx, e1, r2⟩ := Run.some r2
  obtain ⟨dy, e2, r2⟩ := Run.some r2
  cases e3 : cmpD o dx dy with
  | none => rw [e3] at r2; exact r2.elim
  | some d =>
    rw [e3] at r2
    rw [hK]
    exact ⟨F2, dx, dy, d, S2.fle, (hx.mono l2 p2).view S2 e1, hy.view S2 e2, e3, d, rfl, Run.here r2 S2⟩
theorem tv_run {t : Env → Sto → R Bool} {b : Bool} {K0 F : Hp} {φ : List Addr} {η : Env} {s : Sto} {σ : L2.St} {Q : VK} (r : Run Γ W K0 F φ η σ (tv t η s) fun F' φ' H' d _ => ∀ x, FD b Γ K0 F' φ' H' x d → Q x H') :
    Run Γ W K0 F φ η σ (t η s) fun _ _ H' k _ => Q (.bl k) H' :=
  (Run.step r).mono fun F1 φ1 H1 k s1 l1 p1 S1 r1 => Run.here r1 S1 _ (FD.of (show Rv Γ.K F1 _ _ from .bl k) fun _ _ => nofun)
theorem x_cmp (hK : X.K = Γ.K) (hu : X.A.units + 65 < cLine) {o : Cop} (ha : PE X a (rdO Γ W true A.v)) (hb : PE X b (rdO Γ W true B.v)) (hm : behindInMarks o.py b = false) : PE X (.Compare a [o.py] [b] pos) (rdX Γ W true (tv (vCmp o A B))) := by
  refine pe_imp (pe_cmpR (op_cmp hu o) ha hb hm) fun σ H Q ⟨K0, F, φ, η, s, S, r⟩ => ?_
  have q := cmp_ends (Qb := fun k H' => Q (.bl k) H') hK S (tv_run r)
  obtain ⟨K1, F1, φ1, η1, s1, S1, r1⟩ := q
  exact ⟨K1, F1, φ1, η1, s1, S1, r1.mono fun F' φ' H' d s' l p S' hk x hx => by
    obtain ⟨K2, F2, φ2, η2, s2, S2, r2⟩ := hk x hx
    exact ⟨K2, F2, φ2, η2, s2, S2, r2.mono fun F3 φ3 H3 d3 s3 l3 p3 S3 hk3 y hy => by
      obtain ⟨F4, d1, d2, k, q1, q2, q3, q4, k', e, q5⟩ := hk3 y hy
      cases e
      exact ⟨F4, d1, d2, k, q1, q2, q3, q4, q5⟩⟩⟩
theorem xt_cmp (hK : X.K = Γ.K) (hu : X.A.units + 65 < cLine) {o : Cop} (ha : PE X a (rdO Γ W true A.v)) (hb : PE X b (rdO Γ W true B.v)) (hm : behindInMarks o.py b = false) : PT X (.Compare a [o.py] [b] pos) (rdT Γ W (vCmp o A B)) :=
  pt_imp (pt_cmpR (op_cmp hu o) ha hb hm) fun σ H Q ⟨K0, F, φ, η, s, S, r⟩ => cmp_ends hK S r

theorem FD.const {b : Bool} {K0 F : Hp} {φ : List Addr} {H : Hp} {v : V} {d : PyData} (h : Rv Γ.K F v d) (hd : ∀ ds, d ≠ .list ds) : FD b Γ K0 F φ H v (.dat d) :=
  FD.of h fun _ ds e => hd ds (by injection e)
/-- a constant -/
theorem x_con {b : Bool} {e : Expr} {v : V} {d : PyData} (h : PE X e (tC v)) (hr : ∀ F, Rv Γ.K F v d) (hd : ∀ ds, d ≠ .list ds) : PE X e (rdX Γ W b fun _ s => .ok (.dat d) s) :=
  pe_imp h fun σ H Q ⟨K0, F, φ, η, s, S, r⟩ => Run.here r S v (FD.const (hr F) hd)
theorem x_var {i : Nat} {x : Str} (hN : X.N[i]? = some x) (hv : Vis X.env.scope x) (hd : (x == ("__debug__" : Str)) = false) (hcd : (x == ("__classdict__" : Str)) = false) : PE X (.Name x pos) (rdX Γ W false fun η s => look η i s) :=
  pe_imp (pe_var hN hv hd hcd) fun σ H Q ⟨K0, F, φ, η, s, S, r⟩ => by
    simp only [look] at r
    split at r
    · exact r.elim
    · exact r.elim
    · rename_i d hn hm e
      have hi : d.isOwn = false := by
        cases d with
        | own xs => exact absurd rfl (hn xs)
        | odc m xs => exact absurd rfl (hm m xs)
        | _ => rfl
      obtain ⟨v, h1, h2⟩ := S.sl i d hi e
      exact ⟨v, h1, Run.here r S v h2⟩
    · exact r.elim
theorem x_own {i : Nat} {x : Str} (hN : X.N[i]? = some x) (hv : Vis X.env.scope x) (hd : (x == ("__debug__" : Str)) = false) (hcd : (x == ("__classdict__" : Str)) = false) : PE X (.Name x pos) (rdO Γ W true fun η s => lookO η i s) :=
  pe_imp (pe_var hN hv hd hcd) fun σ H Q ⟨K0, F, φ, η, s, S, r⟩ => by
    simp only [lookO] at r
    split at r
    · rename_i xs e
      obtain ⟨a, h1, h2⟩ := S.ow i (.own xs) rfl e
      exact ⟨_, h1, Run.here r S _ (.inr ⟨rfl, i, rfl, e, h1⟩)⟩
    · rename_i m kvs e
      obtain ⟨a, h1, h2⟩ := S.ow i (.odc m kvs) rfl e
      exact ⟨_, h1, Run.here r S _ (.inr ⟨rfl, i, rfl, e, h1⟩)⟩
    · exact r.elim
/-! ### argument lists -/
theorem xa_nil {o : Bool} : PA X [] (rdA Γ W o (seqV [])) := pa_imp pa_nil fun σ H Q ⟨K0, F, φ, η, s, S, r⟩ => Run.here r S [] .nil
theorem xa_cons {o : Bool} {e : Expr} {es : List Expr} {l : List ES} (ha : PE X e (rdO Γ W o A.v)) (hr : PA X es (rdA Γ W o (seqV l))) (hs : starEach (e :: es) X.env = (false, eval e X.env) :: starEach es X.env) : PA X (e :: es) (rdA Γ W o (seqV (A :: l))) := by
  refine pa_imp (pa_cons ha hr hs) fun σ H Q ⟨K0, F, φ, η, s, S, r⟩ => ?_
  refine ⟨K0, F, φ, η, s, S, (Run.step r).mono fun F1 φ1 H1 x s1 l1 p1 S1 r1 xv hx => ⟨K0, F1, φ1, η, s1, S1, (Run.step r1).mono fun F2 φ2 H2 y s2 l2 p2 S2 r2 yv hy => ?_⟩⟩
  exact Run.here r2 S2 (xv :: yv) (.cons (hx.mono l2 p2) hy)
theorem seq_len : ∀ {l : List ES} {K0 F : Hp} {φ : List Addr} {η : Env} {σ : L2.St} {s : Sto} {k : Hp → List Addr → Hp → List D → Sto → Prop}, Run Γ W K0 F φ η σ (seqV l η s) k →
    Run Γ W K0 F φ η σ (seqV l η s) fun F' φ' H' ds s' => ds.length = l.length ∧ k F' φ' H' ds s'
  | [], K0, F, φ, η, σ, s, k, h => fun F' φ' H' l p S => ⟨rfl, h F' φ' H' l p S⟩
  | A :: l, K0, F, φ, η, σ, s, k, h => by
    have h : Run Γ W K0 F φ η σ ((A.v η s).bd fun d s => (seqV l η s).bd fun ds s => .ok (d :: ds) s) k := h
    show Run Γ W K0 F φ η σ ((A.v η s).bd fun d s => (seqV l η s).bd fun ds s => .ok (d :: ds) s) _
    cases e1 : A.v η s with
    | no => rw [e1] at h; exact h.elim
    | er x s1 => rw [e1] at h; exact h
    | ok d s1 =>
      rw [e1] at h
      simp only [R.bd_ok] at h ⊢
      have h2 := seq_len (Run.step h)
      cases e2 : seqV l η s1 with
      | no => rw [e2] at h; exact h.elim
      | er x s2 => rw [e2] at h; exact h
      | ok ds s2 =>
        rw [e2] at h h2
        exact fun F' φ' H' l p S => ⟨by rw [List.length_cons, List.length_cons, (h2 F' φ' H' l p S).1], h F' φ' H' l p S⟩
/-! ### displays -/
theorem le_line {n : Nat} (h : n ≤ 1000) : n ≤ sizeLine := by rw [sizeLine_eq]; omega
theorem x_tup {x1} {es : List Expr} {l : List ES} (hl : l.length ≤ 1000) (h : PA X es (rdA Γ W false (seqV l))) : PE X (.Tuple es x1 pos) (rdX Γ W true (vTup l)) := by
  refine pe_imp (pe_tup h) fun σ H Q ⟨K0, F, φ, η, s, S, r⟩ => ?_
  refine ⟨K0, F, φ, η, s, S, (seq_len (Run.step r)).mono fun F1 φ1 H1 ds s1 l1 p1 S1 ⟨hz, r1⟩ xs hx => ?_⟩
  obtain ⟨ps, e1, r1⟩ := Run.some r1
  exact ⟨le_line (by rw [hx.len, hz]; exact hl), fun p hp => (out_of S1 r1).2 p _ hp (hx.dats e1)⟩
theorem x_lst {es : List Expr} {l : List ES} (hl : l.length ≤ 1000) (h : PA X es (rdA Γ W false (seqV l))) : PE X (.List es pos) (rdX Γ W true (vLst l)) := by
  refine pe_imp (pe_lst h) fun σ H Q ⟨K0, F, φ, η, s, S, r⟩ => ?_
  refine ⟨K0, F, φ, η, s, S, (seq_len (Run.step r)).mono fun F1 φ1 H1 ds s1 l1 p1 S1 ⟨hz, r1⟩ xs hx => ?_⟩
  obtain ⟨ps, e1, r1⟩ := Run.some r1
  exact ⟨le_line (by rw [hx.len, hz]; exact hl), fun p hp => out_of S1 r1 p _ hp (hx.dats e1)⟩
theorem x_refl {es : List Expr} {l : List ES} (hl : l.length ≤ 1000) (h : PA X es (rdA Γ W false (seqV l))) : PE X (.List es pos) (rdX Γ W true (vRefl l)) := by
  refine pe_imp (pe_lst h) fun σ H Q ⟨K0, F, φ, η, s, S, r⟩ => ?_
  refine ⟨K0, F, φ, η, s, S, (seq_len (Run.step r)).mono fun F1 φ1 H1 ds s1 l1 p1 S1 ⟨hz, r1⟩ xs hx => ?_⟩
  obtain ⟨ps, e1, r1⟩ := Run.some r1
  refine ⟨le_line (by rw [hx.len, hz]; exact hl), fun p hp => ?_⟩
  obtain ⟨S2, p2⟩ := S1.ref (ob := .lst ps) (o := .lst xs) hp ⟨xs, upd_same, hx.dats e1⟩
  refine Run.at r1 (HLe.refl F1) p2 S2 (.ref p) ⟨p, ?_, rfl⟩
  rw [S1.ln]
  exact List.getElem?_concat_length
theorem x_dic0 : PE X (.Dict [] [] pos) (rdX Γ W true fun _ s => .ok (.dat (.dict [])) s) :=
  pe_imp pe_dnewK fun σ H Q ⟨K0, F, φ, η, s, S, r⟩ => fun p hp => by
    obtain ⟨S', l⟩ := S.ice hp (.dK [])
    exact r.at l PLe.rfl' S' _ (FD.const (.dic upd_same) fun _ => nofun)
/-! ### not, and, or, is None, if -/
theorem x_neg (ha : PE X a (rdO Γ W true A.v)) : PE X (.UnaryOp .USub a pos) (rdX Γ W true (vNeg A)) := by
  refine pe_imp (pe_un un_neg ha) fun σ H Q ⟨K0, F, φ, η, s, S, r⟩ => ?_
  refine ⟨K0, F, φ, η, s, S, (Run.step r).mono fun F1 φ1 H1 x s1 l1 p1 S1 r1 xv hx => ?_⟩
  split at r1
  · rename_i i
    cases vw_int (hx.view S1 (p := .int i) rfl)
    exact ⟨i, rfl, Run.here r1 S1 _ (FD.const (.int _) fun _ => nofun)⟩
  · exact r1.elim
theorem tru_bool {d : PyData} {k : Bool} (h : truD d = some k) : d = .bool k := by
  cases d with
  | bool b => cases h; rfl
  | _ => cases h
/-- a value that is a bool -/
theorem valT_run {K0 F : Hp} {φ : List Addr} {η : Env} {s : Sto} {σ : L2.St} {k : Hp → List Addr → Hp → Bool → Sto → Prop} (r : Run Γ W K0 F φ η σ (valT A.v η s) k) :
    Run Γ W K0 F φ η σ (A.v η s) fun F1 φ1 H1 d s1 => ∃ c, d = .dat (.bool c) ∧ Run Γ W K0 F1 φ1 η σ (.ok c s1) k := by
  refine (Run.step r).mono fun F1 φ1 H1 d s1 l1 p1 S1 r1 => ?_
  obtain ⟨p, e1, r2⟩ := Run.some r1
  cases e2 : truD p with
  | none => rw [e2] at r2; exact r2.elim
  | some c =>
    rw [e2] at r2
    cases d with
    | dat d =>
      cases e1
      rw [tru_bool e2]
      exact ⟨c, rfl, r2⟩
    | _ => cases e1
theorem OD.bl {o : Bool} {K0 F : Hp} {φ : List Addr} {η : Env} {s : Sto} {σ : L2.St} {H : Hp} {v : V} {c : Bool} (S : Sim Γ K0 F φ η s σ H) (h : OD o Γ F φ η σ v (.dat (.bool c))) : v = .bl c := vw_bool (h.view S (p := .bool c) rfl)
theorem x_not (ha : PE X a (rdO Γ W true A.v)) : PE X (.UnaryOp .Not a pos) (rdX Γ W true (tv fun η s => (valT A.v η s).bd fun b s => .ok (!b) s)) := by
  refine pe_imp (pe_not ha) fun σ H Q ⟨K0, F, φ, η, s, S, r⟩ => ?_
  refine ⟨K0, F, φ, η, s, S, (valT_run (Run.step (tv_run r))).mono fun F1 φ1 H1 x s1 l1 p1 S1 ⟨c, e, r1⟩ xv hx => ?_⟩
  subst e
  cases hx.bl S1
  exact ⟨c, rfl, Run.here (Run.here r1 S1) S1⟩
theorem xt_not (ha : PT X a (rdT Γ W A.t)) : PT X (.UnaryOp .Not a pos) (rdT Γ W fun η s => (A.t η s).bd fun b s => .ok (!b) s) := by
  refine pt_imp (pt_not ha) fun σ H Q ⟨K0, F, φ, η, s, S, r⟩ => ?_
  exact ⟨K0, F, φ, η, s, S, (Run.step r).mono fun F1 φ1 H1 x s1 l1 p1 S1 r1 => Run.here r1 S1⟩
/-- a bool as a test -/
theorem xt_val (ha : PE X a (rdO Γ W true A.v)) (he : ∀ whole, isTrue a X.env whole = (do let v ← whole; standAt a.pos; holding [v] (truthy v))) : PT X a (rdT Γ W (valT A.v)) := by
  refine pt_imp (pt_val ha he) fun σ H Q ⟨K0, F, φ, η, s, S, r⟩ => ?_
  refine ⟨K0, F, φ, η, s, S, (valT_run r).mono fun F1 φ1 H1 x s1 l1 p1 S1 ⟨c, e, r1⟩ xv hx => ?_⟩
  subst e
  cases hx.bl S1
  exact ⟨c, rfl, Run.here r1 S1⟩
theorem xw_and1 (ha : PT X a (rdT Γ W A.t)) : PW X (.BoolOp .And [a] pos) (rdT Γ W (anT [A])) := pw_and1 ha
theorem xw_and {l : List ES} {rest : List Expr} (ha : PT X a (rdT Γ W A.t)) (hb : PW X (.BoolOp .And (b :: rest) pos) (rdT Γ W (anT (B :: l)))) : PW X (.BoolOp .And (a :: b :: rest) pos) (rdT Γ W (anT (A :: B :: l))) := by
  refine pw_imp (pw_and ha hb) fun σ H Q ⟨K0, F, φ, η, s, S, r⟩ => ?_
  refine ⟨K0, F, φ, η, s, S, (Run.step r).mono fun F1 φ1 H1 x s1 l1 p1 S1 r1 => ?_⟩
  cases x with
  | true => exact ⟨K0, F1, φ1, η, s1, S1, r1⟩
  | false => exact Run.here r1 S1
theorem xw_or1 (ha : PT X a (rdT Γ W A.t)) : PW X (.BoolOp .Or [a] pos) (rdT Γ W (orT [A])) := pw_or1 ha
theorem xw_or {l : List ES} {rest : List Expr} (ha : PT X a (rdT Γ W A.t)) (hb : PW X (.BoolOp .Or (b :: rest) pos) (rdT Γ W (orT (B :: l)))) : PW X (.BoolOp .Or (a :: b :: rest) pos) (rdT Γ W (orT (A :: B :: l))) := by
  refine pw_imp (pw_or ha hb) fun σ H Q ⟨K0, F, φ, η, s, S, r⟩ => ?_
  refine ⟨K0, F, φ, η, s, S, (Run.step r).mono fun F1 φ1 H1 x s1 l1 p1 S1 r1 => ?_⟩
  cases x with
  | false => exact ⟨K0, F1, φ1, η, s1, S1, r1⟩
  | true => exact Run.here r1 S1
theorem x_and1 (ha : PE X a (rdX Γ W false A.v)) : PE X (.BoolOp .And [a] pos) (rdX Γ W false (anV [A])) := pe_one ha
theorem x_and {l : List ES} {rest : List Expr} (ha : PE X a (rdX Γ W false A.v)) (hb : PE X (.BoolOp .And (b :: rest) pos) (rdX Γ W false (anV (B :: l)))) : PE X (.BoolOp .And (a :: b :: rest) pos) (rdX Γ W false (anV (A :: B :: l))) := by
  refine pe_imp (pe_and ha hb) fun σ H Q ⟨K0, F, φ, η, s, S, r⟩ => ?_
  refine ⟨K0, F, φ, η, s, S, (Run.step r).mono fun F1 φ1 H1 x s1 l1 p1 S1 r1 xv hx => ?_⟩
  split at r1
  · cases (show Rv Γ.K F1 xv (.bool true) from hx)
    exact ⟨true, rfl, K0, F1, φ1, η, s1, S1, r1⟩
  · cases (show Rv Γ.K F1 xv (.bool false) from hx)
    exact ⟨false, rfl, Run.here r1 S1 _ (.bl false)⟩
  · exact r1.elim
theorem x_or1 (ha : PE X a (rdX Γ W false A.v)) : PE X (.BoolOp .Or [a] pos) (rdX Γ W false (orV [A])) := pe_one ha
theorem x_or {l : List ES} {rest : List Expr} (ha : PE X a (rdX Γ W false A.v)) (hb : PE X (.BoolOp .Or (b :: rest) pos) (rdX Γ W false (orV (B :: l)))) : PE X (.BoolOp .Or (a :: b :: rest) pos) (rdX Γ W false (orV (A :: B :: l))) := by
  refine pe_imp (pe_or ha hb) fun σ H Q ⟨K0, F, φ, η, s, S, r⟩ => ?_
  refine ⟨K0, F, φ, η, s, S, (Run.step r).mono fun F1 φ1 H1 x s1 l1 p1 S1 r1 xv hx => ?_⟩
  split at r1
  · cases (show Rv Γ.K F1 xv (.bool false) from hx)
    exact ⟨false, rfl, K0, F1, φ1, η, s1, S1, r1⟩
  · cases (show Rv Γ.K F1 xv (.bool true) from hx)
    exact ⟨true, rfl, Run.here r1 S1 _ (.bl true)⟩
  · exact r1.elim
theorem isNon_iff {o : Bool} {K0 F : Hp} {φ : List Addr} {η : Env} {s : Sto} {σ : L2.St} {H : Hp} {v : V} {d : D} (S : Sim Γ K0 F φ η s σ H) (h : OD o Γ F φ η σ v d) : decide (v = V.non) = isNon d := by
  rcases h with h | ⟨_, i, hi, h1, h2⟩
  · cases d with
    | dat d => cases (show Rv Γ.K F v d from h) <;> rfl
    | ref n => obtain ⟨a, _, rfl⟩ := h; rfl
    | fn x => obtain ⟨a, _, rfl⟩ := h; rfl
    | scr ns => obtain ⟨a, rfl, _⟩ := h; rfl
    | own xs => exact h.elim
    | odc m xs => exact h.elim
    | fdc m xs => obtain ⟨a, rfl, _⟩ := h; rfl
  · obtain ⟨a, q1, q5⟩ := S.ow i _ hi h1
    rw [h2] at q1
    cases q1
    cases d with
    | own xs => rfl
    | odc m xs => rfl
    | _ => cases hi
theorem x_isN {j p'} (ha : PE X a (rdO Γ W true A.v)) : PE X (.Compare a [.Is] [.Constant .none j p'] pos) (rdX Γ W true (tv fun η s => (A.v η s).bd fun x s => .ok (isNon x) s)) := by
  refine pe_imp (pe_cmp (pc_isN ha) rfl) fun σ H Q ⟨K0, F, φ, η, s, S, r⟩ => ?_
  refine ⟨K0, F, φ, η, s, S, (Run.step (tv_run r)).mono fun F1 φ1 H1 x s1 l1 p1 S1 r1 xv hx => ?_⟩
  show Q (V.bl (decide (xv = V.non))) H1
  rw [isNon_iff S1 hx]
  exact Run.here r1 S1
theorem x_notN {j p'} (ha : PE X a (rdO Γ W true A.v)) : PE X (.Compare a [.IsNot] [.Constant .none j p'] pos) (rdX Γ W true (tv fun η s => (A.v η s).bd fun x s => .ok (!isNon x) s)) := by
  refine pe_imp (pe_cmp (pc_notN ha) rfl) fun σ H Q ⟨K0, F, φ, η, s, S, r⟩ => ?_
  refine ⟨K0, F, φ, η, s, S, (Run.step (tv_run r)).mono fun F1 φ1 H1 x s1 l1 p1 S1 r1 xv hx => ?_⟩
  show Q (V.bl (!decide (xv = V.non))) H1
  rw [isNon_iff S1 hx]
  exact Run.here r1 S1
theorem xt_isN {j p'} (ha : PE X a (rdO Γ W true A.v)) : PT X (.Compare a [.Is] [.Constant .none j p'] pos) (rdT Γ W fun η s => (A.v η s).bd fun x s => .ok (isNon x) s) := by
  refine pt_imp (pt_cmp (pc_isN ha) rfl) fun σ H Q ⟨K0, F, φ, η, s, S, r⟩ => ?_
  refine ⟨K0, F, φ, η, s, S, (Run.step r).mono fun F1 φ1 H1 x s1 l1 p1 S1 r1 xv hx => ⟨_, rfl, ?_⟩⟩
  rw [isNon_iff S1 hx]
  exact Run.here r1 S1
theorem xt_notN {j p'} (ha : PE X a (rdO Γ W true A.v)) : PT X (.Compare a [.IsNot] [.Constant .none j p'] pos) (rdT Γ W fun η s => (A.v η s).bd fun x s => .ok (!isNon x) s) := by
  refine pt_imp (pt_cmp (pc_notN ha) rfl) fun σ H Q ⟨K0, F, φ, η, s, S, r⟩ => ?_
  refine ⟨K0, F, φ, η, s, S, (Run.step r).mono fun F1 φ1 H1 x s1 l1 p1 S1 r1 xv hx => ⟨_, rfl, ?_⟩⟩
  rw [isNon_iff S1 hx]
  exact Run.here r1 S1
theorem x_ife {f : Bool} (hc : PT X c (rdT Γ W C.t)) (ha : PE X a (rdX Γ W f A.v)) (hb : PE X b (rdX Γ W f B.v)) : PE X (.IfExp c a b pos) (rdX Γ W f (vIfe C A B)) := by
  refine pe_imp (pe_ifExp hc ha hb) fun σ H Q ⟨K0, F, φ, η, s, S, r⟩ => ?_
  refine ⟨K0, F, φ, η, s, S, (Run.step r).mono fun F1 φ1 H1 x s1 l1 p1 S1 r1 => ?_⟩
  cases x with
  | true => exact ⟨K0, F1, φ1, η, s1, S1, r1⟩
  | false => exact ⟨K0, F1, φ1, η, s1, S1, r1⟩
/-! ### chains -/
theorem ch_ends {o p : Cop} (hK : X.K = Γ.K) {K0 F : Hp} {φ : List Addr} {η : Env} {s : Sto} {σ : L2.St} {H : Hp} {Qb : Bool → Hp → Prop} (S : Sim Γ K0 F φ η s σ H) (r : Run Γ W K0 F φ η σ (vCh o p A B C η s) fun _ _ H' k _ => Qb k H') :
    tChain (rCmp X.K o) (rCmp X.K p) (rdO Γ W false A.v) (rdO Γ W false B.v) (rdO Γ W false C.v) σ H (fun x H' => ∃ k, x = .bl k ∧ Qb k H') := by
  refine ⟨K0, F, φ, η, s, S, (Run.step r).mono fun F1 φ1 H1 x s1 l1 p1 S1 r1 xv hx => ⟨K0, F1, φ1, η, s1, S1, (Run.step r1).mono fun F2 φ2 H2 y s2 l2 p2 S2 r2 yv hy => ?_⟩⟩
  obtain ⟨dx, e1, r2⟩ := Run.some r2
  obtain ⟨dy, e2, r2⟩ := Run.some r2
  obtain ⟨k, e3, r2⟩ := Run.some r2
  have wx := Rv.vw S2.fle ((hx.mono l2 p2).dat' e1)
  have wy := hy.dat' e2
  rw [hK]
  refine ⟨F2, dx, dy, k, S2.fle, wx, Rv.vw S2.fle wy, e3, k, rfl, ?_⟩
  cases k with
  | false => exact ⟨false, rfl, Run.here r2 S2⟩
  | true =>
    refine ⟨K0, F2, φ2, η, s2, S2, (Run.step r2).mono fun F3 φ3 H3 z s3 l3 p3 S3 r3 zv hz => ?_⟩
    obtain ⟨dz, e4, r3⟩ := Run.some r3
    cases e5 : cmpD p dy dz with
    | none => rw [e5] at r3; exact r3.elim
    | some d =>
      rw [e5] at r3
      exact ⟨F3, dy, dz, d, S3.fle, Rv.vw S3.fle (wy.mono l3), Rv.vw S3.fle (hz.dat' e4), e5, d, rfl, Run.here r3 S3⟩
theorem chain_mono {r r' : R2} {ta tb tc : TE} (hr : ∀ x y H Q Q', (∀ z H', Q z H' → Q' z H') → r x y H Q → r x y H Q') (hr' : ∀ x y H Q Q', (∀ z H', Q z H' → Q' z H') → r' x y H Q → r' x y H Q')
    (ha : ∀ σ H Q Q', (∀ z H', Q z H' → Q' z H') → ta σ H Q → ta σ H Q') (hb : ∀ σ H Q Q', (∀ z H', Q z H' → Q' z H') → tb σ H Q → tb σ H Q') (hc : ∀ σ H Q Q', (∀ z H', Q z H' → Q' z H') → tc σ H Q → tc σ H Q')
    {σ : L2.St} {H : Hp} {Q Q' : VK} (hq : ∀ z H', Q z H' → Q' z H') (h : tChain r r' ta tb tc σ H Q) : tChain r r' ta tb tc σ H Q' :=
  ha _ _ _ _ (fun x H1 h1 => hb _ _ _ _ (fun y H2 h2 => hr _ _ _ _ _ (fun z H3 ⟨k, e, h3⟩ => ⟨k, e, by
    cases k with
    | true => exact hc _ _ _ _ (fun w H4 h4 => hr' _ _ _ _ _ hq h4) h3
    | false => exact hq _ _ h3⟩) h2) h1) h
theorem rdO_mono {o : Bool} {v : Env → Sto → R D} : ∀ (σ : L2.St) (H : Hp) (Q Q' : VK), (∀ z H', Q z H' → Q' z H') → rdO Γ W o v σ H Q → rdO Γ W o v σ H Q' :=
  fun σ H Q Q' hq ⟨K0, F, φ, η, s, S, r⟩ => ⟨K0, F, φ, η, s, S, r.mono fun F' φ' H' d s' l p S' h x hx => hq _ _ (h x hx)⟩
theorem rCmp_mono {K : PySem.W.Frag} {o : Cop} : ∀ (x y : V) (H : Hp) (Q Q' : VK), (∀ z H', Q z H' → Q' z H') → rCmp K o x y H Q → rCmp K o x y H Q' :=
  fun x y H Q Q' hq ⟨F, d1, d2, b, h1, h2, h3, h4, h5⟩ => ⟨F, d1, d2, b, h1, h2, h3, h4, hq _ _ h5⟩
theorem x_ch (hK : X.K = Γ.K) (hu : X.A.units + 65 < cLine) {o p : Cop} (ha : PE X a (rdO Γ W false A.v)) (hb : PE X b (rdO Γ W false B.v)) (hc : PE X c (rdO Γ W false C.v)) (hm : lastMarks [o.py, p.py] [b, c] = false) :
    PE X (.Compare a [o.py, p.py] [b, c] pos) (rdX Γ W true (tv (vCh o p A B C))) :=
  pe_imp (pe_chain (op_cmp hu o) (op_cmp hu p) ha hb hc hm) fun σ H Q ⟨K0, F, φ, η, s, S, r⟩ =>
    chain_mono rCmp_mono rCmp_mono rdO_mono rdO_mono rdO_mono (fun z H' ⟨k, e, h⟩ => by subst e; exact h) (ch_ends hK (Qb := fun k H' => Q (.bl k) H') S (tv_run r))
theorem xt_ch (hK : X.K = Γ.K) (hu : X.A.units + 65 < cLine) {o p : Cop} (ha : PE X a (rdO Γ W false A.v)) (hb : PE X b (rdO Γ W false B.v)) (hc : PE X c (rdO Γ W false C.v)) (hm : lastMarks [o.py, p.py] [b, c] = false) :
    PT X (.Compare a [o.py, p.py] [b, c] pos) (rdT Γ W (vCh o p A B C)) :=
  pt_imp (pt_chain (op_cmp hu o) (op_cmp hu p) ha hb hc hm) fun σ H Q ⟨K0, F, φ, η, s, S, r⟩ => ch_ends hK S r
end
end Z
end

section
set_option maxRecDepth 100000
set_option maxHeartbeats 4000000
/-! enumerate of a tuple. -/
namespace Z
open PySem PySem.Spec PyProof.Rows L2
variable [HW]

theorem em_new {v : Value} {ob : Obj} {Hh : Heap → Prop} (B : Begins v ob Hh) :
    Meets (Builtin.«enumerate.__new__» ⟨[.type "enumerate", v], []⟩) (fun _ R s => Hh s.heap ∧
      R (.ok (.ret (.ref (s.heap.push ob).objs.size))) { s with heap := (s.heap.push ob).push { cls := .type "enumerate", data := .fields #[.none, .bool false, .ref s.heap.objs.size, rawInt 0, .none, .none] } }) :=
  .of_wp fun prog w A R s h => by
    obtain ⟨hp, g, d, tk, os⟩ := s
    obtain ⟨h1, h⟩ := h
    have hsub := sub_enumerate
    have q1 : ∀ {A' : Around} {E : Value → Shared → Prop} {Q : Value → Shared → Prop}, Q (.ref hp.objs.size) ⟨hp.push ob, g, d, tk, os⟩ → wpAny (model prog w) A' (pyIter v) Q E ⟨hp, g, d, tk, os⟩ :=
      fun q => B.iter prog w _ _ ⟨hp, g, d, tk, os⟩ _ h1 q
    wp_walk using q1
    refine wpAny_stack_any fun st => wpAny_pure ?_
    split
    · rename_i c _ _ _ _ _
      cases (c == Value.type "enumerate") <;> (wp_walk using q1; exact ⟨_, rfl, h⟩)
    · wp_walk using q1
      exact ⟨_, rfl, h⟩
theorem em_call {prog : Program} {w : PySem.World} {A : Around} {E : Value → Shared → Prop} {s : Shared} {v : Value} {ob : Obj} {Hh : Heap → Prop} {Q : Value → Shared → Prop} (hty : ∀ xs : List Value, True) (B : Begins v ob Hh) (h1 : Hh s.heap)
    (h : ∀ h', IsEnum h' (s.heap.objs.size + 1) s.heap.objs.size 0 .none → h'.get? s.heap.objs.size = some ob → (∀ b o, s.heap.get? b = some o → h'.get? b = some o) → Q (.ref (s.heap.objs.size + 1)) { s with heap := h' }) :
    wpAny (model prog w) A (call (.type "enumerate") [v]) Q E s := by
  refine callType_new F.called_enumerate (by decide) (F.typeCall_enumerate_1 _) (F.newCall_enumerate_1 _) (fun obj => F.args_object_init_2 obj _) F.entry_enumerate_new (em_new B) ⟨h1, ?_⟩
  have hz : (s.heap.push ob).objs.size = s.heap.objs.size + 1 := Heap.size_push ..
  show _ ∧ _
  rw [hz]
  generalize hen : ({ cls := .type "enumerate", data := .fields #[.none, .bool false, .ref s.heap.objs.size, rawInt 0, .none, .none] } : Obj) = en
  have he : IsEnum ((s.heap.push ob).push en) (s.heap.objs.size + 1) s.heap.objs.size 0 .none := by
    have hf : en.isFreed = false := by rw [← hen]; rfl
    have q := Heap.get?_push_size (s.heap.push ob) (o := en) hf
    rw [hz] at q
    rw [← hen] at q ⊢
    exact q
  have ty : ∃ o, ((s.heap.push ob).push en).get? (s.heap.objs.size + 1) = some o ∧ o.cls = .type "enumerate" := ⟨_, he, rfl⟩
  exact ⟨ty, h _ he (Heap.get?_push_of_some _ (Heap.get?_push_size _ B.free)) fun b o x => Heap.get?_push_of_some _ (Heap.get?_push_of_some _ x)⟩

/-- the tuple at a, each item in a new pair -/
def IteT (K : PySem.W.Frag) (a : Addr) : It where
  go := fun i H => ∃ (xs : List V) (x : V), SqT K H a xs ∧ xs[i]? = some x
  yld := fun i H v H' => ∃ T x, v = .ref T ∧ H T = none ∧ H' = upd H T (.tup [.int (i : Nat), x]) ∧ ∀ xs, SqT K H a xs → xs[i]? = some x
  stop := fun i H => ∃ xs : List V, SqT K H a xs ∧ i = xs.length
theorem turn_emT {P : Program} {w : PySem.World} {K : PySem.W.Frag} {elts : List Expr} {kk : Nat} {tpos : Pos} (a e it : Addr) :
    Turn P w K (.Tuple elts kk tpos) (IteT K a) [e, it] e (fun i h => (∃ old, IsEnum h e it ((i : Nat) : Int) old) ∧ h.IsTupleIter it a i ∧ e ≠ it) where
  mem := List.mem_cons_self
  obj := fun i h st b hb => by
    obtain ⟨⟨old, he⟩, ⟨o, ho, hc, hd⟩, _⟩ := st
    rcases List.mem_cons.mp hb with z | z
    · exact ⟨_, by rw [z]; exact he, fun v q => by simp at q⟩
    · exact ⟨o, by rw [List.mem_singleton.mp z]; exact ho, fun v q => by rw [hd] at q; cases q⟩
  keep := fun i h h' ⟨⟨old, he⟩, hi, hne⟩ k => ⟨⟨old, k e (by simp) _ he⟩, hi.at fun o q => k it (by simp) o q, hne⟩
  item := by
    rintro X rfl rfl rfl hc i pins s σ H E I hf ⟨⟨old, he⟩, hit, hne⟩ ⟨xs, x, hq, hx⟩
    obtain ⟨its, rv, p, hz⟩ := I.tuple hq
    obtain ⟨u, hu, ru⟩ := rv.get hx
    have hel : e < s.heap.objs.size := Heap.lt_size he
    have hil : it < s.heap.objs.size := by obtain ⟨_, q, _⟩ := hit; exact Heap.lt_size q
    have hlt : i < its.length := (List.getElem?_eq_some_iff.mp hu).1
    have hea : e ≠ a := fun z => by
      obtain ⟨o, ho, hcl, _⟩ := p
      rw [← z] at ho
      have h2 : some o = _ := ho.symm.trans he
      cases h2
      exact absurd hcl (by simp)
    have hia : a ≠ it := fun z => by
      obtain ⟨o, ho, hcl, _⟩ := p
      obtain ⟨o2, ho2, hcl2, _⟩ := hit
      rw [z, ho2] at ho
      cases ho
      rw [hcl2] at hcl
      exact absurd hcl (by simp)
    have Dr := Draws.tuple (prog := X.prog) (w := X.w) (A := X.A.in1) (show X.A.in1.handled = none from I.ok.hd hc) it a hia its.toArray
    refine wpAny_pyNext_enum_itemC Dr he ⟨hit, p⟩ (by simpa using hlt) hne (by simp [hne, hea]) fun y h' tk hy ho hit' hT hsz hk => ?_
    have hyu : y = u := by
      have h1 : its.toArray[i]? = some u := by simpa using hu
      exact Option.some.inj (hy.symm.trans h1)
    subst hyu
    refine ⟨_, rfl, wpAny_letOwnedTupleGo_enum (s := { s with heap := h', toks := tk + 1 }) ho fun h'' he' sb => ?_⟩
    have hT2 : h''.get? s.heap.objs.size = some { cls := .type "tuple", data := .seq #[.int i tk, y] } := (sb.2 _ (Nat.ne_of_gt hel)).trans hT
    have fresh : ObjOk X.prog X.w (upd H s.heap.objs.size (.tup [.int (i : Nat), x])) h'' s.heap.objs.size (.tup [.int (i : Nat), x]) :=
      ⟨by show 2 ≤ sizeLine; decide, [.int i tk, y], .cons ⟨_, rfl⟩ (.cons ru .nil), ⟨_, hT2, rfl, _, rfl⟩⟩
    have I1 : Inv X pins σ (upd H s.heap.objs.size (.tup [.int (i : Nat), x])) { s with heap := h'', toks := tk + 1 } :=
      I.turnedNew (ch := [e, it]) (fun b ob hb q => (sb.2 b (fun z => hb (by simp [z]))).trans (hk b ob (fun z => hb (by simp [z])) (fun z => hb (by simp [z])) q)) hf (Nat.le_refl _) fresh
    refine ⟨.ref s.heap.objs.size, _, I1, rfl, ⟨_, x, rfl, I.hok.fresh (Nat.le_refl _), rfl, fun ys hy => by rw [I.tuple_inj hy hq]; exact hx⟩, ⟨⟨y, ?_⟩, hit'.1.at fun o q => (sb.2 it (Ne.symm hne)).trans q, hne⟩, fun b hb => ?_⟩
    · have e1 : ((i + 1 : Nat) : Int) = (i : Int) + 1 := by omega
      rw [e1]; exact he'
    · have hb' : b < s.heap.objs.size := by
        rcases List.mem_cons.mp hb with z | z
        · rw [z]; exact hel
        · rw [List.mem_singleton.mp z]; exact hil
      rw [upd_ne (Nat.ne_of_lt hb')]
      exact (hf b hb).1
  done := by
    rintro X rfl rfl rfl hc i pins s σ H E I hf ⟨⟨old, he⟩, hit, hne⟩ ⟨xs, hq, hx⟩
    obtain ⟨its, rv, p, hz⟩ := I.tuple hq
    obtain ⟨f0, f1, f2, f3, f4, f5⟩ := hf it (by simp)
    have hl := rv.length
    have hia : a ≠ it := fun z => by
      obtain ⟨o, ho, hcl, _⟩ := p
      obtain ⟨o2, ho2, hcl2, _⟩ := hit
      rw [z, ho2] at ho
      cases ho
      rw [hcl2] at hcl
      exact absurd hcl (by simp)
    have Dr := Draws.tuple (prog := X.prog) (w := X.w) (A := X.A.in1) (show X.A.in1.handled = none from I.ok.hd hc) it a hia its.toArray
    have hl' : i = its.toArray.size := by simp; omega
    subst hl'
    exact wpAny_pyNext_enum_endD Dr he ⟨hit, p⟩ fun h' eb => ⟨rfl, I.turned (t' := s.toks) (fun b ob hb q => eb b ob hb q) f0 f1 f3 f4 f5⟩
  self := fun A i s Q E st h => wpAny_pyIter_enum st.1.choose_spec h
theorem walk_enumT {K : PySem.W.Frag} {a : Addr} {xs : List V} : Walk (IteT K a) xs.length (fun H => SqT K H a xs) (YPair (fun i => some (.int (i : Nat))) (fun i => xs[i]?)) := by
  refine ⟨fun i _ hi q => ⟨xs, xs[i], q, by simp [hi]⟩, fun _ q => ⟨xs, q, rfl⟩, fun i H v H' _ q y => ?_⟩
  obtain ⟨T, x, h1, h2, h3, h4⟩ := y
  exact ⟨T, .int (i : Nat), x, h1, h2, h3, rfl, h4 xs q⟩
def iEnumA (K : PySem.W.Frag) (ta : TA) : TI := fun σ H R => ta σ H fun vs H1 => ∃ a xs, vs = [.ref a] ∧ ((SqL K H1 a xs ∧ R (Ite K a) H1) ∨ (SqT K H1 a xs ∧ R (IteT K a) H1))
theorem pi_enumA {X : Cx} {e : Expr} {ta : TA} {p pos tpos : Pos} {elts : List Expr} {kk : Nat} (hg : Gl X "enumerate") (hm : X.mg "enumerate" = none) (ha : PA X [e] ta) (hs : starEach [e] X.env = [(false, eval e X.env)]) :
    PI X (.Tuple elts kk tpos) (.Call (.Name "enumerate" p) [e] [] pos) (iEnumA X.K ta) := by
  refine ⟨fun pins s σ H R I h => ?_⟩
  refine Call_ (ld_blt I hg hm boot_enumerate (PyProof.Rows.callWith_type1 (thn (ha.run pos pins s σ H _ I h) fun us s1 ⟨vs, H1, I1, r1, q1⟩ => ?_) hs rfl))
  obtain ⟨a, xs, ex, hq⟩ := q1
  subst ex
  cases r1 with
  | cons r rr =>
    cases rr
    cases r
    rcases hq with ⟨hq, q⟩ | ⟨hq, q⟩
    · obtain ⟨its, rv, p', hz⟩ := I1.list hq
      refine call_enumerate_list p'.isList fun h' he hit hsz hk => wpAny_pyIter_enum he ?_
      have I2 : Inv X pins σ H1 { s1 with heap := h' } := I1.kept (t' := s1.toks) hk
      refine ⟨s1.heap.objs.size + 1, [s1.heap.objs.size + 1, s1.heap.objs.size], _, _, H1, rfl, I2, turn_enum a (s1.heap.objs.size + 1) s1.heap.objs.size, ⟨⟨.none, he⟩, hit, Nat.succ_ne_self _⟩, fun b hb => ?_, q⟩
      have e' : b = s1.heap.objs.size + 1 ∨ b = s1.heap.objs.size := by simpa using hb
      have hle : s1.heap.objs.size ≤ b := by
        rcases e' with z | z
        · rw [z]; exact Nat.le_add_right _ _
        · rw [z]; exact Nat.le_refl _
      exact I1.fpOk hle (I1.hok.fresh hle)
    · obtain ⟨its, rv, p', hz⟩ := I1.tuple hq
      refine em_call (fun _ => trivial) (begins_tuple a its.toArray) p' fun h' he hit hk => wpAny_pyIter_enum he ?_
      have I2 : Inv X pins σ H1 { s1 with heap := h' } := I1.kept (t' := s1.toks) hk
      have hit' : h'.IsTupleIter s1.heap.objs.size a 0 := ⟨_, hit, rfl, rfl⟩
      refine ⟨s1.heap.objs.size + 1, [s1.heap.objs.size + 1, s1.heap.objs.size], _, _, H1, rfl, I2, turn_emT a (s1.heap.objs.size + 1) s1.heap.objs.size, ⟨⟨.none, he⟩, hit', Nat.succ_ne_self _⟩, fun b hb => ?_, q⟩
      have e' : b = s1.heap.objs.size + 1 ∨ b = s1.heap.objs.size := by simpa using hb
      have hle : s1.heap.objs.size ≤ b := by
        rcases e' with z | z
        · rw [z]; exact Nat.le_add_right _ _
        · rw [z]; exact Nat.le_refl _
      exact I1.fpOk hle (I1.hok.fresh hle)
end Z
end

section
set_option maxRecDepth 100000
set_option maxHeartbeats 4000000
/-! Rules: built-in functions, isinstance, indices, slices, a module's constants, sources of walks. -/
namespace Z
open PySem PySem.Spec PyProof.Rows L2
variable [HW]

/-- no starred part, no slice -/
def plainE : Expr → Bool
  | .Starred _ _ => false
  | .Slice _ _ _ _ => false
  | .Set _ _ _ => false
  | _ => true
theorem star_cons {e : Expr} (h : plainE e = true) (es : List Expr) (env : PySem.Env) : starEach (e :: es) env = (false, eval e env) :: starEach es env := by
  cases e <;> first | rfl | cases h
theorem star_plain : ∀ {es : List Expr} (env : PySem.Env), es.all plainE = true → (starEach es env).any (·.1) = false
  | [], env, _ => rfl
  | e :: es, env, h => by
    rw [List.all_cons, Bool.and_eq_true] at h
    rw [star_cons h.1, List.any_cons, star_plain env h.2]
    rfl
theorem back_plain (pos : Pos) : ∀ (l : List (Bool × Sem Value)), (backTo pos l).any (·.1) = l.any (·.1)
  | [] => rfl
  | (b, t) :: l => by
    show (b || _) = (b || _)
    congr 1
    exact back_plain pos l
theorem star_back {es : List Expr} (env : PySem.Env) (pos : Pos) (h : es.all plainE = true) : (backTo pos (starEach es env)).any (·.1) = false := by rw [back_plain, star_plain env h]
theorem plainIx {b : Expr} (h : plainE b = true) : PlainIx b := by
  intro o i
  cases b <;> first | rfl | cases h
theorem foldedOk {e : Expr} (h : plainE e = true) (env : PySem.Env) (x : Value) : foldedSetIterable e env x = pure x := by
  cases e <;> first | rfl | cases h

section
variable {X : Cx} {Γ : Kn} {W : EW}
variable {a b c : Expr} {A B C : ES} {pos : Pos}
theorem Bf.nm_ne (f : Bf) : f.nm ≠ "__name__" := by cases f <;> decide
theorem Bf.nm_ndb (f : Bf) : (f.nm == ("__debug__" : Str)) = false := by cases f <;> decide
theorem x_bf (hK : X.K = Γ.K) (hgd : X.A.guards = some []) (hu : X.A.units + 66 < cLine) (hc : X.calm = true) {f : Bf} {p : Pos} {e : Expr} {es : List Expr} {l : List ES} (hg : Gl X f.nm) (hm : X.mg f.nm = none) (hp : (e :: es).all plainE = true) (ha : PA X (e :: es) (rdA Γ W true (seqV l))) :
    PE X (.Call (.Name f.nm p) (e :: es) [] pos) (rdX Γ W true (vBf f l)) := by
  have key : ∀ σ H Q, rdX Γ W true (vBf f l) σ H Q → tCB (rBf X.K f) (rdA Γ W true (seqV l)) σ H Q := fun σ H Q ⟨K0, F, φ, η, s, S, r⟩ => by
    refine ⟨K0, F, φ, η, s, S, (Run.step r).mono fun F1 φ1 H1 ds s1 l1 p1 S1 r1 xs hx => ?_⟩
    obtain ⟨ps, e1, r1⟩ := Run.some r1
    obtain ⟨d, e2, r1⟩ := Run.some r1
    rw [hK]
    exact ⟨F1, ps, d, S1.fle, hx.viewF S1 e1, e2, out_of S1 r1⟩
  have hp' := hp
  rw [List.all_cons, Bool.and_eq_true] at hp'
  have h1 := star_cons hp'.1 es X.env
  have h2 := star_back X.env pos hp'.2
  have hcr := cr_bf (X := X) hgd hu hc f
  refine pe_imp ?_ key
  cases f
  case tuple => exact pe_callTy hcr hg hm (by decide +kernel) ha (Bf.nm_ne _) (Bf.nm_ndb _) h1 h2
  case list => exact pe_callTy hcr hg hm (by decide +kernel) ha (Bf.nm_ne _) (Bf.nm_ndb _) h1 h2
  case int => exact pe_callTy hcr hg hm (by decide +kernel) ha (Bf.nm_ne _) (Bf.nm_ndb _) h1 h2
  all_goals exact pe_callB hcr hg hm (by decide +kernel) ha (Bf.nm_ne _) (Bf.nm_ndb _) h1 h2
theorem x_idx (hK : X.K = Γ.K) (hs : plainE b = true) (ha : PE X a (rdO Γ W true A.v)) (hb : PE X b (rdO Γ W true B.v)) : PE X (.Subscript a b pos) (rdX Γ W false (vIdx A B)) := by
  refine pe_imp (pe_ix ix_idx ha hb (plainIx hs)) fun σ H Q ⟨K0, F, φ, η, s, S, r⟩ => ?_
  refine ⟨K0, F, φ, η, s, S, (Run.step r).mono fun F1 φ1 H1 x s1 l1 p1 S1 r1 xv hx => ⟨K0, F1, φ1, η, s1, S1, (Run.step r1).mono fun F2 φ2 H2 y s2 l2 p2 S2 r2 yv hy => ?_⟩⟩
  obtain ⟨dx, e1, r2⟩ := Run.some r2
  obtain ⟨dy, e2, r2⟩ := Run.some r2
  obtain ⟨d, e3, r2⟩ := Run.some r2
  rw [hK]
  exact ⟨F2, dx, dy, d, S2.fle, (hx.mono l2 p2).viewI S2 e1, hy.view S2 e2, e3, fun v hv => r2.here S2 v hv⟩
/-- a slice's bound -/
def rdB (Γ : Kn) (W : EW) (v : Env → Sto → R (Option Int)) : TO := fun σ H Q => ∃ K0 F φ η s, Sim Γ K0 F φ η s σ H ∧ Run Γ W K0 F φ η σ (v η s) fun _ _ H' d _ => Q d H'
theorem po_imp {X : Cx} {e : Option Expr} {t t' : TO} (h : PO X e t) (hi : ∀ σ H Q, t' σ H Q → t σ H Q) : PO X e t' := ⟨fun pins s σ H Q I hw => h.run pins s σ H Q I (hi σ H Q hw)⟩
theorem xb_none : PO X none (rdB Γ W fun _ s => .ok none s) := po_imp po_none fun σ H Q ⟨K0, F, φ, η, s, S, r⟩ => r.here S
theorem loHi_int {d : D} {o : Option Int} (h : loHi d = some o) : ∃ i, d = .dat (.int i) ∧ o = some i := by
  unfold loHi at h
  split at h
  · cases h; exact ⟨_, rfl, rfl⟩
  · cases h
theorem xb_val (ha : PE X a (rdO Γ W true A.v)) : PO X (some a) (rdB Γ W (valB A.v)) := by
  refine po_imp (po_some ha) fun σ H Q ⟨K0, F, φ, η, s, S, r⟩ => ?_
  refine ⟨K0, F, φ, η, s, S, (Run.step r).mono fun F1 φ1 H1 x s1 l1 p1 S1 r1 xv hx => ?_⟩
  cases e : loHi x with
  | none => rw [e] at r1; exact r1.elim
  | some o =>
    rw [e] at r1
    obtain ⟨i, e1, e2⟩ := loHi_int e
    subst e1; subst e2
    exact ⟨i, vw_int (hx.view S1 (p := .int i) rfl), r1.here S1⟩
theorem x_slc (hK : X.K = Γ.K) {lo hi : Option Expr} {L U : ES} {p2 : Pos} (ha : PE X a (rdO Γ W true A.v)) (hl : PO X lo (rdB Γ W L.b)) (hu : PO X hi (rdB Γ W U.b)) : PE X (.Subscript a (.Slice lo hi none p2) pos) (rdX Γ W true (vSlc A L U)) := by
  refine pe_imp (pe_slice sl_slc ha hl hu) fun σ H Q ⟨K0, F, φ, η, s, S, r⟩ => ?_
  refine ⟨K0, F, φ, η, s, S, (Run.step r).mono fun F1 φ1 H1 x s1 l1 p1 S1 r1 xv hx => ⟨K0, F1, φ1, η, s1, S1, (Run.step r1).mono fun F2 φ2 H2 lo s2 l2 p2 S2 r2 => ⟨K0, F2, φ2, η, s2, S2, (Run.step r2).mono fun F3 φ3 H3 up s3 l3 p3 S3 r3 => ?_⟩⟩⟩
  obtain ⟨dx, e1, r3⟩ := Run.some r3
  obtain ⟨d, e2, r3⟩ := Run.some r3
  rw [hK]
  exact ⟨F3, dx, d, S3.fle, ((hx.mono l2 p2).mono l3 p3).view S3 e1, e2, out_of S3 r3⟩
/-! ### isinstance -/
def Ty.nm : Ty → String
  | .int => "int"
  | .bool => "bool"
  | .str => "str"
  | .tuple => "tuple"
  | .list => "list"
  | .dict => "dict"
def tyD : PyData → Option String
  | .none => some "NoneType"
  | .bool _ => some "bool"
  | .int _ => some "int"
  | .str _ => some "str"
  | .list _ => some "list"
  | .tuple _ => some "tuple"
  | .dict _ => some "dict"
theorem kit_tys (d : PyData) (t : Ty) {T : String} (h : tyD d = some T) : kitB T t.nm = some (isT d t) := by
  have h1 : ∀ t : Ty, kitB "NoneType" t.nm = some false := by intro t; cases t <;> decide +kernel
  have h2 : ∀ t : Ty, kitB "bool" t.nm = some (isT (.bool true) t) := by intro t; cases t <;> decide +kernel
  have h3 : ∀ t : Ty, kitB "int" t.nm = some (isT (.int 0) t) := by intro t; cases t <;> decide +kernel
  have h4 : ∀ t : Ty, kitB "str" t.nm = some (isT (.str default) t) := by intro t; cases t <;> decide +kernel
  have h5 : ∀ t : Ty, kitB "list" t.nm = some (isT (.list []) t) := by intro t; cases t <;> decide +kernel
  have h6 : ∀ t : Ty, kitB "tuple" t.nm = some (isT (.tuple []) t) := by intro t; cases t <;> decide +kernel
  have h7 : ∀ t : Ty, kitB "dict" t.nm = some (isT (.dict []) t) := by intro t; cases t <;> decide +kernel
  cases d <;> cases h
  · rw [h1]; cases t <;> rfl
  · rw [h2]; cases t <;> rfl
  · rw [h3]; cases t <;> rfl
  · rw [h4]; cases t <;> rfl
  · rw [h5]; cases t <;> rfl
  · rw [h6]; cases t <;> rfl
  · rw [h7]; cases t <;> rfl
theorem tyx_of {K : PySem.W.Frag} {F H : Hp} (hle : HLe F H) {v : V} {d : PyData} {T : String} (h : Vw K F H v d) (e : tyD d = some T) : TyX K H v (.type T) := by
  cases d with
  | none => cases e; cases vw_none h; exact .base .non
  | bool b => cases e; cases vw_bool h; exact .base (.bl b)
  | int i => cases e; cases vw_int h; exact .base (.int i)
  | str x => cases e; cases vw_str h; exact .base (.str x)
  | list ds => cases e; obtain ⟨a, vs, rfl, h1, _⟩ := h; exact .base (.lst h1)
  | tuple ds =>
    cases e
    obtain ⟨a, vs, rfl, h1, _⟩ := vw_tup h
    rcases h1 with (h1 | ⟨o, h1⟩) | ⟨o, its, n, h1, h2, _⟩
    · exact .base (.tup (hle _ _ h1))
    · exact .fTuple (hle _ _ h1)
    · exact .kTuple h1 h2
  | dict kvs =>
    cases e
    cases (show Rv K F v (.dict kvs) from h) with
    | dic h1 => exact .base (.dK (hle _ _ h1))
theorem tyD_some (d : PyData) : ∃ T, tyD d = some T := by cases d <;> exact ⟨_, rfl⟩
theorem kitAny_of (d : PyData) {K : PySem.W.Frag} {T : String} (e : tyD d = some T) : ∀ ts : List Ty, PySem.W.kitAny K (.type T) (ts.map fun t => .type t.nm) = some (ts.any (isT d))
  | [] => rfl
  | t :: ts => kitAny_cons (kit_ty (kit_tys d t e)) (fun h => by rw [List.any_cons, h]; exact kitAny_of d e ts) fun h => by rw [List.any_cons, h]; rfl
def tyV (ts : List Ty) : List V := ts.map fun t => .ty t.nm
theorem cls_tys : ∀ ts : List Ty, Paired ClsV (tyV ts) (ts.map fun t => .type t.nm)
  | [] => .nil
  | t :: ts => .cons (.ty _) (cls_tys ts)
theorem boot_ty (t : Ty) : bootBuiltins (Str.ofString t.nm) = some (.type t.nm) := by
  have : ∀ t : Ty, (bootBuiltins (Str.ofString t.nm) == some (.type t.nm)) = true := by intro t; cases t <;> decide +kernel
  exact eq_of_beq (this t)
theorem pe_tyn {t : Ty} {p : Pos} (hg : Gl X (Str.ofString t.nm)) (hm : X.mg (Str.ofString t.nm) = none) : PE X (.Name (Str.ofString t.nm) p) (tC (.ty t.nm)) :=
  pe_bltn hg hm (boot_ty t) rfl (by cases t <;> decide) (by cases t <;> decide)
/-- isinstance(a, T) -/
theorem x_isi1 (hK : X.K = Γ.K) {t : Ty} {p p' : Pos} (hg : Gl X "isinstance") (hm : X.mg "isinstance" = none) (hg' : Gl X (Str.ofString t.nm)) (hm' : X.mg (Str.ofString t.nm) = none) (hp : plainE a = true) (ha : PE X a (rdO Γ W true A.v)) :
    PE X (.Call (.Name "isinstance" p) [a, .Name (Str.ofString t.nm) p'] [] pos) (rdX Γ W true (vIsi A [t])) := by
  refine pe_imp (pe_callB call_isi hg hm boot_isinstance (pa_cons ha (pa_cons (pe_tyn hg' hm') pa_nil) (star_cons hp _ _)) (by decide) (by decide) (star_cons hp _ _) (star_back X.env pos rfl)) fun σ H Q ⟨K0, F, φ, η, s, S, r⟩ => ?_
  refine ⟨K0, F, φ, η, s, S, (Run.step r).mono fun F1 φ1 H1 x s1 l1 p1 S1 r1 xv hx => ?_⟩
  obtain ⟨d, e1, r1⟩ := Run.some r1
  obtain ⟨T, hT⟩ := tyD_some d
  refine ⟨xv, .ty t.nm, .type T, .type t.nm, isT d t, rfl, .ty _, by rw [hK]; exact tyx_of S1.fle (hx.view S1 e1) hT, kit_ty (kit_tys d t hT), ?_⟩
  have r2 := r1.here S1 (.bl (List.any [t] (isT d))) (.bl _)
  simpa using r2
/-- the types of a tuple -/
inductive TyNs (X : Cx) : List Expr → List Ty → Prop
  | nil : TyNs X [] []
  | cons {t : Ty} {p : Pos} {es : List Expr} {ts : List Ty} : Gl X (Str.ofString t.nm) → X.mg (Str.ofString t.nm) = none → TyNs X es ts → TyNs X (.Name (Str.ofString t.nm) p :: es) (t :: ts)
def tVs (vs : List V) : TA := fun _ H Q => Q vs H
theorem pa_tyns : ∀ {es : List Expr} {ts : List Ty}, TyNs X es ts → PA X es (tVs (tyV ts))
  | _, _, .nil => pa_nil
  | _, _, .cons hg hm r => pa_cons (pe_tyn hg hm) (pa_tyns r)
theorem x_isiT (hK : X.K = Γ.K) {ts : List Ty} {es : List Expr} {k : Nat} {p p' : Pos} (hl : ts.length ≤ 1000) (hg : Gl X "isinstance") (hm : X.mg "isinstance" = none) (ht : TyNs X es ts) (hp : plainE a = true) (ha : PE X a (rdO Γ W true A.v)) :
    PE X (.Call (.Name "isinstance" p) [a, .Tuple es k p'] [] pos) (rdX Γ W true (vIsi A ts)) := by
  refine pe_imp (pe_callB call_isiT hg hm boot_isinstance (pa_cons ha (pa_cons (pe_tup (pa_tyns ht)) pa_nil) (star_cons hp _ _)) (by decide) (by decide) (star_cons hp _ _) (star_back X.env pos rfl)) fun σ H Q ⟨K0, F, φ, η, s, S, r⟩ => ?_
  refine ⟨K0, F, φ, η, s, S, (Run.step r).mono fun F1 φ1 H1 x s1 l1 p1 S1 r1 xv hx => ?_⟩
  obtain ⟨d, e1, r1⟩ := Run.some r1
  obtain ⟨T, hT⟩ := tyD_some d
  refine ⟨le_line (by simpa [tyV] using hl), fun P hP => ?_⟩
  obtain ⟨S2, l2⟩ := S1.ice hP (.tup (tyV ts))
  refine ⟨xv, P, tyV ts, .type T, ts.map fun t => .type t.nm, ts.any (isT d), rfl, upd_same, cls_tys ts, by rw [hK]; exact tyx_of S2.fle ((hx.mono l2 PLe.rfl').view S2 e1) hT, kitAny_of d hT ts, ?_⟩
  exact r1.at l2 PLe.rfl' S2 (.bl _) (.bl _)
/-! ### a module's constants, True and False and None -/
theorem x_glob {x : Str} {p : Pos} {u : Value} {v : V} {d : PyData} {G : Gam} (hG : G.cst x = some d) (hg : Gl X x) (hm : X.mg x = some u) (r : RelV v u) (hd : (x == ("__debug__" : Str)) = false) (hv : ∀ F, Rv Γ.K F v d) : PE X (.Name x p) (rdX Γ W false fun _ s => globD G x s) :=
  pe_imp (pe_glob hg hm r hd) fun σ H Q ⟨K0, F, φ, η, s, S, q⟩ => by
    unfold globD at q
    rw [hG] at q
    exact q.here S v (hv F)
end
end Z
end

section
set_option maxRecDepth 100000
set_option maxHeartbeats 4000000
/-! sorted(set(t)), t a tuple of ints. -/
namespace Z
open PySem PySem.Spec PyProof.Rows L2
variable [HW]

/-! ### the distinct ones, in order -/
omit [HW] in
theorem insU_mem (x : Int) : ∀ (l : List Int) (z : Int), z ∈ insU x l ↔ z = x ∨ z ∈ l
  | [], z => by simp [insU]
  | y :: r, z => by
    simp only [insU]
    split
    · simp
    · split
      · rename_i h; subst h; simp
      · simp only [List.mem_cons, insU_mem x r z]
        constructor
        · rintro (h | h | h)
          · exact .inr (.inl h)
          · exact .inl h
          · exact .inr (.inr h)
        · rintro (h | h | h)
          · exact .inr (.inl h)
          · exact .inl h
          · exact .inr (.inr h)
omit [HW] in
theorem insU_lt (x : Int) : ∀ {l : List Int}, l.Pairwise (· < ·) → (insU x l).Pairwise (· < ·)
  | [], _ => by simp [insU]
  | y :: r, h => by
    have h := List.pairwise_cons.mp h
    simp only [insU]
    split
    · rename_i hx
      refine List.pairwise_cons.mpr ⟨fun z hz => ?_, List.pairwise_cons.mpr h⟩
      rcases List.mem_cons.mp hz with rfl | hz
      · exact hx
      · have := h.1 z hz; omega
    · split
      · exact List.pairwise_cons.mpr h
      · refine List.pairwise_cons.mpr ⟨fun z hz => ?_, insU_lt x h.2⟩
        rcases (insU_mem x r z).mp hz with rfl | hz
        · omega
        · exact h.1 z hz
omit [HW] in
theorem uniq_mem : ∀ (l : List Int) (z : Int), z ∈ uniq l ↔ z ∈ l
  | [], z => by simp [uniq]
  | x :: l, z => by
    have := uniq_mem l z
    unfold uniq at this ⊢
    rw [List.foldr_cons, insU_mem, this, List.mem_cons]
omit [HW] in
theorem uniq_lt : ∀ l : List Int, (uniq l).Pairwise (· < ·)
  | [] => List.Pairwise.nil
  | x :: l => insU_lt x (uniq_lt l)
omit [HW] in
theorem lt_same : ∀ {l m : List Int}, l.Pairwise (· < ·) → m.Pairwise (· < ·) → (∀ z, z ∈ l ↔ z ∈ m) → l = m
  | [], [], _, _, _ => rfl
  | [], y :: m, _, _, h => absurd ((h y).mpr (List.mem_cons_self ..)) (by simp)
  | x :: l, [], _, _, h => absurd ((h x).mp (List.mem_cons_self ..)) (by simp)
  | x :: l, y :: m, hl, hm, h => by
    have hl := List.pairwise_cons.mp hl
    have hm := List.pairwise_cons.mp hm
    have e : x = y := by
      rcases List.mem_cons.mp ((h x).mp (List.mem_cons_self ..)) with e | e
      · exact e
      · rcases List.mem_cons.mp ((h y).mpr (List.mem_cons_self ..)) with e2 | e2
        · exact e2.symm
        · have h1 := hm.1 x e
          have h2 := hl.1 y e2
          omega
    subst e
    refine congrArg (x :: ·) (lt_same hl.2 hm.2 fun z => ⟨fun hz => ?_, fun hz => ?_⟩)
    · rcases List.mem_cons.mp ((h z).mp (List.mem_cons_of_mem _ hz)) with e | e
      · have := hl.1 z hz; omega
      · exact e
    · rcases List.mem_cons.mp ((h z).mpr (List.mem_cons_of_mem _ hz)) with e | e
      · have := hm.1 z hz; omega
      · exact e
section
variable {X : Cx} {Γ : Kn} {W : EW} {a : Expr} {A : ES}
def rSetTI (K : PySem.W.Frag) (w : PySem.World) : List V → Hp → VK → Prop := fun xs H Q => ∃ (a : Addr) (ns : List Int), xs = [.ref a] ∧ SqT K H a (ns.map V.int) ∧ ns.length < 63 ∧ ∀ p c, H p = none → c ≤ ns.length → Q (.ref p) (upd H p (SetO w p (fun j => decide (j ∈ ns)) c))
theorem cr_setTI (hc : X.calm = true) : CallR X (.type "set") (rSetTI X.K X.w) := by
  intro pins s σ H xs us Q I r h
  obtain ⟨a, ns, rfl, sq, hl, q⟩ := h
  rw [Vals.ref1 r]
  obtain ⟨its, rv, ht, _⟩ := I.tuple sq
  have hi := ints_of_vals rv
  refine call_set_tupI ns (I.ok.hd hc) ht (by simpa using hi) (by have : scanBound = 4096 := rfl
                                                                  omega) fun h' tk c R hc' k => ?_
  exact ⟨.ref _, upd H s.heap.objs.size (SetO X.w s.heap.objs.size (fun j => decide (j ∈ ns)) c), I.laid (t' := tk) k (Nat.le_refl _) (setO_new R), rfl, q _ _ (I.hok.fresh (Nat.le_refl _)) hc'⟩
theorem x_sset (hK : X.K = Γ.K) (hc : X.calm = true) {p p' q q' : Pos} (hg : Gl X "sorted") (hm : X.mg "sorted" = none) (hg' : Gl X "set") (hm' : X.mg "set" = none) (hp : plainE a = true) (ha : PE X a (rdO Γ W true A.v)) :
    PE X (.Call (.Name "sorted" p) [.Call (.Name "set" p') [a] [] q'] [] q) (rdX Γ W true (vSset A)) := by
  have h1 : starEach [a] X.env = (false, eval a X.env) :: starEach [] X.env := star_cons hp [] X.env
  have inner : PE X (.Call (.Name (Str.ofString "set") p') [a] [] q') _ := pe_callTy (cr_setTI (X := X) hc) hg' hm' (by decide +kernel) (pa_cons ha pa_nil h1) (by decide) (by decide) h1 (by rfl)
  refine pe_imp (pe_callB (cr_sortedSet (X := X) hc) hg hm (by decide +kernel) (pa_cons inner pa_nil (by rfl)) (by decide) (by decide) (by rfl) (by rfl)) ?_
  intro σ H Q ⟨K0, F, φ, η, s, S, r⟩
  refine ⟨K0, F, φ, η, s, S, (Run.step r).mono fun F1 φ1 H1 x s1 l1 p1 S1 r1 xv hx => ?_⟩
  obtain ⟨dx, e1, r1⟩ := Run.some r1
  obtain ⟨d, e2, r1⟩ := Run.some r1
  have e1' : vw x s1 = some dx := by
    cases x with
    | dat d => exact e1
    | _ => cases e1
  unfold ssetD at e2
  split at e2
  · rename_i xs
    obtain ⟨ns, h3, h4⟩ := Option.bind_eq_some_iff.mp e2
    split at h4
    · rename_i hl
      cases h4
      obtain ⟨b, vs, rfl, s2, r2⟩ := vw_tup (hx.view S1 e1')
      have e := ints_of r2 h3
      subst e
      show rSetTI X.K X.w [V.ref b] H1 (fun x H2 => rSortedSet X.w [x] H2 Q)
      rw [hK]
      refine ⟨b, ns, rfl, sqT_mono S1.fle s2, hl, fun p c hp hc => ⟨p, _, c, rfl, upd_same, by omega, fun ms g hs hm hl' hq => ?_⟩⟩
      have em : ms = uniq ns := lt_same hs (uniq_lt ns) fun z => by rw [hm z, uniq_mem]; simp
      subst em
      obtain ⟨S2, _⟩ := S1.new hp (SetO X.w p (fun j => decide (j ∈ ns)) c)
      exact out_of S2 r1 g _ hq (rvAll_ints _)
    · cases h4
  · cases e2
/-! ### is True, is False -/
theorem isBD_e {d : PyData} {b c : Bool} (h : isBD b d = some c) : ∃ k, d = .bool k ∧ c = decide (k = b) := by
  unfold isBD at h
  split at h
  · cases h; exact ⟨_, rfl, rfl⟩
  · cases h
theorem isB_ends {a : Expr} {A : ES} {b w : Bool} {σ : L2.St} {H : Hp} {Qb : Bool → Hp → Prop} {K0 F : Hp} {φ : List Addr} {η : Env} {s : Sto} (S : Sim Γ K0 F φ η s σ H) (r : Run Γ W K0 F φ η σ (vIsB A b w η s) fun _ _ H' k _ => Qb k H') :
    rdO Γ W true A.v σ H fun x H1 => ∃ k : Bool, x = .bl k ∧ Qb (if w then !decide (k = b) else decide (k = b)) H1 := by
  refine ⟨K0, F, φ, η, s, S, (Run.step r).mono fun F1 φ1 H1 x s1 l1 p1 S1 r1 xv hx => ?_⟩
  obtain ⟨d, e1, r1⟩ := Run.some r1
  obtain ⟨c, e2, r1⟩ := Run.some r1
  obtain ⟨k, rfl, rfl⟩ := isBD_e e2
  have e1' : vw x s1 = some (.bool k) := by
    cases x with
    | dat d => exact e1
    | _ => cases e1
  have e3 := vw_bool (hx.view S1 e1')
  exact ⟨k, e3, r1.here S1⟩
theorem x_isB {b w : Bool} {k : Nat} {q pos : Pos} (ha : PE X a (rdO Γ W true A.v)) : PE X (.Compare a [if w then .IsNot else .Is] [.Constant (.bool b) k q] pos) (rdX Γ W true (tv (vIsB A b w))) := by
  have hb : PE X (.Constant (.bool b) k q) (tC (.bl b)) := pe_bl
  cases w with
  | false =>
    refine pe_imp (pe_cmpR op_isBl ha hb (by rfl)) fun σ H Q ⟨K0, F, φ, η, s, S, r⟩ => ?_
    obtain ⟨K1, F1, φ1, η1, s1, S1, r1⟩ := isB_ends (a := a) (Qb := fun k H' => Q (.bl k) H') S (tv_run r)
    exact ⟨K1, F1, φ1, η1, s1, S1, r1.mono fun F' φ' H' d s' l p S' hk x hx => by
      obtain ⟨k, rfl, q⟩ := hk x hx
      exact ⟨k, b, rfl, rfl, q⟩⟩
  | true =>
    refine pe_imp (pe_cmpR op_notBl ha hb (by rfl)) fun σ H Q ⟨K0, F, φ, η, s, S, r⟩ => ?_
    obtain ⟨K1, F1, φ1, η1, s1, S1, r1⟩ := isB_ends (a := a) (Qb := fun k H' => Q (.bl k) H') S (tv_run r)
    exact ⟨K1, F1, φ1, η1, s1, S1, r1.mono fun F' φ' H' d s' l p S' hk x hx => by
      obtain ⟨k, rfl, q⟩ := hk x hx
      exact ⟨k, b, rfl, rfl, q⟩⟩
theorem xt_isB {b w : Bool} {k : Nat} {q pos : Pos} (ha : PE X a (rdO Γ W true A.v)) : PT X (.Compare a [if w then .IsNot else .Is] [.Constant (.bool b) k q] pos) (rdT Γ W (vIsB A b w)) := by
  have hb : PE X (.Constant (.bool b) k q) (tC (.bl b)) := pe_bl
  cases w with
  | false =>
    refine pt_imp (pt_cmpR op_isBl ha hb (by rfl)) fun σ H Q ⟨K0, F, φ, η, s, S, r⟩ => ?_
    obtain ⟨K1, F1, φ1, η1, s1, S1, r1⟩ := isB_ends (a := a) (Qb := fun k H' => Q k H') S r
    exact ⟨K1, F1, φ1, η1, s1, S1, r1.mono fun F' φ' H' d s' l p S' hk x hx => by
      obtain ⟨k, rfl, q⟩ := hk x hx
      exact ⟨k, b, rfl, rfl, _, rfl, q⟩⟩
  | true =>
    refine pt_imp (pt_cmpR op_notBl ha hb (by rfl)) fun σ H Q ⟨K0, F, φ, η, s, S, r⟩ => ?_
    obtain ⟨K1, F1, φ1, η1, s1, S1, r1⟩ := isB_ends (a := a) (Qb := fun k H' => Q k H') S r
    exact ⟨K1, F1, φ1, η1, s1, S1, r1.mono fun F' φ' H' d s' l p S' hk x hx => by
      obtain ⟨k, rfl, q⟩ := hk x hx
      exact ⟨k, b, rfl, rfl, _, rfl, q⟩⟩
/-! ### xs[::-1] -/
theorem RvAll.rev {K : PySem.W.Frag} {F : Hp} : ∀ {vs : List V} {ds : List PyData}, RvAll K F vs ds → RvAll K F vs.reverse ds.reverse
  | _, _, .nil => .nil
  | _, _, .cons r s => by
    rw [List.reverse_cons, List.reverse_cons]
    exact s.rev.app (.cons r .nil)
theorem x_rev (hK : X.K = Γ.K) {k : Nat} {p1 p2 p3 pos : Pos} (ha : PE X a (rdO Γ W true A.v)) : PE X (.Subscript a (.Slice none none (some (.UnaryOp .USub (.Constant (.int 1) k p1) p2)) p3) pos) (rdX Γ W true (vRev A)) := by
  refine pe_imp (pe_revL ha) fun σ H Q ⟨K0, F, φ, η, s, S, r⟩ => ?_
  refine ⟨K0, F, φ, η, s, S, (Run.step r).mono fun F1 φ1 H1 x s1 l1 p1 S1 r1 xv hx => ?_⟩
  obtain ⟨dx, e1, r1⟩ := Run.some r1
  obtain ⟨d, e2, r1⟩ := Run.some r1
  unfold revD at e2
  split at e2
  · cases e2
    obtain ⟨b, vs, rfl, s2, r2⟩ := vw_list (hx.view S1 e1)
    rw [hK]
    exact ⟨b, vs, rfl, SqL.of s2, fun p hp => out_of S1 r1 p _ hp r2.rev⟩
  · cases e2
end
/-! ### a list of its own, looked at as a value -/
section
variable {Γ : Kn} {W : EW} {K0 F H : Hp} {φ : List Addr} {η : Env} {σ : L2.St} {s : Sto}
theorem Rv.flat {K : PySem.W.Frag} {F F' : Hp} : ∀ {v : V} {d : PyData}, flatD d = true → Rv K F v d → Rv K F' v d
  | _, _, _, .non => .non
  | _, _, _, .bl b => .bl b
  | _, _, _, .int i => .int i
  | _, _, _, .str x => .str x
  | _, _, h, .lst _ _ => by simp [flatD] at h
  | _, _, h, .tup _ _ => by simp [flatD] at h
  | _, _, h, .dic _ => by simp [flatD] at h
theorem RvAll.flat {K : PySem.W.Frag} {F F' : Hp} : ∀ {vs : List V} {ds : List PyData}, ds.all flatD = true → RvAll K F vs ds → RvAll K F' vs ds
  | _, _, _, .nil => .nil
  | _, _, h, .cons r t => by
    rw [List.all_cons, Bool.and_eq_true] at h
    exact .cons (r.flat h.1) (RvAll.flat h.2 t)
/-- the list's place -/
structure Lent (Γ : Kn) (K0 F : Hp) (i : Nat) (xs : List PyData) (σ : L2.St) (a : Addr) (vs : List V) : Prop where
  at_ : σ[i]? = some (some (.ref a))
  kp : K0 a = some (.lst vs)
  rd : RvAll Γ.K F vs xs
  no : F a = none
def lessK (K0 : Hp) (a : Addr) : Hp := fun b => if b = a then none else K0 b
theorem lessK_ne {K0 : Hp} {a b : Addr} (h : b ≠ a) : lessK K0 a b = K0 b := if_neg h
theorem lessK_some {K0 : Hp} {a b : Addr} {o : HO} (h : lessK K0 a b = some o) : b ≠ a ∧ K0 b = some o := by
  unfold lessK at h
  split at h
  · cases h
  · rename_i hb; exact ⟨hb, h⟩
theorem Sim.lend (S : Sim Γ K0 F φ η s σ H) {i : Nat} {xs : List PyData} (e : η[i]? = some (some (.own xs))) :
    ∃ a vs, Lent Γ K0 F i xs σ a vs ∧ Sim Γ (lessK K0 a) (upd F a (.lst vs)) φ (η.set i (some (.dat (.list xs)))) s σ H := by
  obtain ⟨a, h1, vs, h2, h3⟩ := S.ow i (.own xs) rfl e
  obtain ⟨k1, k2, k3⟩ := S.kp a _ h2
  have hi : i < η.length := (List.getElem?_eq_some_iff.mp e).1
  have hle : HLe F (upd F a (.lst vs)) := HLe.upd k2
  refine ⟨a, vs, ⟨h1, h2, h3, k2⟩, ?_⟩
  refine ⟨fun b o hb => ?_, fun b o hb => ?_, S.nd, S.ln, fun n b ob hn ho => (S.so n b ob hn ho).mono hle fun _ h => h, by rw [List.length_set]; exact S.sz, fun j d hd hj => ?_, fun j d hd hj => ?_, fun j l b d e' hd he hj hl hsj hsl => ?_, TabW.inF ⟨S.tb.tabs, fun b o hb => S.tb.k0 b o (lessK_some hb).2, S.tb.ff⟩ nofun⟩
  · obtain ⟨hne, hb⟩ := lessK_some hb
    obtain ⟨q1, q2, q3⟩ := S.kp b o hb
    exact ⟨q1, by rw [upd_ne hne]; exact q2, q3⟩
  · by_cases hne : b = a
    · subst hne
      rw [upd_same] at hb
      cases hb
      exact ⟨k1, k3⟩
    · rw [upd_ne hne] at hb
      exact S.fz b o hb
  · by_cases hji : i = j
    · subst hji
      rw [List.getElem?_set_self hi] at hj
      cases hj
      exact ⟨_, h1, .lst upd_same (h3.mono hle)⟩
    · rw [List.getElem?_set_ne hji] at hj
      obtain ⟨v, q1, q2⟩ := S.sl j d hd hj
      exact ⟨v, q1, q2.mono hle PLe.rfl'⟩
  · by_cases hji : i = j
    · subst hji
      rw [List.getElem?_set_self hi] at hj
      cases hj
      cases hd
    · rw [List.getElem?_set_ne hji] at hj
      obtain ⟨b, q1, q2⟩ := S.ow j d hd hj
      have hne : b ≠ a := fun hba => hji (S.ds i j a (.own xs) d rfl hd e hj h1 (by rw [← hba]; exact q1))
      exact ⟨b, q1, q2.mono hle fun o ho => by rw [lessK_ne hne]; exact ho⟩
  · have hji : i ≠ j := fun h => by
      subst h
      rw [List.getElem?_set_self hi] at hj
      cases hj
      cases hd
    have hli : i ≠ l := fun h => by
      subst h
      rw [List.getElem?_set_self hi] at hl
      cases hl
      cases he
    rw [List.getElem?_set_ne hji] at hj
    rw [List.getElem?_set_ne hli] at hl
    exact S.ds j l b d e' hd he hj hl hsj hsl
theorem Sim.redeem (S : Sim Γ K0 F φ η s σ H) {i : Nat} {xs : List PyData} (e : η[i]? = some (some (.own xs))) {a : Addr} {vs : List V} (L : Lent Γ K0 F i xs σ a vs) {F' H' : Hp} {φ' : List Addr} {s' : Sto} {η' : Env} (hle : HLe (upd F a (.lst vs)) F') (hp : PLe φ φ') (hf : flatSto s' = true) (S' : Sim Γ (lessK K0 a) F' φ' η' s' σ H') :
    HLe F (lessK F' a) ∧ Sim Γ K0 (lessK F' a) φ' η s' σ H' := by
  obtain ⟨k1, k2, k3⟩ := S.kp a _ L.kp
  have hl : HLe F (lessK F' a) := fun b o hb => by
    have hne : b ≠ a := fun h => by rw [h, k2] at hb; cases hb
    rw [lessK_ne hne]
    exact hle b o (by rw [upd_ne hne]; exact hb)
  have hFa : F' a = some (.lst vs) := hle a _ upd_same
  refine ⟨hl, ⟨fun b o hb => ?_, fun b o hb => ?_, S'.nd, S'.ln, fun n b ob hn ho => ?_, S.sz, fun j d hd hj => ?_, fun j d hd hj => ?_, S.ds, ⟨S'.tb.tabs, S.tb.k0, fun b o hb => S'.tb.ff b o (lessK_some hb).2⟩⟩⟩
  · by_cases hne : b = a
    · subst hne
      rw [L.kp] at hb
      cases hb
      obtain ⟨q1, q2⟩ := S'.fz b _ hFa
      exact ⟨q1, if_pos rfl, q2⟩
    · obtain ⟨q1, q2, q3⟩ := S'.kp b o (by rw [lessK_ne hne]; exact hb)
      exact ⟨q1, by rw [lessK_ne hne]; exact q2, q3⟩
  · obtain ⟨hne, hb⟩ := lessK_some hb
    exact S'.fz b o hb
  · have hof : flatO ob = true := List.all_eq_true.mp hf ob (List.mem_of_getElem? ho)
    have hob := S'.so n b ob hn ho
    cases ob with
    | lst ys =>
      obtain ⟨ws, w1, w2⟩ := hob
      exact ⟨ws, w1, w2.flat hof⟩
  · obtain ⟨v, q1, q2⟩ := S.sl j d hd hj
    exact ⟨v, q1, q2.mono hl hp⟩
  · obtain ⟨b, q1, q2⟩ := S.ow j d hd hj
    exact ⟨b, q1, q2.mono hl fun _ h => h⟩
theorem FD.flat {b c : Bool} {K0 K1 F F' H H' : Hp} {φ φ' : List Addr} {v : V} {d : D} (hf : flatR d = true) (h : FD b Γ K0 F φ H v d) : FD c Γ K1 F' φ' H' v d := by
  cases d with
  | dat d =>
    have hn : ∀ ds, D.dat d ≠ .dat (.list ds) := fun ds e => by cases e; simp [flatR, flatD] at hf
    have h1 : Rv Γ.K F v d := h.rd hn
    exact FD.of (show RD Γ.K Γ.mg F' φ' v (.dat d) from Rv.flat (by exact hf) h1) fun _ => hn
  | _ => simp [flatR] at hf
end
section
variable {X : Cx} {Γ : Kn} {W : EW} {A : ES} {a : Expr}
theorem tmp_e {i : Nat} {η η' : Env} (h : tmpE i η = some η') : ∃ xs, η[i]? = some (some (.own xs)) ∧ η' = η.set i (some (.dat (.list xs))) := by
  unfold tmpE tmpO at h
  split at h
  · rename_i xs e
    cases h
    exact ⟨xs, e, rfl⟩
  · cases h
theorem x_tmp {b c : Bool} {i : Nat} (ha : PE X a (rdX Γ W b A.v)) : PE X a (rdX Γ W c (vTmp i A)) := by
  refine pe_imp ha fun σ H Q ⟨K0, F, φ, η, s, S, r⟩ => ?_
  unfold vTmp at r
  cases ht : tmpE i η with
  | none => rw [ht] at r; exact r.elim
  | some η' =>
    rw [ht] at r
    obtain ⟨xs, e, rfl⟩ := tmp_e ht
    obtain ⟨p, vs, L, S1⟩ := S.lend e
    simp only [tmpV] at r
    cases hv : A.v (η.set i (some (.dat (.list xs)))) s with
    | er x s' => rw [hv] at r; exact r.elim
    | no => rw [hv] at r; exact r.elim
    | ok d s' =>
      rw [hv] at r
      simp only [endV] at r
      split at r
      · rename_i hf
        rw [Bool.and_eq_true] at hf
        refine ⟨_, _, φ, _, s, S1, ?_⟩
        rw [hv]
        intro F' φ' H' l p' S' x hx
        obtain ⟨l2, S2⟩ := S.redeem e L l p' hf.2 S'
        exact r _ φ' H' l2 p' S2 x (hx.flat hf.1)
      · exact r.elim
theorem xt_tmp {i : Nat} (ha : PT X a (rdT Γ W A.t)) : PT X a (rdT Γ W (tTmp i A)) := by
  refine pt_imp ha fun σ H Q ⟨K0, F, φ, η, s, S, r⟩ => ?_
  unfold tTmp at r
  cases ht : tmpE i η with
  | none => rw [ht] at r; exact r.elim
  | some η' =>
    rw [ht] at r
    obtain ⟨xs, e, rfl⟩ := tmp_e ht
    obtain ⟨p, vs, L, S1⟩ := S.lend e
    simp only [tmpT] at r
    cases hv : A.t (η.set i (some (.dat (.list xs)))) s with
    | er x s' => rw [hv] at r; exact r.elim
    | no => rw [hv] at r; exact r.elim
    | ok d s' =>
      rw [hv] at r
      simp only [endT] at r
      split at r
      · rename_i hf
        refine ⟨_, _, φ, _, s, S1, ?_⟩
        rw [hv]
        intro F' φ' H' l p' S'
        obtain ⟨l2, S2⟩ := S.redeem e L l p' hf S'
        exact r _ φ' H' l2 p' S2
      · exact r.elim
end
end Z
end

section
set_option maxRecDepth 100000
set_option maxHeartbeats 4000000
/-! Sources of walks, targets, comprehensions. -/
namespace Z
open PySem PySem.Spec PyProof.Rows L2
variable [HW]

section
variable {Γ : Kn} {W : EW} {K0 K1 F F' H H' : Hp} {φ φ' : List Addr} {η η' : Env} {σ σ' : L2.St} {s s' : Sto}
/-- the slots of one, the world of the other -/
theorem Sim.slots (S : Sim Γ K0 F φ η s σ H) (S' : Sim Γ K1 F' φ' η' s' σ' H') (l : HLe F F') (p : PLe φ φ') (lk : HLe K0 K1) : Sim Γ K1 F' φ' η s' σ H' :=
  ⟨S'.kp, S'.fz, S'.nd, S'.ln, S'.so, S.sz, fun i d hi e => let ⟨v, q1, q2⟩ := S.sl i d hi e; ⟨v, q1, q2.mono l p⟩, fun i d hi e => let ⟨a, q1, q2⟩ := S.ow i d hi e; ⟨a, q1, q2.mono l fun o => lk a o⟩, S.ds, S'.tb⟩
theorem Sim.wipe1 (S : Sim Γ K0 F φ η s σ H) (v : Nat) : Sim Γ K0 F φ (η.set v none) s (σ.set v none) H := by
  have back : ∀ {i : Nat} {d : D}, (η.set v none)[i]? = some (some d) → v ≠ i ∧ η[i]? = some (some d) := fun {i d} e => by
    by_cases z : v = i
    · subst z
      by_cases hl : v < η.length
      · rw [List.getElem?_set_self hl] at e; cases e
      · rw [List.getElem?_eq_none (by simpa using hl)] at e; cases e
    · rw [List.getElem?_set_ne z] at e; exact ⟨z, e⟩
  refine ⟨S.kp, S.fz, S.nd, S.ln, S.so, by simp [S.sz], fun i d hi e => ?_, fun i d hi e => ?_, fun i j a d1 d2 hi hj e1 e2 e3 e4 => ?_, S.tb⟩
  · obtain ⟨z, e⟩ := back e
    rw [List.getElem?_set_ne z]
    exact S.sl i d hi e
  · obtain ⟨z, e⟩ := back e
    rw [List.getElem?_set_ne z]
    exact S.ow i d hi e
  · obtain ⟨z1, e1⟩ := back e1
    obtain ⟨z2, e2⟩ := back e2
    rw [List.getElem?_set_ne z1] at e3
    rw [List.getElem?_set_ne z2] at e4
    exact S.ds i j a d1 d2 hi hj e1 e2 e3 e4
theorem Sim.wipe (S : Sim Γ K0 F φ η s σ H) : ∀ vs : List Nat, Sim Γ K0 F φ (wipeE η vs) s (wipe σ vs) H
  | [] => S
  | v :: vs => (Sim.wipe S vs).wipe1 v
theorem wipe_get (σ : L2.St) (j : Nat) : ∀ vs : List Nat, (wipe σ vs)[j]? = if j ∈ vs then σ[j]?.map (fun _ => none) else σ[j]?
  | [] => by simp [wipe]
  | v :: vs => by
    unfold wipe
    by_cases z : v = j
    · subst z
      rw [if_pos List.mem_cons_self]
      by_cases hl : v < σ.length
      · rw [List.getElem?_set_self (by rw [wipe_length]; exact hl), List.getElem?_eq_getElem hl]; rfl
      · rw [List.getElem?_eq_none (by rw [List.length_set, wipe_length]; omega), List.getElem?_eq_none (by omega)]; rfl
    · rw [List.getElem?_set_ne z, wipe_get σ j vs]
      by_cases hm : j ∈ vs
      · rw [if_pos hm, if_pos (List.mem_cons_of_mem _ hm)]
      · rw [if_neg hm, if_neg (fun q => by rcases List.mem_cons.mp q with q | q; exact z q.symm; exact hm q)]
theorem wipe_back {vs : List Nat} (h : ∀ j, j ∉ vs → σ'[j]? = (wipe σ vs)[j]?) (hl : σ'.length = σ.length) : wipe σ' vs = wipe σ vs := by
  refine List.ext_getElem? fun j => ?_
  rw [wipe_get, wipe_get]
  by_cases hm : j ∈ vs
  · rw [if_pos hm, if_pos hm]
    by_cases hj : j < σ.length
    · rw [List.getElem?_eq_getElem hj, List.getElem?_eq_getElem (by rw [hl]; exact hj)]; rfl
    · rw [List.getElem?_eq_none (by omega), List.getElem?_eq_none (by omega)]
  · rw [if_neg hm, if_neg hm, h j hm, wipe_get, if_neg hm]
end

/-! ### targets -/
section
variable {X : Cx} {Γ : Kn}
/-- the reading of a target -/
def rdG (Γ : Kn) (t : Tg) : TG := fun v σ H Q => ∃ K0 F φ η s d η', Sim Γ K0 F φ η s σ H ∧ Rv Γ.K F v d ∧ bindT t d η = some η' ∧
  ∀ σ', Sim Γ K0 F φ η' s σ' H → (∀ j, j ∉ t.at → σ'[j]? = σ[j]?) → σ'.length = σ.length → Q σ' H
def rdGs (Γ : Kn) (ts : List Tg) : TGs := fun vs σ H Q => ∃ K0 F φ η s ds η', Sim Γ K0 F φ η s σ H ∧ RvAll Γ.K F vs ds ∧ bindTs ts ds η = some η' ∧
  ∀ σ', Sim Γ K0 F φ η' s σ' H → (∀ j, j ∉ Tg.ats ts → σ'[j]? = σ[j]?) → σ'.length = σ.length → Q σ' H
theorem pg_imp {X : Cx} {e : Expr} {t t' : TG} (h : PG X e t) (hi : ∀ v σ H Q, t' v σ H Q → t v σ H Q) : PG X e t' := ⟨fun pins s σ H v u Q I r hw => h.run pins s σ H v u Q I r (hi v σ H Q hw)⟩
theorem pgs_imp {X : Cx} {e : List Expr} {t t' : TGs} (h : PGs X e t) (hi : ∀ v σ H Q, t' v σ H Q → t v σ H Q) : PGs X e t' := ⟨fun pins s σ H v u Q I r hw => h.run pins s σ H v u Q I r (hi v σ H Q hw)⟩
theorem bindTs_len : ∀ {ts : List Tg} {ds : List PyData} {η η' : Env}, bindTs ts ds η = some η' → ds.length = ts.length
  | [], [], _, _, _ => rfl
  | [], _ :: _, _, _, h => by simp [bindTs] at h
  | _ :: _, [], _, _, h => by simp [bindTs] at h
  | t :: ts, d :: ds, η, η', h => by
    rw [bindTs] at h
    obtain ⟨η1, h1, h2⟩ := Option.bind_eq_some_iff.mp h
    simp [bindTs_len h2]
theorem g_name {i : Nat} {x : Str} {pos : Pos} (hN : X.N.Nodup) (hi : X.N[i]? = some x) (hx : Loc X.env.scope x) (hf : X.fn x = true ∨ X.env.scope.names.lookup x = some .local) : PG X (.Name x pos) (rdG Γ (.nm i)) := by
  refine pg_imp (pg_name hN hi hx hf) fun v σ H Q ⟨K0, F, φ, η, s, d, η', S, r, b, q⟩ => ?_
  rw [bindT] at b
  split at b
  · rename_i hl
    cases b
    exact q _ (S.put (d := .dat d) rfl hl r) (fun j hj => by rw [List.getElem?_set_ne (fun z => hj (by simp [Tg.at, z]))]) (by simp)
  · cases b
theorem g_nil : PGs X [] (rdGs Γ []) := pgs_imp pgs_nil fun v σ H Q ⟨K0, F, φ, η, s, ds, η', S, r, b, q⟩ => by
  cases ds with
  | nil =>
    cases r
    rw [bindTs] at b
    cases b
    exact ⟨rfl, q _ S (fun _ _ => rfl) rfl⟩
  | cons d ds => simp [bindTs] at b
theorem g_cons {e : Expr} {es : List Expr} {t : Tg} {ts : List Tg} (h1 : PG X e (rdG Γ t)) (h2 : PGs X es (rdGs Γ ts)) (hp : plainE e = true) : PGs X (e :: es) (rdGs Γ (t :: ts)) := by
  refine pgs_imp (pgs_cons h1 h2 (by cases e <;> first | rfl | cases hp)) fun v σ H Q ⟨K0, F, φ, η, s, ds, η', S, r, b, q⟩ => ?_
  cases r with
  | nil => simp [bindTs] at b
  | cons r rr =>
    rw [bindTs] at b
    obtain ⟨η1, b1, b2⟩ := Option.bind_eq_some_iff.mp b
    refine ⟨_, _, rfl, K0, F, φ, η, s, _, η1, S, r, b1, fun σ1 S1 k1 l1 => ⟨K0, F, φ, η1, s, _, η', S1, rr, b2, fun σ2 S2 k2 l2 => q σ2 S2 (fun j hj => ?_) (l2.trans l1)⟩⟩
    simp only [Tg.ats, List.mem_append, not_or] at hj
    exact (k2 j hj.2).trans (k1 j hj.1)
theorem each_len : ∀ {es : List Expr} (env : PySem.Env), (assignEach es env).length = es.length
  | [], _ => rfl
  | e :: es, env => by
    have := each_len (es := es) env
    cases e <;> simp [assignEach, this]
theorem each_find : ∀ {es : List Expr} (env : PySem.Env), es.all plainE = true → (assignEach es env).findIdx? (·.1) = none
  | [], _, _ => rfl
  | e :: es, env, h => by
    rw [List.all_cons, Bool.and_eq_true] at h
    have := each_find env h.2
    cases e <;> first | (simp [assignEach, List.findIdx?_cons, this]; done) | cases h.1
theorem g_tup {es : List Expr} {k : Nat} {pos : Pos} {ts : List Tg} (hK : X.K = Γ.K) (hc : X.calm = true) (hl : es.length = ts.length) (hp : es.all plainE = true) (h : PGs X es (rdGs Γ ts)) : PG X (.Tuple es k pos) (rdG Γ (.tup ts)) := by
  refine pg_imp (pg_tup hc h rfl (each_find _ hp)) fun v σ H Q ⟨K0, F, φ, η, s, d, η', S, r, b, q⟩ => ?_
  cases r with
  | tup hq hr =>
    rw [bindT] at b
    refine ⟨_, _, rfl, by rw [hK]; exact sqT_mono S.fle hq, by rw [hr.len, bindTs_len b, each_len, hl], K0, F, φ, η, s, _, η', S, hr, b, fun σ' S' k' l' => q σ' S' (fun j hj => k' j (by simpa [Tg.at] using hj)) l'⟩
  | _ => simp [bindT] at b
end
/-! ### sources -/
/-- what is walked: items l, whatever comes to stand, while F (and, o, K0) stands -/
def Wk (o : Bool) (Γ : Kn) (K0 F : Hp) (J : It) (l : List PyData) : Prop := ∃ (G : Hp → Prop) (Y : Nat → Hp → V → Hp → Prop), Walk J l.length G Y ∧ (∀ H, HLe F H → (o = true → HLe K0 H) → G H) ∧
  ∀ i x H H' d, l[i]? = some d → HLe F H → (o = true → HLe K0 H) → Y i H x H' → (H' = H ∧ Rv Γ.K F x d) ∨ (∃ T xs ds, x = .ref T ∧ H T = none ∧ H' = upd H T (.tup xs) ∧ d = .tuple ds ∧ RvAll Γ.K F xs ds)
/-- what stays -/
def Hd (o : Bool) (Γ : Kn) (K0 F : Hp) (v : V) (d : PyData) : Prop := Rv Γ.K F v d ∨ (o = true ∧ ∃ a xs, v = .ref a ∧ d = .list xs ∧ ConAt Γ.K F K0 a (.own xs))
section
variable {X : Cx} {Γ : Kn} {W : EW} {K0 F H : Hp} {φ : List Addr} {η : Env} {σ : L2.St} {s : Sto}
theorem OD.hd {o : Bool} {v : V} {d : D} {p : PyData} (S : Sim Γ K0 F φ η s σ H) (h : OD o Γ F φ η σ v d) (e : datO d = some p) : Hd o Γ K0 F v p := by
  rcases h with h | ⟨ho, i, hi, h1, h2⟩
  · cases d with
    | dat d => cases e; exact .inl h
    | own xs => exact h.elim
    | _ => cases e
  · cases d with
    | own xs =>
      cases e
      obtain ⟨a, q1, q2⟩ := S.ow i _ hi h1
      rw [h2] at q1
      cases q1
      exact .inr ⟨ho, a, xs, rfl, rfl, q2⟩
    | odc m xs => cases e
    | _ => cases hi
inductive HdAll (o : Bool) (Γ : Kn) (K0 F : Hp) : List V → List PyData → Prop
  | nil : HdAll o Γ K0 F [] []
  | cons {v : V} {vs : List V} {d : PyData} {ds : List PyData} : Hd o Γ K0 F v d → HdAll o Γ K0 F vs ds → HdAll o Γ K0 F (v :: vs) (d :: ds)
theorem ODs.hds {o : Bool} (S : Sim Γ K0 F φ η s σ H) : ∀ {vs : List V} {ds : List D} {ps : List PyData}, ODs o Γ F φ η σ vs ds → datOs ds = some ps → HdAll o Γ K0 F vs ps
  | _, _, _, .nil, e => by cases e; exact .nil
  | _, _, _, .cons (d := d) (ds := ds) a r, e => by
    obtain ⟨p, e1, e2⟩ := Option.bind_eq_some_iff.mp (show (datO d).bind (fun x => (datOs ds).map (x :: ·)) = _ from e)
    obtain ⟨ps, e3, e4⟩ := Option.map_eq_some_iff.mp e2
    subst e4
    exact .cons (a.hd S e1) (ODs.hds S r e3)
theorem Hd.list {o : Bool} {v : V} {ds : List PyData} (h : Hd o Γ K0 F v (.list ds)) : ∃ a vs, v = .ref a ∧ RvAll Γ.K F vs ds ∧ ∀ H, HLe F H → (o = true → HLe K0 H) → SqL Γ.K H a vs := by
  rcases h with h | ⟨ho, a, xs, rfl, e, vs, h1, h2⟩
  · cases h with
    | lst h1 h2 => exact ⟨_, _, rfl, h2, fun H l _ => .of (l _ _ h1)⟩
  · cases e; exact ⟨a, vs, rfl, h2, fun H _ l => .of (l ho _ _ h1)⟩
theorem Hd.tup {o : Bool} {v : V} {ds : List PyData} (h : Hd o Γ K0 F v (.tuple ds)) : ∃ a vs, v = .ref a ∧ RvAll Γ.K F vs ds ∧ ∀ H, HLe F H → SqT Γ.K H a vs := by
  rcases h with h | ⟨ho, a, xs, rfl, e, h1⟩
  · cases h with
    | tup h1 h2 => exact ⟨_, _, rfl, h2, fun H l => sqT_mono l h1⟩
  · cases e
theorem Hd.int {o : Bool} {v : V} {i : Int} (h : Hd o Γ K0 F v (.int i)) : v = .int i := by
  rcases h with h | ⟨ho, a, xs, rfl, e, h1⟩
  · cases h; rfl
  · cases e
/-- a list or a tuple, by itself -/
def iSeq (K : PySem.W.Frag) (tl : TE) : TI := fun σ H R => tl σ H fun x H1 => ∃ a, x = .ref a ∧ (((∃ xs, SqL K H1 a xs) ∧ R (Itl K a) H1) ∨ ((∃ xs, SqT K H1 a xs) ∧ R (Itt K a) H1))
theorem pi_seq {tg l : Expr} {tl : TE} (hl : PE X l tl) : PI X tg l (iSeq X.K tl) := by
  refine ⟨fun pins s σ H R I h => thn (hl.run pins s σ H _ I h) fun v s1 ⟨x, H1, I1, r1, a, e, q1⟩ => ?_⟩
  subst e
  cases r1
  rcases q1 with ⟨⟨xs, hq⟩, q⟩ | ⟨⟨xs, hq⟩, q⟩
  · obtain ⟨its, rv, p, hz⟩ := I1.list hq
    refine wpAny_pyIter_list p.isList ?_
    refine ⟨s1.heap.objs.size, [s1.heap.objs.size], _, _, H1, rfl, I1.kept (t' := s1.toks) fun b o e => Heap.get?_push_of_some _ e, turn_list a _, ⟨_, Heap.get?_push_size _ rfl, rfl, rfl⟩, fun b hb => ?_, q⟩
    have e : b = s1.heap.objs.size := by simpa using hb
    subst e
    exact I1.fpOk (Nat.le_refl _) (I1.hok.fresh (Nat.le_refl _))
  · obtain ⟨its, rv, p, hz⟩ := I1.tuple hq
    refine wpAny_pyIter_tuple (show s1.heap.IsTuple a its.toArray from p) ?_
    refine ⟨s1.heap.objs.size, [s1.heap.objs.size], _, _, H1, rfl, I1.kept (t' := s1.toks) fun b o e => Heap.get?_push_of_some _ e, turn_tuple a _, ⟨_, Heap.get?_push_size _ rfl, rfl, rfl⟩, fun b hb => ?_, q⟩
    have e : b = s1.heap.objs.size := by simpa using hb
    subst e
    exact I1.fpOk (Nat.le_refl _) (I1.hok.fresh (Nat.le_refl _))
/-- the reading of a source -/
def iSrc (o : Bool) (Γ : Kn) (W : EW) (v : Env → Sto → R (List PyData)) : TI := fun σ H Rr => ∃ K0 F φ η s, Sim Γ K0 F φ η s σ H ∧ Run Γ W K0 F φ η σ (v η s) fun F' φ' H' l _ => ∀ J, Wk o Γ K0 F' J l → Rr J H'
theorem pi_imp {tg e : Expr} {t t' : TI} (h : PI X tg e t) (hi : ∀ σ H Q, t' σ H Q → t σ H Q) : PI X tg e t' := ⟨fun pins s σ H Q I hw => h.run pins s σ H Q I (hi σ H Q hw)⟩
theorem hle_k0 (S : Sim Γ K0 F φ η s σ H) : HLe K0 H := fun a o e => (S.kp a o e).1
theorem rv_at {vs : List V} {ds : List PyData} (r : RvAll Γ.K F vs ds) {i : Nat} {x : V} {d : PyData} (e1 : ds[i]? = some d) (e2 : vs[i]? = some x) : Rv Γ.K F x d := by
  obtain ⟨v, q1, q2⟩ := r.get e1
  rw [e2] at q1
  cases q1
  exact q2
theorem wk_list {o : Bool} {a : Addr} {vs : List V} {l : List PyData} (r : RvAll Γ.K F vs l) (h : ∀ H, HLe F H → (o = true → HLe K0 H) → SqL Γ.K H a vs) : Wk o Γ K0 F (Itl Γ.K a) l :=
  ⟨fun H => SqL Γ.K H a vs, YAt vs, by rw [← r.len]; exact walk_list, h, fun i x H H' d e _ _ ⟨y1, y2⟩ => .inl ⟨y1, rv_at r e y2⟩⟩
theorem wk_tup {o : Bool} {a : Addr} {vs : List V} {l : List PyData} (r : RvAll Γ.K F vs l) (h : ∀ H, HLe F H → SqT Γ.K H a vs) : Wk o Γ K0 F (Itt Γ.K a) l :=
  ⟨fun H => SqT Γ.K H a vs, YAt vs, by rw [← r.len]; exact walk_tup, fun H q _ => h H q, fun i x H H' d e _ _ ⟨y1, y2⟩ => .inl ⟨y1, rv_at r e y2⟩⟩
theorem it_src {d : PyData} {l : List PyData} (h : srcD .it [d] = some l) : d = .list l ∨ d = .tuple l := by
  cases d <;> simp [srcD] at h <;> simp [h]
theorem s_it (hK : X.K = Γ.K) {tg a : Expr} {A : ES} {o : Bool} (ha : PE X a (rdO Γ W o A.v)) : PI X tg a (iSrc o Γ W (vSrc .it [A])) := by
  refine pi_imp (pi_seq ha) fun σ H Q ⟨K0, F, φ, η, s, S, r⟩ => ?_
  have r : Run Γ W K0 F φ η σ (((A.v η s).bd fun d s => (R.ok [] s).bd fun ds s => .ok (d :: ds) s).bd fun ds s => (R.opt (datOs ds) s).bd fun xs s => R.opt (srcD .it xs) s) _ := r
  refine ⟨K0, F, φ, η, s, S, (Run.step (Run.step r)).mono fun F1 φ1 H1 x s1 l1 p1 S1 r1 xv hx => ?_⟩
  have r2 := Run.here r1 S1
  obtain ⟨ps, e1, r2⟩ := Run.some r2
  obtain ⟨d, e0, e1⟩ := Option.bind_eq_some_iff.mp (show (datO x).bind (fun x => (datOs []).map (x :: ·)) = some ps from e1)
  cases e1
  cases e2 : srcD .it [d] with
  | none => rw [e2] at r2; exact r2.elim
  | some l =>
    rw [e2] at r2
    have h := hx.hd S1 e0
    rw [hK]
    rcases it_src e2 with rfl | rfl
    · obtain ⟨a, vs, rfl, hr, hq⟩ := h.list
      exact ⟨a, rfl, .inl ⟨⟨vs, hq H1 S1.fle fun _ => hle_k0 S1⟩, Run.here r2 S1 _ (wk_list hr hq)⟩⟩
    · obtain ⟨a, vs, rfl, hr, hq⟩ := h.tup
      exact ⟨a, rfl, .inr ⟨⟨vs, hq H1 S1.fle⟩, Run.here r2 S1 _ (wk_tup hr hq)⟩⟩
theorem wk_rng {o : Bool} (a : Int) (n : Nat) : Wk o Γ K0 F (Itr a n) (rngL a n) := by
  refine ⟨fun _ => True, YFn fun i => .int (a + i), by rw [show (rngL a n).length = n by simp [rngL]]; exact walk_range, fun _ _ _ => trivial, fun i x H H' d e _ _ ⟨y1, y2⟩ => .inl ⟨y1, ?_⟩⟩
  unfold rngL at e
  rw [List.getElem?_map] at e
  obtain ⟨k, e1, e2⟩ := Option.map_eq_some_iff.mp e
  obtain ⟨h1, h2⟩ := List.getElem?_eq_some_iff.mp e1
  rw [List.getElem_range] at h2
  subst h2
  rw [y2, ← e2]
  exact .int _
theorem rngOk_iff {a b : Int} (h : rngOk a b = true) : -(2 ^ 62) ≤ a ∧ a < 2 ^ 62 ∧ -(2 ^ 62) ≤ b ∧ b < 2 ^ 62 := by
  unfold rngOk at h
  simp only [Bool.and_eq_true, decide_eq_true_eq] at h
  exact ⟨h.1.1.1.1, h.1.1.1.2, h.1.1.2, h.1.2⟩
/-- the arguments of a source -/
theorem src_args {k : Sk} {l : List ES} {o : Bool} {Rr : It → Hp → Prop} {K0 F : Hp} {φ : List Addr} {η : Env} {s : Sto} {σ : L2.St} (r : Run Γ W K0 F φ η σ (vSrc k l η s) fun F' φ' H' l _ => ∀ J, Wk o Γ K0 F' J l → Rr J H') :
    Run Γ W K0 F φ η σ (seqV l η s) fun F1 φ1 H1 ds s1 => ds.length = l.length ∧ ∀ vs, ODs o Γ F1 φ1 η σ vs ds → ∃ ps ls, HdAll o Γ K0 F1 vs ps ∧ srcD k ps = some ls ∧ ps.length = l.length ∧ HLe F1 H1 ∧ HLe K0 H1 ∧ ∀ J, Wk o Γ K0 F1 J ls → Rr J H1 := by
  refine (seq_len (Run.step r)).mono fun F1 φ1 H1 ds s1 l1 p1 S1 ⟨hz, r1⟩ => ⟨hz, fun vs hv => ?_⟩
  obtain ⟨ps, e1, r2⟩ := Run.some r1
  cases e2 : srcD k ps with
  | none => rw [e2] at r2; exact r2.elim
  | some ls =>
    rw [e2] at r2
    have hh := hv.hds S1 e1
    refine ⟨ps, ls, hh, e2, ?_, S1.fle, hle_k0 S1, Run.here r2 S1⟩
    rw [← hz]
    have : ∀ {ds : List D} {ps : List PyData}, datOs ds = some ps → ps.length = ds.length := by
      intro ds
      induction ds with
      | nil => intro ps e; cases e; rfl
      | cons d ds ih =>
        intro ps e
        obtain ⟨p, _, e2⟩ := Option.bind_eq_some_iff.mp (show (datO d).bind (fun x => (datOs ds).map (x :: ·)) = _ from e)
        obtain ⟨qs, e3, e4⟩ := Option.map_eq_some_iff.mp e2
        subst e4
        simp [ih e3]
    exact this e1
theorem s_rng1 {tg a : Expr} {A : ES} {o : Bool} {p pos : Pos} (hg : Gl X "range") (hm : X.mg "range" = none) (hp : plainE a = true) (ha : PA X [a] (rdA Γ W o (seqV [A]))) : PI X tg (.Call (.Name "range" p) [a] [] pos) (iSrc o Γ W (vSrc .rng [A])) := by
  refine pi_imp (pi_range1 hg hm ha (star_cons hp _ _)) fun σ H Q ⟨K0, F, φ, η, s, S, r⟩ => ?_
  refine ⟨K0, F, φ, η, s, S, (src_args r).mono fun F1 φ1 H1 ds s1 l1 p1 S1 ⟨hz, q⟩ vs hv => ?_⟩
  obtain ⟨ps, ls, hh, e, hl, q1, q2, q⟩ := q vs hv
  match ps, hl, hh, e with
  | [.int b], _, .cons h1 .nil, e =>
    cases h1.int
    simp only [srcD] at e
    split at e
    · rename_i ho
      cases e
      obtain ⟨_, _, o3, o4⟩ := rngOk_iff ho
      exact ⟨b, rfl, o3, o4, q _ (wk_rng 0 b.toNat)⟩
    · cases e
theorem s_rng2 {tg a b : Expr} {A B : ES} {o : Bool} {p pos : Pos} (hg : Gl X "range") (hm : X.mg "range" = none) (hp : plainE a = true) (hp' : plainE b = true) (ha : PA X [a, b] (rdA Γ W o (seqV [A, B]))) : PI X tg (.Call (.Name "range" p) [a, b] [] pos) (iSrc o Γ W (vSrc .rng [A, B])) := by
  refine pi_imp (pi_range2 hg hm ha (by rw [star_cons hp, star_cons hp']; rfl) (star_cons hp' _ _)) fun σ H Q ⟨K0, F, φ, η, s, S, r⟩ => ?_
  refine ⟨K0, F, φ, η, s, S, (src_args r).mono fun F1 φ1 H1 ds s1 l1 p1 S1 ⟨hz, q⟩ vs hv => ?_⟩
  obtain ⟨ps, ls, hh, e, hl, q1, q2, q⟩ := q vs hv
  match ps, hl, hh, e with
  | [.int i, .int j], _, .cons h1 (.cons h2 .nil), e =>
    cases h1.int
    cases h2.int
    simp only [srcD] at e
    split at e
    · rename_i ho
      cases e
      exact ⟨i, j, rfl, rngOk_iff ho, q _ (wk_rng i (j - i).toNat)⟩
    · cases e
theorem enumL_get : ∀ (k : Nat) (l : List PyData) (i : Nat), (enumL k l)[i]? = l[i]?.map fun x => .tuple [.int (k + i : Nat), x]
  | _, [], _ => by simp [enumL]
  | k, x :: l, 0 => by simp [enumL]
  | k, x :: l, i + 1 => by
    rw [enumL, List.getElem?_cons_succ, enumL_get (k + 1) l i, List.getElem?_cons_succ]
    rw [show k + 1 + i = k + (i + 1) by omega]
theorem enumL_len : ∀ (k : Nat) (l : List PyData), (enumL k l).length = l.length
  | _, [] => rfl
  | k, _ :: l => by simp [enumL, enumL_len (k + 1) l]
theorem zipL_len : ∀ (l m : List PyData), (zipL l m).length = min l.length m.length
  | [], _ => by simp [zipL]
  | _ :: _, [] => by simp [zipL]
  | x :: l, y :: m => by simp [zipL, zipL_len l m]
theorem zipL_get : ∀ (l m : List PyData) (i : Nat) (d : PyData), (zipL l m)[i]? = some d → ∃ x y, l[i]? = some x ∧ m[i]? = some y ∧ d = .tuple [x, y]
  | [], _, _, _, h => by simp [zipL] at h
  | _ :: _, [], _, _, h => by simp [zipL] at h
  | x :: l, y :: m, 0, d, h => by simp [zipL] at h; exact ⟨x, y, rfl, rfl, h.symm⟩
  | x :: l, y :: m, i + 1, d, h => by
    rw [zipL, List.getElem?_cons_succ] at h
    simpa using zipL_get l m i d h
theorem wk_enum {o : Bool} {J : It} {Gq : Hp → Prop} {vs : List V} {l : List PyData} (w : Walk J vs.length Gq (YPair (fun i => some (.int (i : Nat))) (fun i => vs[i]?))) (r : RvAll Γ.K F vs l) (h : ∀ H, HLe F H → (o = true → HLe K0 H) → Gq H) : Wk o Γ K0 F J (enumL 0 l) := by
  refine ⟨Gq, YPair (fun i => some (.int (i : Nat))) (fun i => vs[i]?), by rw [enumL_len, ← r.len]; exact w, h, fun i x H H' d e _ _ ⟨T, a, b, y1, y2, y3, y4, y5⟩ => .inr ?_⟩
  rw [enumL_get] at e
  obtain ⟨z, e1, e2⟩ := Option.map_eq_some_iff.mp e
  cases y4
  exact ⟨T, _, _, y1, y2, y3, e2.symm, .cons (by rw [Nat.zero_add]; exact .int _) (.cons (rv_at r e1 y5) .nil)⟩
theorem enum_src {d : PyData} {l : List PyData} (h : srcD .enum [d] = some l) : ∃ xs, l = enumL 0 xs ∧ (d = .list xs ∨ d = .tuple xs) := by
  cases d <;> simp [srcD] at h <;> exact ⟨_, h.symm, by simp⟩
theorem s_enum {elts : List Expr} {kk : Nat} {tpos : Pos} (hK : X.K = Γ.K) {a : Expr} {A : ES} {o : Bool} {p pos : Pos} (hg : Gl X "enumerate") (hm : X.mg "enumerate" = none) (hp : plainE a = true) (ha : PA X [a] (rdA Γ W o (seqV [A]))) :
    PI X (.Tuple elts kk tpos) (.Call (.Name "enumerate" p) [a] [] pos) (iSrc o Γ W (vSrc .enum [A])) := by
  refine pi_imp (pi_enumA hg hm ha (star_cons hp _ _)) fun σ H Q ⟨K0, F, φ, η, s, S, r⟩ => ?_
  refine ⟨K0, F, φ, η, s, S, (src_args r).mono fun F1 φ1 H1 ds s1 l1 p1 S1 ⟨hz, q⟩ vs hv => ?_⟩
  obtain ⟨ps, ls, hh, e, hl, q1, q2, q⟩ := q vs hv
  match ps, hl, hh, e with
  | [d], _, .cons h1 .nil, e =>
    obtain ⟨xs, rfl, rfl | rfl⟩ := enum_src e
    · obtain ⟨a, vs, rfl, hr, hq⟩ := h1.list
      rw [hK]
      exact ⟨a, vs, rfl, .inl ⟨hq H1 q1 fun _ => q2, q _ (wk_enum walk_enum hr hq)⟩⟩
    · obtain ⟨a, vs, rfl, hr, hq⟩ := h1.tup
      rw [hK]
      exact ⟨a, vs, rfl, .inr ⟨hq H1 q1, q _ (wk_enum walk_enumT hr fun H l _ => hq H l)⟩⟩
theorem wk_zip {o : Bool} {J : It} {Gq : Hp → Prop} {vs ws : List V} {l m : List PyData} (w : Walk J (min vs.length ws.length) Gq (YPair (fun i => vs[i]?) (fun i => ws[i]?))) (r : RvAll Γ.K F vs l) (r' : RvAll Γ.K F ws m) (h : ∀ H, HLe F H → (o = true → HLe K0 H) → Gq H) : Wk o Γ K0 F J (zipL l m) := by
  refine ⟨Gq, YPair (fun i => vs[i]?) (fun i => ws[i]?), by rw [zipL_len, ← r.len, ← r'.len]; exact w, h, fun i x H H' d e _ _ ⟨T, a, b, y1, y2, y3, y4, y5⟩ => .inr ?_⟩
  obtain ⟨u, v, e1, e2, e3⟩ := zipL_get _ _ _ _ e
  exact ⟨T, _, _, y1, y2, y3, e3, .cons (rv_at r e1 y4) (.cons (rv_at r' e2 y5) .nil)⟩
theorem zip_src {d d' : PyData} {l : List PyData} (h : srcD .zip [d, d'] = some l) : ∃ xs ys, l = zipL xs ys ∧ ((d = .list xs ∧ d' = .list ys) ∨ (d = .tuple xs ∧ d' = .tuple ys)) := by
  cases d <;> cases d' <;> simp [srcD] at h <;> exact ⟨_, _, h.symm, by simp⟩
theorem walk_zipT' {K : PySem.W.Frag} {a b : Addr} {xs ys : List V} : Walk (RZ.ItzT K a b) (min xs.length ys.length) (fun H => SqT K H a xs ∧ SqT K H b ys) (YPair (fun i => xs[i]?) (fun i => ys[i]?)) := by
  refine ⟨fun i _ hi q => ?_, fun _ q => ⟨xs, ys, q.1, q.2, by omega⟩, fun i H v H' _ q y => ?_⟩
  · have h1 : i < xs.length := by omega
    have h2 : i < ys.length := by omega
    exact ⟨xs, ys, xs[i], ys[i], q.1, q.2, by simp [h1], by simp [h2]⟩
  · obtain ⟨T, x, z, h1, h2, h3, h4, h5⟩ := y
    exact ⟨T, x, z, h1, h2, h3, h4 xs q.1, h5 ys q.2⟩
theorem s_zip {elts : List Expr} {kk : Nat} {tpos : Pos} (hK : X.K = Γ.K) {a b : Expr} {A B : ES} {o : Bool} {p pos : Pos} (hg : Gl X "zip") (hm : X.mg "zip" = none) (hp : plainE a = true) (hp' : plainE b = true) (ha : PA X [a, b] (rdA Γ W o (seqV [A, B]))) :
    PI X (.Tuple elts kk tpos) (.Call (.Name "zip" p) [a, b] [] pos) (iSrc o Γ W (vSrc .zip [A, B])) := by
  refine pi_imp (RZ.pi_zipA hg hm ha (star_cons hp _ _) (star_back _ _ (by simp [hp']))) fun σ H Q ⟨K0, F, φ, η, s, S, r⟩ => ?_
  refine ⟨K0, F, φ, η, s, S, (src_args r).mono fun F1 φ1 H1 ds s1 l1 p1 S1 ⟨hz, q⟩ vs hv => ?_⟩
  obtain ⟨ps, ls, hh, e, hl, q1, q2, q⟩ := q vs hv
  match ps, hl, hh, e with
  | [d, d'], _, .cons h1 (.cons h2 .nil), e =>
    obtain ⟨xs, ys, rfl, ⟨rfl, rfl⟩ | ⟨rfl, rfl⟩⟩ := zip_src e
    · obtain ⟨a, vs, rfl, hr, hq⟩ := h1.list
      obtain ⟨b, ws, rfl, hr', hq'⟩ := h2.list
      rw [hK]
      exact ⟨a, b, vs, ws, rfl, .inl ⟨hq H1 q1 fun _ => q2, hq' H1 q1 fun _ => q2, q _ (wk_zip (walk_zip rfl) hr hr' fun H l l' => ⟨hq H l l', hq' H l l'⟩)⟩⟩
    · obtain ⟨a, vs, rfl, hr, hq⟩ := h1.tup
      obtain ⟨b, ws, rfl, hr', hq'⟩ := h2.tup
      rw [hK]
      exact ⟨a, b, vs, ws, rfl, .inr ⟨hq H1 q1, hq' H1 q1, q _ (wk_zip walk_zipT' hr hr' fun H l _ => ⟨hq H l, hq' H l⟩)⟩⟩
end
end Z
end

section
set_option maxRecDepth 100000
set_option maxHeartbeats 4000000
/-! Comprehensions. -/
namespace Z
open PySem PySem.Spec PyProof.Rows L2
variable [HW]

/-- where nothing is raised -/
abbrev W0 : EW := fun _ _ _ _ _ _ _ _ => False
section
variable {Γ : Kn} {W : EW} {K0 F H : Hp} {φ : List Addr} {η : Env} {σ : L2.St} {s : Sto}
/-- the new list of a comprehension grows -/
theorem Sim.grow {D : Addr} {acc acc' : List V} (S : Sim Γ (upd K0 D (.lst acc)) F φ η s σ H) (ho : ∀ (i : Nat) d a, d.isOwn = true → η[i]? = some (some d) → σ[i]? = some (some (.ref a)) → a ≠ D) :
    Sim Γ (upd K0 D (.lst acc')) F φ η s σ (upd H D (.lst acc')) := by
  obtain ⟨d1, d2, d3⟩ := S.kp D _ upd_same
  have tb : TabW (upd K0 D (.lst acc')) F (upd H D (.lst acc')) := by
    have t2 := S.tb.ch (a := D) (o := .lst acc') fun u e => by rw [d1] at e; cases e; exact ⟨nofun, noC_lst⟩
    refine ⟨t2.tabs, fun b o e => ?_, t2.ff⟩
    by_cases z : b = D
    · subst z; rw [upd_same] at e; cases e; exact nofun
    · rw [upd_ne z] at e; exact S.tb.k0 b o (by rw [upd_ne z]; exact e)
  have keepH : ∀ {b w}, H b = some w → b ≠ D → (upd H D (.lst acc')) b = some w := fun {b w} e z => by rw [upd_ne z]; exact e
  refine ⟨fun b w e => ?_, fun b w e => ?_, S.nd, S.ln, fun n b ob e1 e2 => ?_, S.sz, S.sl, fun i d hi e => ?_, S.ds, tb⟩
  · by_cases z : b = D
    · subst z; rw [upd_same] at e ⊢; exact ⟨e, d2, d3⟩
    · rw [upd_ne z] at e
      obtain ⟨q1, q2, q3⟩ := S.kp b w (by rw [upd_ne z]; exact e)
      exact ⟨keepH q1 z, q2, q3⟩
  · obtain ⟨q1, q2⟩ := S.fz b w e
    exact ⟨keepH q1 (fun z => by subst z; rw [d2] at e; cases e), q2⟩
  · exact (S.so n b ob e1 e2).mono (HLe.refl F) fun w e => keepH e fun z => d3 (z ▸ List.mem_of_getElem? e1)
  · obtain ⟨a, q1, q2⟩ := S.ow i d hi e
    exact ⟨a, q1, q2.mono (HLe.refl F) fun w e' => by
      have z := ho i d a hi e q1
      rw [upd_ne z] at e' ⊢; exact e'⟩
theorem calm_ok' {α : Type} {r : R α} {a : α} {s : Sto} (h : r.calm = .ok a s) : r = .ok a s := by
  cases r with
  | ok b t => exact h
  | er x t => cases h
  | no => cases h
theorem bd_ok' {α β : Type} {m : R α} {f : α → Sto → R β} {b : β} {s : Sto} (h : m.bd f = .ok b s) : ∃ a s1, m = .ok a s1 ∧ f a s1 = .ok b s := by
  cases m with
  | ok a s1 => exact ⟨a, s1, rfl, h⟩
  | er x s1 => cases h
  | no => cases h
theorem opt_ok' {α : Type} {o : Option α} {a : α} {s s1 : Sto} (h : R.opt o s = .ok a s1) : o = some a ∧ s = s1 := by
  cases o with
  | none => cases h
  | some b => cases h; exact ⟨rfl, rfl⟩
/-- the tests of a comprehension: none or one -/
theorem x_tests {X : Cx} {c : Expr} {C : ES} (h : PT X c (rdT Γ W C.t)) : PTs X [c] (rdT Γ W (allT [C])) :=
  pts_one (pt_imp h fun σ H Q ⟨K0, F, φ, η, s, S, r⟩ => ⟨K0, F, φ, η, s, S, (Run.step r).mono fun F1 φ1 H1 b s1 l1 p1 S1 r1 => by
    cases b with
    | true => exact Run.here r1 S1
    | false => exact Run.here r1 S1⟩)
theorem x_tests0 {X : Cx} : PTs X [] (rdT Γ W (allT [])) := ⟨fun pins s σ H Q I ⟨K0, F, φ, η, s', S, r⟩ => pts_nil.run pins s σ H Q I (Run.here r S)⟩
theorem comp_key {E : ES} {t : Tg} {k : Sk} {ss cs : List ES} (σ : L2.St) (H : Hp) (Q : VK) (h : rdX Γ W true (vComp E t k ss cs) σ H Q) : tLc (iSrc true Γ W (vSrc k ss)) (rdG Γ t) (rdT Γ W0 (allT cs)) (rdX Γ W0 false E.v) t.at σ H Q := by
  obtain ⟨K0, F, φ, η, s, S, r⟩ := h
  refine ⟨K0, F, φ, η, s, S, (Run.step r).mono fun F1 φ1 H1 l s1 l1 p1 S1 r1 J ⟨G, Y, wk, hG, hY⟩ D hD => ?_⟩
  obtain ⟨l', e1, r2⟩ := Run.some r1
  have hbig : l.length ≤ sizeLine ∧ l' = l := by
    split at e1
    · rename_i hb
      cases e1
      exact ⟨by simpa [big] using hb, rfl⟩
    · cases e1
  obtain ⟨hbig, rfl⟩ := hbig
  obtain ⟨S1', n1, n2, n3⟩ := S1.new hD (.lst [])
  have ownD : ∀ (i : Nat) d a, d.isOwn = true → η[i]? = some (some d) → σ[i]? = some (some (.ref a)) → a ≠ D := fun i d a hi e e' z => by
    obtain ⟨b, q1, q2⟩ := S1.ow i d hi e
    rw [e'] at q1
    cases q1
    obtain ⟨u, hu⟩ := q2.some
    rw [z, n3] at hu; cases hu
  have hk : ∀ i H, (∃ (F2 : Hp) (φ2 : List Addr) (s2 : Sto) (acc : List V) (ds : List PyData), HLe F1 F2 ∧ PLe φ1 φ2 ∧ Sim Γ (upd K0 D (.lst acc)) F2 φ2 η s2 σ H ∧ RvAll Γ.K F2 acc ds ∧ ds.length ≤ i ∧
      Run Γ W K0 F2 φ2 η σ (((cgo (turnC t cs E η) (l'.drop i) s2).calm).bd fun m s => .ok (.dat (.list (ds ++ m))) s) fun F' φ' H' d _ => ∀ x, FD true Γ K0 F' φ' H' x d → Q x H') → G H := fun i H ⟨F2, φ2, s2, acc, ds, a1, a2, a3, _⟩ =>
    hG H (a1.trans a3.fle) fun _ => fun b u e => (hle_k0 a3) b u (by rw [upd_ne (fun z => by subst z; rw [n3] at e; cases e)]; exact e)
  refine lc_it wk (fun i H => ∃ (F2 : Hp) (φ2 : List Addr) (s2 : Sto) (acc : List V) (ds : List PyData), HLe F1 F2 ∧ PLe φ1 φ2 ∧ Sim Γ (upd K0 D (.lst acc)) F2 φ2 η s2 σ H ∧ RvAll Γ.K F2 acc ds ∧ ds.length ≤ i ∧
      Run Γ W K0 F2 φ2 η σ (((cgo (turnC t cs E η) (l'.drop i) s2).calm).bd fun m s => .ok (.dat (.list (ds ++ m))) s) fun F' φ' H' d _ => ∀ x, FD true Γ K0 F' φ' H' x d → Q x H')
    ⟨F1, φ1, s1, [], [], HLe.refl _, PLe.rfl', S1'.keepMore upd_same n1 n2 n3, .nil, Nat.le_refl _, by simpa using r2⟩ (fun i H _ p => hk i H p) (fun i x Hi Hi' hin p y => ?_) (fun Hn p => ?_)
  · have gH := hk i Hi p
    obtain ⟨F2, φ2, s2, acc, ds, a1, a2, a3, a4, a5, a6⟩ := p
    have hd : l'[i]? = some l'[i] := List.getElem?_eq_getElem hin
    have k0H : HLe K0 Hi := fun b u e => (hle_k0 a3) b u (by rw [upd_ne (fun z => by subst z; rw [n3] at e; cases e)]; exact e)
    -- the item
    have item : ∃ F3, HLe F2 F3 ∧ Sim Γ (upd K0 D (.lst acc)) F3 φ2 η s2 σ Hi' ∧ Rv Γ.K F3 x l'[i] := by
      rcases hY i x Hi Hi' _ hd (a1.trans a3.fle) (fun _ => k0H) y with ⟨rfl, q⟩ | ⟨T, xs, es, rfl, q1, rfl, q2, q3⟩
      · exact ⟨F2, HLe.refl _, a3, q.mono a1⟩
      · obtain ⟨S3, l3⟩ := a3.ice q1 (.tup xs)
        exact ⟨_, l3, S3, by rw [q2]; exact .tup (SqT.of upd_same) (q3.mono (a1.trans l3))⟩
    obtain ⟨F3, l3, S3, hx⟩ := item
    rw [List.drop_eq_getElem_cons hin] at a6
    -- what the interpreter does
    cases eg : (cgo (turnC t cs E η) (l'[i] :: l'.drop (i + 1)) s2).calm with
    | no => rw [eg] at a6; exact a6.elim
    | er z z' =>
      exfalso
      revert eg
      cases cgo (turnC t cs E η) (l'[i] :: l'.drop (i + 1)) s2 <;> exact fun h => by cases h
    | ok m s5 =>
      rw [eg] at a6
      have eg := calm_ok' eg
      rw [cgo] at eg
      obtain ⟨oy, s3, b1, eg⟩ := bd_ok' eg
      obtain ⟨m', s4, b2, eg⟩ := bd_ok' eg
      rw [turnC] at b1
      obtain ⟨η2, s2', b3, b1⟩ := bd_ok' b1
      obtain ⟨b3', z⟩ := opt_ok' b3
      subst z
      obtain ⟨kb, s6, b4, b1⟩ := bd_ok' b1
      have Sw := S3.wipe t.at
      refine ⟨_, _, _, _, _, _, _, Sw, hx, b3', fun σ2 S4 hs hl => ⟨wipe_back hs (by rw [hl, wipe_length]), upd K0 D (.lst acc), F3, φ2, η2, s2, S4, ?_⟩⟩
      rw [b4]
      intro F5 φ5 H5 l5 p5 S5
      cases kb with
      | false =>
        simp only [Bool.false_eq_true, if_false] at b1 ⊢
        cases b1
        cases eg
        refine ⟨F5, φ5, s3, acc, ds, a1.trans (l3.trans l5), PLe.trans' a2 p5, S3.slots S5 l5 p5 (HLe.refl _), a4.mono (l3.trans l5), by omega, ?_⟩
        rw [b2]
        exact Run.later a6 (l3.trans l5) p5
      | true =>
        simp only [if_true] at b1 ⊢
        obtain ⟨dd, s7, b5, b1⟩ := bd_ok' b1
        obtain ⟨pp, s8, b6, b1⟩ := bd_ok' b1
        obtain ⟨b6', z⟩ := opt_ok' b6
        subst z
        cases b1
        cases eg
        refine ⟨_, F5, φ5, η2, _, S5, ?_⟩
        rw [b5]
        intro F6 φ6 H6 l6 p6 S6 y hy
        have ry : Rv Γ.K F6 y pp := RD.dat hy b6'
        have lt : HLe F2 F6 := l3.trans (l5.trans l6)
        have SS := S3.slots S6 (l5.trans l6) (PLe.trans' p5 p6) (HLe.refl _)
        have al := a4.len
        refine ⟨acc, (S6.kp D _ upd_same).1, by omega, F6, φ6, _, acc ++ [y], ds ++ [pp], a1.trans lt, PLe.trans' a2 (PLe.trans' p5 p6), SS.grow ownD, (a4.mono lt).app (.cons ry .nil), by simp; omega, ?_⟩
        rw [b2]
        have := Run.later a6 lt (PLe.trans' p5 p6)
        simpa using this
  · obtain ⟨F2, φ2, s2, acc, ds, a1, a2, a3, a4, a5, a6⟩ := p
    rw [List.drop_eq_nil_of_le (Nat.le_refl _)] at a6
    have a6 : Run Γ W K0 F2 φ2 η σ (.ok (.dat (.list (ds ++ []))) s2) fun F' φ' H' d _ => ∀ x, FD true Γ K0 F' φ' H' x d → Q x H' := a6
    rw [List.append_nil] at a6
    obtain ⟨q1, q2, q3⟩ := a3.kp D _ upd_same
    have SS : Sim Γ K0 F2 φ2 η s2 σ Hn := a3.keepLess (HLe.upd n3) fun i d hi e => by
      obtain ⟨b, z1, z2⟩ := S1.ow i d hi e
      exact ⟨b, z1, z2.mono a1 fun u e => e⟩
    exact Run.here a6 SS _ ⟨D, acc, rfl, q1, a4, q2, q3, n3⟩
theorem x_comp {X : Cx} {elt tg iter : Expr} {ifs : List Expr} {scope : Scope} {own : List (Str × Nat)} {pos : Pos} {E : ES} {t : Tg} {k : Sk} {ss cs : List ES}
    (hc : X.calm = true) (hN : X.N.Nodup) (hi : PI X tg iter (iSrc true Γ W (vSrc k ss))) (ok : BlkOk X.N X.env.scope scope own) (hown : own.map (·.2) = t.at) (hpi : plainE iter = true)
    (hg : ∀ (s : Shared) (H : Hp) (C : Addr) (cl : List (Str × Addr)) (fp : List Addr), PG (X.blk s H scope (compEnvC scope cl C X.env) fp) tg (rdG Γ t))
    (ht : ∀ (s : Shared) (H : Hp) (C : Addr) (cl : List (Str × Addr)) (fp : List Addr), PTs (X.blk s H scope (compEnvC scope cl C X.env) fp) ifs (rdT Γ W0 (allT cs)))
    (he : ∀ (s : Shared) (H : Hp) (C : Addr) (cl : List (Str × Addr)) (fp : List Addr), PE (X.blk s H scope (compEnvC scope cl C X.env) fp) elt (rdX Γ W0 false E.v)) :
    PE X (.ListComp elt [⟨tg, iter, ifs, 0⟩] scope pos) (rdX Γ W true (vComp E t k ss cs)) :=
  pe_imp (pe_lc hc hN hi ok hg ht he (foldedOk hpi _)) fun σ H Q h => by rw [hown]; exact comp_key σ H Q h
end
end Z
end

section
set_option maxRecDepth 100000
set_option maxHeartbeats 4000000
/-! Calls: what a def promises, where no repr is under way. -/
namespace Z
open PySem PySem.Spec PyProof.Rows L2
variable [HW]

/-- a def's promise, nothing being shown -/
structure FnG (P : Program) (w : PySem.World) (K : PySem.W.Frag) (mg : Str → Option Value) (base : Heap) (k : Nat) (f : Addr) (fd : FuncData) (ps : List Str) (sp : Sp) : Prop where
  run : ∀ (A : Around) (outer : List PySem.Env) (s : Shared) (H : Hp) (args : Args) (us : List Value) (vs : List V) (Q : VK) (E : XK), Room k A → A.guards = some [] → Env0 P w K mg base A outer s H →
    BindsTo s fd args (ps.zip us) → us.length = ps.length → Vals vs us → sp vs H Q E → codeAny (model P w) A (.call (.ref f) args) (CR (L2.CX P w) outer P w H s Q E) s
/-- by its body -/
theorem FnG.of {P : Program} {w : PySem.World} {K : PySem.W.Frag} {mg : Str → Option Value} {base : Heap} {x qual : Str} {params : Arguments} {body : List Stmt} {scope : Scope} {dvs : List V} {kws : List (Str × V)} {f : Addr} {fd : FuncData} {N ps : List Str} {k : Nat} {sp : Sp} (F : FunD K x qual params body scope dvs kws f fd) (S : FnScope N ps scope)
    (hbody : ∀ (cdv : Value) (A : Around) (outer : List PySem.Env) (s : Shared) (H : Hp) (vs : List V) (Q : VK) (E : XK), fd.code = cdv → Room k (A.deeper (envOfC qual (scope) s.heap.objs.size f cdv)) → A.guards = some [] → vs.length = ps.length → sp vs H Q E →
      ∃ t, PSs (cxOf (L2.CX P w) P w K mg base N qual (scope) f cdv A outer s H E) (body) t ∧ t { nx := fun _ H' => Q .non H', rt := Q } (L2.start N vs) H) : FnG P w K mg base (k + 1) f fd ps sp := by
  obtain ⟨oc, od, dV, kV, doc, pm, an, cdv, ct, osl, rfl, lk, hcd, _, _⟩ := F.ex
  refine ⟨fun A outer s H args us vs Q E hr hg e0 hb hlen r hsp => ?_⟩
  have hl : vs.length = ps.length := r.length.trans hlen
  have kin : K.In s.heap := e0.mod.kin.keeps fun b o e => (e0.bs b o e).1
  have lim : s.heap.NoLimit := e0.mod.nolimit.keeps fun b o e => (e0.bs b o e).1
  refine codeAny_call_function hr.depth (kin _ _ lk) rfl S.co S.gen rfl (PySem.W.codeRec_of kin hcd) (hb _ _ _ _ ?_)
  refine wpAny_newFunctionEnv_cells S.kind (fun ⟨n, v⟩ hy => ?_) fun env he s1 xi => ?_
  · rcases S.par n (List.of_mem_zip hy).1 with q | q
    · exact .inl q
    · exact .inr ⟨q, PySem.W.cellsFrom_some _ _ _ (.inl q)⟩
  subst he
  refine ⟨lim.keeps xi.toInCall.keep, codeAny_func ?_⟩
  obtain ⟨t, ht, hq⟩ := hbody cdv A outer s H vs Q E rfl (hr.deeper _) hg hl hsp
  have I : Inv (cxOf (L2.CX P w) P w K mg base N qual (scope) f cdv A outer s H E) [] (L2.start N vs) H s1 := inv_start S hr.hd e0 hl r xi
  refine wpAny_mono (ht.run [] s1 (L2.start N vs) H _ I hq) (fun fl s' hs => ?_) fun e s' hs => hs
  cases fl with
  | ret u => obtain ⟨v, σ', H', J, rv, q⟩ := hs; exact ⟨v, H', J.os, J.bare, J.base, J.hok, rv, q⟩
  | next => obtain ⟨σ', H', J, q⟩ := hs; exact ⟨.non, H', J.os, J.bare, J.base, J.hok, rfl, q⟩
  | brk => obtain ⟨_, _, _, q⟩ := hs; exact q.elim
  | cont => obtain ⟨_, _, _, q⟩ := hs; exact q.elim
theorem FnG.call {X : Cx} {k : Nat} {f : Addr} {fd : FuncData} {ps : List Str} {sp : Sp} {pins : List (Addr × Obj)} {σ : L2.St} {H : Hp} {s : Shared} {Q : VK} {us : List Value} {vs : List V} {as : List Value} {kw : List (Str × Value)} {Wx : WX} (tk : Takes X Wx)
    (F : FnG X.prog X.w X.K X.mg X.base k f fd ps sp) (hr : Room k X.A) (hg : X.A.guards = some []) (I : Inv X pins σ H s) (hb : BindsTo s fd ⟨as, kw⟩ (ps.zip us)) (hl : us.length = ps.length) (r : Vals vs us) (h : sp vs H Q (L2.WE Wx σ)) :
    wpAny (model X.prog X.w) X.A (call (.ref f) as kw) (EP X pins σ Q) X.xe s := by
  refine wpAny_call (codeAny_mono (F.run X.A X.stack s H ⟨as, kw⟩ us vs Q (L2.WE Wx σ) hr hg I.env0 hb hl r h) fun r s' hq => ?_)
  cases r with
  | error e => exact passAt tk σ pins H s e s' I hq
  | ok fl =>
    cases fl with
    | ret u => exact I.after hq
    | next => exact hq.elim
    | brk => exact hq.elim
    | cont => exact hq.elim

/-! ### what the interpreter promises of a def -/
inductive RDs (K : PySem.W.Frag) (mg : Str → Option Value) (F : Hp) (φ : List Addr) : List V → List D → Prop
  | nil : RDs K mg F φ [] []
  | cons {v : V} {vs : List V} {d : D} {ds : List D} : RD K mg F φ v d → RDs K mg F φ vs ds → RDs K mg F φ (v :: vs) (d :: ds)
theorem ODs.rds {Γ : Kn} {F : Hp} {φ : List Addr} {η : Env} {σ : L2.St} : ∀ {vs : List V} {ds : List D}, ODs false Γ F φ η σ vs ds → RDs Γ.K Γ.mg F φ vs ds
  | _, _, .nil => .nil
  | _, _, .cons a r => .cons a.rd (ODs.rds r)
theorem RDs.len {K : PySem.W.Frag} {mg : Str → Option Value} {F : Hp} {φ : List Addr} : ∀ {vs : List V} {ds : List D}, RDs K mg F φ vs ds → vs.length = ds.length
  | _, _, .nil => rfl
  | _, _, .cons _ r => congrArg (· + 1) (RDs.len r)
/-- c: what the call comes to, by the interpreter -/
def spZ (K : PySem.W.Frag) (mg : Str → Option Value) (fr : Bool) (c : List D → Sto → R D) : Sp := fun vs H Q E => ∃ K0 F φ s ds, World ⟨K, mg⟩ K0 F φ s H ∧ RDs K mg F φ vs ds ∧
  Run ⟨K, mg⟩ (WQ ⟨K, mg⟩ fun cls d _ H' => E cls d H') K0 F φ [] [] (c ds s) fun F' φ' H' d _ => ∀ x, FD fr ⟨K, mg⟩ K0 F' φ' H' x d → Q x H'
/-- how arguments are bound: n by place, then those of the names ks, the others' places π -/
structure Bnd (fd : FuncData) (ps : List Str) (n : Nat) (ks : List Str) (π : List Nat) : Prop where
  to : ∀ (s : Shared) (us ws : List Value), us.length = n → ws.length = ks.length → BindsTo s fd ⟨us, ks.zip ws⟩ (ps.zip (us ++ pick π ws))
  len : n + π.length = ps.length
  lt : ∀ i ∈ π, i < ks.length
/-- a def that may be called by its name -/
structure Clb (P : Program) (w : PySem.World) (K : PySem.W.Frag) (mg : Str → Option Value) (base : Heap) (k : Nat) (c : List D → Sto → R D) (x : Str) (fd : Fd) (kb : List (Nat × List Str × List Nat)) : Prop where
  ex : ∃ (a : Addr) (f : FuncData), mg x = some (.ref a) ∧ PySem.W.keepIn K (.ref a) = true ∧ FnG P w K mg base k a f fd.ps (spZ K mg fd.fr c) ∧ Bnd f fd.ps fd.ps.length [] [] ∧ ∀ b ∈ kb, Bnd f fd.ps b.1 b.2.1 b.2.2
theorem pick_len {α : Type} {ws : List α} : ∀ {π : List Nat}, (∀ i ∈ π, i < ws.length) → (pick π ws).length = π.length
  | [], _ => rfl
  | i :: π, h => by
    have h1 := h i List.mem_cons_self
    have h2 := pick_len (ws := ws) (π := π) fun j hj => h j (List.mem_cons_of_mem _ hj)
    unfold pick at h2 ⊢
    rw [List.filterMap_cons, List.getElem?_eq_getElem h1]
    simp [h2]
theorem pick_vals {vs : List V} {ws : List Value} (r : Vals vs ws) : ∀ (π : List Nat), (∀ i ∈ π, i < vs.length) → Vals (pick π vs) (pick π ws)
  | [], _ => .nil
  | i :: π, h => by
    have h1 := h i List.mem_cons_self
    obtain ⟨u, hu, ru⟩ := r.get (List.getElem?_eq_getElem h1)
    have h2 := pick_vals r π fun j hj => h j (List.mem_cons_of_mem _ hj)
    unfold pick at h2 ⊢
    rw [List.filterMap_cons, List.filterMap_cons, List.getElem?_eq_getElem h1, hu]
    exact .cons ru h2
theorem RDs.pick {K : PySem.W.Frag} {mg : Str → Option Value} {F : Hp} {φ : List Addr} {vs : List V} {ds : List D} (r : RDs K mg F φ vs ds) : ∀ (π : List Nat), (∀ i ∈ π, i < vs.length) → RDs K mg F φ (pick π vs) (pick π ds)
  | [], _ => .nil
  | i :: π, h => by
    have h1 := h i List.mem_cons_self
    have h1' : i < ds.length := by rw [← r.len]; exact h1
    have h2 := RDs.pick r π fun j hj => h j (List.mem_cons_of_mem _ hj)
    have hr : RD K mg F φ vs[i] ds[i] := by
      clear h2 h
      induction r generalizing i with
      | nil => simp at h1
      | cons a r ih => cases i with
        | zero => exact a
        | succ i => exact ih i (by simpa using h1) (by simpa using h1')
    unfold Z.pick at h2 ⊢
    rw [List.filterMap_cons, List.filterMap_cons, List.getElem?_eq_getElem h1, List.getElem?_eq_getElem h1']
    exact .cons hr h2
theorem RDs.app {K : PySem.W.Frag} {mg : Str → Option Value} {F : Hp} {φ : List Addr} : ∀ {vs ws : List V} {ds es : List D}, RDs K mg F φ vs ds → RDs K mg F φ ws es → RDs K mg F φ (vs ++ ws) (ds ++ es)
  | _, _, _, _, .nil, s => s
  | _, _, _, _, .cons a r, s => .cons a (RDs.app r s)
theorem RDs.mono {K : PySem.W.Frag} {mg : Str → Option Value} {F F' : Hp} {φ φ' : List Addr} (l : HLe F F') (p : PLe φ φ') : ∀ {vs : List V} {ds : List D}, RDs K mg F φ vs ds → RDs K mg F' φ' vs ds
  | _, _, .nil => .nil
  | _, _, .cons a r => .cons (a.mono l p) (RDs.mono l p r)
theorem RDs.split {K : PySem.W.Frag} {mg : Str → Option Value} {F : Hp} {φ : List Addr} : ∀ {vs ws : List V} {ds : List D}, RDs K mg F φ (vs ++ ws) ds → RDs K mg F φ vs (ds.take vs.length) ∧ RDs K mg F φ ws (ds.drop vs.length)
  | [], _, _, r => ⟨.nil, r⟩
  | v :: vs, ws, _, .cons a r => ⟨.cons a (RDs.split r).1, (RDs.split r).2⟩

section
variable {X : Cx} {Γ : Kn} {W : EW}
/-- from the caller's side -/
theorem call_ends {K0 F H : Hp} {φ : List Addr} {η : Env} {σ : L2.St} {s : Sto} (hK : X.K = Γ.K) (hm : X.mg = Γ.mg) {fr : Bool} {c : List D → Sto → R D} {vs : List V} {ds : List D} {Q : VK} {Wx : WX} (hW : W = WQ Γ Wx) (S : Sim Γ K0 F φ η s σ H) (hr : RDs Γ.K Γ.mg F φ vs ds)
    (r : Run Γ W K0 F φ η σ (c ds s) fun F' φ' H' d _ => ∀ x, FD fr Γ K0 F' φ' H' x d → Q x H') : spZ X.K X.mg fr c vs H Q (L2.WE Wx σ) := by
  subst hW
  rw [hK, hm]
  refine ⟨rest H F φ, F, φ, s, ds, S.world ⟨Γ.K, Γ.mg⟩ rfl, hr, ?_⟩
  cases e : c ds s with
  | no => rw [e] at r; exact r
  | er x s' =>
    rw [e] at r
    exact fun F' φ' H' l p Wd => r F' φ' H' l p (S.back (Γ' := ⟨Γ.K, Γ.mg⟩) rfl l p Wd)
  | ok d s' =>
    rw [e] at r
    intro F' φ' H' l p Wd x hx
    refine r F' φ' H' l p (S.back (Γ' := ⟨Γ.K, Γ.mg⟩) rfl l p Wd) x ?_
    cases fr with
    | false => exact hx
    | true =>
      cases d with
      | dat d => cases d with
        | list ds =>
          obtain ⟨a, vs, h1, h2, h3, h4, h5, h6⟩ := hx
          refine ⟨a, vs, h1, h2, h3, h4, h5, ?_⟩
          cases e : K0 a with
          | none => rfl
          | some o =>
            obtain ⟨q1, q2, q3⟩ := S.kp a o e
            rw [rest_some q1 q2 q3 (S.tb.k0 a o e)] at h6
            cases h6
        | _ => exact hx
      | _ => exact hx
/-- behind the arguments -/
def Rdy (Γ : Kn) (W : EW) (K0 : Hp) (η : Env) (σ : L2.St) (n : Nat) (c : List D → Sto → R D) (fr : Bool) (Q : VK) (xs : List V) (H1 : Hp) : Prop := ∃ F1 φ1 ds s1, xs.length = n ∧ Sim Γ K0 F1 φ1 η s1 σ H1 ∧ ODs false Γ F1 φ1 η σ xs ds ∧ Run Γ W K0 F1 φ1 η σ (c ds s1) fun F' φ' H' d _ => ∀ x, FD fr Γ K0 F' φ' H' x d → Q x H'
theorem rdy_of {c : List D → Sto → R D} {l : List ES} {fr : Bool} {σ : L2.St} {H : Hp} {Q : VK} {K0 F : Hp} {φ : List Addr} {η : Env} {s : Sto} (S : Sim Γ K0 F φ η s σ H) (r : Run Γ W K0 F φ η σ ((seqV l η s).bd fun ds s => c ds s) fun F' φ' H' d _ => ∀ x, FD fr Γ K0 F' φ' H' x d → Q x H') :
    rdA Γ W false (seqV l) σ H (Rdy Γ W K0 η σ l.length c fr Q) :=
  ⟨K0, F, φ, η, s, S, (seq_len (Run.step r)).mono fun F1 φ1 H1 ds s1 l1 p1 S1 ⟨hz, r1⟩ xs hx => ⟨F1, φ1, ds, s1, hx.len.trans hz, S1, hx, r1⟩⟩
theorem x_call {k : Nat} (hK : X.K = Γ.K) (hm : X.mg = Γ.mg) {Wx : WX} (tk : Takes X Wx) (hW : W = WQ Γ Wx) {c : Str → List D → Sto → R D} {f : Str} {fd : Fd} {kb : List (Nat × List Str × List Nat)} (hc : Clb X.prog X.w X.K X.mg X.base k (c f) f fd kb) (hr : Room k X.A) (hg : X.A.guards = some []) (hgl : Gl X f) (hdb : (f == ("__debug__" : Str)) = false)
    {p pos : Pos} {e : Expr} {es : List Expr} {l : List ES} (hp : (e :: es).all plainE = true) (hl : l.length = fd.ps.length) (ha : PA X (e :: es) (rdA Γ W false (seqV l))) : PE X (.Call (.Name f p) (e :: es) [] pos) (rdX Γ W fd.fr (vCall c f l)) := by
  obtain ⟨a, fdd, h1, h2, h3, h4, _⟩ := hc.ex
  refine ⟨fun pins s σ H Q I ⟨K0, F, φ, η, s', S, r⟩ => ?_⟩
  refine wpAny_Call_Name_kw (ld_glob I hgl h1 ?_ hdb)
  rw [List.all_cons, Bool.and_eq_true] at hp
  refine PySem.W.callWith_K (h₀ := X.base) I.ok.mod.kin h2 (thn (ha.run pos pins s σ H _ I (rdy_of S r)) fun us s1 ⟨vs, H1, I1, r1, F1, φ1, ds, t1, hz, S1, hv, r2⟩ => ⟨I1.kIn, ?_⟩) (star_cons hp.1 _ _) (star_back _ _ hp.2)
  have hlu : us.length = fd.ps.length := by rw [← r1.length, hz, hl]
  refine h3.call tk hr hg I1 ?_ hlu r1 (call_ends hK hm hW S1 hv.rds r2)
  have := h4.to s1 us [] hlu rfl
  simpa [pick] using this
theorem x_call0 {k : Nat} (hK : X.K = Γ.K) (hm : X.mg = Γ.mg) {Wx : WX} (tk : Takes X Wx) (hW : W = WQ Γ Wx) {c : Str → List D → Sto → R D} {f : Str} {fd : Fd} {kb : List (Nat × List Str × List Nat)} (hc : Clb X.prog X.w X.K X.mg X.base k (c f) f fd kb) (hr : Room k X.A) (hg : X.A.guards = some []) (hgl : Gl X f) (hdb : (f == ("__debug__" : Str)) = false)
    {p pos : Pos} (hl : 0 = fd.ps.length) : PE X (.Call (.Name f p) [] [] pos) (rdX Γ W fd.fr (vCall c f [])) := by
  obtain ⟨a, fdd, h1, h2, h3, h4, _⟩ := hc.ex
  refine ⟨fun pins s σ H Q I ⟨K0, F, φ, η, s', S, r⟩ => ?_⟩
  refine wpAny_Call_Name_kw (ld_glob I hgl h1 ?_ hdb)
  refine PySem.W.callWith_K0 I.kIn h2 (h3.call tk (us := []) hr hg I ?_ hl .nil (call_ends hK hm hW S .nil r))
  have := h4.to s [] [] hl rfl
  simpa [pick] using this
/-! ### a call of what a name holds -/
theorem x_fnr {G : Gam} {x : Str} {p : Pos} (hm : X.mg = Γ.mg) (hx : ∀ fd, G.fns x = some fd → ∃ a : Addr, X.mg x = some (.ref a)) (hg : Gl X x) (hdb : (x == ("__debug__" : Str)) = false) : PE X (.Name x p) (rdX Γ W false fun _ s => vFnr G x s) := by
  refine ⟨fun pins s σ H Q I ⟨K0, F, φ, η, s', S, r⟩ => ?_⟩
  cases hf : G.fns x with
  | none => simp only [vFnr, hf] at r; exact r.elim
  | some fd =>
    simp only [vFnr, hf] at r
    obtain ⟨a, ha⟩ := hx fd hf
    exact ld_glob I hg ha ⟨.ref a, H, I, rfl, r.here S _ (show RD Γ.K Γ.mg F φ (V.ref a) (.fn x) from ⟨a, by rw [← hm]; exact ha, rfl⟩)⟩ hdb
def Rdv (Γ : Kn) (W : EW) (K0 : Hp) (η : Env) (σ : L2.St) (C : Str → List D → Sto → R D) (G : Gam) (l : List ES) (Q : VK) (v : V) (H1 : Hp) : Prop := ∃ F1 φ1 d s1, Sim Γ K0 F1 φ1 η s1 σ H1 ∧ RD Γ.K Γ.mg F1 φ1 v d ∧ Run Γ W K0 F1 φ1 η σ (callX C G d l η s1) fun F' φ' H' d _ => ∀ x, FD false Γ K0 F' φ' H' x d → Q x H'
theorem callX_some {C : Str → List D → Sto → R D} {G : Gam} {d : D} {l : List ES} {K0 F : Hp} {φ : List Addr} {η : Env} {σ : L2.St} {s : Sto} {k : Hp → List Addr → Hp → D → Sto → Prop} (r : Run Γ W K0 F φ η σ (callX C G d l η s) k) : ∃ f fd, d = .fn f ∧ G.fns f = some fd ∧ Run Γ W K0 F φ η σ ((seqV l η s).bd fun ds s => callD C f fd ds s) k := by
  cases d with
  | fn f =>
    simp only [callX, callO] at r
    cases hf : G.fns f with
    | none => rw [hf] at r; exact r.elim
    | some fd =>
      rw [hf] at r
      exact ⟨f, fd, rfl, hf, r⟩
  | _ => exact r.elim
theorem x_callv {k : Nat} (hK : X.K = Γ.K) (hm : X.mg = Γ.mg) {Wx : WX} (tk : Takes X Wx) (hW : W = WQ Γ Wx) {C : Str → List D → Sto → R D} {G : Gam} (hc : ∀ f fd, G.fns f = some fd → ∃ kb, Clb X.prog X.w X.K X.mg X.base k (C f) f fd kb) (hr : Room k X.A) (hg : X.A.guards = some [])
    {i : Nat} {x : Str} {p pos : Pos} (hv : PE X (.Name x p) (rdX Γ W false fun η s => look η i s)) {e : Expr} {es : List Expr} {l : List ES} (hp : (e :: es).all plainE = true) (ha : PA X (e :: es) (rdA Γ W false (seqV l))) :
    PE X (.Call (.Name x p) (e :: es) [] pos) (rdX Γ W false (vCallv C G i l)) := by
  refine ⟨fun pins s σ H Q I ⟨K0, F, φ, η, s', S, r⟩ => ?_⟩
  refine wpAny_Call_Name_kw (thn (hv.run pins s σ H (Rdv Γ W K0 η σ C G l Q) I ⟨K0, F, φ, η, s', S, (Run.step r).mono fun F1 φ1 H1 d s1 l1 p1 S1 r1 xv hx => ⟨F1, φ1, d, s1, S1, hx, r1⟩⟩) fun fv s1 ⟨v, H1, I1, rv, F1, φ1, d, t1, S1, hd, r1⟩ => ?_)
  obtain ⟨f, fd, rfl, hf, r1⟩ := callX_some r1
  obtain ⟨kb, hcl⟩ := hc f fd hf
  obtain ⟨a, fdd, h1, h2, h3, h4, _⟩ := hcl.ex
  obtain ⟨a', h5, rfl⟩ : ∃ a', Γ.mg f = some (.ref a') ∧ v = .ref a' := hd
  have ea : a' = a := by
    rw [← hm, h1] at h5
    cases h5; rfl
  subst ea
  cases rv
  rw [List.all_cons, Bool.and_eq_true] at hp
  refine PySem.W.callWith_K (h₀ := X.base) I1.ok.mod.kin h2 (thn (ha.run pos pins s1 σ H1 _ I1 (rdy_of (c := fun ds s => callD C f fd ds s) (fr := false) S1 r1)) fun us s2 ⟨vs, H2, I2, r2, F2, φ2, ds, t2, hz, S2, hv, r3⟩ => ⟨I2.kIn, ?_⟩) (star_cons hp.1 _ _) (star_back _ _ hp.2)
  simp only [callD] at r3
  split at r3
  · rename_i hl
    have hlu : us.length = fd.ps.length := by rw [← r2.length, hv.len, hl]
    refine h3.call tk hr hg I2 ?_ hlu r2 (call_ends hK hm hW S2 hv.rds (Run.chill r3 fd.fr))
    have := h4.to s2 us [] hlu rfl
    simpa [pick] using this
  · exact r3.elim
/-! ### keywords -/
theorem pk_imp {kws : List Keyword} {t t' : TA} (h : PK X kws t) (hi : ∀ σ H Q, t' σ H Q → t σ H Q) : PK X kws t' := ⟨fun pos pins s σ H Q I hw => h.run pos pins s σ H Q I (hi σ H Q hw)⟩
theorem xk_nil : PK X [] (rdA Γ W false (seqV [])) := pk_imp pk_nil fun σ H Q ⟨K0, F, φ, η, s, S, r⟩ => Run.here r S [] .nil
theorem xk_cons {nm : Option Str} {e : Expr} {kpos : Pos} {kws : List Keyword} {A : ES} {l : List ES} (ha : PE X e (rdO Γ W false A.v)) (hr : PK X kws (rdA Γ W false (seqV l))) : PK X (⟨nm, e, kpos⟩ :: kws) (rdA Γ W false (seqV (A :: l))) := by
  refine pk_imp (pk_cons ha hr) fun σ H Q ⟨K0, F, φ, η, s, S, r⟩ => ?_
  refine ⟨K0, F, φ, η, s, S, (Run.step r).mono fun F1 φ1 H1 x s1 l1 p1 S1 r1 xv hx => ⟨K0, F1, φ1, η, s1, S1, (Run.step r1).mono fun F2 φ2 H2 y s2 l2 p2 S2 r2 yv hy => ?_⟩⟩
  exact Run.here r2 S2 (xv :: yv) (.cons (hx.mono l2 p2) hy)
theorem seq_app : ∀ (l m : List ES) (η : Env) (s : Sto), seqV (l ++ m) η s = (seqV l η s).bd fun ds s => (seqV m η s).bd fun es s => .ok (ds ++ es) s
  | [], m, η, s => by
    show seqV m η s = (R.ok [] s).bd fun ds s => (seqV m η s).bd fun es s => .ok (ds ++ es) s
    rw [R.bd_ok]
    cases seqV m η s <;> rfl
  | a :: l, m, η, s => by
    show (a.v η s).bd (fun d s => (seqV (l ++ m) η s).bd fun ds s => .ok (d :: ds) s) = ((a.v η s).bd fun d s => (seqV l η s).bd fun ds s => .ok (d :: ds) s).bd _
    cases a.v η s with
    | ok d s1 =>
      simp only [R.bd_ok]
      rw [seq_app l m η s1]
      cases seqV l η s1 with
      | ok ds s2 =>
        simp only [R.bd_ok]
        cases seqV m η s2 <;> rfl
      | er x s2 => rfl
      | no => rfl
    | er x s1 => rfl
    | no => rfl
theorem kw_names {env : PySem.Env} (pos : Pos) : ∀ {kws : List Keyword} {ns : List Str}, kws.map (·.arg) = ns.map some →
    (backToKw pos (keywordEach kws env)).all (·.1.isSome) = true ∧ (backToKw pos (keywordEach kws env)).filterMap (·.1) = ns ∧ (backToKw pos (keywordEach kws env)).any (·.1.isNone) = false
  | [], [], _ => ⟨rfl, rfl, rfl⟩
  | ⟨a, e, p⟩ :: kws, n :: ns, h => by
    rw [List.map_cons, List.map_cons, List.cons.injEq] at h
    obtain ⟨h1, h2⟩ := h
    have h1 : a = some n := h1
    subst h1
    obtain ⟨q1, q2, q3⟩ := kw_names (env := env) pos h2
    refine ⟨?_, ?_, ?_⟩
    · show (true && _) = true
      rw [Bool.true_and]; exact q1
    · show n :: _ = _
      exact congrArg (n :: ·) q2
    · show (false || _) = false
      rw [Bool.false_or]; exact q3
  | [], _ :: _, h => by simp at h
  | _ :: _, [], h => by simp at h
theorem run_app {l m : List ES} {K0 F : Hp} {φ : List Addr} {η : Env} {s : Sto} {σ : L2.St} {β : Type} {f : List D → Sto → R β} {k : Hp → List Addr → Hp → β → Sto → Prop} (r : Run Γ W K0 F φ η σ ((seqV (l ++ m) η s).bd f) k) :
    Run Γ W K0 F φ η σ (seqV l η s) fun F1 φ1 _ ds s1 => ds.length = l.length ∧ Run Γ W K0 F1 φ1 η σ (seqV m η s1) fun F2 φ2 _ es s2 => es.length = m.length ∧ Run Γ W K0 F2 φ2 η σ (f (ds ++ es) s2) k := by
  have e : (seqV (l ++ m) η s).bd f = (seqV l η s).bd fun ds s => (seqV m η s).bd fun es s => f (ds ++ es) s := by
    rw [seq_app]
    cases seqV l η s with
    | ok ds s1 =>
      simp only [R.bd_ok]
      cases seqV m η s1 <;> rfl
    | er x s1 => rfl
    | no => rfl
  rw [e] at r
  exact (seq_len (Run.step r)).mono fun F1 φ1 H1 ds s1 l1 p1 S1 ⟨hz, r1⟩ => ⟨hz, (seq_len (Run.step r1)).mono fun F2 φ2 H2 es s2 l2 p2 S2 q => q⟩
theorem ODs.app {o : Bool} {F : Hp} {φ : List Addr} {η : Env} {σ : L2.St} : ∀ {vs ws : List V} {ds es : List D}, ODs o Γ F φ η σ vs ds → ODs o Γ F φ η σ ws es → ODs o Γ F φ η σ (vs ++ ws) (ds ++ es)
  | _, _, _, _, .nil, s => s
  | _, _, _, _, .cons a r, s => .cons a (ODs.app r s)
section
variable {k : Nat} {c : Str → List D → Sto → R D} {f : Str} {fd : Fd} {kb : List (Nat × List Str × List Nat)} {l m : List ES} {ns : List Str} {π : List Nat}
/-- behind the arguments, those by name too -/
theorem kw_end {K0 F H1 : Hp} {φ : List Addr} {η : Env} {σ : L2.St} {s1 : Sto} {t1 : Shared} {pins : List (Addr × Obj)} {Q : VK} {us ws : List Value} {vs zs : List V} {ds es : List D} {a : Addr} {fdd : FuncData} (hK : X.K = Γ.K) (hm : X.mg = Γ.mg) {Wx : WX} (tk : Takes X Wx) (hW : W = WQ Γ Wx)
    (h3 : FnG X.prog X.w X.K X.mg X.base k a fdd fd.ps (spZ X.K X.mg fd.fr (c f))) (hb : Bnd fdd fd.ps l.length ns π) (hr : Room k X.A) (hg : X.A.guards = some []) (hmn : m.length = ns.length) (I1 : Inv X pins σ H1 t1) (ru : Vals vs us) (rw' : Vals zs ws) (hd : ds.length = l.length) (he : es.length = m.length)
    (S1 : Sim Γ K0 F φ η s1 σ H1) (hv : ODs false Γ F φ η σ vs ds) (hz : ODs false Γ F φ η σ zs es) (r : Run Γ W K0 F φ η σ (c f (kArgs l.length π (ds ++ es)) s1) fun F' φ' H' d _ => ∀ x, FD fd.fr Γ K0 F' φ' H' x d → Q x H') :
    wpAny (model X.prog X.w) X.A (call (.ref a) us (ns.zip ws)) (EP X pins σ Q) X.xe t1 := by
  have e1 : kArgs l.length π (ds ++ es) = ds ++ pick π es := by
    unfold kArgs
    rw [← hd, List.take_left, List.drop_left]
  rw [e1] at r
  have lz : zs.length = ns.length := by rw [hz.len, he, hmn]
  have lu : us.length = l.length := by rw [← ru.length, hv.len, hd]
  have lw : ws.length = ns.length := by rw [← rw'.length, lz]
  have hlt : ∀ i ∈ π, i < zs.length := fun i hi => by rw [lz]; exact hb.lt i hi
  have rr : Vals (vs ++ pick π zs) (us ++ pick π ws) := ru.append (pick_vals rw' π hlt)
  refine h3.call tk (us := us ++ pick π ws) hr hg I1 (hb.to t1 us ws lu lw) ?_ rr (call_ends hK hm hW S1 (hv.rds.app (hz.rds.pick π hlt)) r)
  rw [List.length_append, pick_len (fun i hi => by rw [lw]; exact hb.lt i hi), lu]
  exact hb.len
theorem x_callk (hK : X.K = Γ.K) (hm : X.mg = Γ.mg) {Wx : WX} (tk : Takes X Wx) (hW : W = WQ Γ Wx) (hc : Clb X.prog X.w X.K X.mg X.base k (c f) f fd kb) (hr : Room k X.A) (hg : X.A.guards = some []) (hgl : Gl X f) (hdb : (f == ("__debug__" : Str)) = false) (hkb : (l.length, ns, π) ∈ kb)
    {p pos : Pos} {e : Expr} {es : List Expr} {kws : List Keyword} (hp : (e :: es).all plainE = true) (hns : kws.map (·.arg) = ns.map some) (hmn : m.length = ns.length) (ha : PA X (e :: es) (rdA Γ W false (seqV l))) (hk : PK X kws (rdA Γ W false (seqV m))) :
    PE X (.Call (.Name f p) (e :: es) kws pos) (rdX Γ W fd.fr (vCallk c f l m π)) := by
  obtain ⟨a, fdd, h1, h2, h3, _, h5⟩ := hc.ex
  obtain ⟨n1, n2, n3⟩ := kw_names (env := X.env) pos hns
  refine ⟨fun pins s σ H Q I ⟨K0, F, φ, η, s', S, r⟩ => ?_⟩
  refine wpAny_Call_Name_kw (ld_glob I hgl h1 ?_ hdb)
  have hp' := hp
  rw [List.all_cons, Bool.and_eq_true] at hp'
  have r := run_app r
  refine PySem.W.callWith_KW (h₀ := X.base) I.ok.mod.kin h2 n1 (thn (ha.run pos pins s σ H (fun vs H1 => ∃ F1 φ1 ds s1, ds.length = l.length ∧ Sim Γ K0 F1 φ1 η s1 σ H1 ∧ ODs false Γ F1 φ1 η σ vs ds ∧ Run Γ W K0 F1 φ1 η σ (seqV m η s1) fun F2 φ2 _ es s2 => es.length = m.length ∧ Run Γ W K0 F2 φ2 η σ (c f (kArgs l.length π (ds ++ es)) s2) fun F' φ' H' d _ => ∀ x, FD fd.fr Γ K0 F' φ' H' x d → Q x H') I
    ⟨K0, F, φ, η, s', S, r.mono fun F1 φ1 H1 ds s1 l1 p1 S1 ⟨hz, r1⟩ xs hx => ⟨F1, φ1, ds, s1, hz, S1, hx, r1⟩⟩) fun us s1 ⟨vs, H1, I1, r1, F1, φ1, ds, t1, hz, S1, hv, r2⟩ => ?_) (by rw [star_back _ _ hp, n3]; rfl) (star_cons hp'.1 _ _)
  refine thn (hk.run pos pins s1 σ H1 (fun zs H2 => ∃ F2 φ2 es s2, es.length = m.length ∧ Sim Γ K0 F2 φ2 η s2 σ H2 ∧ HLe F1 F2 ∧ PLe φ1 φ2 ∧ ODs false Γ F2 φ2 η σ zs es ∧ Run Γ W K0 F2 φ2 η σ (c f (kArgs l.length π (ds ++ es)) s2) fun F' φ' H' d _ => ∀ x, FD fd.fr Γ K0 F' φ' H' x d → Q x H') I1
    ⟨K0, F1, φ1, η, t1, S1, r2.mono fun F2 φ2 H2 es s2 l2 p2 S2 ⟨hy, q⟩ zs hzs => ⟨F2, φ2, es, s2, hy, S2, l2, p2, hzs, q⟩⟩) fun ws s2 ⟨zs, H2, I2, rz, F2, φ2, es, t2, hy, S2, l2, p2, hzs, q⟩ => ⟨I2.kIn, ?_⟩
  rw [n2]
  exact kw_end hK hm tk hW h3 (h5 _ hkb) hr hg hmn I2 r1 rz hz hy S2 (hv.mono l2 p2) hzs q
theorem x_callk0 (hK : X.K = Γ.K) (hm : X.mg = Γ.mg) {Wx : WX} (tk : Takes X Wx) (hW : W = WQ Γ Wx) (hc : Clb X.prog X.w X.K X.mg X.base k (c f) f fd kb) (hr : Room k X.A) (hg : X.A.guards = some []) (hgl : Gl X f) (hdb : (f == ("__debug__" : Str)) = false) (hkb : (0, ns, π) ∈ kb)
    {p pos : Pos} {kws : List Keyword} (hns : kws.map (·.arg) = ns.map some) (hmn : m.length = ns.length) (hk : PK X kws (rdA Γ W false (seqV m))) :
    PE X (.Call (.Name f p) [] kws pos) (rdX Γ W fd.fr (vCallk c f [] m π)) := by
  obtain ⟨a, fdd, h1, h2, h3, _, h5⟩ := hc.ex
  obtain ⟨n1, n2, n3⟩ := kw_names (env := X.env) pos hns
  refine ⟨fun pins s σ H Q I ⟨K0, F, φ, η, s', S, r⟩ => ?_⟩
  refine wpAny_Call_Name_kw (ld_glob I hgl h1 ?_ hdb)
  refine PySem.W.callWith_KW0 (h₀ := X.base) I.ok.mod.kin h2 n1 ?_ (by rw [star_back _ _ rfl, n3]; rfl)
  refine thn (hk.run pos pins s σ H (fun zs H2 => ∃ F2 φ2 es s2, es.length = m.length ∧ Sim Γ K0 F2 φ2 η s2 σ H2 ∧ ODs false Γ F2 φ2 η σ zs es ∧ Run Γ W K0 F2 φ2 η σ (c f (kArgs 0 π ([] ++ es)) s2) fun F' φ' H' d _ => ∀ x, FD fd.fr Γ K0 F' φ' H' x d → Q x H') I
    ⟨K0, F, φ, η, s', S, (seq_len (Run.step r)).mono fun F2 φ2 H2 es s2 l2 p2 S2 ⟨hy, q⟩ zs hzs => ⟨F2, φ2, es, s2, hy, S2, hzs, q⟩⟩) fun ws s2 ⟨zs, H2, I2, rz, F2, φ2, es, t2, hy, S2, hzs, q⟩ => ⟨I2.kIn, ?_⟩
  rw [n2]
  exact kw_end (l := []) hK hm tk hW h3 (h5 _ hkb) hr hg hmn I2 .nil rz rfl hy S2 .nil hzs q
end
end
end Z
end

section
set_option maxRecDepth 100000
set_option maxHeartbeats 4000000
/-! Statements: their readings, and a rule for each form. -/
namespace Z
open PySem PySem.Spec PyProof.Rows L2
variable [HW]

/-- the state between two statements: K00 what others hold; what a name holds for its own is not theirs -/
structure SimS (Γ : Kn) (K00 F : Hp) (φ : List Addr) (η : Env) (s : Sto) (σ : L2.St) (H : Hp) : Prop where
  ex : ∃ K0, HLe K00 K0 ∧ (∀ (i : Nat) d a, d.isOwn = true → η[i]? = some (some d) → σ[i]? = some (some (.ref a)) → K00 a = none) ∧ Sim Γ K0 F φ η s σ H
/-- slots not in L are as they were -/
def Fr (L : List Nat) (σ σ' : L2.St) : Prop := ∀ j, j ∉ L → σ'[j]? = σ[j]?
theorem Fr.refl {L : List Nat} {σ : L2.St} : Fr L σ σ := fun _ _ => rfl
theorem Fr.trans {L : List Nat} {σ σ1 σ2 : L2.St} (h : Fr L σ σ1) (h' : Fr L σ1 σ2) : Fr L σ σ2 := fun j hj => (h' j hj).trans (h j hj)
theorem Fr.mono {L L' : List Nat} {σ σ1 : L2.St} (h : Fr L σ σ1) (hl : ∀ j ∈ L, j ∈ L') : Fr L' σ σ1 := fun j hj => h j fun z => hj (hl j z)
theorem Fr.set {L : List Nat} {σ : L2.St} {i : Nat} {v : Option V} (hi : i ∈ L) : Fr L σ (σ.set i v) := fun j hj => List.getElem?_set_ne fun (z : i = j) => hj (z ▸ hi)
/-- from here on the statements come to r -/
def RunS (Γ : Kn) (W : EW) (fr : Bool) (K00 F : Hp) (φ : List Addr) (σ : L2.St) (L : List Nat) (r : RS) (D : Ends) : Prop := match r with
  | .fl (.nx η) s => ∀ F' φ' σ' H', HLe F F' → PLe φ φ' → Fr L σ σ' → SimS Γ K00 F' φ' η s σ' H' → D.nx σ' H'
  | .fl (.bk η) s => ∀ F' φ' σ' H', HLe F F' → PLe φ φ' → Fr L σ σ' → SimS Γ K00 F' φ' η s σ' H' → D.bk σ' H'
  | .fl (.ct η) s => ∀ F' φ' σ' H', HLe F F' → PLe φ φ' → Fr L σ σ' → SimS Γ K00 F' φ' η s σ' H' → D.ct σ' H'
  | .fl (.rt d) s => ∀ F' φ' H' x, HLe F F' → PLe φ φ' → World Γ K00 F' φ' s H' → FD fr Γ K00 F' φ' H' x d → D.rt x H'
  | .er x η s => ∀ K0 F' φ' σ' H', HLe K00 K0 → HLe F F' → PLe φ φ' → Fr L σ σ' → Sim Γ K0 F' φ' η s σ' H' → W K0 F' φ' η s σ' H' x
  | .no => False
/-- the reading of a statement (of some) -/
def rdS (Γ : Kn) (W : EW) (fr : Bool) (L : List Nat) (x : Env → Sto → RS) : TS := fun D σ H => ∃ K00 F φ η s, SimS Γ K00 F φ η s σ H ∧ RunS Γ W fr K00 F φ σ L (x η s) D
section
variable {Γ : Kn} {W : EW} {fr : Bool} {K00 F F1 H : Hp} {φ φ1 : List Addr} {η : Env} {s : Sto} {σ σ1 : L2.St} {L L' : List Nat} {D : Ends}
theorem RunS.later {r : RS} (h : RunS Γ W fr K00 F φ σ L r D) (l : HLe F F1) (p : PLe φ φ1) (q : Fr L σ σ1) : RunS Γ W fr K00 F1 φ1 σ1 L r D := by
  cases r with
  | fl f s =>
    cases f with
    | nx η => exact fun F' φ' σ' H' l' p' q' S => h F' φ' σ' H' (l.trans l') (PLe.trans' p p') (q.trans q') S
    | bk η => exact fun F' φ' σ' H' l' p' q' S => h F' φ' σ' H' (l.trans l') (PLe.trans' p p') (q.trans q') S
    | ct η => exact fun F' φ' σ' H' l' p' q' S => h F' φ' σ' H' (l.trans l') (PLe.trans' p p') (q.trans q') S
    | rt d => exact fun F' φ' H' x l' p' S => h F' φ' H' x (l.trans l') (PLe.trans' p p') S
  | er x η s => exact fun K0 F' φ' σ' H' lk l' p' q' S => h K0 F' φ' σ' H' lk (l.trans l') (PLe.trans' p p') (q.trans q') S
  | no => exact h
theorem RunS.fewer {r : RS} (h : RunS Γ W fr K00 F φ σ L r D) (hl : ∀ j ∈ L', j ∈ L) : RunS Γ W fr K00 F φ σ L' r D := by
  cases r with
  | fl f s =>
    cases f with
    | nx η => exact fun F' φ' σ' H' l' p' q' S => h F' φ' σ' H' l' p' (q'.mono hl) S
    | bk η => exact fun F' φ' σ' H' l' p' q' S => h F' φ' σ' H' l' p' (q'.mono hl) S
    | ct η => exact fun F' φ' σ' H' l' p' q' S => h F' φ' σ' H' l' p' (q'.mono hl) S
    | rt d => exact h
  | er x η s => exact fun K0 F' φ' σ' H' lk l' p' q' S => h K0 F' φ' σ' H' lk l' p' (q'.mono hl) S
  | no => exact h
theorem RunS.next {η : Env} (h : RunS Γ W fr K00 F φ σ L (.fl (.nx η) s) D) (S : SimS Γ K00 F φ η s σ H) : D.nx σ H := h F φ σ H (HLe.refl F) PLe.rfl' Fr.refl S
/-- behind an expression -/
theorem RunS.of {α : Type} {K0 : Hp} {m : R α} {f : α → Sto → RS} (h : RunS Γ W fr K00 F φ σ L (RS.of η m f) D) (lk : HLe K00 K0) : Run Γ W K0 F φ η σ m fun F1 φ1 _ a s1 => RunS Γ W fr K00 F1 φ1 σ L (f a s1) D := by
  cases m with
  | ok a s1 => exact fun F' φ' H' l p S => RunS.later h l p Fr.refl
  | er x s1 => exact fun F' φ' H' l p S => h K0 F' φ' σ H' lk l p Fr.refl S
  | no => exact h
theorem RunS.some {α : Type} {o : Option α} {f : α → Sto → RS} (h : RunS Γ W fr K00 F φ σ L (RS.of η (R.opt o s) f) D) : ∃ a, o = some a ∧ RunS Γ W fr K00 F φ σ L (f a s) D := by
  cases o with
  | none => exact h.elim
  | some a => exact ⟨a, rfl, h⟩
/-- one statement, then others -/
theorem RunS.seq {r : RS} {f : Env → Sto → RS} (h : RunS Γ W fr K00 F φ σ L (r.nxt f) D) {N : L2.St → Hp → Prop} (hN : ∀ σ1 H1 F1 φ1 η1 s1, SimS Γ K00 F1 φ1 η1 s1 σ1 H1 → RunS Γ W fr K00 F1 φ1 σ1 L (f η1 s1) D → N σ1 H1) : RunS Γ W fr K00 F φ σ L r { D with nx := N } := by
  cases r with
  | fl g s =>
    cases g with
    | nx η => exact fun F' φ' σ' H' l p q S => hN σ' H' F' φ' η s S (RunS.later h l p q)
    | bk η => exact h
    | ct η => exact h
    | rt d => exact h
  | er x η s => exact h
  | no => exact h
/-- a turn of a loop, then the loop -/
theorem RunS.turn {r : RS} {f : Env → Sto → RS} (h : RunS Γ W fr K00 F φ σ L (r.turn f) D) {N : L2.St → Hp → Prop} (hN : ∀ σ1 H1 F1 φ1 η1 s1, HLe F F1 → PLe φ φ1 → Fr L σ σ1 → SimS Γ K00 F1 φ1 η1 s1 σ1 H1 → RunS Γ W fr K00 F1 φ1 σ1 L (f η1 s1) D → N σ1 H1) :
    RunS Γ W fr K00 F φ σ L r { D with nx := N, ct := N, bk := D.nx } := by
  cases r with
  | fl g s =>
    cases g with
    | nx η => exact fun F' φ' σ' H' l p q S => hN σ' H' F' φ' η s l p q S (RunS.later h l p q)
    | bk η => exact h
    | ct η => exact fun F' φ' σ' H' l p q S => hN σ' H' F' φ' η s l p q S (RunS.later h l p q)
    | rt d => exact h
  | er x η s => exact h
  | no => exact h

/-! ### the state -/
theorem Sim.toWorld {K0 : Hp} (S : Sim Γ K0 F φ η s σ H) (lk : HLe K00 K0) : World Γ K00 F φ s H :=
  ⟨fun a o e => S.kp a o (lk a o e), S.fz, S.nd, S.ln, S.so, rfl, fun i d _ e => by simp at e, fun i d _ e => by simp at e, fun i j a d e _ _ h => by simp at h, ⟨S.tb.tabs, fun a o e => S.tb.k0 a o (lk a o e), S.tb.ff⟩⟩
theorem FD.less {b : Bool} {K0 : Hp} {x : V} {d : Z.D} (lk : HLe K00 K0) (h : FD b Γ K0 F φ H x d) : FD b Γ K00 F φ H x d := by
  cases b with
  | false => exact h
  | true =>
    cases d with
    | dat d => cases d with
      | list ds =>
        obtain ⟨a, vs, h1, h2, h3, h4, h5, h6⟩ := h
        refine ⟨a, vs, h1, h2, h3, h4, h5, ?_⟩
        cases e : K00 a with
        | none => rfl
        | some o => rw [lk a o e] at h6; cases h6
      | _ => exact h
    | _ => exact h
theorem SimS.put {K0 : Hp} {i : Nat} {v : V} {d : Z.D} (lk : HLe K00 K0) (no : ∀ (i : Nat) d a, d.isOwn = true → η[i]? = some (some d) → σ[i]? = some (some (.ref a)) → K00 a = none) (S : Sim Γ K0 F φ η s σ H) (hi : d.isOwn = false) (hl : i < η.length)
    (r : RD Γ.K Γ.mg F φ v d) : SimS Γ K00 F φ (η.set i (some d)) s (σ.set i (some v)) H := by
  refine ⟨K0, lk, fun j e a he e1 e2 => ?_, S.put hi hl r⟩
  by_cases z : i = j
  · subst z
    rw [List.getElem?_set_self hl] at e1
    cases e1
    rw [hi] at he; cases he
  · rw [List.getElem?_set_ne z] at e1 e2
    exact no j e a he e1 e2
theorem none_of {K0 : Hp} (lk : HLe K00 K0) {a : Addr} (h : K0 a = none) : K00 a = none := by
  cases e : K00 a with
  | none => rfl
  | some o => rw [lk a o e] at h; cases h
theorem SimS.takeC {K0 : Hp} {i : Nat} {a : Addr} {d0 : Z.D} {o : HO} (hd : d0.isOwn = true) (lk : HLe K00 K0) (no : ∀ (i : Nat) d a, d.isOwn = true → η[i]? = some (some d) → σ[i]? = some (some (.ref a)) → K00 a = none) (S : Sim Γ K0 F φ η s σ H) (hl : i < η.length)
    (ha : H a = some o) (hr : ConAt Γ.K F (upd K0 a o) a d0) (h1 : F a = none) (h2 : a ∉ φ) (h3 : K0 a = none) : SimS Γ K00 F φ (η.set i (some d0)) s (σ.set i (some (.ref a))) H := by
  have hl' : i < σ.length := by rw [← S.sz]; exact hl
  refine ⟨_, lk.trans (HLe.upd h3), fun j e b he e1 e2 => ?_, S.takeC hd hl ha hr h1 h2 h3⟩
  by_cases z : i = j
  · subst z
    rw [List.getElem?_set_self hl'] at e2
    cases e2
    exact none_of lk h3
  · rw [List.getElem?_set_ne z] at e1 e2
    exact no j e b he e1 e2
theorem SimS.writeC {K0 : Hp} {i : Nat} {a : Addr} {d0 d1 : Z.D} {o : HO} (hd : d1.isOwn = true) (lk : HLe K00 K0) (no : ∀ (i : Nat) d a, d.isOwn = true → η[i]? = some (some d) → σ[i]? = some (some (.ref a)) → K00 a = none) (S : Sim Γ K0 F φ η s σ H)
    (hi : d0.isOwn = true) (he : η[i]? = some (some d0)) (ha : σ[i]? = some (some (.ref a))) (hr : ConAt Γ.K F (upd K0 a o) a d1) : SimS Γ K00 F φ (η.set i (some d1)) s σ (upd H a o) := by
  have hl : i < η.length := (List.getElem?_eq_some_iff.mp he).1
  have ka := no i d0 a hi he ha
  refine ⟨_, fun b u e => by rw [upd_ne (fun z => by subst z; rw [ka] at e; cases e)]; exact lk b u e, fun j e b he' e1 e2 => ?_, S.writeC hd hi he ha hr⟩
  by_cases z : i = j
  · subst z
    rw [ha] at e2
    cases e2
    exact ka
  · rw [List.getElem?_set_ne z] at e1
    exact no j e b he' e1 e2
theorem SimS.take {K0 : Hp} {i : Nat} {a : Addr} {ds : List PyData} {vs : List V} (lk : HLe K00 K0) (no : ∀ (i : Nat) d a, d.isOwn = true → η[i]? = some (some d) → σ[i]? = some (some (.ref a)) → K00 a = none) (S : Sim Γ K0 F φ η s σ H) (hl : i < η.length)
    (ha : H a = some (.lst vs)) (hr : RvAll Γ.K F vs ds) (h1 : F a = none) (h2 : a ∉ φ) (h3 : K0 a = none) : SimS Γ K00 F φ (η.set i (some (.own ds))) s (σ.set i (some (.ref a))) H :=
  SimS.takeC rfl lk no S hl ha ⟨vs, upd_same, hr⟩ h1 h2 h3
theorem SimS.write {K0 : Hp} {i : Nat} {a : Addr} {d0 : Z.D} {ds : List PyData} {vs : List V} (lk : HLe K00 K0) (no : ∀ (i : Nat) d a, d.isOwn = true → η[i]? = some (some d) → σ[i]? = some (some (.ref a)) → K00 a = none) (S : Sim Γ K0 F φ η s σ H)
    (hi : d0.isOwn = true) (he : η[i]? = some (some d0)) (ha : σ[i]? = some (some (.ref a))) (hr : RvAll Γ.K F vs ds) : SimS Γ K00 F φ (η.set i (some (.own ds))) s σ (upd H a (.lst vs)) :=
  SimS.writeC rfl lk no S hi he ha ⟨vs, upd_same, hr⟩
theorem SimS.store {K0 : Hp} {n : Nat} {a : Addr} {ob : Ob} {o : HO} (lk : HLe K00 K0) (no : ∀ (i : Nat) d a, d.isOwn = true → η[i]? = some (some d) → σ[i]? = some (some (.ref a)) → K00 a = none) (S : Sim Γ K0 F φ η s σ H)
    (he : φ[n]? = some a) (h4 : ObAt Γ.K F (upd H a o) a ob) : SimS Γ K00 F φ η (s.set n ob) σ (upd H a o) := ⟨K0, lk, no, S.store he h4⟩
/-- an own list is frozen -/
theorem Sim.freeze {K0 : Hp} {v : Nat} {xs : List PyData} (S : Sim Γ K0 F φ η s σ H) (lk : HLe K00 K0) (no : ∀ (i : Nat) d a, d.isOwn = true → η[i]? = some (some d) → σ[i]? = some (some (.ref a)) → K00 a = none) (he : η[v]? = some (some (.own xs))) :
    ∃ F1, HLe F F1 ∧ SimS Γ K00 F1 φ (η.set v (some (.dat (.list xs)))) s σ H ∧ ∃ a, σ[v]? = some (some (.ref a)) ∧ Rv Γ.K F1 (.ref a) (.list xs) := by
  obtain ⟨a, q1, vs, q2, q3⟩ := S.ow v _ rfl he
  obtain ⟨g1, g2, g3⟩ := S.kp a _ q2
  have ka := no v _ a rfl he q1
  have hl : v < η.length := (List.getElem?_eq_some_iff.mp he).1
  have hle : HLe F (upd F a (.lst vs)) := HLe.upd g2
  let K1 : Hp := fun b => if b = a then none else K0 b
  have k1 : ∀ {b o}, K1 b = some o → b ≠ a ∧ K0 b = some o := fun {b o} e => by
    show b ≠ a ∧ _
    by_cases z : b = a
    · rw [show K1 b = none from if_pos z] at e; cases e
    · rw [show K1 b = K0 b from if_neg z] at e; exact ⟨z, e⟩
  have k2 : ∀ {b o}, b ≠ a → K0 b = some o → K1 b = some o := fun {b o} z e => by rw [show K1 b = K0 b from if_neg z]; exact e
  refine ⟨upd F a (.lst vs), hle, ⟨K1, fun b o e => k2 (fun z => by subst z; rw [ka] at e; cases e) (lk b o e), fun j d b hd e1 e2 => ?_, ?_⟩, a, q1, .lst upd_same (q3.mono hle)⟩
  · by_cases z : v = j
    · subst z; rw [List.getElem?_set_self hl] at e1; cases e1; cases hd
    · rw [List.getElem?_set_ne z] at e1; exact no j d b hd e1 e2
  · refine ⟨fun b o e => ?_, fun b o e => ?_, S.nd, S.ln, fun n b ob e1 e2 => (S.so n b ob e1 e2).mono hle fun _ e => e, by simp [S.sz], fun j d hd e => ?_, fun j d hd e => ?_, fun i j b d e hd he' e1 e2 e3 e4 => ?_, TabW.inF ⟨S.tb.tabs, fun b o e => S.tb.k0 b o (k1 e).2, S.tb.ff⟩ nofun⟩
    · obtain ⟨z, e⟩ := k1 e
      obtain ⟨r1, r2, r3⟩ := S.kp b o e
      exact ⟨r1, by rw [upd_ne z]; exact r2, r3⟩
    · by_cases z : b = a
      · subst z; rw [upd_same] at e; cases e; exact ⟨g1, g3⟩
      · rw [upd_ne z] at e; exact S.fz b o e
    · by_cases z : v = j
      · subst z
        rw [List.getElem?_set_self hl] at e
        cases e
        exact ⟨_, q1, .lst upd_same (q3.mono hle)⟩
      · rw [List.getElem?_set_ne z] at e
        obtain ⟨u, r1, r2⟩ := S.sl j d hd e
        exact ⟨u, r1, r2.mono hle PLe.rfl'⟩
    · by_cases z : v = j
      · subst z; rw [List.getElem?_set_self hl] at e; cases e; cases hd
      · rw [List.getElem?_set_ne z] at e
        obtain ⟨b, r1, r2⟩ := S.ow j d hd e
        exact ⟨b, r1, r2.mono hle fun o e' => k2 (fun (y : b = a) => z (S.ds v j a _ d rfl hd he e q1 (by rw [← y]; exact r1))) e'⟩
    · have z1 : v ≠ i := fun z => by subst z; rw [List.getElem?_set_self hl] at e1; cases e1; cases hd
      have z2 : v ≠ j := fun z => by subst z; rw [List.getElem?_set_self hl] at e2; cases e2; cases he'
      rw [List.getElem?_set_ne z1] at e1
      rw [List.getElem?_set_ne z2] at e2
      exact S.ds i j b d e hd he' e1 e2 e3 e4
end
end Z
end

section
set_option maxRecDepth 100000
set_option maxHeartbeats 4000000
/-! Rules of statements. -/
namespace Z
open PySem PySem.Spec PyProof.Rows L2
variable [HW]

theorem ps_imp {X : Cx} {st : Stmt} {t t' : TS} (h : PS X st t) (hi : ∀ D σ H, t' D σ H → t D σ H) : PS X st t' := ⟨fun pins s σ H D I hw => h.run pins s σ H D I (hi D σ H hw)⟩
theorem pss_imp {X : Cx} {st : List Stmt} {t t' : TS} (h : PSs X st t) (hi : ∀ D σ H, t' D σ H → t D σ H) : PSs X st t' := ⟨fun pins s σ H D I hw => h.run pins s σ H D I (hi D σ H hw)⟩
/-- no comprehension -/
def noLc : Expr → Bool
  | .ListComp _ _ _ _ => false
  | .SetComp _ _ _ _ => false
  | .DictComp _ _ _ _ _ => false
  | _ => true
theorem sw_no {e : Expr} (h : noLc e = true) (t : Option Expr) (l : Nat) (env : PySem.Env) : swapsWith e t l env = pure false := by
  cases e <;> first | rfl | cases h
def noTup : Expr → Bool
  | .Tuple _ _ _ => false
  | _ => true
theorem ss_no {e : Expr} (h : noTup e = true) (ts : List Expr) (env : PySem.Env) : swappedStores ts e env = pure none := by
  cases e <;> first
    | (unfold swappedStores; rcases ts with _ | ⟨t, _ | ⟨u, r⟩⟩ <;> first | rfl | (cases t <;> rfl); done)
    | cases h
section
variable {X : Cx} {Γ : Kn} {W : EW} {fr : Bool} {L : List Nat} {pos : Pos} {A B : ES}
theorem s_nil : PSs X [] (rdS Γ W fr L fun η s => .fl (.nx η) s) := pss_imp pss_nil fun D σ H ⟨K00, F, φ, η, s, S, r⟩ => RunS.next r S
theorem s_cons {st : Stmt} {rest : List Stmt} {x y : Env → Sto → RS} (h1 : PS X st (rdS Γ W fr L x)) (h2 : PSs X rest (rdS Γ W fr L y)) : PSs X (st :: rest) (rdS Γ W fr L fun η s => (x η s).nxt fun η s => y η s) :=
  pss_imp (pss_cons h1 h2) fun D σ H ⟨K00, F, φ, η, s, S, r⟩ => ⟨K00, F, φ, η, s, S, RunS.seq r fun σ1 H1 F1 φ1 η1 s1 S1 r1 => ⟨K00, F1, φ1, η1, s1, S1, r1⟩⟩
theorem s_frz {sts : List Stmt} {v : Nat} {y : Env → Sto → RS} (h : PSs X sts (rdS Γ W fr L y)) : PSs X sts (rdS Γ W fr L fun η s => (frzE v η s).nxt fun η s => y η s) :=
  pss_imp h fun D σ H ⟨K00, F, φ, η, s, ⟨K0, lk, no, S⟩, r⟩ => by
    simp only [frzE] at r
    split at r
    · rename_i xs e
      obtain ⟨F1, l1, S1, _⟩ := S.freeze lk no e
      exact ⟨K00, F1, φ, _, s, S1, RunS.later r l1 PLe.rfl' Fr.refl⟩
    · exact r.elim
theorem s_pass : PS X (.Pass pos) (rdS Γ W fr L fun η s => .fl (.nx η) s) := ps_imp ps_pass fun D σ H ⟨K00, F, φ, η, s, S, r⟩ => RunS.next r S
theorem s_brk : PS X (.Break pos) (rdS Γ W fr L fun η s => .fl (.bk η) s) := ps_imp ps_break fun D σ H ⟨K00, F, φ, η, s, S, r⟩ => r F φ σ H (HLe.refl F) PLe.rfl' Fr.refl S
theorem s_cnt : PS X (.Continue pos) (rdS Γ W fr L fun η s => .fl (.ct η) s) := ps_imp ps_continue fun D σ H ⟨K00, F, φ, η, s, S, r⟩ => r F φ σ H (HLe.refl F) PLe.rfl' Fr.refl S
theorem put_run {K00 K0 F H : Hp} {φ : List Addr} {η : Env} {s : Sto} {σ : L2.St} {i : Nat} {d : Z.D} {D : Ends} {v : V} (lk : HLe K00 K0) (no : ∀ (i : Nat) d a, d.isOwn = true → η[i]? = some (some d) → σ[i]? = some (some (.ref a)) → K00 a = none)
    (S : Sim Γ K0 F φ η s σ H) (hi : i ∈ L) (r : RunS Γ W fr K00 F φ σ L (put η i d s) D) (hv : RD Γ.K Γ.mg F φ v d) : D.nx (σ.set i (some v)) H := by
  unfold put at r
  split at r
  · rename_i hh
    exact r F φ _ H (HLe.refl F) PLe.rfl' (Fr.set hi) (SimS.put lk no S hh.2 hh.1 hv)
  · exact r.elim
theorem s_asg {b : Bool} {i : Nat} {x : Str} {e : Expr} {pos' : Pos} (hN : X.N.Nodup) (hi : X.N[i]? = some x) (hx : Loc X.env.scope x) (hf : X.fn x = true ∨ X.env.scope.names.lookup x = some .local) (hL : i ∈ L) (hs : swapsWith e (some (.Name x pos')) pos.line X.env = pure false) (he : PE X e (rdX Γ W b A.v)) :
    PS X (.Assign [.Name x pos'] e pos) (rdS Γ W fr L fun η s => RS.of η (A.v η s) fun d s => put η i d s) := by
  refine ps_imp (ps_set hN hi hx (pe_E he) hs hf) fun D σ H ⟨K00, F, φ, η, s, ⟨K0, lk, no, S⟩, r⟩ => ?_
  exact ⟨K0, F, φ, η, s, S, (RunS.of r lk).mono fun F1 φ1 H1 d s1 l1 p1 S1 r1 v hv => put_run lk no S1 hL r1 hv⟩
theorem toOwn_some {d : Z.D} {xs : List PyData} (h : toOwn d = some xs) : d = .dat (.list xs) := by
  unfold toOwn at h
  split at h
  · cases h; rfl
  · cases h
theorem own_run {K00 K0 F H : Hp} {φ : List Addr} {η : Env} {s : Sto} {σ : L2.St} {i : Nat} {d : Z.D} {D : Ends} {v : V} (lk : HLe K00 K0) (no : ∀ (i : Nat) d a, d.isOwn = true → η[i]? = some (some d) → σ[i]? = some (some (.ref a)) → K00 a = none)
    (S : Sim Γ K0 F φ η s σ H) (hi : i ∈ L) (r : RunS Γ W fr K00 F φ σ L (RS.of η (R.opt (toOwn d) s) fun xs s => if i < η.length then .fl (.nx (η.set i (some (.own xs)))) s else .no) D) (hv : FD true Γ K0 F φ H v d) : D.nx (σ.set i (some v)) H := by
  obtain ⟨xs, e, r⟩ := RunS.some r
  cases toOwn_some e
  split at r
  · rename_i hl
    obtain ⟨a, vs, rfl, h2, h3, h4, h5, h6⟩ := hv
    exact r F φ _ H (HLe.refl F) PLe.rfl' (Fr.set hi) (SimS.take lk no S hl h2 h3 h4 h5 h6)
  · exact r.elim
theorem s_own {i : Nat} {x : Str} {e : Expr} {pos' : Pos} (hN : X.N.Nodup) (hi : X.N[i]? = some x) (hx : Loc X.env.scope x) (hf : X.fn x = true ∨ X.env.scope.names.lookup x = some .local) (hL : i ∈ L) (hs : swapsWith e (some (.Name x pos')) pos.line X.env = pure false) (he : PE X e (rdX Γ W true A.v)) :
    PS X (.Assign [.Name x pos'] e pos) (rdS Γ W fr L fun η s => RS.of η (A.v η s) fun d s => RS.of η (R.opt (toOwn d) s) fun xs s => if i < η.length then .fl (.nx (η.set i (some (.own xs)))) s else .no) := by
  refine ps_imp (ps_set hN hi hx he hs hf) fun D σ H ⟨K00, F, φ, η, s, ⟨K0, lk, no, S⟩, r⟩ => ?_
  exact ⟨K0, F, φ, η, s, S, (RunS.of r lk).mono fun F1 φ1 H1 d s1 l1 p1 S1 r1 v hv => own_run lk no S1 hL r1 hv⟩
theorem s_ret {e : Expr} (he : PE X e (rdX Γ W fr A.v)) : PS X (.Return (some e) pos) (rdS Γ W fr L fun η s => RS.of η (A.v η s) fun d s => .fl (.rt (unown d)) s) := by
  refine ps_imp (ps_ret he) fun D σ H ⟨K00, F, φ, η, s, ⟨K0, lk, no, S⟩, r⟩ => ?_
  refine ⟨K0, F, φ, η, s, S, (RunS.of r lk).mono fun F1 φ1 H1 d s1 l1 p1 S1 r1 v hv => ?_⟩
  have hd : unown d = d := by
    cases d with
    | own xs =>
      have : False := by cases fr <;> exact hv
      exact this.elim
    | odc m xs =>
      have : False := by cases fr <;> exact hv
      exact this.elim
    | _ => rfl
  rw [hd] at r1
  exact r1 F1 φ1 H1 v (HLe.refl _) PLe.rfl' (S1.toWorld lk) (hv.less lk)
theorem s_retO {v : Nat} {x : Str} {p : Pos} (hN : X.N[v]? = some x) (hv : Vis X.env.scope x) (hd : (x == ("__debug__" : Str)) = false) (hcd : (x == ("__classdict__" : Str)) = false) :
    PS X (.Return (some (.Name x p)) pos) (rdS Γ W fr L fun η s => RS.of η (lookO η v s) fun d s => .fl (.rt (unown d)) s) := by
  refine ps_imp (ps_ret (pe_var hN hv hd hcd)) fun D σ H ⟨K00, F, φ, η, s, ⟨K0, lk, no, S⟩, r⟩ => ?_
  simp only [lookO] at r
  split at r
  · rename_i xs e
    obtain ⟨a, q1, vs, q2, q3⟩ := S.ow v _ rfl e
    obtain ⟨g1, g2, g3⟩ := S.kp a _ q2
    have ka := no v _ a rfl e q1
    refine ⟨_, q1, ?_⟩
    cases fr with
    | true => exact r F φ H _ (HLe.refl _) PLe.rfl' (S.toWorld lk) ⟨a, vs, rfl, g1, q3, g2, g3, ka⟩
    | false =>
      obtain ⟨S1, l1⟩ := (S.toWorld lk).chill g1 g2 g3 ka
      exact r _ φ H _ l1 PLe.rfl' S1 (show Rv Γ.K _ _ _ from .lst upd_same (q3.mono l1))
  · rename_i m kvs e
    obtain ⟨a, q1, q2⟩ := S.ow v _ rfl e
    have q2 : DicAt Γ.K F K0 a kvs m := q2
    obtain ⟨o, ho⟩ := q2.some
    obtain ⟨g1, g2, g3⟩ := S.kp a o ho
    have ka := no v _ a rfl e q1
    refine ⟨_, q1, ?_⟩
    obtain ⟨S1, l1⟩ := (S.toWorld lk).chill g1 g2 g3 ka (q2.no ho).1
    have hq : RD Γ.K Γ.mg (upd F a o) φ (.ref a) (.fdc m kvs) := ⟨a, rfl, q2.mono l1 fun u hu => by rw [ho] at hu; cases hu; exact upd_same⟩
    exact r _ φ H _ l1 PLe.rfl' S1 (by cases fr <;> exact hq)
  · exact r.elim
theorem s_retN : PS X (.Return none pos) (rdS Γ W fr L fun _ s => .fl (.rt (.dat .none)) s) := by
  refine ps_imp ps_retN fun D σ H ⟨K00, F, φ, η, s, ⟨K0, lk, no, S⟩, r⟩ => ?_
  exact r F φ H .non (HLe.refl _) PLe.rfl' (S.toWorld lk) (FD.const .non fun _ => nofun)
theorem s_if {c : Expr} {a b : List Stmt} {t : Env → Sto → R Bool} {x y : Env → Sto → RS} (hc : PT X c (rdT Γ W t)) (ha : PSs X a (rdS Γ W fr L x)) (hb : PSs X b (rdS Γ W fr L y)) :
    PS X (.If c a b pos) (rdS Γ W fr L fun η s => RS.of η (t η s) fun k s => if k then x η s else y η s) := by
  refine ps_imp (ps_if hc ha hb) fun D σ H ⟨K00, F, φ, η, s, ⟨K0, lk, no, S⟩, r⟩ => ?_
  refine ⟨K0, F, φ, η, s, S, (RunS.of r lk).mono fun F1 φ1 H1 k s1 l1 p1 S1 r1 => ?_⟩
  cases k with
  | true => exact ⟨K00, F1, φ1, η, s1, ⟨K0, lk, no, S1⟩, r1⟩
  | false => exact ⟨K00, F1, φ1, η, s1, ⟨K0, lk, no, S1⟩, r1⟩
theorem s_exp {b : Bool} {e : Expr} (hs : swapsWith e none pos.line X.env = pure false) (he : PE X e (rdX Γ W b A.v)) : PS X (.Expr e pos) (rdS Γ W fr L fun η s => RS.of η (A.v η s) fun _ s => .fl (.nx η) s) := by
  refine ps_imp (ps_expr (pe_E he) hs) fun D σ H ⟨K00, F, φ, η, s, ⟨K0, lk, no, S⟩, r⟩ => ?_
  exact ⟨K0, F, φ, η, s, S, (RunS.of r lk).mono fun F1 φ1 H1 d s1 l1 p1 S1 r1 v hv => RunS.next r1 ⟨K0, lk, no, S1⟩⟩
theorem s_whl {c : Expr} {a : List Stmt} {t : Env → Sto → R Bool} {x : Env → Sto → RS} {n : Nat} (hp : PassesOwn (model X.prog X.w) X.A X.env X.xe) (hc : PT X c (rdT Γ W t)) (ha : PSs X a (rdS Γ W fr L x)) : PS X (.While c a [] pos) (rdS Γ W fr L fun η s => wgo t x n η s) := by
  refine ps_imp (ps_while hp hc ha) fun D σ H ⟨K00, F, φ, η, s, S, r⟩ => ?_
  refine ⟨fun m σ1 H1 => ∃ F1 φ1 η1 s1, SimS Γ K00 F1 φ1 η1 s1 σ1 H1 ∧ RunS Γ W fr K00 F1 φ1 σ1 L (wgo t x m η1 s1) D, ⟨n, F, φ, η, s, S, r⟩, fun m σ1 H1 ⟨F1, φ1, η1, s1, ⟨K0, lk, no, S1⟩, r1⟩ => ?_⟩
  cases m with
  | zero => exact r1.elim
  | succ m =>
    refine ⟨K0, F1, φ1, η1, s1, S1, (RunS.of r1 lk).mono fun F2 φ2 H2 k s2 l2 p2 S2 r2 => ?_⟩
    cases k with
    | true =>
      refine ⟨fun σ' H' => ∃ F1 φ1 η1 s1, SimS Γ K00 F1 φ1 η1 s1 σ' H' ∧ RunS Γ W fr K00 F1 φ1 σ' L (wgo t x m η1 s1) D, fun σ' H' w => ⟨m, Nat.lt_succ_self m, w⟩, K00, F2, φ2, η1, s2, ⟨K0, lk, no, S2⟩, ?_⟩
      exact RunS.turn r2 fun σ3 H3 F3 φ3 η3 s3 _ _ _ S3 r3 => ⟨F3, φ3, η3, s3, S3, r3⟩
    | false => exact RunS.next r2 ⟨K0, lk, no, S2⟩
end
end Z
end

section
set_option maxRecDepth 100000
set_option maxHeartbeats 4000000
/-! Loops, changes of lists, stores of several names. -/
namespace Z
open PySem PySem.Spec PyProof.Rows L2
variable [HW]

mutual
theorem bindT_own : ∀ {t : Tg} {d : PyData} {η η' : Env}, bindT t d η = some η' → ∀ (j : Nat) (e : Z.D), e.isOwn = true → η'[j]? = some (some e) → j ∉ t.at ∧ η[j]? = some (some e)
  | .nm i, d, η, η', h, j, e, he, q => by
    rw [bindT] at h
    split at h
    · rename_i hl
      cases h
      by_cases z : i = j
      · subst z; rw [List.getElem?_set_self hl] at q; cases q; cases he
      · rw [List.getElem?_set_ne z] at q
        exact ⟨fun y => by simp only [Tg.at, List.mem_singleton] at y; exact z y.symm, q⟩
    · cases h
  | .tup ts, d, η, η', h, j, e, he, q => by
    cases d with
    | tuple ds =>
      rw [bindT] at h
      have := bindTs_own h j e he q
      exact ⟨by simpa [Tg.at] using this.1, this.2⟩
    | _ => simp [bindT] at h
theorem bindTs_own : ∀ {ts : List Tg} {ds : List PyData} {η η' : Env}, bindTs ts ds η = some η' → ∀ (j : Nat) (e : Z.D), e.isOwn = true → η'[j]? = some (some e) → j ∉ Tg.ats ts ∧ η[j]? = some (some e)
  | [], [], η, η', h, j, e, he, q => by
    rw [bindTs] at h
    cases h
    exact ⟨by simp [Tg.ats], q⟩
  | [], _ :: _, _, _, h, _, _, _, _ => by simp [bindTs] at h
  | _ :: _, [], _, _, h, _, _, _, _ => by simp [bindTs] at h
  | t :: ts, d :: ds, η, η', h, j, e, he, q => by
    rw [bindTs] at h
    obtain ⟨η1, h1, h2⟩ := Option.bind_eq_some_iff.mp h
    obtain ⟨a1, a2⟩ := bindTs_own h2 j e he q
    obtain ⟨b1, b2⟩ := bindT_own h1 j e he a2
    exact ⟨by simp [Tg.ats, a1, b1], b2⟩
end
section
variable {X : Cx} {Γ : Kn} {W : EW} {fr : Bool} {L : List Nat} {pos : Pos} {A B : ES}
/-- behind a target -/
theorem no_bind {K00 : Hp} {η η' : Env} {σ σ' : L2.St} {t : Tg} {d : PyData} (h : bindT t d η = some η') (hs : ∀ j, j ∉ t.at → σ'[j]? = σ[j]?) (no : ∀ (i : Nat) d a, d.isOwn = true → η[i]? = some (some d) → σ[i]? = some (some (.ref a)) → K00 a = none) :
    ∀ (i : Nat) d a, d.isOwn = true → η'[i]? = some (some d) → σ'[i]? = some (some (.ref a)) → K00 a = none := fun i e a he q1 q2 => by
  obtain ⟨z1, z2⟩ := bindT_own h i e he q1
  rw [hs i z1] at q2
  exact no i e a he z2 q2
theorem s_for {tg iter : Expr} {body : List Stmt} {t : Tg} {k : Sk} {ss : List ES} {y : Env → Sto → RS} (hp : PassesOwn (model X.prog X.w) X.A X.env X.xe) (hc : X.calm = true) (hi : PI X tg iter (iSrc false Γ W (vSrc k ss))) (hg : PG X tg (rdG Γ t)) (hpi : plainE iter = true)
    (htL : ∀ i ∈ t.at, i ∈ L) (hb : PSs X body (rdS Γ W fr L y)) :
    PS X (.For tg iter body [] pos) (rdS Γ W fr L fun η s => RS.of η (vSrc k ss η s) fun l s => fgo (fun x η s => RS.of η (R.opt (bindT t x η) s) fun η s => y η s) l η s) := by
  refine ps_imp (ps_for hp hc hi hg hb (foldedOk hpi _)) fun D σ H ⟨K00, F, φ, η, s, ⟨K0, lk, no, S⟩, r⟩ => ?_
  refine ⟨K0, F, φ, η, s, S, (RunS.of r lk).mono fun F1 φ1 H1 l s1 l1 p1 S1 r1 J ⟨G, Y, wk, hG, hY⟩ => ?_⟩
  refine for_it wk (fun i σ2 H2 => ∃ (F2 : Hp) (φ2 : List Addr) (η2 : Env) (s2 : Sto), HLe F1 F2 ∧ SimS Γ K00 F2 φ2 η2 s2 σ2 H2 ∧ RunS Γ W fr K00 F2 φ2 σ2 L (fgo (fun x η s => RS.of η (R.opt (bindT t x η) s) fun η s => y η s) (l.drop i) η2 s2) D)
    ⟨F1, φ1, η, s1, HLe.refl _, ⟨K0, lk, no, S1⟩, by simpa using r1⟩ (fun i σ2 H2 _ ⟨F2, φ2, η2, s2, a1, ⟨_, _, _, S2⟩, _⟩ => hG H2 (a1.trans S2.fle) (fun z => nomatch z)) (fun i x σ2 H2 H2' hin p yx => ?_) (fun σ2 H2 p => ?_)
  · obtain ⟨F2, φ2, η2, s2, a1, ⟨K2, lk2, no2, S2⟩, r2⟩ := p
    have hd : l[i]? = some l[i] := List.getElem?_eq_getElem hin
    have item : ∃ F3, HLe F2 F3 ∧ Sim Γ K2 F3 φ2 η2 s2 σ2 H2' ∧ Rv Γ.K F3 x l[i] := by
      rcases hY i x H2 H2' _ hd (a1.trans S2.fle) (fun z => nomatch z) yx with ⟨rfl, q⟩ | ⟨T, xs, es, rfl, q1, rfl, q2, q3⟩
      · exact ⟨F2, HLe.refl _, S2, q.mono a1⟩
      · obtain ⟨S3, l3⟩ := S2.ice q1 (.tup xs)
        exact ⟨_, l3, S3, by rw [q2]; exact .tup (SqT.of upd_same) (q3.mono (a1.trans l3))⟩
    obtain ⟨F3, l3, S3, hx⟩ := item
    rw [List.drop_eq_getElem_cons hin] at r2
    have r2 : RunS Γ W fr K00 F2 φ2 σ2 L ((RS.of η2 (R.opt (bindT t l[i] η2) s2) fun η s => y η s).turn fun η s => fgo (fun x η s => RS.of η (R.opt (bindT t x η) s) fun η s => y η s) (l.drop (i + 1)) η s) D := r2
    cases hb3 : bindT t l[i] η2 with
    | none => rw [hb3] at r2; exact r2.elim
    | some η3 =>
      rw [hb3] at r2
      refine ⟨K2, F3, φ2, η2, s2, l[i], η3, S3, hx, hb3, fun σ4 S4 hs hl => ?_⟩
      have fr4 : Fr L σ2 σ4 := fun j hj => hs j fun z => hj (htL j z)
      refine ⟨K00, F3, φ2, η3, s2, ⟨K2, lk2, no_bind hb3 hs no2, S4⟩, RunS.turn (RunS.later r2 l3 PLe.rfl' fr4) fun σ5 H5 F5 φ5 η5 s5 l5 _ _ S5 r5 => ⟨F5, φ5, η5, s5, a1.trans (l3.trans l5), S5, r5⟩⟩
  · obtain ⟨F2, φ2, η2, s2, a1, S2, r2⟩ := p
    rw [List.drop_eq_nil_of_le (Nat.le_refl _)] at r2
    exact RunS.next r2 S2
/-- over a list that the name v alone holds; the body may change it -/
theorem s_frO {tg : Expr} {body : List Stmt} {t : Tg} {v : Nat} {x : Str} {p : Pos} {n : Nat} {y : Env → Sto → RS} (hp : PassesOwn (model X.prog X.w) X.A X.env X.xe) (hc : X.calm = true) (hN : X.N[v]? = some x) (hv : Vis X.env.scope x) (hd : (x == ("__debug__" : Str)) = false) (hcd : (x == ("__classdict__" : Str)) = false)
    (hK : X.K = Γ.K) (hg : PG X tg (rdG Γ t)) (htL : ∀ i ∈ t.at, i ∈ L) (hvL : v ∉ L) (hb : PSs X body (rdS Γ W fr L y)) :
    PS X (.For tg (.Name x p) body [] pos) (rdS Γ W fr L fun η s => ogo v (fun x η s => RS.of η (R.opt (bindT t x η) s) fun η s => y η s) n 0 η s) := by
  refine ps_imp (ps_for hp hc (pi_list (pe_var hN hv hd hcd)) hg hb (foldedOk rfl _)) fun D σ H ⟨K00, F, φ, η, s, S, r⟩ => ?_
  have hold : ∀ {m k : Nat} {F1 H1 : Hp} {φ1 : List Addr} {η1 : Env} {s1 : Sto} {σ1 : L2.St}, SimS Γ K00 F1 φ1 η1 s1 σ1 H1 → RunS Γ W fr K00 F1 φ1 σ1 L (ogo v (fun x η s => RS.of η (R.opt (bindT t x η) s) fun η s => y η s) m k η1 s1) D →
      ∃ (m' : Nat) (a : Addr) (vs : List V) (xs : List PyData), m = m' + 1 ∧ σ1[v]? = some (some (.ref a)) ∧ H1 a = some (.lst vs) ∧ RvAll Γ.K F1 vs xs ∧ η1[v]? = some (some (.own xs)) ∧
        RunS Γ W fr K00 F1 φ1 σ1 L (match xs[k]? with | some x => (RS.of η1 (R.opt (bindT t x η1) s1) fun η s => y η s).turn fun η s => ogo v (fun x η s => RS.of η (R.opt (bindT t x η) s) fun η s => y η s) m' (k + 1) η s | none => .fl (.nx η1) s1) D := by
    intro m k F1 H1 φ1 η1 s1 σ1 ⟨K0, lk, no, S1⟩ r1
    cases m with
    | zero => exact r1.elim
    | succ m =>
      simp only [ogo] at r1
      split at r1
      · rename_i xs e
        obtain ⟨a, q1, vs, q2, q3⟩ := S1.ow v _ rfl e
        exact ⟨m, a, vs, xs, rfl, q1, (S1.kp a _ q2).1, q3, e, r1⟩
      · exact r1.elim
  obtain ⟨n', a, vs, xs, e0, q1, q2, q3, q4, _⟩ := hold S r
  refine ⟨_, q1, a, rfl, ⟨vs, .of q2⟩, fun i m σ1 H1 => ∃ F1 φ1 η1 s1, SimS Γ K00 F1 φ1 η1 s1 σ1 H1 ∧ RunS Γ W fr K00 F1 φ1 σ1 L (ogo v (fun x η s => RS.of η (R.opt (bindT t x η) s) fun η s => y η s) m i η1 s1) D ∧ σ1[v]? = some (some (.ref a)),
    ⟨n, F, φ, η, s, S, r, q1⟩, fun i m σ1 H1 ⟨F1, φ1, η1, s1, S1, r1, w1⟩ => ?_⟩
  obtain ⟨m', a', vs', xs', e1, z1, z2, z3, z4, r2⟩ := hold S1 r1
  rw [w1] at z1
  cases z1
  subst e1
  have sq : SqL X.K H1 a vs' := .of z2
  obtain ⟨K2, lk2, no2, S2⟩ := S1
  cases hx : xs'[i]? with
  | none =>
    rw [hx] at r2
    exact .inl ⟨⟨vs', sq, by rw [z3.len]; exact List.getElem?_eq_none_iff.mp hx⟩, RunS.next r2 ⟨K2, lk2, no2, S2⟩⟩
  | some d =>
    rw [hx] at r2
    obtain ⟨u, hu, ru⟩ := z3.get hx
    refine .inr ⟨⟨vs', u, sq, hu⟩, fun σ5 H5 => ∃ F1 φ1 η1 s1, SimS Γ K00 F1 φ1 η1 s1 σ5 H5 ∧ RunS Γ W fr K00 F1 φ1 σ5 L (ogo v (fun x η s => RS.of η (R.opt (bindT t x η) s) fun η s => y η s) m' (i + 1) η1 s1) D ∧ σ5[v]? = some (some (.ref a)),
      fun σ5 H5 w => ⟨m', Nat.lt_succ_self _, w⟩, fun x' H' ⟨yy, hy⟩ => ?_⟩
    subst yy
    have hxu := hy vs' sq
    rw [hu] at hxu
    cases hxu
    have r2 : RunS Γ W fr K00 F1 φ1 σ1 L ((RS.of η1 (R.opt (bindT t d η1) s1) fun η s => y η s).turn fun η s => ogo v (fun x η s => RS.of η (R.opt (bindT t x η) s) fun η s => y η s) m' (i + 1) η s) D := r2
    cases hb3 : bindT t d η1 with
    | none => rw [hb3] at r2; exact r2.elim
    | some η3 =>
      rw [hb3] at r2
      refine ⟨K2, F1, φ1, η1, s1, d, η3, S2, ru, hb3, fun σ4 S4 hs hl => ?_⟩
      have fr4 : Fr L σ1 σ4 := fun j hj => hs j fun z => hj (htL j z)
      have w4 : σ4[v]? = some (some (.ref a)) := (fr4 v hvL).trans w1
      exact ⟨K00, F1, φ1, η3, s1, ⟨K2, lk2, no_bind hb3 hs no2, S4⟩, RunS.turn (RunS.later r2 (HLe.refl _) PLe.rfl' fr4) fun σ5 H5 F5 φ5 η5 s5 l5 _ f5 S5 r5 => ⟨F5, φ5, η5, s5, S5, r5, (f5 v hvL).trans w4⟩⟩
/-! ### lists are changed -/
theorem isLst_run {K00 K0 F H : Hp} {φ : List Addr} {η : Env} {s : Sto} {σ : L2.St} {v : Nat} {f : Unit → Sto → RS} {D : Ends} (S : Sim Γ K0 F φ η s σ H) (r : RunS Γ W fr K00 F φ σ L (RS.of η (isLst η v s) f) D) :
    ∃ a vs, σ[v]? = some (some (.ref a)) ∧ H a = some (.lst vs) ∧ RunS Γ W fr K00 F φ σ L (f () s) D := by
  unfold isLst at r
  split at r
  · rename_i xs e
    obtain ⟨a, q1, vs, q2, _⟩ := S.ow v _ rfl e
    exact ⟨a, vs, q1, (S.kp a _ q2).1, r⟩
  · rename_i n e
    split at r
    · rename_i hl
      obtain ⟨u, q1, a, q2, rfl⟩ := S.sl v (.ref n) rfl e
      cases hob : s[n] with
      | lst xs =>
        obtain ⟨vs, q3, _⟩ := S.so n a (.lst xs) q2 (by rw [List.getElem?_eq_getElem hl, hob])
        exact ⟨a, vs, q1, q3, r⟩
    · exact r.elim
  · exact r.elim
/-- where a list stands that is changed -/
theorem chg_run {K00 K0 F H : Hp} {φ : List Addr} {η : Env} {s : Sto} {σ : L2.St} {v : Nat} {f : List PyData → Option (List PyData)} {D : Ends} (lk : HLe K00 K0) (no : ∀ (i : Nat) d a, d.isOwn = true → η[i]? = some (some d) → σ[i]? = some (some (.ref a)) → K00 a = none)
    (S : Sim Γ K0 F φ η s σ H) (r : RunS Γ W fr K00 F φ σ L (chg v f η s) D) :
    ∃ a vs xs ys, σ[v]? = some (some (.ref a)) ∧ H a = some (.lst vs) ∧ RvAll Γ.K F vs xs ∧ f xs = some ys ∧ ∀ ws, RvAll Γ.K F ws ys → D.nx σ (upd H a (.lst ws)) := by
  unfold chg at r
  split at r
  · rename_i xs e
    obtain ⟨a, q1, vs, q2, q3⟩ := S.ow v _ rfl e
    cases hf : f xs with
    | none => rw [hf] at r; exact r.elim
    | some ys =>
      rw [hf] at r
      exact ⟨a, vs, xs, ys, q1, (S.kp a _ q2).1, q3, hf, fun ws hw => RunS.next r (SimS.write lk no S rfl e q1 hw)⟩
  · rename_i n e
    obtain ⟨u, q1, a, q2, rfl⟩ := S.sl v (.ref n) rfl e
    split at r
    · rename_i xs es
      obtain ⟨vs, q3, q4⟩ := S.so n a (.lst xs) q2 es
      cases hf : f xs with
      | none => rw [hf] at r; exact r.elim
      | some ys =>
        rw [hf] at r
        exact ⟨a, vs, xs, ys, q1, q3, q4, hf, fun ws hw => RunS.next r (SimS.store lk no S q2 ⟨ws, upd_same, hw⟩)⟩
    · exact r.elim
  · exact r.elim
theorem few_one {e : Expr} (h : plainE e = true) (cpos : Pos) (env : PySem.Env) : ((backTo cpos (starEach [e] env)).all (fun x => !x.1) && (backToKw cpos (keywordEach [] env)).all (fun x => x.1.isSome)
      && decide (([e]).length + ([] : List Keyword).length + (if ([] : List Keyword).isEmpty then 0 else 1) < 30)) = true := by
  rw [star_cons h]; rfl
theorem s_app {v : Nat} {x : Str} {nm apos cpos : Pos} {e : Expr} (hK : X.K = Γ.K) (hN : X.N[v]? = some x) (hv : Vis X.env.scope x) (hd : (x == ("__debug__" : Str)) = false) (hcd : (x == ("__classdict__" : Str)) = false) (hline : (apos.endLine == cpos.line) = true)
    (hp : plainE e = true) (he : PE X e (rdO Γ W false A.v)) :
    PS X (.Expr (.Call (.Attribute (.Name x nm) "append" apos) [e] [] cpos) pos) (rdS Γ W fr L fun η s => RS.of η (isLst η v s) fun _ s => RS.of η (A.v η s) fun d s => RS.of η (R.opt (datOf d) s) fun d s => chg v (appD d) η s) := by
  refine ps_imp (ps_expr (pe_bm F.plainAttrs_list F.slot_list_append rfl mt_append (pe_var hN hv hd hcd) (pa_cons he pa_nil (star_cons hp _ _)) rfl (few_one hp _ _) hline (star_cons hp _ _) rfl) rfl) fun D σ H ⟨K00, F, φ, η, s, ⟨K0, lk, no, S⟩, r⟩ => ?_
  obtain ⟨a, vs, q1, q2, r⟩ := isLst_run S r
  refine ⟨_, q1, .inl ⟨rfl, vs, .of q2⟩, K0, F, φ, η, s, S, (RunS.of r lk).mono fun F1 φ1 H1 d s1 l1 p1 S1 r1 u hu => ?_⟩
  obtain ⟨p, e1, r1⟩ := RunS.some r1
  obtain ⟨a', vs', xs, ys, z1, z2, z3, z4, z5⟩ := chg_run lk no S1 r1
  rw [q1] at z1
  cases z1
  unfold appD at z4
  split at z4
  · rename_i hl
    cases z4
    exact ⟨a, vs', u, rfl, rfl, z2, by rw [z3.len]; exact hl, z5 _ (z3.app (.cons (hu.dat' e1) .nil))⟩
  · cases z4
theorem s_ext {v : Nat} {x : Str} {nm apos cpos : Pos} {e : Expr} (hK : X.K = Γ.K) (hN : X.N[v]? = some x) (hv : Vis X.env.scope x) (hd : (x == ("__debug__" : Str)) = false) (hcd : (x == ("__classdict__" : Str)) = false) (hline : (apos.endLine == cpos.line) = true)
    (hp : plainE e = true) (he : PE X e (rdO Γ W false A.v)) :
    PS X (.Expr (.Call (.Attribute (.Name x nm) "extend" apos) [e] [] cpos) pos) (rdS Γ W fr L fun η s => RS.of η (isLst η v s) fun _ s => RS.of η (A.v η s) fun d s => RS.of η (R.opt (datOf d) s) fun d s => chg v (extD d) η s) := by
  refine ps_imp (ps_expr (pe_bm F.plainAttrs_list F.slot_list_extend rfl mt_extend (pe_var hN hv hd hcd) (pa_cons he pa_nil (star_cons hp _ _)) rfl (few_one hp _ _) hline (star_cons hp _ _) rfl) rfl) fun D σ H ⟨K00, F, φ, η, s, ⟨K0, lk, no, S⟩, r⟩ => ?_
  obtain ⟨a, vs, q1, q2, r⟩ := isLst_run S r
  refine ⟨_, q1, .inl ⟨rfl, vs, .of q2⟩, K0, F, φ, η, s, S, (RunS.of r lk).mono fun F1 φ1 H1 d s1 l1 p1 S1 r1 u hu => ?_⟩
  obtain ⟨p, e1, r1⟩ := RunS.some r1
  obtain ⟨a', vs', xs, ys, z1, z2, z3, z4, z5⟩ := chg_run lk no S1 r1
  rw [q1] at z1
  cases z1
  unfold extD at z4
  split at z4
  · rename_i zs ys' _
    split at z4
    · rename_i hl
      cases z4
      have hr := hu.dat' e1
      cases hr with
      | lst h1 h2 =>
        exact ⟨a, _, vs', _, rfl, rfl, z2, S1.fle _ _ h1, by rw [z3.len, h2.len]; exact hl, z5 _ (z3.app h2)⟩
    · cases z4
  · cases z4
theorem ixN_eq (n : Nat) (i : Int) : L2.ixN n i = Z.ixN n i := rfl
theorem s_setI {v : Nat} {x : Str} {nm tpos : Pos} {e i : Expr} (hK : X.K = Γ.K) (hN : X.N[v]? = some x) (hv : Vis X.env.scope x) (hd : (x == ("__debug__" : Str)) = false) (hcd : (x == ("__classdict__" : Str)) = false)
    (hpi : plainE i = true) (he : PE X e (rdO Γ W false A.v)) (hi : PE X i (rdO Γ W false B.v)) :
    PS X (.Assign [.Subscript (.Name x nm) i tpos] e pos) (rdS Γ W fr L fun η s => RS.of η (A.v η s) fun d s => RS.of η (R.opt (datOf d) s) fun d s => RS.of η (isLst η v s) fun _ s => RS.of η (B.v η s) fun k s => RS.of η (R.opt (datOf k) s) fun k s => chg v (fun xs => setD xs k d) η s) := by
  refine ps_imp (ps_asg he (pg_sub (pe_var hN hv hd hcd) hi set_list (by cases i <;> first | (intro _; rfl) | cases hpi)) (by cases e <;> rfl) (by cases e <;> rfl) rfl) fun D σ H ⟨K00, F, φ, η, s, ⟨K0, lk, no, S⟩, r⟩ => ?_
  refine ⟨K0, F, φ, η, s, S, (RunS.of r lk).mono fun F1 φ1 H1 d s1 l1 p1 S1 r1 u hu => ?_⟩
  obtain ⟨p, e1, r1⟩ := RunS.some r1
  obtain ⟨a, vs, q1, q2, r1⟩ := isLst_run S1 r1
  refine ⟨_, q1, K0, F1, φ1, η, s1, S1, (RunS.of r1 lk).mono fun F2 φ2 H2 k s2 l2 p2 S2 r2 w hw => ?_⟩
  obtain ⟨k', e2, r2⟩ := RunS.some r2
  obtain ⟨a', vs', xs, ys, z1, z2, z3, z4, z5⟩ := chg_run lk no S2 r2
  rw [q1] at z1
  cases z1
  unfold setD at z4
  split at z4
  · rename_i ii
    obtain ⟨j, hj, e4⟩ := Option.map_eq_some_iff.mp z4
    subst e4
    cases hw.dat' e2
    exact ⟨a, vs', ii, j, rfl, rfl, z2, by rw [z3.len, ixN_eq]; exact hj, z5 _ (z3.set ((hu.dat' e1).mono l2) j)⟩
  · cases z4
/-- (a, b, ..) = a tuple -/
theorem s_asgT {tg e : Expr} {t : Tg} (hs : swapsWith e (some tg) pos.line X.env = pure false) (hnt : noTup e = true) (hpt : plainE tg = true) (hg : PG X tg (rdG Γ t)) (htL : ∀ i ∈ t.at, i ∈ L) (he : PE X e (rdO Γ W false A.v)) :
    PS X (.Assign [tg] e pos) (rdS Γ W fr L fun η s => RS.of η (A.v η s) fun d s => RS.of η (R.opt (datOf d) s) fun d s => RS.of η (R.opt (bindT t d η) s) fun η s => .fl (.nx η) s) := by
  refine ps_imp (ps_asg he hg hs (ss_no hnt _ _) (by cases tg <;> first | rfl | cases hpt)) fun D σ H ⟨K00, F, φ, η, s, ⟨K0, lk, no, S⟩, r⟩ => ?_
  refine ⟨K0, F, φ, η, s, S, (RunS.of r lk).mono fun F1 φ1 H1 d s1 l1 p1 S1 r1 u hu => ?_⟩
  obtain ⟨p, e1, r1⟩ := RunS.some r1
  cases hb3 : bindT t p η with
  | none => rw [hb3] at r1; exact r1.elim
  | some η3 =>
    rw [hb3] at r1
    exact ⟨K0, F1, φ1, η, s1, p, η3, S1, hu.dat' e1, hb3, fun σ4 S4 hs hl => r1 F1 φ1 σ4 H1 (HLe.refl _) PLe.rfl' (fun j hj => hs j fun z => hj (htL j z)) ⟨K0, lk, no_bind hb3 hs no, S4⟩⟩
/-- name = [..] on its line -/
theorem s_asgLc {i : Nat} {y : Str} {py : Pos} {elt tg iter : Expr} {ifs : List Expr} {scope : Scope} {own : List (Str × Nat)} {lpos : Pos} {E : ES} {t : Tg} {k : Sk} {ss cs : List ES}
    (hc : X.calm = true) (hN : X.N.Nodup) (hy : X.N[i]? = some y) (hyl : X.env.scope.names.lookup y = some .local) (hL : i ∈ L) (hsw : swapsWith (.ListComp elt [⟨tg, iter, ifs, 0⟩] scope lpos) (some (.Name y py)) pos.line X.env = pure true)
    (hi : PI X tg iter (iSrc true Γ W (vSrc k ss))) (ok : BlkOk X.N X.env.scope scope own) (hown : own.map (·.2) = t.at) (hpi : plainE iter = true)
    (hg : ∀ (s : Shared) (H : Hp) (C : Addr) (cl : List (Str × Addr)) (fp : List Addr), PG (X.blk s H scope (compEnvC scope cl C X.env) fp) tg (rdG Γ t))
    (ht : ∀ (s : Shared) (H : Hp) (C : Addr) (cl : List (Str × Addr)) (fp : List Addr), PTs (X.blk s H scope (compEnvC scope cl C X.env) fp) ifs (rdT Γ W0 (allT cs)))
    (he : ∀ (s : Shared) (H : Hp) (C : Addr) (cl : List (Str × Addr)) (fp : List Addr), PE (X.blk s H scope (compEnvC scope cl C X.env) fp) elt (rdX Γ W0 false E.v)) :
    PS X (.Assign [.Name y py] (.ListComp elt [⟨tg, iter, ifs, 0⟩] scope lpos) pos) (rdS Γ W fr L fun η s => RS.of η (vComp E t k ss cs η s) fun d s => put η i d s) := by
  refine ps_imp (ps_setLc hc hN hy hyl hsw hi ok hg ht he (foldedOk hpi _)) fun D σ H ⟨K00, F, φ, η, s, ⟨K0, lk, no, S⟩, r⟩ => ?_
  show tLc _ _ _ _ (own.map (·.2)) σ H _
  rw [hown]
  refine comp_key σ H _ ⟨K0, F, φ, η, s, S, Run.chill ((RunS.of r lk).mono fun F1 φ1 H1 d s1 l1 p1 S1 r1 v hv => put_run lk no S1 hL r1 hv) true⟩
theorem s_ownLc {i : Nat} {y : Str} {py : Pos} {elt tg iter : Expr} {ifs : List Expr} {scope : Scope} {own : List (Str × Nat)} {lpos : Pos} {E : ES} {t : Tg} {k : Sk} {ss cs : List ES}
    (hc : X.calm = true) (hN : X.N.Nodup) (hy : X.N[i]? = some y) (hyl : X.env.scope.names.lookup y = some .local) (hL : i ∈ L) (hsw : swapsWith (.ListComp elt [⟨tg, iter, ifs, 0⟩] scope lpos) (some (.Name y py)) pos.line X.env = pure true)
    (hi : PI X tg iter (iSrc true Γ W (vSrc k ss))) (ok : BlkOk X.N X.env.scope scope own) (hown : own.map (·.2) = t.at) (hpi : plainE iter = true)
    (hg : ∀ (s : Shared) (H : Hp) (C : Addr) (cl : List (Str × Addr)) (fp : List Addr), PG (X.blk s H scope (compEnvC scope cl C X.env) fp) tg (rdG Γ t))
    (ht : ∀ (s : Shared) (H : Hp) (C : Addr) (cl : List (Str × Addr)) (fp : List Addr), PTs (X.blk s H scope (compEnvC scope cl C X.env) fp) ifs (rdT Γ W0 (allT cs)))
    (he : ∀ (s : Shared) (H : Hp) (C : Addr) (cl : List (Str × Addr)) (fp : List Addr), PE (X.blk s H scope (compEnvC scope cl C X.env) fp) elt (rdX Γ W0 false E.v)) :
    PS X (.Assign [.Name y py] (.ListComp elt [⟨tg, iter, ifs, 0⟩] scope lpos) pos) (rdS Γ W fr L fun η s => RS.of η (vComp E t k ss cs η s) fun d s => RS.of η (R.opt (toOwn d) s) fun xs s => if i < η.length then .fl (.nx (η.set i (some (.own xs)))) s else .no) := by
  refine ps_imp (ps_setLc hc hN hy hyl hsw hi ok hg ht he (foldedOk hpi _)) fun D σ H ⟨K00, F, φ, η, s, ⟨K0, lk, no, S⟩, r⟩ => ?_
  show tLc _ _ _ _ (own.map (·.2)) σ H _
  rw [hown]
  exact comp_key σ H _ ⟨K0, F, φ, η, s, S, (RunS.of r lk).mono fun F1 φ1 H1 d s1 l1 p1 S1 r1 v hv => own_run lk no S1 hL r1 hv⟩
end
end Z
end

section
set_option maxRecDepth 100000
set_option maxHeartbeats 400000
namespace Z
open PySem PySem.Spec PyProof.Rows L2
variable [HW]
section
variable {X : Cx} {Γ : Kn} {W : EW} {fr : Bool} {L : List Nat} {pos : Pos} {A B : ES}
theorem g_sub2 {v d : Nat} {x y : Str} {nm tpos py pt ip : Pos} {ik kt : Nat} {i : Int} (hc : X.calm = true) (hN : X.N[v]? = some x) (hv : Vis X.env.scope x) (hd : (x == ("__debug__" : Str)) = false) (hcd : (x == ("__classdict__" : Str)) = false)
    (nd : X.N.Nodup) (hi : X.N[d]? = some y) (hx : Loc X.env.scope y) (hf : X.fn y = true ∨ X.env.scope.names.lookup y = some .local) :
    PG X (.Tuple [.Subscript (.Name x nm) (.Constant (.int i) ik ip) tpos, .Name y py] kt pt) (gTup X.K 2 (gCons (gSub (tVar v) (tC (.int i)) rSetL) (gCons (gName d) gNil))) :=
  pg_tup hc (pgs_cons (pg_sub (pe_var hN hv hd hcd) pe_int set_list (fun _ => rfl)) (pgs_cons (pg_name nd hi hx hf) pgs_nil rfl) rfl) rfl rfl
theorem sub2_end {K00 K0 F H : Hp} {φ : List Addr} {η : Env} {s : Sto} {σ : L2.St} {v d : Nat} {f : List PyData → Option (List PyData)} {q : PyData} {D : Ends} (lk : HLe K00 K0) (no : ∀ (i : Nat) d a, d.isOwn = true → η[i]? = some (some d) → σ[i]? = some (some (.ref a)) → K00 a = none)
    (S : Sim Γ K0 F φ η s σ H) (hL : d ∈ L) (r : RunS Γ W fr K00 F φ σ L ((chg v f η s).nxt fun η s => put η d (.dat q) s) D) :
    ∃ a vs xs ys, σ[v]? = some (some (.ref a)) ∧ H a = some (.lst vs) ∧ RvAll Γ.K F vs xs ∧ f xs = some ys ∧ ∀ ws w, RvAll Γ.K F ws ys → Rv Γ.K F w q → D.nx (σ.set d (some w)) (upd H a (.lst ws)) := by
  unfold chg at r
  split at r
  · rename_i xs e
    obtain ⟨a, q1, vs, q2, q3⟩ := S.ow v _ rfl e
    cases hf : f xs with
    | none => rw [hf] at r; exact r.elim
    | some ys =>
      rw [hf] at r
      refine ⟨a, vs, xs, ys, q1, (S.kp a _ q2).1, q3, hf, fun ws w hw hq => ?_⟩
      obtain ⟨K2, lk2, no2, S2⟩ := SimS.write lk no S rfl e q1 hw
      exact put_run lk2 no2 S2 hL r hq
  · rename_i n e
    obtain ⟨u, q1, a, q2, rfl⟩ := S.sl v (.ref n) rfl e
    split at r
    · rename_i xs es
      obtain ⟨vs, q3, q4⟩ := S.so n a (.lst xs) q2 es
      cases hf : f xs with
      | none => rw [hf] at r; exact r.elim
      | some ys =>
        rw [hf] at r
        refine ⟨a, vs, xs, ys, q1, q3, q4, hf, fun ws w hw hq => ?_⟩
        obtain ⟨K2, lk2, no2, S2⟩ := SimS.store lk no S q2 ⟨ws, upd_same, hw⟩
        exact put_run lk2 no2 S2 hL r hq
    · exact r.elim
  · exact r.elim
theorem pair_e {q : PyData} {xy : PyData × PyData} (h : pairD q = some xy) : q = .tuple [xy.1, xy.2] := by
  unfold pairD at h
  split at h
  · cases h; rfl
  · cases h
theorem s_sub2 {v d : Nat} {x y : Str} {nm tpos py pt ip : Pos} {ik kt : Nat} {e : Expr} {i : Int} (hK : X.K = Γ.K) (hc : X.calm = true) (hN : X.N[v]? = some x) (hv : Vis X.env.scope x) (hd : (x == ("__debug__" : Str)) = false) (hcd : (x == ("__classdict__" : Str)) = false)
    (nd : X.N.Nodup) (hi : X.N[d]? = some y) (hx : Loc X.env.scope y) (hf : X.fn y = true ∨ X.env.scope.names.lookup y = some .local) (hL : d ∈ L) (hnt : noTup e = true) (he : PE X e (rdO Γ W false A.v)) :
    PS X (.Assign [.Tuple [.Subscript (.Name x nm) (.Constant (.int i) ik ip) tpos, .Name y py] kt pt] e pos) (rdS Γ W fr L fun η s => RS.of η (A.v η s) fun p s => RS.of η (R.opt (datOf p) s) fun p s => RS.of η (R.opt (pairD p) s) fun xy s => (chg v (fun xs => setD xs (.int i) xy.1) η s).nxt fun η s => put η d (.dat xy.2) s) := by
  have hps := ps_asg (pos := pos) he (g_sub2 (nm := nm) (tpos := tpos) (py := py) (pt := pt) (ip := ip) (ik := ik) (kt := kt) (i := i) hc hN hv hd hcd nd hi hx hf) (by cases e <;> rfl) (ss_no hnt _ _) rfl
  refine ps_imp hps fun D σ H ⟨K00, F, φ, η, s, ⟨K0, lk, no, S⟩, r⟩ => ?_
  refine ⟨K0, F, φ, η, s, S, (RunS.of r lk).mono fun F1 φ1 H1 p s1 l1 p1 S1 r1 u hu => ?_⟩
  obtain ⟨q, e1, r1⟩ := RunS.some r1
  obtain ⟨xy, e2, r1⟩ := RunS.some r1
  have hr := hu.dat' e1
  rw [pair_e e2] at hr
  obtain ⟨l, vs, xs, ys, z1, z2, z3, z4, z5⟩ := sub2_end lk no S1 hL r1
  obtain ⟨j, hj, e4⟩ := Option.map_eq_some_iff.mp (show (ixN xs.length i).map _ = _ from z4)
  subst e4
  cases hr with
  | tup h1 h2 =>
    cases h2 with
    | cons ra h2 =>
      cases h2 with
      | cons rb h2 =>
        cases h2
        rename_i a va vb
        have sq : SqT X.K H1 a [va, vb] := by rw [hK]; exact sqT_mono S1.fle h1
        have hl : L2.ixN vs.length i = some j := by rw [z3.len, ixN_eq]; exact hj
        have last := z5 (vs.set j va) vb (z3.set ra j) rb
        exact ⟨a, [va, vb], rfl, sq, rfl, va, [vb], rfl, .ref l, z1, l, vs, i, j, rfl, rfl, z2, hl, vb, [], rfl, rfl, last⟩
end
end Z
end

section
set_option maxRecDepth 100000
set_option maxHeartbeats 4000000
/-! Several names at once. -/
namespace Z
open PySem PySem.Spec PyProof.Rows L2
variable [HW]

def setN : L2.St → List Nat → List V → L2.St
  | σ, i :: is, v :: vs => setN (σ.set i (some v)) is vs
  | σ, _, _ => σ
theorem setN_comm {i : Nat} {v : V} : ∀ {is : List Nat} {vs : List V} {σ : L2.St}, i ∉ is → setN (σ.set i (some v)) is vs = (setN σ is vs).set i (some v)
  | [], _, _, _ => rfl
  | _ :: _, [], _, _ => rfl
  | j :: is, w :: vs, σ, h => by
    rw [List.mem_cons, not_or] at h
    show setN ((σ.set i (some v)).set j (some w)) is vs = _
    rw [List.set_comm _ _ h.1, setN_comm h.2]
    rfl
theorem setN_snoc {i : Nat} {v : V} : ∀ {is : List Nat} {vs : List V} {σ : L2.St}, is.length = vs.length → setN σ (is ++ [i]) (vs ++ [v]) = (setN σ is vs).set i (some v)
  | [], [], _, _ => rfl
  | [], _ :: _, _, h => by simp at h
  | _ :: _, [], _, h => by simp at h
  | j :: is, w :: vs, σ, h => setN_snoc (is := is) (vs := vs) (by simpa using h)
theorem setN_rev : ∀ {is : List Nat} {vs : List V} {σ : L2.St}, is.length = vs.length → is.Nodup → setN σ is.reverse vs.reverse = setN σ is vs
  | [], [], _, _, _ => rfl
  | [], _ :: _, _, h, _ => by simp at h
  | _ :: _, [], _, h, _ => by simp at h
  | j :: is, w :: vs, σ, h, nd => by
    rw [List.nodup_cons] at nd
    have hl : is.length = vs.length := by simpa using h
    rw [List.reverse_cons, List.reverse_cons, setN_snoc (by simp [hl]), setN_rev hl nd.2]
    exact (setN_comm nd.1).symm
theorem setN_fr : ∀ {is : List Nat} {vs : List V} {σ : L2.St} {L : List Nat}, (∀ i ∈ is, i ∈ L) → Fr L σ (setN σ is vs)
  | [], _, _, _, _ => Fr.refl
  | _ :: _, [], _, _, _ => Fr.refl
  | i :: is, v :: vs, σ, L, h => (Fr.set (h i List.mem_cons_self)).trans (setN_fr fun j hj => h j (List.mem_cons_of_mem _ hj))
section
variable {X : Cx}
/-- a name that may be stored -/
def LocF (X : Cx) (x : Str) : Prop := Loc X.env.scope x ∧ (X.fn x = true ∨ X.env.scope.names.lookup x = some .local)
/-- the names of slots -/
inductive Nms (X : Cx) : List Expr → List (Nat × Str) → Prop
  | nil : Nms X [] []
  | cons {i : Nat} {x : Str} {p : Pos} {ts : List Expr} {ps : List (Nat × Str)} : X.N[i]? = some x → LocF X x → Nms X ts ps → Nms X (.Name x p :: ts) ((i, x) :: ps)
theorem Nms.len : ∀ {ts : List Expr} {ps : List (Nat × Str)}, Nms X ts ps → ts.length = ps.length
  | _, _, .nil => rfl
  | _, _, .cons _ _ r => congrArg (· + 1) r.len
theorem Nms.mem : ∀ {ts : List Expr} {ps : List (Nat × Str)}, Nms X ts ps → ∀ p ∈ ps, X.N[p.1]? = some p.2 ∧ LocF X p.2
  | _, _, .nil, _, h => by simp at h
  | _, _, .cons a b r, p, h => by
    rcases List.mem_cons.mp h with rfl | h
    · exact ⟨a, b⟩
    · exact r.mem p h
theorem vals_rev {vs : List V} {us : List Value} (r : Vals vs us) : Vals vs.reverse us.reverse := by
  induction r with
  | nil => exact .nil
  | cons a r ih => rw [List.reverse_cons, List.reverse_cons]; exact Vals.append ih (.cons a .nil)
theorem bind_all (hN : X.N.Nodup) {pins : List (Addr × Obj)} {H : Hp} {Q : Unit → Shared → Prop} (ps : List (Nat × Str)) : ∀ (us : List Value) (vs : List V) (σ : L2.St) (s : Shared), (∀ p ∈ ps, X.N[p.1]? = some p.2 ∧ LocF X p.2) → us.length = ps.length → Inv X pins σ H s → Vals vs us →
    (∀ s', Inv X pins (setN σ (ps.map (·.1)) vs) H s' → Q () s') → wpAny (model X.prog X.w) X.A (assignInOrder (ps.map fun p => bindName X.env p.2) us) Q X.xe s := by
  induction ps with
  | nil =>
    intro us vs σ s _ h2 I r h
    have : us = [] := List.length_eq_zero_iff.mp h2
    subst this
    cases r
    exact assignInOrder_nil (h s I)
  | cons p ps ih =>
    intro us vs σ s hn h2 I r h
    cases r with
    | nil => simp at h2
    | cons ru r =>
      have hx := hn p List.mem_cons_self
      refine assignInOrder_cons (wpAny_bindName (store_ok I hN hx.1 hx.2.1 ru (fun s2 I2 => ?_) hx.2.2))
      exact ih _ _ _ s2 (fun q hq => hn q (List.mem_cons_of_mem _ hq)) (by simpa using h2) I2 r h
def tParN (is : List Nat) (ta : TA) : TS := fun D σ H => ta σ H fun vs H1 => vs.length = is.length ∧ D.nx (setN σ is vs) H1
theorem ps_parN {ts es : List Expr} {ps : List (Nat × Str)} {kt k2 : Nat} {pt pt2 pos : Pos} {ta : TA} (hc : X.calm = true) (hN : X.N.Nodup) (hn : Nms X ts ps) (nd : (ps.map (·.1)).Nodup) (hl : ps.length ≤ 1000) (ha : PA X es ta)
    (hw : swappedStores [.Tuple ts kt pt] (.Tuple es k2 pt2) X.env = pure (some (ps.map (·.2)))) : PS X (.Assign [.Tuple ts kt pt] (.Tuple es k2 pt2) pos) (tParN (ps.map (·.1)) ta) := by
  refine ⟨fun pins s σ H D I h => ?_⟩
  rw [exec_Assign_arm]
  refine wpAny_bind (wpAny_standAt ?_)
  have hs : swapsWithSole [.Tuple ts kt pt] (.Tuple es k2 pt2) pos.line X.env = pure false := rfl
  rw [hs]
  refine wpAny_bind (wpAny_pure ?_)
  rw [if_neg (by decide)]
  refine wpAny_bind (wpAny_Tuple_spliced (thn (ha.run _ pins s σ H _ I h) fun us s1 ⟨vs, H1, I1, r1, q1, q2⟩ => ?_))
  have hu : us.length = ps.length := by rw [← r1.length, q1, List.length_map]
  refine ⟨by rw [hu]; exact le_line hl, ?_⟩
  have I2 : Inv X pins σ H1 { s1 with heap := s1.heap.push { cls := .type "tuple", data := .seq us.toArray } } := I1.kept (t' := s1.toks) fun b o e => Heap.get?_push_of_some _ e
  rw [hw]
  refine wpAny_bind (wpAny_pure ?_)
  simp only [assignStores]
  refine wpAny_bind (wpAny_rule (wpAny_bind ?_))
  have hx : (ps.map (·.2)).length = us.toArray.size := by rw [List.length_map, List.size_toArray, hu]
  rw [hx]
  refine unpackItems_tuple (items := us.toArray) (I.ok.hd hc) (IsTup.new s1.heap _) fun h' hx' => ?_
  have I3 := I2.kept (h' := h') (t' := s1.toks) fun b o e => hx' b o (Nat.ne_of_lt (Heap.lt_size e)) e
  have e2 : (ps.map (·.2)).reverse.map (fun n => bindName X.env n) = ps.reverse.map fun p => bindName X.env p.2 := by
    rw [← List.map_reverse, List.map_map]; rfl
  rw [e2]
  refine wpAny_bind (bind_all hN ps.reverse _ vs.reverse _ _ (fun p hp => hn.mem p (List.mem_reverse.mp hp)) (by simp [hu]) I3 (vals_rev r1) fun s3 I5 => ?_)
  rw [List.map_reverse, setN_rev q1.symm nd] at I5
  exact wpAny_pure ⟨_, H1, I5, q2⟩
/-- the same from the left, by a tuple -/
theorem pgs_names (hN : X.N.Nodup) : ∀ {ts : List Expr} {ps : List (Nat × Str)}, Nms X ts ps → PGs X ts fun vs σ H Q => vs.length = ps.length ∧ Q (setN σ (ps.map (·.1)) vs) H
  | _, _, .nil => pgs_imp pgs_nil fun vs σ H Q ⟨h, q⟩ => by
    cases vs with
    | nil => exact ⟨rfl, q⟩
    | cons v vs => simp at h
  | _, _, .cons (i := i) a b r => pgs_imp (pgs_cons (pg_name hN a b.1 b.2) (pgs_names hN r) rfl) fun vs σ H Q ⟨h, q⟩ => by
    cases vs with
    | nil => simp at h
    | cons v vs => exact ⟨v, vs, rfl, by simpa using h, q⟩
theorem Nms.plain : ∀ {ts : List Expr} {ps : List (Nat × Str)}, Nms X ts ps → ts.all plainE = true
  | _, _, .nil => rfl
  | _, _, .cons _ _ r => by rw [List.all_cons, r.plain]; rfl
end
section
variable {X : Cx} {Γ : Kn} {Wx : WX} {fr : Bool} {L : List Nat} {pos : Pos} {A : ES}
/-- values, some of them new lists, each apart -/
inductive FDs (Γ : Kn) (F : Hp) (φ : List Addr) (H : Hp) : Hp → List Bool → List V → List Z.D → Prop
  | nil {K0 : Hp} : FDs Γ F φ H K0 [] [] []
  | own {K0 : Hp} {a : Addr} {us : List V} {xs : List PyData} {os : List Bool} {vs : List V} {ds : List Z.D} : H a = some (.lst us) → RvAll Γ.K F us xs → F a = none → a ∉ φ → K0 a = none → FDs Γ F φ H (upd K0 a (.lst us)) os vs ds →
      FDs Γ F φ H K0 (true :: os) (.ref a :: vs) (.dat (.list xs) :: ds)
  | oth {K0 : Hp} {o : Bool} {v : V} {d : Z.D} {os : List Bool} {vs : List V} {ds : List Z.D} : RD Γ.K Γ.mg F φ v d → (o = true → ∀ xs, d ≠ .dat (.list xs)) → FDs Γ F φ H K0 os vs ds → FDs Γ F φ H K0 (o :: os) (v :: vs) (d :: ds)
theorem FDs.len {F H : Hp} {φ : List Addr} : ∀ {K0 : Hp} {os : List Bool} {vs : List V} {ds : List Z.D}, FDs Γ F φ H K0 os vs ds → vs.length = ds.length
  | _, _, _, _, .nil => rfl
  | _, _, _, _, .own _ _ _ _ _ r => congrArg (· + 1) r.len
  | _, _, _, _, .oth _ _ r => congrArg (· + 1) r.len
theorem FDs.up {F H : Hp} {φ : List Addr} {T : Addr} {o : HO} (hT : H T = none) : ∀ {K0 : Hp} {os : List Bool} {vs : List V} {ds : List Z.D}, FDs Γ F φ H K0 os vs ds → FDs Γ F φ (upd H T o) K0 os vs ds
  | _, _, _, _, .nil => .nil
  | _, _, _, _, .own h1 h2 h3 h4 h5 r => .own (by rw [upd_ne (ne_of_none h1 hT)]; exact h1) h2 h3 h4 h5 (r.up hT)
  | _, _, _, _, .oth h1 h2 r => .oth h1 h2 (r.up hT)
/-- the reading of such values -/
def rdF (Γ : Kn) (Wx : WX) (os : List Bool) (v : Env → Sto → R (List Z.D)) : TA := fun σ H Q => ∃ K0 F φ η s, Sim Γ K0 F φ η s σ H ∧ Run Γ (WQ Γ Wx) K0 F φ η σ (v η s) fun F' φ' H' ds _ => ∀ xs, FDs Γ F' φ' H' K0 os xs ds → Q xs H'
theorem xf_nil : PA X [] (rdF Γ Wx [] (seqV [])) := pa_imp pa_nil fun σ H Q ⟨K0, F, φ, η, s, S, r⟩ => Run.here r S [] .nil
/-- while a new list is kept -/
theorem Run.keep {α : Type} {K0 F H : Hp} {φ : List Addr} {η : Env} {σ : L2.St} {s : Sto} {r : R α} {k : Hp → List Addr → Hp → α → Sto → Prop} {a : Addr} {o : HO} (S : Sim Γ K0 F φ η s σ H) (h : Run Γ (WQ Γ Wx) K0 F φ η σ r k) (h3 : K0 a = none) :
    Run Γ (WQ Γ Wx) (upd K0 a o) F φ η σ r fun F' φ' H' x s' => Sim Γ (upd K0 a o) F' φ' η s' σ H' ∧ k F' φ' H' x s' := by
  have less : ∀ {F' φ' H' s'}, HLe F F' → Sim Γ (upd K0 a o) F' φ' η s' σ H' → Sim Γ K0 F' φ' η s' σ H' := fun {F' φ' H' s'} l S' => S'.keepLess (HLe.upd h3) fun i d hi e => by
    obtain ⟨b, q1, q2⟩ := S.ow i d hi e
    exact ⟨b, q1, q2.mono l fun _ e => e⟩
  cases r with
  | ok x s' => exact fun F' φ' H' l p S' => ⟨S', h F' φ' H' l p (less l S')⟩
  | er x s' => exact fun F' φ' H' l p S' => h F' φ' H' l p (less l S')
  | no => exact h
theorem xf_cons {o : Bool} {os : List Bool} {e : Expr} {es : List Expr} {l : List ES} (ha : PE X e (rdX Γ (WQ Γ Wx) o A.v)) (hr : PA X es (rdF Γ Wx os (seqV l))) (hp : plainE e = true) : PA X (e :: es) (rdF Γ Wx (o :: os) (seqV (A :: l))) := by
  refine pa_imp (pa_cons ha hr (star_cons hp _ _)) fun σ H Q ⟨K0, F, φ, η, s, S, r⟩ => ?_
  refine ⟨K0, F, φ, η, s, S, (Run.step r).mono fun F1 φ1 H1 d s1 l1 p1 S1 r1 x hx => ?_⟩
  have r1 : Run Γ (WQ Γ Wx) K0 F1 φ1 η σ ((seqV l η s1).bd fun ds s => .ok (d :: ds) s) fun F' φ' H' ds _ => ∀ xs, FDs Γ F' φ' H' K0 (o :: os) xs ds → Q xs H' := r1
  by_cases hd : o = true ∧ ∃ xs, d = .dat (.list xs)
  · obtain ⟨rfl, xs, rfl⟩ := hd
    obtain ⟨a, us, rfl, h2, h3, h4, h5, h6⟩ := hx
    refine ⟨upd K0 a (.lst us), F1, φ1, η, s1, S1.keepMore h2 h4 h5 h6, (Run.keep S1 (Run.step r1) h6).mono fun F2 φ2 H2 ds s2 l2 p2 S2 ⟨_, q⟩ vs hv => ?_⟩
    obtain ⟨k1, k2, k3⟩ := S2.kp a _ upd_same
    refine Run.here q (S2.keepLess (HLe.upd h6) fun i d hi e => ?_) (.ref a :: vs) (.own k1 (h3.mono l2) k2 k3 h6 hv)
    obtain ⟨b, q1, q2⟩ := S1.ow i d hi e
    exact ⟨b, q1, q2.mono l2 fun _ e => e⟩
  · have hR : RD Γ.K Γ.mg F1 φ1 x d ∧ (o = true → ∀ xs, d ≠ .dat (.list xs)) := by
      refine ⟨?_, fun ho xs e => hd ⟨ho, xs, e⟩⟩
      cases o with
      | false => exact hx
      | true => exact hx.rd fun xs e => hd ⟨rfl, xs, e⟩
    exact ⟨K0, F1, φ1, η, s1, S1, (Run.step r1).mono fun F2 φ2 H2 ds s2 l2 p2 S2 q vs hv => Run.here q S2 (x :: vs) (.oth (hR.1.mono l2 p2) hR.2 hv)⟩
theorem puts_sim {K00 F H : Hp} {φ : List Addr} {s : Sto} : ∀ {os : List Bool} {is : List Nat} {vs : List V} {ds : List Z.D} {K0 : Hp} {η η' : Env} {σ : L2.St}, HLe K00 K0 → (∀ (i : Nat) d a, d.isOwn = true → η[i]? = some (some d) → σ[i]? = some (some (.ref a)) → K00 a = none) →
    Sim Γ K0 F φ η s σ H → FDs Γ F φ H K0 os vs ds → puts os is ds η = some η' → SimS Γ K00 F φ η' s (setN σ is vs) H
  | _, [], _, _, K0, η, η', σ, lk, no, S, .nil, h => by
    rw [puts] at h
    cases h
    exact ⟨K0, lk, no, S⟩
  | _, _ :: _, _, _, _, _, _, _, _, _, _, .nil, h => by simp [puts] at h
  | _, [], _, _, _, _, _, _, _, _, _, .own .., h => by simp [puts] at h
  | _, [], _, _, _, _, _, _, _, _, _, .oth .., h => by simp [puts] at h
  | _, i :: is, _, _, K0, η, η', σ, lk, no, S, .own (a := a) (us := us) (xs := xs) h1 h2 h3 h4 h5 r, h => by
    unfold puts at h
    by_cases hl : i < η.length ∧ i ∉ is
    · rw [if_pos hl] at h
      have h : puts _ is _ (η.set i (some (.own xs))) = some η' := h
      have hl' : i < σ.length := by rw [← S.sz]; exact hl.1
      show SimS Γ K00 F φ η' s (setN (σ.set i (some (.ref a))) is _) H
      refine puts_sim (lk.trans (HLe.upd h5)) (fun j e b he e1 e2 => ?_) (S.take hl.1 h1 h2 h3 h4 h5) r h
      by_cases z : i = j
      · subst z
        rw [List.getElem?_set_self hl'] at e2
        cases e2
        exact none_of lk h5
      · rw [List.getElem?_set_ne z] at e1 e2
        exact no j e b he e1 e2
    · rw [if_neg hl] at h; cases h
  | _, i :: is, _, _, K0, η, η', σ, lk, no, S, .oth (o := o) (v := v) (d := d) h1 h2 r, h => by
    unfold puts at h
    by_cases hl : i < η.length ∧ i ∉ is
    · rw [if_pos hl] at h
      cases o with
      | true =>
        exfalso
        simp only at h
        obtain ⟨xs, e1, _⟩ := Option.bind_eq_some_iff.mp h
        exact h2 rfl xs (toOwn_some e1)
      | false =>
        simp only at h
        split at h
        · cases h
        · rename_i ho
          have ho : d.isOwn = false := by simpa using ho
          show SimS Γ K00 F φ η' s (setN (σ.set i (some v)) is _) H
          refine puts_sim lk (fun j e b he e1 e2 => ?_) (S.put ho hl.1 h1) r h
          by_cases z : i = j
          · subst z
            rw [List.getElem?_set_self hl.1] at e1
            cases e1
            rw [ho] at he; cases he
          · rw [List.getElem?_set_ne z] at e1 e2
            exact no j e b he e1 e2
    · rw [if_neg hl] at h; cases h
theorem puts_len : ∀ {os : List Bool} {is : List Nat} {ds : List Z.D} {η η' : Env}, puts os is ds η = some η' → ds.length = is.length
  | [], [], [], _, _, _ => rfl
  | o :: os, i :: is, d :: ds, η, η', h => by
    unfold puts at h
    split at h
    · cases o with
      | true =>
        obtain ⟨xs, _, h⟩ := Option.bind_eq_some_iff.mp h
        simp [puts_len h]
      | false =>
        simp only at h
        split at h
        · cases h
        · simp [puts_len h]
    · cases h
  | [], [], _ :: _, _, _, h => by simp [puts] at h
  | [], _ :: _, _, _, _, h => by simp [puts] at h
  | _ :: _, [], _, _, _, h => by simp [puts] at h
  | _ :: _, _ :: _, [], _, _, h => by simp [puts] at h
theorem s_parN {os : List Bool} {ts es : List Expr} {ps : List (Nat × Str)} {kt k2 : Nat} {pt pt2 : Pos} {l : List ES} (hc : X.calm = true) (hN : X.N.Nodup) (hn : Nms X ts ps) (nd : (ps.map (·.1)).Nodup) (hl : ps.length ≤ 1000) (hL : ∀ p ∈ ps, p.1 ∈ L)
    (hw : swappedStores [.Tuple ts kt pt] (.Tuple es k2 pt2) X.env = pure (some (ps.map (·.2)))) (ha : PA X es (rdF Γ Wx os (seqV l))) :
    PS X (.Assign [.Tuple ts kt pt] (.Tuple es k2 pt2) pos) (rdS Γ (WQ Γ Wx) fr L fun η s => RS.of η (seqV l η s) fun ds s => RS.of η (R.opt (puts os (ps.map (·.1)) ds η) s) fun η s => .fl (.nx η) s) := by
  refine ps_imp (ps_parN hc hN hn nd hl ha hw) fun D σ H ⟨K00, F, φ, η, s, ⟨K0, lk, no, S⟩, r⟩ => ?_
  refine ⟨K0, F, φ, η, s, S, (RunS.of r lk).mono fun F1 φ1 H1 ds s1 l1 p1 S1 r1 xs hx => ?_⟩
  obtain ⟨η', e, r2⟩ := RunS.some r1
  exact ⟨hx.len.trans (puts_len e), r2 F1 φ1 _ H1 (HLe.refl _) PLe.rfl' (setN_fr fun i hi => by obtain ⟨p, hp, rfl⟩ := List.mem_map.mp hi; exact hL p hp) (puts_sim lk no S1 hx e)⟩
theorem s_parT {os : List Bool} {ts es : List Expr} {ps : List (Nat × Str)} {kt k2 : Nat} {pt pt2 : Pos} {l : List ES} (hK : X.K = Γ.K) (hc : X.calm = true) (hN : X.N.Nodup) (hn : Nms X ts ps) (hl : ps.length ≤ 1000) (hL : ∀ p ∈ ps, p.1 ∈ L)
    (hw : swappedStores [.Tuple ts kt pt] (.Tuple es k2 pt2) X.env = pure none) (ha : PA X es (rdF Γ Wx os (seqV l))) :
    PS X (.Assign [.Tuple ts kt pt] (.Tuple es k2 pt2) pos) (rdS Γ (WQ Γ Wx) fr L fun η s => RS.of η (seqV l η s) fun ds s => RS.of η (R.opt (puts os (ps.map (·.1)) ds η) s) fun η s => .fl (.nx η) s) := by
  refine ps_imp (ps_asg (pe_tup ha) (pg_tup hc (pgs_names hN hn) rfl (each_find _ hn.plain)) rfl hw rfl) fun D σ H ⟨K00, F, φ, η, s, ⟨K0, lk, no, S⟩, r⟩ => ?_
  refine ⟨K0, F, φ, η, s, S, (RunS.of r lk).mono fun F1 φ1 H1 ds s1 l1 p1 S1 r1 xs hx => ?_⟩
  obtain ⟨η', e, r2⟩ := RunS.some r1
  have hlen : xs.length = ps.length := by rw [hx.len, puts_len e, List.length_map]
  refine ⟨le_line (by rw [hlen]; exact hl), fun p hp => ⟨p, xs, rfl, SqT.of upd_same, by rw [hlen, each_len, hn.len], hlen, ?_⟩⟩
  obtain ⟨S2, _⟩ := S1.new hp (.tup xs)
  exact r2 F1 φ1 _ _ (HLe.refl _) PLe.rfl' (setN_fr fun i hi => by obtain ⟨p, hp, rfl⟩ := List.mem_map.mp hi; exact hL p hp) (puts_sim lk no S2 (hx.up hp) e)
/-! ### which way the stores go -/
/-- what swappedStores says, a plain look: none, or the names from the right -/
def swC (sc : Scope) (ts vs : List Expr) : Option (Option (List Str)) :=
  if (!(ts.length == 2 || ts.length == 3) || vs.length != ts.length) = true then some none else
  if (vs.any fun e => match e with | .Starred .. => true | _ => false) = true then some none else
  let line := (ts.head?.map (·.pos.line)).getD 0
  let names := ts.filterMap fun e => match e with
    | .Name id pos => if (sc.names.lookup id == some .local && pos.line == line) = true then some id else none
    | _ => none
  if (names.length != ts.length || names.eraseDups.length != names.length) = true then some none else
  if vs.all (foldedForSure 8) = true then some none else
  if vs.all (constantsAlone 8) = true then none else some (some names)
theorem swC_ok {ts vs : List Expr} {k k2 : Nat} {p p2 : Pos} {env : PySem.Env} (hk : env.scope.kind = .function) {r : Option (List Str)} (h : swC env.scope ts vs = some r) : swappedStores [.Tuple ts k p] (.Tuple vs k2 p2) env = pure r := by
  have hb : env.blockKind = .function := by unfold Env.blockKind; rw [hk]; rfl
  have hkd : ∀ id, env.kindOf id = env.scope.names.lookup id := fun id => rfl
  unfold swC at h
  unfold swappedStores
  simp only [hb, hkd]
  split at h
  · rename_i c1
    cases h
    have c1' : (!(ts.length == 2 || ts.length == 3) || vs.length != ts.length || (ScopeKind.function != ScopeKind.function)) = true := by rw [c1]; rfl
    rw [if_pos c1']
  · rename_i c1
    have c1' : ¬ (!(ts.length == 2 || ts.length == 3) || vs.length != ts.length || (ScopeKind.function != ScopeKind.function)) = true := by
      intro z; rw [Bool.or_eq_true] at z; rcases z with z | z
      · exact c1 z
      · cases z
    rw [if_neg c1']
    split at h
    · rename_i c2
      cases h
      exact if_pos c2
    · rename_i c2
      split
      · rename_i z; exact absurd z c2
      · dsimp only at h
        split at h
        · rename_i c3
          cases h
          exact if_pos c3
        · rename_i c3
          split
          · rename_i z; exact absurd z c3
          · split at h
            · rename_i c4
              cases h
              exact if_pos c4
            · rename_i c4
              rw [if_neg c4]
              split at h
              · cases h
              · rename_i c5
                cases h
                rw [if_neg c5]
                rfl
end
end Z
end

section
set_option maxRecDepth 100000
set_option maxHeartbeats 4000000
/-! Dicts that a name alone holds. -/
namespace Z
open PySem PySem.Spec PyProof.Rows L2
variable [HW]
theorem isKey_of {k : PyData} (h : isKey k = true) : ∃ q : Key, k = keyP q := by
  cases k with
  | int i => exact ⟨.inl i, rfl⟩
  | str x => exact ⟨.inr x, rfl⟩
  | _ => cases h
theorem isKeyT {k : PyData} (h : isKeyM true k = true) : ∃ ks nk, k = .tuple ks ∧ keyN (.tuple ks) = some nk ∧ nk.depth ≤ 8 := by
  cases k with
  | tuple ks =>
    simp only [isKeyM] at h
    cases e : keyN (.tuple ks) with
    | none => rw [e] at h; cases h
    | some nk => rw [e] at h; exact ⟨ks, nk, rfl, e, of_decide_eq_true h⟩
  | _ => cases h
theorem rv_key {K : PySem.W.Frag} {F : Hp} {v : V} {q : Key} (h : Rv K F v (keyP q)) : v = kV q := by
  cases q <;> cases h <;> rfl
theorem sameK_iff (p q : Key) : sameK (keyP p) (keyP q) = decide (p = q) := by
  cases p <;> cases q <;> simp [keyP, sameK]
section
variable {K : PySem.W.Frag} {F F' : Hp}
theorem kv_get {ks : List (Key × V)} {kvs : List (PyData × PyData)} (r : KvAll K F ks kvs) (q : Key) :
    (getK kvs (keyP q) = none ∧ valV ks q = none) ∨ ∃ d v, getK kvs (keyP q) = some d ∧ valV ks q = some v ∧ Rv K F v d := by
  induction r with
  | nil => exact .inl ⟨rfl, rfl⟩
  | @cons k v d ks kvs h _ ih =>
    simp only [getK, sameK_iff]
    by_cases e : k = q
    · exact .inr ⟨d, v, by simp [e], valV_pos e, h⟩
    · rw [valV_neg (p := (k, v)) e]
      simpa [e] using ih
theorem kv_map {q : Key} {v : V} {d : PyData} (hv : Rv K F v d) {ks : List (Key × V)} {kvs : List (PyData × PyData)} (r : KvAll K F ks kvs) :
    KvAll K F (ks.map fun kv => if kv.1 = q then (kv.1, v) else kv) (kvs.map (subK (keyP q) d)) := by
  induction r with
  | nil => exact .nil
  | @cons k u e ks kvs h _ ih =>
    simp only [List.map_cons, subK, sameK_iff]
    by_cases z : k = q
    · simpa [z] using KvAll.cons hv ih
    · simpa [z] using KvAll.cons h ih
theorem kv_snoc {q : Key} {v : V} {d : PyData} (hv : Rv K F v d) {ks : List (Key × V)} {kvs : List (PyData × PyData)} (r : KvAll K F ks kvs) : KvAll K F (ks ++ [(q, v)]) (kvs ++ [(keyP q, d)]) := by
  induction r with
  | nil => exact .cons hv .nil
  | cons h _ ih => exact .cons h ih
theorem kv_put {ks : List (Key × V)} {kvs : List (PyData × PyData)} (r : KvAll K F ks kvs) (q : Key) {v : V} {d : PyData} (hv : Rv K F v d) : KvAll K F (putK ks q v) (putKd kvs (keyP q) d) := by
  unfold putK putKd
  rw [valV_any]
  rcases kv_get r q with ⟨h1, h2⟩ | ⟨e, u, h1, h2, _⟩
  · rw [h1, h2]
    exact kv_snoc hv r
  · rw [h1, h2]
    exact kv_map hv r
theorem kv_len {ks : List (Key × V)} {kvs : List (PyData × PyData)} (r : KvAll K F ks kvs) : ks.length = kvs.length := by
  induction r with
  | nil => rfl
  | cons _ _ ih => simp [ih]
theorem kv_merge {ms : List (Key × V)} {mvs : List (PyData × PyData)} (m : KvAll K F ms mvs) : ∀ {ks : List (Key × V)} {kvs : List (PyData × PyData)}, KvAll K F ks kvs → KvAll K F (mergeK ks ms) (mrgD kvs mvs) := by
  induction m with
  | nil => exact fun r => r
  | @cons k v d ms mvs h _ ih => exact fun r => ih (kv_put r k h)
theorem prD_e {m : Bool} {p : PyData} {q : PyData × PyData} (h : prD m p = some q) : p = .tuple [q.1, q.2] ∧ isKeyM m q.1 = true := by
  unfold prD at h
  split at h
  · split at h
    · rename_i hk
      cases h
      exact ⟨rfl, hk⟩
    · cases h
  · cases h
theorem prs_all {H : Hp} (hle : HLe F H) : ∀ {vs : List V} {ps : List PyData} {kvs : List (PyData × PyData)}, RvAll K F vs ps → prsD false ps = some kvs →
    ∃ (as : List Addr) (ks : List (Key × V)), vs = as.map V.ref ∧ Paired (fun p kv => SqT K H p [kV kv.1, kv.2]) as ks ∧ KvAll K F ks kvs
  | _, _, kvs, .nil, h => by cases h; exact ⟨[], [], rfl, .nil, .nil⟩
  | _, _, kvs, .cons (v := v) (vs := vs) (d := p) (ds := r) hv t, h => by
    obtain ⟨q, e1, h⟩ := Option.bind_eq_some_iff.mp h
    obtain ⟨m, e2, rfl⟩ := Option.map_eq_some_iff.mp h
    obtain ⟨as, ks, rfl, h2, h3⟩ := prs_all hle t e2
    obtain ⟨rfl, hk⟩ := prD_e e1
    obtain ⟨q1, q2⟩ := q
    obtain ⟨k, e3⟩ := isKey_of (show isKey q1 = true from hk)
    subst e3
    cases hv with
    | @tup a us _ hs hr =>
      cases hr with
      | @cons u1 us1 _ _ r1 hr =>
        cases hr with
        | @cons u2 us2 _ _ r2 hr =>
          cases hr
          have e := rv_key r1
          subst e
          exact ⟨a :: as, (k, u2) :: ks, rfl, .cons (sqT_mono hle hs) h2, .cons r2 h3⟩
/-! keys that are tuples -/
theorem atKey_nil (nk : NestedKey) : atKey ([] : List (NestedKey × Addr × Value)) nk = none := rfl
theorem atKey_cons (x : NestedKey × Addr × Value) (xs : List (NestedKey × Addr × Value)) (nk : NestedKey) : atKey (x :: xs) nk = if x.1 = nk then some x.2 else atKey xs nk := by
  unfold atKey
  rw [List.find?_cons]
  by_cases h : x.1 = nk <;> simp [h]
theorem nv_get {xs : List (NestedKey × Addr × Value)} {kvs : List (PyData × PyData)} (r : NvAll K F xs kvs) {ks : List PyData} {nk : NestedKey} (e : keyN (.tuple ks) = some nk) :
    (getK kvs (.tuple ks) = none ∧ atKey xs nk = none) ∨ ∃ d v p, getK kvs (.tuple ks) = some d ∧ atKey xs nk = some p ∧ Rv K F v d ∧ RelV v p.2 := by
  induction r with
  | nil => exact .inl ⟨rfl, rfl⟩
  | @cons nk' b u v ks' d xs kvs e1 e2 r1 r2 e3 _ ih =>
    rw [atKey_cons]
    simp only [getK, sameK, e1, e, sameN]
    by_cases z : nk' = nk
    · exact .inr ⟨d, v, (b, u), by simp [z], by simp [z], r2, e3⟩
    · simpa [z] using ih
theorem nv_map {ks : List PyData} {nk : NestedKey} (e : keyN (.tuple ks) = some nk) {v : V} {d : PyData} {u : Value} (hv : Rv K F v d) (hu : RelV v u) {xs : List (NestedKey × Addr × Value)} {kvs : List (PyData × PyData)} (r : NvAll K F xs kvs) :
    NvAll K F (xs.map (putAt nk u)) (kvs.map (subK (.tuple ks) d)) := by
  induction r with
  | nil => exact .nil
  | @cons nk' b u' v' ks' d' xs kvs e1 e2 r1 r2 e3 _ ih =>
    simp only [List.map_cons, putAt, subK, sameK, e1, e, sameN]
    by_cases z : nk' = nk
    · simp only [z, if_true, decide_true]
      rw [z] at e1 e2
      exact .cons e1 e2 r1 hv hu ih
    · simp only [z, if_false, decide_false, Bool.false_eq_true]
      exact .cons e1 e2 r1 r2 e3 ih
theorem nv_snoc {b : Addr} {ks : List PyData} {nk : NestedKey} (e : keyN (.tuple ks) = some nk) (h8 : nk.depth ≤ 8) (hk : Rv K F (.ref b) (.tuple ks)) {v : V} {d : PyData} {u : Value} (hv : Rv K F v d) (hu : RelV v u) {xs : List (NestedKey × Addr × Value)} {kvs : List (PyData × PyData)} (r : NvAll K F xs kvs) :
    NvAll K F (xs ++ [(nk, b, u)]) (kvs ++ [(.tuple ks, d)]) := by
  induction r with
  | nil => exact .cons e h8 hk hv hu .nil
  | cons e1 e2 r1 r2 e3 _ ih => exact .cons e1 e2 r1 r2 e3 ih
theorem nv_put {b : Addr} {ks : List PyData} {nk : NestedKey} (e : keyN (.tuple ks) = some nk) (h8 : nk.depth ≤ 8) (hk : Rv K F (.ref b) (.tuple ks)) {v : V} {d : PyData} {u : Value} (hv : Rv K F v d) (hu : RelV v u) {xs : List (NestedKey × Addr × Value)} {kvs : List (PyData × PyData)} (r : NvAll K F xs kvs) :
    NvAll K F (storedH xs nk b u) (putKd kvs (.tuple ks) d) := by
  unfold storedH putKd
  rcases nv_get r e with ⟨h1, h2⟩ | ⟨d', v', p, h1, h2, _⟩
  · rw [h1, h2]
    exact nv_snoc e h8 hk hv hu r
  · rw [h1, h2]
    exact nv_map e hv hu r
theorem nv_len {xs : List (NestedKey × Addr × Value)} {kvs : List (PyData × PyData)} (r : NvAll K F xs kvs) : xs.length = kvs.length := by
  induction r with
  | nil => rfl
  | cons _ _ _ _ _ _ ih => simp [ih]
end
section
variable {X : Cx} {pins : List (Addr × Obj)} {σ : L2.St} {F H : Hp} {s : Shared}
mutual
theorem nest_is (I : Inv X pins σ H s) (hle : HLe F H) : ∀ (d : PyData) {v : V} {nk : NestedKey} {u : Value}, Rv X.K F v d → keyN d = some nk → RelV v u → NestedIs s.heap nk u
  | .none, _, _, _, r, e, ru => by
    cases r; cases e
    cases (show _ = Value.none from ru)
    exact .none
  | .bool b, _, _, _, r, e, ru => by
    cases r; cases e
    cases (show _ = Value.bool b from ru)
    exact .bool rfl
  | .int i, _, _, _, r, e, ru => by
    cases r; cases e
    obtain ⟨t, rfl⟩ := (show ∃ t, _ = Value.int i t from ru)
    exact .int _ _
  | .str x, _, _, _, r, e, ru => by
    cases r; cases e
    obtain ⟨t, rfl⟩ := (show ∃ t, _ = Value.str x t from ru)
    exact .text _ _
  | .tuple ds, _, _, _, r, e, ru => by
    simp only [keyN] at e
    obtain ⟨ks, e1, rfl⟩ := Option.map_eq_some_iff.mp e
    cases r with
    | @tup a vs _ hs hr =>
      cases (show _ = Value.ref a from ru)
      obtain ⟨its, rv, ⟨o, h1, h2, n, h3⟩, _⟩ := I.tuple (sqT_mono hle hs)
      exact .tup h1 h2 h3 (by simpa using nests_are I hle ds hr e1 rv)
  | .list _, _, _, _, _, e, _ => by cases e
  | .dict _, _, _, _, _, e, _ => by cases e
theorem nests_are (I : Inv X pins σ H s) (hle : HLe F H) : ∀ (ds : List PyData) {vs : List V} {ks : List NestedKey} {us : List Value}, RvAll X.K F vs ds → keyNs ds = some ks → Vals vs us → NestedAll s.heap ks us
  | [], _, _, _, r, e, ru => by
    cases r; cases e; cases ru
    exact .nil
  | d :: ds, _, _, _, r, e, ru => by
    simp only [keyNs] at e
    obtain ⟨k, e1, e⟩ := Option.bind_eq_some_iff.mp e
    obtain ⟨ks, e2, rfl⟩ := Option.map_eq_some_iff.mp e
    cases r with
    | cons r1 r2 =>
      cases ru with
      | cons u1 u2 => exact .cons (nest_is I hle d r1 e1 u1) (nests_are I hle ds r2 e2 u2)
end
theorem nest_key (I : Inv X pins σ H s) (hle : HLe F H) {b : Addr} {ks : List PyData} {nk : NestedKey} (r : Rv X.K F (.ref b) (.tuple ks)) (e : keyN (.tuple ks) = some nk) (h8 : nk.depth ≤ 8) : (nestedKind X.prog X.w).is s.heap nk b :=
  ⟨nest_is I hle _ r e rfl, h8⟩
theorem nest_keys (I : Inv X pins σ H s) (hle : HLe F H) {xs : List (NestedKey × Addr × Value)} {kvs : List (PyData × PyData)} (r : NvAll X.K F xs kvs) : ∀ x ∈ xs, (nestedKind X.prog X.w).is s.heap x.1 x.2.1 := by
  induction r with
  | nil => exact fun _ h => nomatch h
  | cons e1 e2 r1 r2 e3 _ ih =>
    intro x hx
    rcases List.mem_cons.mp hx with rfl | hx
    · exact nest_key I hle r1 e1 e2
    · exact ih x hx
/-- the key at b and the keys of xs stand -/
def KeysOk (X : Cx) (H : Hp) (b : Addr) (nk : NestedKey) (xs : List (NestedKey × Addr × Value)) : Prop := ∀ (pins : List (Addr × Obj)) (σ : L2.St) (s : Shared), Inv X pins σ H s → (nestedKind X.prog X.w).is s.heap nk b ∧ ∀ x ∈ xs, (nestedKind X.prog X.w).is s.heap x.1 x.2.1
theorem keys_ok (hle : HLe F H) {b : Addr} {ks : List PyData} {nk : NestedKey} (r : Rv X.K F (.ref b) (.tuple ks)) (e : keyN (.tuple ks) = some nk) (h8 : nk.depth ≤ 8) {xs : List (NestedKey × Addr × Value)} {kvs : List (PyData × PyData)} (q : NvAll X.K F xs kvs) : KeysOk X H b nk xs :=
  fun _ _ _ I => ⟨nest_key I hle r e h8, nest_keys I hle q⟩
theorem nd_heap (hw : X.w = HW.w) (I : Inv X pins σ H s) {a : Addr} {xs : List (NestedKey × Addr × Value)} (ha : H a = some (ndO a xs)) (hk : ∀ x ∈ xs, (nestedKind X.prog X.w).is s.heap x.1 x.2.1) :
    xs.length ≤ sizeLine ∧ (a == sysModules) = false ∧ s.heap.DictOfH (nestedKind X.prog X.w) a xs := by
  obtain ⟨⟨h1, h2, o, es, ep, h3, h4, h5, h6, h7⟩, _, _⟩ := I.hok a _ ha
  refine ⟨h1, h2, o, es, ep, h3, h4, h5, ?_, hk, h7⟩
  rw [h6]
  refine List.map_congr_left fun x _ => ?_
  show entN x = ⟨x.1.hash X.w, .ref x.2.1, x.2.2⟩
  rw [hw]; rfl
theorem nd_new (hw : X.w = HW.w) {H' : Hp} {h' : Heap} {a : Addr} {xs : List (NestedKey × Addr × Value)} (z : xs.length ≤ sizeLine) (hd : (a == sysModules) = false) (dd : h'.DictOfH (nestedKind X.prog X.w) a xs) : ObjOk X.prog X.w H' h' a (ndO a xs) := by
  obtain ⟨o, es, ep, h3, h4, h5, h6, _, h7⟩ := dd
  refine ⟨⟨z, hd, o, es, ep, h3, h4, h5, ?_, h7⟩, ⟨o, h3⟩, fun h1 h2 ⟨z, hd, o, es, ep, h3, r⟩ st => ⟨z, hd, o, es, ep, st o h3, r⟩⟩
  rw [h6]
  refine List.map_congr_left fun x _ => ?_
  show (⟨x.1.hash X.w, .ref x.2.1, x.2.2⟩ : DictEntry) = entN x
  rw [hw]; rfl
theorem room_n {A : Around} (hu : A.units + 65 < cLine) : (nestedKind X.prog X.w).room A.in1 := show A.units + 1 + 8 < cLine by omega
variable {o i : Expr} {ty td : TE} {pos : Pos}
def tNIn (X : Cx) (neg : Bool) (ty td : TE) : TE := fun σ H Q => ty σ H fun y H1 => td σ H1 fun x H2 => ∃ a b nk xs, x = .ref a ∧ y = .ref b ∧ H2 a = some (ndO a xs) ∧ KeysOk X H2 b nk xs ∧ Q (.bl (if neg then !(atKey xs nk).isSome else (atKey xs nk).isSome)) H2
theorem pc_nin (hw : X.w = HW.w) (hu : X.A.units + 65 < cLine) (hi : PE X i ty) (ho : PE X o td) : PC X .In i o (tNIn X false ty td) := by
  refine ⟨fun pins s σ H Q I h => ?_⟩
  refine thn (hi.run pins s σ H _ I h) fun iv s1 ⟨y, H1, I1, ry, q1⟩ => thn (ho.run pins s1 σ H1 _ I1 q1) fun u s2 ⟨x, H2, I2, rx, a, b, nk, xs, ex, ey, ha, hk, q2⟩ => ?_
  subst ex; subst ey
  cases (show u = Value.ref a from rx)
  cases (show iv = Value.ref b from ry)
  obtain ⟨k1, k2⟩ := hk _ _ _ I2
  obtain ⟨_, hd, dd⟩ := nd_heap hw I2 ha k2
  exact wpAny_in_heap (room_n hu) k1 hd dd ⟨.bl _, H2, I2.tok _, rfl, q2⟩
theorem pc_nnotin (hw : X.w = HW.w) (hu : X.A.units + 65 < cLine) (hi : PE X i ty) (ho : PE X o td) : PC X .NotIn i o (tNIn X true ty td) := by
  refine ⟨fun pins s σ H Q I h => ?_⟩
  refine thn (hi.run pins s σ H _ I h) fun iv s1 ⟨y, H1, I1, ry, q1⟩ => thn (ho.run pins s1 σ H1 _ I1 q1) fun u s2 ⟨x, H2, I2, rx, a, b, nk, xs, ex, ey, ha, hk, q2⟩ => ?_
  subst ex; subst ey
  cases (show u = Value.ref a from rx)
  cases (show iv = Value.ref b from ry)
  obtain ⟨k1, k2⟩ := hk _ _ _ I2
  obtain ⟨_, hd, dd⟩ := nd_heap hw I2 ha k2
  exact wpAny_notIn_heap (room_n hu) k1 hd dd ⟨.bl _, H2, I2.tok _, rfl, q2⟩
def tNGet (X : Cx) (td ty : TE) : TE := fun σ H Q => td σ H fun x H1 => ty σ H1 fun y H2 => ∃ a b nk xs p v, x = .ref a ∧ y = .ref b ∧ H2 a = some (ndO a xs) ∧ KeysOk X H2 b nk xs ∧ atKey xs nk = some p ∧ RelV v p.2 ∧ Q v H2
theorem pe_nget (hw : X.w = HW.w) (hu : X.A.units + 65 < cLine) (ho : PE X o td) (hi : PE X i ty) (hs : NoSl i) : PE X (.Subscript o i pos) (tNGet X td ty) := by
  refine ⟨fun pins s σ H Q I h => ?_⟩
  refine subD_of PySem.F.slot_dict_getitem.lookup hs (thn (ho.run pins s σ H _ I h) fun u s1 ⟨x, H1, I1, rx, q1⟩ => thn (hi.run pins s1 σ H1 _ I1 q1) fun iv s2 ⟨y, H2, I2, ry, a, b, nk, xs, p, v, ex, ey, ha, hk, hp, rv, q2⟩ => ?_)
  subst ex; subst ey
  cases (show u = Value.ref a from rx)
  cases (show iv = Value.ref b from ry)
  obtain ⟨k1, k2⟩ := hk _ _ _ I2
  obtain ⟨_, hd, dd⟩ := nd_heap hw I2 ha k2
  exact ⟨dd.typeIs, wpAny_getItem_heap (room_n hu) k1 dd hp ⟨v, H2, I2.tok _, rv, q2⟩⟩
def rSetN (X : Cx) : TSet := fun o i v H Q => ∃ a b nk xs, o = .ref a ∧ i = .ref b ∧ H a = some (ndO a xs) ∧ KeysOk X H b nk xs ∧ xs.length < sizeLine ∧ ∀ u, RelV v u → Q (upd H a (ndO a (storedH xs nk b u)))
theorem storedH_le (xs : List (NestedKey × Addr × Value)) (nk : NestedKey) (b : Addr) (u : Value) : (storedH xs nk b u).length ≤ xs.length + 1 := by
  unfold storedH
  split <;> simp
theorem set_nd (hw : X.w = HW.w) (hu : X.A.units + 65 < cLine) : PSet X (rSetN X) := by
  intro pins s σ H o i v ov iv u Q I ro ri rv h
  obtain ⟨a, b, nk, xs, eo, ei, ha, hk, hl, q⟩ := h
  subst eo; subst ei
  cases (show ov = Value.ref a from ro)
  cases (show iv = Value.ref b from ri)
  obtain ⟨k1, k2⟩ := hk _ _ _ I
  obtain ⟨z, hd, dd⟩ := nd_heap hw I ha k2
  refine wpAny_setItem_heap (hsz := z) (room_n hu) k1 dd fun h' dd' hs => ⟨upd H a (ndO a (storedH xs nk b u)), ?_, q u rv⟩
  have he : ∃ q, h'.get? a = some q := let ⟨q, _, _, hq, _⟩ := dd'; ⟨q, hq⟩
  have := storedH_le xs nk b u
  exact d_write I (by rw [ha]; trivial) hs he (nd_new hw (by omega) hd dd')
end
section
variable {X : Cx} {Γ : Kn} {W : EW} {A : ES} {pos : Pos} {b : Expr}
theorem lookC_some {η : Env} {i : Nat} {s : Sto} {α : Type} {f : Bool × List (PyData × PyData) → Sto → R α} {K0 F : Hp} {φ : List Addr} {σ : L2.St} {k : Hp → List Addr → Hp → α → Sto → Prop} (r : Run Γ W K0 F φ η σ ((lookC η i s).bd f) k) :
    ∃ m kvs, (η[i]? = some (some (.odc m kvs)) ∨ η[i]? = some (some (.fdc m kvs))) ∧ Run Γ W K0 F φ η σ (f (m, kvs) s) k := by
  unfold lookC at r
  split at r
  · rename_i m kvs e
    exact ⟨m, kvs, .inl e, r⟩
  · rename_i m kvs e
    exact ⟨m, kvs, .inr e, r⟩
  · exact r.elim
/-- where the dict of a name stands -/
theorem dic_at {K0 F H : Hp} {φ : List Addr} {η : Env} {s : Sto} {σ : L2.St} {i : Nat} {m : Bool} {kvs : List (PyData × PyData)} (S : Sim Γ K0 F φ η s σ H) (e : η[i]? = some (some (.odc m kvs)) ∨ η[i]? = some (some (.fdc m kvs))) :
    ∃ a, σ[i]? = some (some (.ref a)) ∧ ∀ (F1 H1 : Hp) (φ1 : List Addr) (s1 : Sto), HLe F F1 → Sim Γ K0 F1 φ1 η s1 σ H1 → DicAt Γ.K F1 H1 a kvs m := by
  rcases e with e | e
  · obtain ⟨a, q1, q2⟩ := S.ow i _ rfl e
    exact ⟨a, q1, fun F1 H1 φ1 s1 l S1 => (show DicAt Γ.K F K0 a kvs m from q2).mono l fun o h => (S1.kp a o h).1⟩
  · obtain ⟨v, q1, q2⟩ := S.sl i _ rfl e
    obtain ⟨a, rfl, q3⟩ : ∃ a, v = .ref a ∧ DicAt Γ.K F F a kvs m := q2
    exact ⟨a, q1, fun F1 H1 φ1 s1 l S1 => q3.mono l fun o h => (S1.fz a o (l _ _ h)).1⟩
theorem x_dget {i : Nat} {x : Str} {nm : Pos} (hK : X.K = Γ.K) (hw : X.w = HW.w) (hu : X.A.units + 65 < cLine) (hN : X.N[i]? = some x) (hv : Vis X.env.scope x) (hd : (x == ("__debug__" : Str)) = false) (hcd : (x == ("__classdict__" : Str)) = false)
    (hs : plainE b = true) (hb : PE X b (rdO Γ W false A.v)) : PE X (.Subscript (.Name x nm) b pos) (rdX Γ W false (vDget i A)) := by
  refine ⟨fun pins s0 σ H Q I ⟨K0, F, φ, η, s, S, r⟩ => ?_⟩
  obtain ⟨m, kvs, e, r⟩ := lookC_some r
  obtain ⟨a, q1, q2⟩ := dic_at S e
  cases m with
  | false =>
    refine (pe_dget (by omega) (pe_var hN hv hd hcd) hb (plainIx hs)).run pins s0 σ H Q I ⟨.ref a, q1, K0, F, φ, η, s, S, (Run.step r).mono fun F1 φ1 H1 y s1 l1 p1 S1 r1 yv hy => ?_⟩
    obtain ⟨dy, e1, r2⟩ := Run.some r1
    obtain ⟨d, e2, r3⟩ := Run.some r2
    clear r1 r2
    have hy := hy.dat' e1
    simp only [getM] at e2
    split at e2
    · rename_i hk
      obtain ⟨q, rfl⟩ := isKey_of (show isKey dy = true from hk)
      cases rv_key hy
      obtain ⟨ks, g1, g2⟩ := q2 _ _ _ _ l1 S1
      rcases kv_get g2 q with ⟨h1, _⟩ | ⟨d', v, h1, h2, h3⟩
      · rw [h1] at e2; cases e2
      · rw [h1] at e2
        cases e2
        refine ⟨a, v, rfl, ?_, r3.here S1 v h3⟩
        rw [← h2]
        exact DGet.k g1
    · cases e2
  | true =>
    refine (pe_nget hw hu (pe_var hN hv hd hcd) hb (plainIx hs)).run pins s0 σ H Q I ⟨.ref a, q1, K0, F, φ, η, s, S, (Run.step r).mono fun F1 φ1 H1 y s1 l1 p1 S1 r1 yv hy => ?_⟩
    obtain ⟨dy, e1, r2⟩ := Run.some r1
    obtain ⟨d, e2, r3⟩ := Run.some r2
    clear r1 r2
    have hy := hy.dat' e1
    simp only [getM] at e2
    split at e2
    · rename_i hk
      obtain ⟨ks, nk, rfl, k1, k2⟩ := isKeyT hk
      obtain ⟨xs, g1, g2⟩ := q2 _ _ _ _ l1 S1
      obtain ⟨b', hb'⟩ : ∃ b', yv = .ref b' := by
        cases hy with
        | tup _ _ => exact ⟨_, rfl⟩
      subst hb'
      rcases nv_get g2 k1 with ⟨h1, _⟩ | ⟨d', v, p, h1, h2, h3, h4⟩
      · rw [h1] at e2; cases e2
      · rw [h1] at e2
        cases e2
        rw [← hK] at hy g2
        exact ⟨a, b', nk, xs, p, v, rfl, rfl, g1, keys_ok S1.fle hy k1 k2 g2, h2, h4, r3.here S1 v h3⟩
    · cases e2
theorem x_dlen {i : Nat} {x : Str} {p nm : Pos} (hg : Gl X "len") (hm : X.mg "len" = none) (hN : X.N[i]? = some x) (hv : Vis X.env.scope x) (hd : (x == ("__debug__" : Str)) = false) (hcd : (x == ("__classdict__" : Str)) = false) :
    PE X (.Call (.Name "len" p) [.Name x nm] [] pos) (rdX Γ W false (vDlen i)) := by
  refine pe_imp (pe_callB call_lenD hg hm (by decide +kernel) (pa_cons (pe_var hN hv hd hcd) pa_nil rfl) (by decide) (by decide +kernel) rfl rfl) fun σ H Q ⟨K0, F, φ, η, s, S, r⟩ => ?_
  obtain ⟨m, kvs, e, r⟩ := lookC_some r
  obtain ⟨a, q1, q2⟩ := dic_at S e
  obtain ⟨n, e1, r2⟩ := Run.some r
  cases m with
  | true => cases e1
  | false =>
    cases e1
    obtain ⟨ks, g1, g2⟩ := q2 _ _ _ _ (HLe.refl F) S
    refine ⟨.ref a, q1, a, ks, rfl, g1, ?_⟩
    rw [kv_len g2]
    exact r2.here S _ (.int _)
def isN (η : Env) (i : Nat) : Prop := ∃ kvs, η[i]? = some (some (.odc true kvs)) ∨ η[i]? = some (some (.fdc true kvs))
theorem din_flat {i : Nat} {w : Bool} {σ : L2.St} {H : Hp} {Qb : Bool → Hp → Prop} {K0 F : Hp} {φ : List Addr} {η : Env} {s : Sto} (hm : ¬ isN η i) (S : Sim Γ K0 F φ η s σ H) (r : Run Γ W K0 F φ η σ (vDin i A w η s) fun _ _ H' k _ => Qb k H') :
    rdO Γ W false A.v σ H fun yv H1 => tVar i σ H1 fun x H2 => ∃ a o, x = .ref a ∧ DGet H2 a yv o ∧ Qb (if w then !o.isSome else o.isSome) H2 := by
  refine ⟨K0, F, φ, η, s, S, (Run.step r).mono fun F1 φ1 H1 y s1 l1 p1 S1 r1 yv hy => ?_⟩
  obtain ⟨dy, e1, r1⟩ := Run.some r1
  obtain ⟨m, kvs, e, r1⟩ := lookC_some r1
  cases m with
  | true => exact (hm ⟨kvs, e⟩).elim
  | false =>
    obtain ⟨a, q1, q2⟩ := dic_at S1 e
    have hy := hy.dat' e1
    cases hk : isKeyM false dy with
    | false =>
      simp only [inK, hk, Bool.false_eq_true, if_false] at r1
      exact r1.elim
    | true =>
      simp only [inK, hk, if_true] at r1
      obtain ⟨q, rfl⟩ := isKey_of (show isKey dy = true from hk)
      cases rv_key hy
      obtain ⟨ks, g1, g2⟩ := q2 _ _ _ _ (HLe.refl F1) S1
      refine ⟨.ref a, q1, a, valV ks q, rfl, DGet.k g1, ?_⟩
      have z : (valV ks q).isSome = (getK kvs (keyP q)).isSome := by
        rcases kv_get g2 q with ⟨h1, h2⟩ | ⟨d', v, h1, h2, _⟩
        · rw [h1, h2]; rfl
        · rw [h1, h2]; rfl
      rw [z]
      exact Run.here r1 S1
theorem din_nest {i : Nat} {w : Bool} {σ : L2.St} {H : Hp} {Qb : Bool → Hp → Prop} {K0 F : Hp} {φ : List Addr} {η : Env} {s : Sto} (hK : X.K = Γ.K) (hm : isN η i) (S : Sim Γ K0 F φ η s σ H) (r : Run Γ W K0 F φ η σ (vDin i A w η s) fun _ _ H' k _ => Qb k H') :
    rdO Γ W false A.v σ H fun yv H1 => tVar i σ H1 fun x H2 => ∃ a b nk xs, x = .ref a ∧ yv = .ref b ∧ H2 a = some (ndO a xs) ∧ KeysOk X H2 b nk xs ∧ Qb (if w then !(atKey xs nk).isSome else (atKey xs nk).isSome) H2 := by
  refine ⟨K0, F, φ, η, s, S, (Run.step r).mono fun F1 φ1 H1 y s1 l1 p1 S1 r1 yv hy => ?_⟩
  obtain ⟨dy, e1, r1⟩ := Run.some r1
  obtain ⟨m, kvs, e, r1⟩ := lookC_some r1
  obtain ⟨kvs0, e0⟩ := hm
  have hm : m = true := by
    rcases e with e | e <;> rcases e0 with e0 | e0 <;> rw [e] at e0 <;> cases e0 <;> rfl
  subst hm
  obtain ⟨a, q1, q2⟩ := dic_at S1 e
  have hy := hy.dat' e1
  cases hk : isKeyM true dy with
  | false =>
    simp only [inK, hk, Bool.false_eq_true, if_false] at r1
    exact r1.elim
  | true =>
    simp only [inK, hk, if_true] at r1
    obtain ⟨ks, nk, rfl, k1, k2⟩ := isKeyT hk
    obtain ⟨xs, g1, g2⟩ := q2 _ _ _ _ (HLe.refl F1) S1
    obtain ⟨b', hb'⟩ : ∃ b', yv = .ref b' := by
      cases hy with
      | tup _ _ => exact ⟨_, rfl⟩
    subst hb'
    have z : (atKey xs nk).isSome = (getK kvs (.tuple ks)).isSome := by
      rcases nv_get g2 k1 with ⟨h1, h2⟩ | ⟨d', v, p, h1, h2, _⟩
      · rw [h1, h2]; rfl
      · rw [h1, h2]; rfl
    rw [← hK] at hy g2
    refine ⟨.ref a, q1, a, b', nk, xs, rfl, rfl, g1, keys_ok S1.fle hy k1 k2 g2, ?_⟩
    rw [z]
    exact Run.here r1 S1
theorem xt_din {i : Nat} {x : Str} {nm : Pos} {w : Bool} (hK : X.K = Γ.K) (hw : X.w = HW.w) (hu : X.A.units + 65 < cLine) (hN : X.N[i]? = some x) (hv : Vis X.env.scope x) (hd : (x == ("__debug__" : Str)) = false) (hcd : (x == ("__classdict__" : Str)) = false)
    (hb : PE X b (rdO Γ W false A.v)) : PT X (.Compare b [if w then .NotIn else .In] [.Name x nm] pos) (rdT Γ W (vDin i A w)) := by
  refine ⟨fun pins s0 σ H Q I ⟨K0, F, φ, η, s, S, r⟩ => ?_⟩
  by_cases hm : isN η i
  · obtain ⟨K1, F1, φ1, η1, s1, S1, r1⟩ := din_nest (X := X) hK hm S r
    have q : rdO Γ W false A.v σ H fun yv H1 => tVar i σ H1 fun x H2 => ∃ a b nk xs, x = .ref a ∧ yv = .ref b ∧ H2 a = some (ndO a xs) ∧ KeysOk X H2 b nk xs ∧ ∃ k, V.bl (if w then !(atKey xs nk).isSome else (atKey xs nk).isSome) = .bl k ∧ Q k H2 :=
      ⟨K1, F1, φ1, η1, s1, S1, r1.mono fun F' φ' H' d s' l p S' hk x hx => by
        obtain ⟨v, q1, a, b, nk, xs, q2, q3, q4, q5, q6⟩ := hk x hx
        exact ⟨v, q1, a, b, nk, xs, q2, q3, q4, q5, _, rfl, q6⟩⟩
    cases w with
    | false => exact (pt_cmp (pc_nin hw hu hb (pe_var hN hv hd hcd)) rfl).run pins s0 σ H Q I q
    | true => exact (pt_cmp (pc_nnotin hw hu hb (pe_var hN hv hd hcd)) rfl).run pins s0 σ H Q I q
  · obtain ⟨K1, F1, φ1, η1, s1, S1, r1⟩ := din_flat hm S r
    have q : rdO Γ W false A.v σ H fun yv H1 => tVar i σ H1 fun x H2 => ∃ a o, x = .ref a ∧ DGet H2 a yv o ∧ ∃ k, V.bl (if w then !o.isSome else o.isSome) = .bl k ∧ Q k H2 :=
      ⟨K1, F1, φ1, η1, s1, S1, r1.mono fun F' φ' H' d s' l p S' hk x hx => by
        obtain ⟨v, q1, a, o, q2, q3, q4⟩ := hk x hx
        exact ⟨v, q1, a, o, q2, q3, _, rfl, q4⟩⟩
    cases w with
    | false => exact (pt_cmp (pc_din (by omega) hb (pe_var hN hv hd hcd)) rfl).run pins s0 σ H Q I q
    | true => exact (pt_cmp (pc_dnotin (by omega) hb (pe_var hN hv hd hcd)) rfl).run pins s0 σ H Q I q
theorem x_din {i : Nat} {x : Str} {nm : Pos} {w : Bool} (hK : X.K = Γ.K) (hw : X.w = HW.w) (hu : X.A.units + 65 < cLine) (hN : X.N[i]? = some x) (hv : Vis X.env.scope x) (hd : (x == ("__debug__" : Str)) = false) (hcd : (x == ("__classdict__" : Str)) = false)
    (hb : PE X b (rdO Γ W false A.v)) : PE X (.Compare b [if w then .NotIn else .In] [.Name x nm] pos) (rdX Γ W true (tv (vDin i A w))) := by
  refine ⟨fun pins s0 σ H Q I ⟨K0, F, φ, η, s, S, r⟩ => ?_⟩
  by_cases hm : isN η i
  · have q := din_nest (X := X) (Qb := fun k H' => Q (.bl k) H') hK hm S (tv_run r)
    cases w with
    | false => exact (pe_cmp (pc_nin hw hu hb (pe_var hN hv hd hcd)) rfl).run pins s0 σ H Q I q
    | true => exact (pe_cmp (pc_nnotin hw hu hb (pe_var hN hv hd hcd)) rfl).run pins s0 σ H Q I q
  · have q := din_flat (Qb := fun k H' => Q (.bl k) H') hm S (tv_run r)
    cases w with
    | false => exact (pe_cmp (pc_din (by omega) hb (pe_var hN hv hd hcd)) rfl).run pins s0 σ H Q I q
    | true => exact (pe_cmp (pc_dnotin (by omega) hb (pe_var hN hv hd hcd)) rfl).run pins s0 σ H Q I q
/-! ### statements -/
/-- a new dict, nobody's yet -/
def FreshC (Γ : Kn) (K0 F : Hp) (φ : List Addr) (H : Hp) (v : V) (m : Bool) (kvs : List (PyData × PyData)) : Prop :=
  ∃ a o, v = .ref a ∧ H a = some o ∧ (∀ H', H' a = some o → DicAt Γ.K F H' a kvs m) ∧ F a = none ∧ a ∉ φ ∧ K0 a = none
def rdC (Γ : Kn) (W : EW) (m : Bool) (v : Env → Sto → R (List (PyData × PyData))) : TE := fun σ H Q => ∃ K0 F φ η s, Sim Γ K0 F φ η s σ H ∧ Run Γ W K0 F φ η σ (v η s) fun F' φ' H' kvs _ => ∀ x, FreshC Γ K0 F' φ' H' x m kvs → Q x H'
theorem dicsD_e {m : Bool} {ps : List PyData} {kvs : List (PyData × PyData)} (h : dicsD m ps = some kvs) : ∃ qs t, ps = [.list qs] ∧ prsD m qs = some t ∧ kvs = mrgD [] t := by
  unfold dicsD dictD at h
  split at h
  · split at h
    · obtain ⟨m, e, rfl⟩ := Option.map_eq_some_iff.mp h
      exact ⟨_, m, rfl, e, rfl⟩
    · cases h
  · cases h
theorem x_dic (hK : X.K = Γ.K) (hc : X.calm = true) {p : Pos} {l : List ES} (hg : Gl X "dict") (hm : X.mg "dict" = none) (hp : plainE b = true) (ha : PA X [b] (rdA Γ W false (seqV l))) :
    PE X (.Call (.Name "dict" p) [b] [] pos) (rdC Γ W false (vDic false l)) := by
  refine pe_imp (pe_callTy (call_dictP hc) hg hm (by decide +kernel) ha (by decide) (by decide +kernel) (star_cons hp [] X.env) rfl) fun σ H Q ⟨K0, F, φ, η, s, S, r⟩ => ?_
  refine ⟨K0, F, φ, η, s, S, (Run.step r).mono fun F1 φ1 H1 ds s1 l1 p1 S1 r1 xs hx => ?_⟩
  obtain ⟨ps, e1, r1⟩ := Run.some r1
  cases e2 : dicsD false ps with
  | none => rw [e2] at r1; exact r1.elim
  | some kvs =>
    rw [e2] at r1
    obtain ⟨qs, m, rfl, e3, rfl⟩ := dicsD_e e2
    have hx := hx.dats e1
    cases hx with
    | cons h1 h2 =>
      cases h2
      cases h1 with
      | @lst a vs _ h3 h4 =>
        obtain ⟨as, ks, rfl, h5, h6⟩ := prs_all S1.fle h4 e3
        rw [hK]
        refine ⟨a, as, ks, rfl, SqL.of (S1.fle _ _ h3), h5, fun q hq => ?_⟩
        obtain ⟨S2, z1, z2, z3⟩ := S1.new hq (.dK (mergeK [] ks))
        exact Run.at r1 (HLe.refl F1) PLe.rfl' S2 (.ref q) ⟨q, _, rfl, upd_same, fun H' hH => ⟨_, hH, kv_merge h6 .nil⟩, z1, z2, z3⟩
variable {fr : Bool} {L : List Nat}
theorem putC_run {K00 K0 F H : Hp} {φ : List Addr} {η : Env} {s : Sto} {σ : L2.St} {i : Nat} {m : Bool} {kvs : List (PyData × PyData)} {D : Ends} {v : V} (lk : HLe K00 K0) (no : ∀ (i : Nat) d a, d.isOwn = true → η[i]? = some (some d) → σ[i]? = some (some (.ref a)) → K00 a = none)
    (S : Sim Γ K0 F φ η s σ H) (hi : i ∈ L) (r : RunS Γ W fr K00 F φ σ L (putC m i η kvs s) D) (hv : FreshC Γ K0 F φ H v m kvs) : D.nx (σ.set i (some v)) H := by
  unfold putC at r
  split at r
  · rename_i hl
    obtain ⟨a, o, rfl, h2, h3, h4, h5, h6⟩ := hv
    exact r F φ _ H (HLe.refl F) PLe.rfl' (Fr.set hi) (SimS.takeC (d0 := .odc m kvs) rfl lk no S hl h2 (h3 _ upd_same) h4 h5 h6)
  · exact r.elim
theorem s_odc {i : Nat} {m : Bool} {x : Str} {e : Expr} {pos' : Pos} {v : Env → Sto → R (List (PyData × PyData))} (hN : X.N.Nodup) (hi : X.N[i]? = some x) (hx : Loc X.env.scope x) (hf : X.fn x = true ∨ X.env.scope.names.lookup x = some .local) (hL : i ∈ L) (hs : swapsWith e (some (.Name x pos')) pos.line X.env = pure false) (he : PE X e (rdC Γ W m v)) :
    PS X (.Assign [.Name x pos'] e pos) (rdS Γ W fr L fun η s => RS.of η (v η s) fun kvs s => putC m i η kvs s) := by
  refine ps_imp (ps_set hN hi hx he hs hf) fun D σ H ⟨K00, F, φ, η, s, ⟨K0, lk, no, S⟩, r⟩ => ?_
  exact ⟨K0, F, φ, η, s, S, (RunS.of r lk).mono fun F1 φ1 H1 kvs s1 l1 p1 S1 r1 v hv => putC_run lk no S1 hL r1 hv⟩
theorem lookC_runS {K00 F : Hp} {φ : List Addr} {η : Env} {σ : L2.St} {s : Sto} {i : Nat} {f : Bool × List (PyData × PyData) → Sto → RS} {D : Ends} (r : RunS Γ W fr K00 F φ σ L (RS.of η (lookC η i s) f) D) :
    ∃ m kvs, (η[i]? = some (some (.odc m kvs)) ∨ η[i]? = some (some (.fdc m kvs))) ∧ RunS Γ W fr K00 F φ σ L (f (m, kvs) s) D := by
  unfold lookC at r
  split at r
  · rename_i m kvs e
    exact ⟨m, kvs, .inl e, r⟩
  · rename_i m kvs e
    exact ⟨m, kvs, .inr e, r⟩
  · exact r.elim
theorem chgC_some {K00 F : Hp} {φ : List Addr} {η : Env} {σ : L2.St} {s : Sto} {v : Nat} {k d : PyData} {D : Ends} (r : RunS Γ W fr K00 F φ σ L (chgC v k d η s) D) :
    ∃ m kvs, η[v]? = some (some (.odc m kvs)) ∧ isKeyM m k = true ∧ kvs.length < sizeLine ∧ RunS Γ W fr K00 F φ σ L (.fl (.nx (η.set v (some (.odc m (putKd kvs k d))))) s) D := by
  unfold chgC at r
  split at r
  · rename_i m kvs e
    split at r
    · rename_i hc
      exact ⟨m, kvs, e, hc.1, hc.2, r⟩
    · exact r.elim
  · exact r.elim
theorem s_dset {v : Nat} {x : Str} {nm tpos : Pos} {e i : Expr} {B : ES} (hK : X.K = Γ.K) (hw : X.w = HW.w) (hu : X.A.units + 65 < cLine) (hN : X.N[v]? = some x) (hv : Vis X.env.scope x) (hd : (x == ("__debug__" : Str)) = false) (hcd : (x == ("__classdict__" : Str)) = false)
    (hpi : plainE i = true) (he : PE X e (rdO Γ W false A.v)) (hi : PE X i (rdO Γ W false B.v)) :
    PS X (.Assign [.Subscript (.Name x nm) i tpos] e pos) (rdS Γ W fr L fun η s => RS.of η (A.v η s) fun d s => RS.of η (R.opt (datOf d) s) fun d s => RS.of η (lookC η v s) fun _ s => RS.of η (B.v η s) fun k s => RS.of η (R.opt (datOf k) s) fun k s => chgC v k d η s) := by
  refine ⟨fun pins s0 σ H D I ⟨K00, F, φ, η, s, ⟨K0, lk, no, S⟩, r⟩ => ?_⟩
  by_cases hm : isN η v
  · refine (ps_asg he (pg_sub (pe_var hN hv hd hcd) hi (set_nd hw hu) (by cases i <;> first | (intro _; rfl) | cases hpi)) (by cases e <;> rfl) (by cases e <;> rfl) rfl).run pins s0 σ H D I ?_
    refine ⟨K0, F, φ, η, s, S, (RunS.of r lk).mono fun F1 φ1 H1 d s1 l1 p1 S1 r1 u hu' => ?_⟩
    obtain ⟨p, e1, r1⟩ := RunS.some r1
    obtain ⟨m, kvs, e0, r1⟩ := lookC_runS r1
    obtain ⟨a, q1, _⟩ := dic_at S1 e0
    refine ⟨_, q1, K0, F1, φ1, η, s1, S1, (RunS.of r1 lk).mono fun F2 φ2 H2 k s2 l2 p2 S2 r2 w hw' => ?_⟩
    obtain ⟨k', e2, r2⟩ := RunS.some r2
    obtain ⟨m', kvs', z0, z1, z2, r3⟩ := chgC_some r2
    obtain ⟨kvs0, hm⟩ := hm
    have hm' : m' = true := by
      rcases hm with hm | hm <;> rw [z0] at hm <;> cases hm <;> rfl
    subst hm'
    obtain ⟨a', w1, w2⟩ := S2.ow v _ rfl z0
    rw [q1] at w1
    cases w1
    obtain ⟨xs, g1, g2⟩ := (show DicAt Γ.K F2 K0 a kvs' true from w2)
    obtain ⟨ks, nk, rfl, k1, k2⟩ := isKeyT z1
    have hy := hw'.dat' e2
    obtain ⟨b', hb'⟩ : ∃ b', w = .ref b' := by
      cases hy with
      | tup _ _ => exact ⟨_, rfl⟩
    subst hb'
    have hy2 := hy
    have g3 := g2
    rw [← hK] at hy2 g3
    exact ⟨a, b', nk, xs, rfl, rfl, (S2.kp a _ g1).1, keys_ok S2.fle hy2 k1 k2 g3, by rw [nv_len g2]; exact z2, fun u' ru => RunS.next r3 (SimS.writeC rfl lk no S2 rfl z0 q1 ⟨_, upd_same, nv_put k1 k2 hy ((hu'.dat' e1).mono l2) ru g2⟩)⟩
  · refine (ps_asg he (pg_sub (pe_var hN hv hd hcd) hi (set_dict (by omega)) (by cases i <;> first | (intro _; rfl) | cases hpi)) (by cases e <;> rfl) (by cases e <;> rfl) rfl).run pins s0 σ H D I ?_
    refine ⟨K0, F, φ, η, s, S, (RunS.of r lk).mono fun F1 φ1 H1 d s1 l1 p1 S1 r1 u hu' => ?_⟩
    obtain ⟨p, e1, r1⟩ := RunS.some r1
    obtain ⟨m, kvs, e0, r1⟩ := lookC_runS r1
    obtain ⟨a, q1, _⟩ := dic_at S1 e0
    refine ⟨_, q1, K0, F1, φ1, η, s1, S1, (RunS.of r1 lk).mono fun F2 φ2 H2 k s2 l2 p2 S2 r2 w hw' => ?_⟩
    obtain ⟨k', e2, r2⟩ := RunS.some r2
    obtain ⟨m', kvs', z0, z1, z2, r3⟩ := chgC_some r2
    cases m' with
    | true => exact (hm ⟨kvs', .inl z0⟩).elim
    | false =>
      obtain ⟨a', w1, w2⟩ := S2.ow v _ rfl z0
      rw [q1] at w1
      cases w1
      obtain ⟨ks, g1, g2⟩ := (show DicAt Γ.K F2 K0 a kvs' false from w2)
      obtain ⟨q, rfl⟩ := isKey_of (show isKey k' = true from z1)
      cases rv_key (hw'.dat' e2)
      exact ⟨a, _, rfl, DPut.k (S2.kp a _ g1).1 (by rw [kv_len g2]; exact z2), RunS.next r3 (SimS.writeC rfl lk no S2 rfl z0 q1 ⟨_, upd_same, kv_put g2 q ((hu'.dat' e1).mono l2)⟩)⟩
end
end Z
end

section
set_option maxRecDepth 100000
set_option maxHeartbeats 4000000
/-! Errors without a value: raised, and heard of a lambda. -/
namespace Z
open PySem PySem.Spec PyProof.Rows L2
variable [HW]

/-- the module's name x is a class of errors that is made of nothing -/
structure ExcN (K : PySem.W.Frag) (mg : Str → Option Value) (x : Str) (C : Addr) : Prop where
  mg : mg x = some (.ref C)
  kp : PySem.W.keepIn K (.ref C) = true
  sub : PySem.W.subIn K (.ref C) (.type "BaseException") = some true
  ty : PySem.W.typeIn K (.ref C) = some (.type "type")
  new : ∃ bB B nI iI, ExcBaseFacts B nI iI bB ∧ PySem.W.excIn K C bB nI = true
section
variable {X : Cx} {Γ : Kn} {Wx : WX} {fr : Bool} {L : List Nat} {pos : Pos}
theorem pmk0 {x : Str} {C : Addr} {p : Pos} (F : ExcN X.K X.mg x C) (hg : Gl X x) (hdb : (x == ("__debug__" : Str)) = false) : PMk X (.Call (.Name x p) [] [] pos) (fun _ H Q => Q (.ref C) none H) := by
  intro pins s σ H Q I h
  obtain ⟨bB, B, nI, iI, FB, q⟩ := F.new
  refine wpAny_Call_Name_kw (ld_glob I hg F.mg (PySem.W.callWith_K0 I.kIn F.kp ?_) hdb)
  obtain ⟨_, _, _, _, _, _, _, _, _, _, _, _, _, _, _, _, _, o1, o2, o3, o4⟩ := exc_obj I.kIn q
  exact wpAny_call_exc_subT FB o4 o1 o2 o3 (fun h' e hm => mk_of I hm (raises_own F.sub F.ty) h (I.hok.gone hm.new)) (Nat.zero_le _)
theorem s_rse {x : Str} {C : Addr} {p p' : Pos} (hm : X.mg = Γ.mg) (hc : X.calm = true) (tk : Takes X Wx) (F : ExcN X.K X.mg x C) (hg : Gl X x) (hdb : (x == ("__debug__" : Str)) = false) :
    PS X (.Raise (some (.Call (.Name x p) [] [] p')) none pos) (rdS Γ (WQ Γ Wx) fr L fun η s => .er ⟨x, []⟩ η s) :=
  ps_imp (ps_raise hc tk (pmk0 F hg hdb)) fun D σ H ⟨K00, Fz, φ, η, s, ⟨K0, lk, no, S⟩, r⟩ => r K0 Fz φ σ H lk (HLe.refl _) PLe.rfl' Fr.refl S (.ref C) none ⟨rfl, rfl, C, by rw [← hm]; exact F.mg, rfl⟩
end

/-! ### a lambda that is called by the def that got it -/
section
variable {X : Cx} {pins : List (Addr × Obj)} {σ : L2.St} {H : Hp} {s : Shared}
theorem lam_act {Eg : XK} {Ng : List Str} {qg : Str} {sg : Scope} {g f c' : Addr} {cdg pm ctv : Value} {params : Arguments} {body : Expr} {scope : Scope} {k i : Nat} {a : Str} {pn : List (Addr × Obj)} {xe : Value → Shared → Prop} {W : WX} {E : XK} {tb : TE} {p1 p2 : Pos}
    (hgd : X.A.guards = some []) (I : Inv X pins σ H s) (L : LamX.LamS X.env.scope scope) (hf : s.heap.get? f = some (PySem.W.kla_obj "<lambda>" (X.env.qual ++ "<lambda>") params body scope (cloFrom X.env.cells scope.names []) pm c' ctv)) (hfn : H f = none) (hfr : f ∉ frs X.stack)
    (hbd : bindArgs (PySem.W.kla_fn "<lambda>" (X.env.qual ++ "<lambda>") params body scope (cloFrom X.env.cells scope.names []) pm (.ref c') ctv) ⟨[], []⟩ = pure [])
    (tk : Takes ((cxOf C8.CX0 X.prog X.w X.K X.mg X.base Ng qg sg g cdg X.A X.stack s H Eg).tr pn xe) W) (hr : Room (k + 1) (X.A.deeper (envOfC qg sg s.heap.objs.size g cdg)))
    (hb : ∀ (A : Around) (outer : List PySem.Env) (t : Shared) (J : Hp), A.guards = some [] → Room k (A.deeper (LamX.lamEnv X scope t.heap.objs.size f c')) → PE (LamX.lamCx X A outer t J E scope f c') body tb)
    (hN : Ng[i]? = some a) (hv : Vis sg a) (hd : (a == ("__debug__" : Str)) = false) (hcd : (a == ("__classdict__" : Str)) = false) :
    PE ((cxOf C8.CX0 X.prog X.w X.K X.mg X.base Ng qg sg g cdg X.A X.stack s H Eg).tr pn xe) (.Call (.Name a p1) [] [] p2)
      (fun σZ HZ Q => σZ[i]? = some (some (.ref f)) ∧ HZ c' = some (LamX.CodeO c' (X.env.qual ++ "<lambda>")) ∧ (∀ cls d H', E cls d H' → W cls d σZ H') ∧ tb σ HZ Q) := by
  refine ⟨fun pZ sZ σZ HZ Q IZ ⟨h1, h2, hW, h3⟩ => ?_⟩
  refine wpAny_Call_Name_kw (thn ((pe_var (pos := p1) (i := i) hN hv hd hcd).run pZ sZ σZ HZ (fun v J => v = .ref f ∧ J = HZ) IZ ⟨.ref f, h1, rfl, rfl⟩) fun u t ⟨v, J, I1, r1, e1, e2⟩ => ?_)
  subst e1
  subst e2
  cases (show u = Value.ref f from r1)
  have un : Un (frs X.stack) [] H J s.heap t.heap := I1.base
  have of1 := un.keep f _ hf hfn hfr List.not_mem_nil
  obtain ⟨oc, vs, tt, w1, w2, w3⟩ := (I1.hok c' _ h2).1
  refine PySem.W.callWith_F0 ⟨_, _, _, _, of1⟩ (wpAny_call (codeAny_mono ?_ fun r s' (hq : CR (L2.CX X.prog X.w) (envOfC qg sg s.heap.objs.size g cdg :: X.stack) X.prog X.w J t Q E r s') => ?_))
  · refine PySem.W.kla_callFunE hr.depth of1 rfl L.co L.gen rfl ⟨c', oc, vs, tt, rfl, w1, w2, w3⟩ ?_
    have hbd : bindArgs (PySem.W.kla_fn "<lambda>" (X.env.qual ++ "<lambda>") params body scope (cloFrom X.env.cells scope.names []) pm (.ref c') ctv) ⟨[] ++ [], []⟩ = pure [] := hbd
    rw [hbd]
    refine wpAny_pure (wpAny_newFunctionEnv (fun y hy => (L.own y hy).2) (fun y hy => (List.not_mem_nil hy).elim) (fun h₁ n1 n2 => ⟨I1.nolimit.fresh _ n2, ?_⟩) L.kind)
    have I2 := LamX.lam_start2 (E := E) (f := f) (c' := c') (tk := t.toks + ([] : List (Str × Value)).length) I L I1.env0 hr.hd un n1 fun b o e => n2.extBut b o (Nat.ne_of_lt (Heap.lt_size e)) (Heap.get?_push_of_some _ e)
    refine PySem.W.kla_codeExpr (wpAny_mono ((hb (X.A.deeper (envOfC qg sg s.heap.objs.size g cdg)) _ t J hgd (hr.deeper _)).run [] _ _ J Q I2 h3) (fun v s' hq => ?_) fun _ _ hq => hq)
    obtain ⟨x, H', I3, x1, x2⟩ := hq
    exact ⟨x, H', I3.os, I3.bare, I3.base, I3.hok, x1, x2⟩
  · cases r with
    | error e => exact tk e s' (XE.of_call I1 hW hq)
    | ok fl => cases fl with
      | ret u => exact I1.after hq
      | next => exact hq.elim
      | brk => exact hq.elim
      | cont => exact hq.elim
end
end Z
end

section
set_option maxRecDepth 100000
set_option maxHeartbeats 4000000
/-! The def that hears a lambda out. -/
namespace Z
open PySem PySem.Spec PyProof.Rows L2
variable [HW]

/-- the classes that a hearing def names: excepted, asked -/
structure HdC (K : PySem.W.Frag) (mg : Str → Option Value) (h : HdK) (C D : Addr) : Prop where
  cls : mg h.cls = some (.ref C)
  is : mg h.is = some (.ref D)
  exm : PySem.W.exmOne K (.ref C) (.ref C) = some true
  ec : ExcC K C
  kit : PySem.W.kitOne K (.ref C) (.ref D) = some true
section
variable {X : Cx}
/-- what a def makes of a lambda that it gets: a calls it, TT is what it makes of the lambda's reading -/
def HearG (X : Cx) (Ng : List Str) (x : Str) (sg : Scope) (g : Addr) (cdg : Value) (bg : List Stmt) (a q : Str) (TT : (XK → Hp → VK → Prop) → Hp → VK → Prop) : Prop :=
  ∀ (f c' : Addr) (s : Shared) (H : Hp) (Q : VK) (tl : XK → Hp → VK → Prop),
    (∀ (W : WX) (pn : List (Addr × Obj)) (xe : Value → Shared → Prop) (E : XK) (p1 p2 : Pos), Takes ((cxOf C8.CX0 X.prog X.w X.K X.mg X.base Ng x sg g cdg X.A X.stack s H C8.E0).tr pn xe) W →
      PE ((cxOf C8.CX0 X.prog X.w X.K X.mg X.base Ng x sg g cdg X.A X.stack s H C8.E0).tr pn xe) (.Call (.Name a p1) [] [] p2) (fun σZ HZ Q => σZ[0]? = some (some (.ref f)) ∧ HZ c' = some (LamX.CodeO c' q) ∧ (∀ cls d H', E cls d H' → W cls d σZ H') ∧ tl E HZ Q)) →
    H c' = some (LamX.CodeO c' q) → TT tl H Q →
    ∃ t, PSs (cxOf C8.CX0 X.prog X.w X.K X.mg X.base Ng x sg g cdg X.A X.stack s H C8.E0).nox bg t ∧ t { nx := fun _ H' => Q .non H', rt := Q } (L2.start Ng [.ref f]) H
def TTh (C : Addr) (w : Str) : (XK → Hp → VK → Prop) → Hp → VK → Prop := fun tl H Q =>
  tl (fun cls d H' => cls = .ref C ∧ d = none ∧ ∀ p, H' p = none → Q (.ref p) (upd H' p (.lst [.str w, .bl true]))) H Q
theorem start_len (N : List Str) (v : V) (h : 0 < N.length) : (L2.start N [v]).length = N.length := by
  unfold L2.start
  simp; omega
/-- told = None; try: told = a() / except cls as n: told = [w, isinstance(n, is)]; return told -/
theorem hear_gives {Ng : List Str} {h : HdK} {x a t n q : Str} {sg : Scope} {g C D : Addr} {cdg : Value} {it jn j jk : Nat} {q1 q2 q3 q4 q5 q6 q7 q8 q9 q10 q11 q12 q13 q14 q15 q16 q17 q18 q19 q20 : Pos}
    (F : HdC X.K X.mg h C D) (hb : X.mg "isinstance" = none) (nd : Ng.Nodup) (ht : Ng[it]? = some t) (hn : Ng[jn]? = some n) (hti : it ≠ 0) (hni : jn ≠ 0) (htn : it ≠ jn) (lt : sg.names.lookup t = some .local) (ln : sg.names.lookup n = some .local)
    (hg1 : sg.names.lookup h.cls = some .globalImplicit) (hg2 : sg.names.lookup h.is = some .globalImplicit) (hg3 : sg.names.lookup ("isinstance" : Str) = some .globalImplicit)
    (d1 : (h.cls == ("__debug__" : Str)) = false) (d2 : (h.is == ("__debug__" : Str)) = false) (d3 : (t == ("__debug__" : Str)) = false) (d4 : (t == ("__classdict__" : Str)) = false) (d5 : (n == ("__debug__" : Str)) = false) (d6 : (n == ("__classdict__" : Str)) = false) :
    HearG X Ng x sg g cdg [.Assign [.Name t q1] (.Constant .none j q2) q3,
      .Try [.Assign [.Name t q4] (.Call (.Name a q5) [] [] q6) q7] [.ExceptHandler (some (.Name h.cls q8)) (some n) [.Assign [.Name t q9] (.List [.Constant (.str h.w) jk q10, .Call (.Name "isinstance" q11) [.Name n q12, .Name h.is q13] [] q14] q15) q16] q17] [] [] q18,
      .Return (some (.Name t q19)) q20] a q (TTh C h.w) := by
  intro f c' s H Q tl act hc hh
  have hit : it < Ng.length := (List.getElem?_eq_some_iff.mp ht).1
  have hjn : jn < Ng.length := (List.getElem?_eq_some_iff.mp hn).1
  have hlen := start_len Ng (.ref f) (by omega)
  let Z := (cxOf C8.CX0 X.prog X.w X.K X.mg X.base Ng x sg g cdg X.A X.stack s H C8.E0).nox
  have body : ∀ (W : WX) (pn : List (Addr × Obj)) (xe : Value → Shared → Prop), Takes (Z.tr pn xe) W → PSs (Z.tr pn xe) [.Assign [.Name t q4] (.Call (.Name a q5) [] [] q6) q7]
      (fun D σ H => ∃ Ech : XK, (σ[0]? = some (some (.ref f)) ∧ H c' = some (LamX.CodeO c' q) ∧ (∀ cls d H', Ech cls d H' → W cls d σ H') ∧ tl Ech H fun v H1 => D.nx (σ.set it (some v)) H1)) := fun W pn xe tk =>
    ⟨fun pins s' σ H' D I ⟨Ech, w⟩ => (pss_one (ps_set (X := Z.tr pn xe) (i := it) nd ht (.inl lt) (act W pn xe Ech q5 q6 tk) rfl (.inr lt))).run pins s' σ H' D I w⟩
  have suite : ∀ (a : Addr) (oe : Obj) (cls : Value) (d : Option Addr) (pn : List (Addr × Obj)), Zc cls d oe → (∃ vs, oe.data = .fields vs) → PSs (Z.suite a ((a, oe) :: pn)) [.Assign [.Name t q9] (.List [.Constant (.str h.w) jk q10, .Call (.Name "isinstance" q11) [.Name n q12, .Name h.is q13] [] q14] q15) q16]
      (fun D σ H => cls = .ref C ∧ d = none ∧ σ[jn]? = some (some (.ref a)) ∧ ∀ p, H p = none → D.nx (σ.set it (some (.ref p))) (upd H p (.lst [.str h.w, .bl true]))) := fun a oe cls d pn hz hf =>
    ⟨fun pins s' σ H' Di I ⟨e1, e2, e3, e4⟩ => by
      subst e1
      subst e2
      refine (pss_one (ps_set (X := Z.suite a ((a, oe) :: pn)) (i := it) nd ht (.inl lt) (pe_lst (pa_cons pe_str (pa_cons (pe_callB (call_isE F.ec hz hf) hg3 hb boot_isinstance (pa_cons (pe_var hn (.inl ln) d5 d6) (pa_cons (pe_glob (v := .ref D) hg2 F.is rfl d2) pa_nil))) pa_nil))) rfl (.inr lt))).run pins s' σ H' Di I ?_
      refine ⟨.ref a, e3, .ref D, .ref D, true, rfl, fun u hu => hu, F.kit, by show 2 ≤ sizeLine; rw [sizeLine_eq]; omega, fun p hp => e4 p hp⟩⟩
  refine ⟨_, pss_cons (ps_set (X := Z) (i := it) nd ht (.inl lt) pe_non rfl (.inr lt)) (pss_cons (ps_try_as (X := Z) (i := jn) rfl rfl nd hn ln ⟨hg1, d1, .inl F.cls⟩ LamX.takes0 (fun W pn xe tk _ => body W pn xe tk) (fun a oe cls d pn hz hf => suite a oe cls d pn hz hf)) (pss_one (ps_ret (pe_var ht (.inl lt) d3 d4)))), ?_⟩
  have h0 : (L2.start Ng [V.ref f])[0]? = some (some (V.ref f)) := by
    unfold L2.start
    rfl
  refine ⟨fun cls d H' => cls = .ref C ∧ d = none ∧ ∀ p, H' p = none → Q (.ref p) (upd H' p (.lst [.str h.w, .bl true])), ?_, hc, fun cls d H' ⟨z1, z2, z3⟩ => ?_, ?_⟩
  · rw [List.getElem?_set_ne hti]; exact h0
  · refine ⟨true, by rw [z1]; exact F.exm, fun _ a' ha' => ⟨z1, z2, ?_, fun p hp => ?_⟩, nofun⟩
    · exact List.getElem?_set_self (by rw [List.length_set, hlen]; exact hjn)
    · refine ⟨.ref p, ?_, z3 p hp⟩
      rw [List.getElem?_set_ne (fun z => htn z.symm), List.getElem?_set_self (by simp only [List.length_set, hlen]; exact hit)]
  · have e : (fun (v : V) (H1 : Hp) => ∃ w, (((L2.start Ng [V.ref f]).set it (some V.non)).set it (some v))[it]? = some (some w) ∧ Q w H1) = Q := by
      funext v H1
      apply propext
      rw [List.getElem?_set_self (by rw [List.length_set, hlen]; exact hit)]
      exact ⟨fun ⟨w, e, q⟩ => by cases e; exact q, fun q => ⟨v, rfl, q⟩⟩
    show tl _ H (fun (v : V) (H1 : Hp) => ∃ w, (((L2.start Ng [V.ref f]).set it (some V.non)).set it (some v))[it]? = some (some w) ∧ Q w H1)
    rw [e]
    exact hh
end
end Z
end

section
set_option maxRecDepth 100000
set_option maxHeartbeats 4000000
/-! A lambda handed to a def that hears it out. -/
namespace Z
open PySem PySem.Spec PyProof.Rows L2
variable [HW]

theorem Sim.extN {Γ : Kn} {K0 F H H1 : Hp} {φ : List Addr} {η : Env} {s : Sto} {σ : L2.St} (S : Sim Γ K0 F φ η s σ H) (e : LamX.ExtN H H1) (t : LamX.Tabs HW.T H1) : Sim Γ K0 F φ η s σ H1 :=
  ⟨fun a o h => let ⟨q1, q2, q3⟩ := S.kp a o h; ⟨e a o q1 (S.tb.k0 a o h), q2, q3⟩, fun a o h => let ⟨q1, q2⟩ := S.fz a o h; ⟨e a o q1 (S.tb.ff a o h), q2⟩, S.nd, S.ln,
    fun n a ob h1 h2 => (S.so n a ob h1 h2).mono (HLe.refl F) fun o ho => e a o ho ((S.so n a ob h1 h2).no ho).1, S.sz, S.sl, S.ow, S.ds, ⟨t, S.tb.k0, S.tb.ff⟩⟩
/-- the shape of a def that hears a lambda out -/
def chkH (h : HdK) (N : List Str) (sc : Scope) : List Stmt → Bool
  | [.Assign [.Name t _] (.Constant .none _ _) _, .Try [.Assign [.Name t2 _] (.Call (.Name a _) [] [] _) _] [.ExceptHandler (some (.Name c _)) (some n) [.Assign [.Name t3 _] (.List [.Constant (.str w) _ _, .Call (.Name i _) [.Name n2 _, .Name d _] [] _] _) _] _] [] [] _, .Return (some (.Name t4 _)) _] =>
    decide (t2 = t) && decide (t3 = t) && decide (t4 = t) && decide (n2 = n) && decide (c = h.cls) && decide (w = h.w) && decide (i = ("isinstance" : Str)) && decide (d = h.is) && decide (N = [a, t, n]) && decide (a ≠ t) && decide (a ≠ n) && decide (t ≠ n)
      && decide (sc.names.lookup t = some .local) && decide (sc.names.lookup n = some .local) && decide (sc.names.lookup h.cls = some .globalImplicit) && decide (sc.names.lookup h.is = some .globalImplicit) && decide (sc.names.lookup ("isinstance" : Str) = some .globalImplicit)
      && !(h.cls == ("__debug__" : Str)) && !(h.is == ("__debug__" : Str)) && !(t == ("__debug__" : Str)) && !(t == ("__classdict__" : Str)) && !(n == ("__debug__" : Str)) && !(n == ("__classdict__" : Str)) && !(a == ("__debug__" : Str)) && !(a == ("__classdict__" : Str))
  | _ => false
/-- a def of the text that hears lambdas out -/
structure Hears (K : PySem.W.Frag) (mg : Str → Option Value) (x : Str) (h : HdK) : Prop where
  ex : ∃ (g C D : Addr) (fdd : FuncData) (pg : Arguments) (bg : List Stmt) (sg : Scope) (N : List Str) (a : Str), mg x = some (.ref g) ∧ PySem.W.keepIn K (.ref g) = true ∧ FunD K x x pg bg sg [] [] g fdd ∧ Bnd fdd [a] 1 [] [] ∧ FnScope N [a] sg ∧ N[0]? = some a ∧ chkH h N sg bg = true ∧ HdC K mg h C D ∧ mg "isinstance" = none
theorem hears_gives {X : Cx} {h : HdK} {C D g : Addr} {x a : Str} {N : List Str} {sg : Scope} {bg : List Stmt} {cdg : Value} (F : HdC X.K X.mg h C D) (hb : X.mg "isinstance" = none) (hN : N[0]? = some a) (hc : chkH h N sg bg = true) :
    (∀ q, HearG X N x sg g cdg bg a q (TTh C h.w)) ∧ (a == ("__debug__" : Str)) = false ∧ (a == ("__classdict__" : Str)) = false := by
  unfold chkH at hc
  split at hc
  · simp only [Bool.and_eq_true, decide_eq_true_eq, Bool.not_eq_true'] at hc
    obtain ⟨⟨⟨⟨⟨⟨⟨⟨⟨⟨⟨⟨⟨⟨⟨⟨⟨⟨⟨⟨⟨⟨⟨⟨rfl, rfl⟩, rfl⟩, rfl⟩, rfl⟩, rfl⟩, rfl⟩, rfl⟩, rfl⟩, n1⟩, n2⟩, n3⟩, l1⟩, l2⟩, g1⟩, g2⟩, g3⟩, d1⟩, d2⟩, d3⟩, d4⟩, d5⟩, d6⟩, d7⟩, d8⟩ := hc
    cases hN
    exact ⟨fun q => hear_gives (it := 1) (jn := 2) F hb (by simp [n1, n2, n3]) rfl rfl (by decide) (by decide) (by decide) l1 l2 g1 g2 g3 d1 d2 d3 d4 d5 d6, d7, d8⟩
  · cases hc
section
variable {X : Cx} {Γ : Kn} {Wx : WX} {G : Gam} {A : ES}
theorem x_hear {x : Str} {h : HdK} {k : Nat} {params : Arguments} {body : Expr} {scope : Scope} {p lpos pos : Pos} {cc P : Addr} (hm : X.mg = Γ.mg) (hG : G.hrs x = some h) (HH : Hears X.K X.mg x h) (hg : Gl X x) (hdb : (x == ("__debug__" : Str)) = false)
    (TB : LamX.TabB X.base X.mg cc P) (hcode : X.env.code = .ref cc) (hmT : (P, X.env.qual ++ "<lambda>") ∈ HW.T) (hu : ∀ p ∈ HW.T, p.1 = P → p.2 = X.env.qual ++ "<lambda>") (hr : Room (k + 2) X.A) (hgd : X.A.guards = some [])
    (L : LamX.LamS X.env.scope scope) (hdef : defaultsOf params X.env = ([], [])) (hbd : ∀ (q : Str) (cl : List (Str × Addr)) (pm cv ctv : Value), bindArgs (PySem.W.kla_fn "<lambda>" q params body scope cl pm cv ctv) ⟨[], []⟩ = pure [])
    (hbody : ∀ (A' : Around) (outer : List PySem.Env) (t : Shared) (J : Hp) (E : XK) (f c' : Addr), A'.guards = some [] → Room k (A'.deeper (LamX.lamEnv X scope t.heap.objs.size f c')) → PE (LamX.lamCx X A' outer t J E scope f c') body (rdX Γ (WQ Γ fun cls d _ H => E cls d H) false A.v)) :
    PE X (.Call (.Name x p) [.Lambda params body scope lpos] [] pos) (rdX Γ (WQ Γ Wx) false (vHear G x A)) := by
  obtain ⟨g, C, D, fdd, pg, bg, sg, N, a, h1, h2, h3, h4, h5, h6, h7, h8, h9⟩ := HH.ex
  obtain ⟨oc, od, dV, kV, doc, pm, an, cdv, ct, osl, rfl, lk, hcd, _, _⟩ := h3.ex
  refine ⟨fun pins s σ H Q I ⟨K0, F, φ, η, s', S, r⟩ => ?_⟩
  refine wpAny_Call_Name_kw (ld_glob I hg h1 (PySem.W.callWith_K (h₀ := X.base) I.ok.mod.kin h2 ?_ (by rfl) (by rfl)) hdb)
  refine Calls.spliced_cons (LamX.lam_make2 (T := HW.T) I TB hcode hmT hu S.tb.tabs hdef (L.has I.ok) fun f c' pm' ctv H1 t I1 eN T1 hf hfn hfr hco => Calls.spliced_nil ⟨I1.kIn, ?_⟩)
  have S1 := S.extN eN T1
  obtain ⟨hq, d1, d2⟩ := hears_gives (X := X) (x := x) (g := g) (cdg := cdv) h8 h9 h6 h7
  have hva : Vis sg a := by
    rcases h5.par a List.mem_cons_self with q | q
    · exact .inl q
    · exact .inr (.inl q)
  have bt : BindsTo t (PySem.W.fnOf x x pg bg sg dV kV doc pm an cdv ct) ⟨[.ref f], []⟩ ([a].zip [.ref f]) := by
    exact h4.to t [.ref f] [] rfl rfl
  refine wpAny_call (codeAny_mono (LamX.run_ofS (CX := C8.CX0) (N := N) (ps := [a]) (us := [.ref f]) (vs := [.ref f]) (Q := Q) (E := C8.E0) lk hcd h5 hr I1.env0 bt (.cons rfl .nil) rfl fun hr' => ?_) fun r s2 hq => ?_)
  · have tt : TTh C h.w (fun E H' Q' => rdX Γ (WQ Γ fun cls d _ H => E cls d H) false A.v σ H' Q') H1 Q := by
      refine ⟨K0, F, φ, η, s', S1, ?_⟩
      simp only [vHear, hG] at r
      cases hv : A.v η s' with
      | ok d s2 => rw [hv] at r; exact r
      | no => rw [hv] at r; exact r.elim
      | er e s2 =>
        rw [hv] at r
        simp only [hearR] at r
        split at r
        · rename_i hc
          intro F' φ' H' l p S' cls d ⟨_, z1, C', z2, z3⟩
          rw [hc.1, ← hm, h8.cls] at z2
          cases z2
          refine ⟨z3, z1, fun p hp => ?_⟩
          obtain ⟨S2, l2⟩ := S'.ice hp (.lst [.str h.w, .bl true])
          exact r _ φ' _ (l.trans l2) ‹_› S2 (.ref p) (show Rv Γ.K _ _ _ from .lst upd_same (.cons (.str _) (.cons (.bl _) .nil)))
        · exact r.elim
    obtain ⟨t', ht', hq'⟩ := hq _ f c' t H1 Q _ (fun W pn xe E p1 p2 tk => lam_act (i := 0) hgd I1 L hf hfn hfr (hbd _ _ _ _ _) tk hr' (fun A' outer t J hgd hr2 => hbody A' outer t J E f c' hgd hr2) h6 hva d1 d2) hco tt
    exact ⟨t', ht'.nox, hq'⟩
  · cases r with
    | error e => exact (show False from hq).elim
    | ok fl =>
      cases fl with
      | ret u => exact I1.after hq
      | next => exact False.elim hq
      | brk => exact False.elim hq
      | cont => exact False.elim hq
end
end Z
end

section
set_option maxRecDepth 100000
set_option maxHeartbeats 4000000
/-! tuple(range(..)), list(range(..)). -/
namespace Z
open PySem PySem.Spec PyProof.Rows L2
variable [HW]
section
variable {X : Cx} {Γ : Kn} {W : EW} {a b : Expr} {A B : ES} {pos : Pos}
theorem rv_rg {K : PySem.W.Frag} {F : Hp} (i j : Int) : RvAll K F (rgV i j) (rngL i (j - i).toNat) := by
  unfold rgV rngL
  induction List.range (j - i).toNat with
  | nil => exact .nil
  | cons n l ih => exact .cons (.int _) ih
theorem rngOk_of {i j : Int} (h : rngOk i j = true) : RgOk i j := by
  unfold rngOk at h
  simp only [Bool.and_eq_true, decide_eq_true_eq] at h
  exact ⟨h.1.1.1.1, h.1.1.1.2, h.1.1.2, h.1.2, h.2⟩
theorem intOf_some {d : Z.D} {i : Int} (h : intOf d = some i) : d = .dat (.int i) := by
  unfold intOf at h
  split at h
  · cases h; rfl
  · cases h
theorem OD.int {o : Bool} {K0 F : Hp} {φ : List Addr} {η : Env} {s : Sto} {σ : L2.St} {H : Hp} {v : V} {i : Int} (S : Sim Γ K0 F φ η s σ H) (h : OD o Γ F φ η σ v (.dat (.int i))) : v = .int i := vw_int (h.view S (p := .int i) rfl)
/-- the end of both -/
theorem rg_end {t : Bool} {K0 F H : Hp} {φ : List Addr} {η : Env} {s : Sto} {σ : L2.St} {Q : VK} {i j : Int} (S : Sim Γ K0 F φ η s σ H) (r : Run Γ W K0 F φ η σ ((R.opt (rgD t i j) s).bd fun d s => .ok (.dat d) s) fun F' φ' H' d _ => ∀ x, FD true Γ K0 F' φ' H' x d → Q x H') :
    RgOk i j ∧ ∀ q, H q = none → Q (.ref q) (upd H q (if t = true then .tup (rgV i j) else .lst (rgV i j))) := by
  obtain ⟨d, e, r⟩ := Run.some r
  unfold rgD at e
  split at e
  · rename_i hr
    refine ⟨rngOk_of hr, fun q hq => ?_⟩
    cases e
    cases t with
    | true => exact (out_of S r).2 q _ hq (rv_rg i j)
    | false => exact out_of S r q _ hq (rv_rg i j)
  · cases e
theorem x_rg1 {t : Bool} {p q q2 : Pos} (hc : X.calm = true) (hg : Gl X (Str.ofString (if t then "tuple" else "list"))) (hm : X.mg (Str.ofString (if t then "tuple" else "list")) = none) (hg2 : Gl X "range") (hm2 : X.mg "range" = none) (hp : plainE a = true) (ha : PE X a (rdO Γ W true A.v)) :
    PE X (.Call (.Name (Str.ofString (if t then "tuple" else "list")) p) [.Call (.Name "range" q) [a] [] q2] [] pos) (rdX Γ W true (vRg1 t A)) := by
  have na := star_cons (e := a) hp [] X.env
  cases t with
  | true =>
    refine pe_imp (pe_tupRg hc hg hm (prg_1 hg2 hm2 ha na)) fun σ H Q ⟨K0, F, φ, η, s, S, r⟩ => ?_
    refine ⟨K0, F, φ, η, s, S, (Run.step r).mono fun F1 φ1 H1 x s1 l1 p1 S1 r1 xv hx => ?_⟩
    obtain ⟨i, e1, r1⟩ := Run.some r1
    cases intOf_some e1
    exact ⟨i, hx.int S1, rg_end S1 r1⟩
  | false =>
    refine pe_imp (pe_listRg hc hg hm (prg_1 hg2 hm2 ha na)) fun σ H Q ⟨K0, F, φ, η, s, S, r⟩ => ?_
    refine ⟨K0, F, φ, η, s, S, (Run.step r).mono fun F1 φ1 H1 x s1 l1 p1 S1 r1 xv hx => ?_⟩
    obtain ⟨i, e1, r1⟩ := Run.some r1
    cases intOf_some e1
    exact ⟨i, hx.int S1, rg_end S1 r1⟩
theorem x_rg2 {t : Bool} {p q q2 : Pos} (hc : X.calm = true) (hg : Gl X (Str.ofString (if t then "tuple" else "list"))) (hm : X.mg (Str.ofString (if t then "tuple" else "list")) = none) (hg2 : Gl X "range") (hm2 : X.mg "range" = none) (hp : plainE a = true) (hp2 : plainE b = true) (ha : PE X a (rdO Γ W true A.v)) (hb : PE X b (rdO Γ W true B.v)) :
    PE X (.Call (.Name (Str.ofString (if t then "tuple" else "list")) p) [.Call (.Name "range" q) [a, b] [] q2] [] pos) (rdX Γ W true (vRg2 t A B)) := by
  have na := star_cons (e := a) hp [b] X.env
  have nb := star_cons (e := b) hp2 [] X.env
  have nc : (backTo q2 (starEach [b] X.env)).any (·.1) = false := star_back X.env q2 (by simp [hp2])
  have key : ∀ {σ : L2.St} {H : Hp} {Q : VK}, rdX Γ W true (vRg2 t A B) σ H Q → rdO Γ W true A.v σ H fun x H1 => rdO Γ W true B.v σ H1 fun y H2 => ∃ i j, x = .int i ∧ y = .int j ∧ RgOk i j ∧ ∀ q, H2 q = none → Q (.ref q) (upd H2 q (if t = true then .tup (rgV i j) else .lst (rgV i j))) := fun {σ H Q} ⟨K0, F, φ, η, s, S, r⟩ => by
    refine ⟨K0, F, φ, η, s, S, (Run.step r).mono fun F1 φ1 H1 x s1 l1 p1 S1 r1 xv hx => ⟨K0, F1, φ1, η, s1, S1, (Run.step r1).mono fun F2 φ2 H2 y s2 l2 p2 S2 r2 yv hy => ?_⟩⟩
    obtain ⟨i, e1, r2⟩ := Run.some r2
    obtain ⟨j, e2, r2⟩ := Run.some r2
    cases intOf_some e1
    cases intOf_some e2
    exact ⟨i, j, (hx.mono l2 p2).int S2, hy.int S2, rg_end S2 r2⟩
  cases t with
  | true => exact pe_imp (pe_tupRg hc hg hm (prg_2 hg2 hm2 ha hb na nb nc)) fun σ H Q h => key h
  | false => exact pe_imp (pe_listRg hc hg hm (prg_2 hg2 hm2 ha hb na nb nc)) fun σ H Q h => key h
end
end Z
end

section
set_option maxRecDepth 100000
set_option maxHeartbeats 4000000
/-! The checker of expressions, and what it gives. -/
namespace Z
open PySem PySem.Spec PyProof.Rows L2
variable [HW]

/-- what the checker knows of the place -/
structure Ck where
  N : List Str
  sc : Scope
  fnb : Str → Bool
  G : Gam
  kb : Str → List (Nat × List Str × List Nat)
  lam : Bool
  exs : List Str
/-! ### looks at an expression -/
def dName : Expr → Option Str
  | .Name x _ => some x
  | _ => none
def dConst : Expr → Option Const
  | .Constant c _ _ => some c
  | _ => none
def dTup : Expr → Option (List Expr)
  | .Tuple es _ _ => some es
  | _ => none
def dLst : Expr → Option (List Expr)
  | .List es _ => some es
  | _ => none
def dDic0 : Expr → Bool
  | .Dict [] [] _ => true
  | _ => false
def dBin : Expr → Option (Expr × Operator × Expr)
  | .BinOp a o b _ => some (a, o, b)
  | _ => none
def dUn : Expr → Option (UnaryOp × Expr)
  | .UnaryOp o a _ => some (o, a)
  | _ => none
def dBool : Expr → Option (BoolOp × List Expr)
  | .BoolOp o es _ => some (o, es)
  | _ => none
def dCmp : Expr → Option (Expr × List CmpOp × List Expr)
  | .Compare a os es _ => some (a, os, es)
  | _ => none
def dIf : Expr → Option (Expr × Expr × Expr)
  | .IfExp c a b _ => some (c, a, b)
  | _ => none
def dCall : Expr → Option (Str × List Expr × List Keyword)
  | .Call (.Name f _) es ks _ => some (f, es, ks)
  | _ => none
def dSub : Expr → Option (Expr × Expr)
  | .Subscript a i _ => some (a, i)
  | _ => none
def dSlc : Expr → Option (Expr × Option Expr × Option Expr)
  | .Subscript a (.Slice lo hi none _) _ => some (a, lo, hi)
  | _ => none
def dLc : Expr → Option (Expr × Expr × Expr × List Expr × Scope)
  | .ListComp e [⟨tg, it, ifs, 0⟩] sc _ => some (e, tg, it, ifs, sc)
  | _ => none
def isLc : Expr → Bool
  | .ListComp _ _ _ _ => true
  | _ => false
def dRev : Expr → Option Expr
  | .Subscript a (.Slice none none (some (.UnaryOp .USub (.Constant (.int i) _ _) _)) _) _ => if i = 1 then some a else none
  | _ => none
theorem dRev_e {e a : Expr} (h : dRev e = some a) : ∃ k p1 p2 p3 q, e = .Subscript a (.Slice none none (some (.UnaryOp .USub (.Constant (.int 1) k p1) p2)) p3) q := by
  unfold dRev at h
  split at h
  · split at h
    · rename_i hi
      subst hi
      cases h
      exact ⟨_, _, _, _, _, rfl⟩
    · cases h
  · cases h
theorem dName_e {e : Expr} {x : Str} (h : dName e = some x) : ∃ p, e = .Name x p := by
  unfold dName at h; split at h <;> cases h; exact ⟨_, rfl⟩
theorem dConst_e {e : Expr} {c : Const} (h : dConst e = some c) : ∃ k p, e = .Constant c k p := by
  unfold dConst at h; split at h <;> cases h; exact ⟨_, _, rfl⟩
theorem dTup_e {e : Expr} {es : List Expr} (h : dTup e = some es) : ∃ k p, e = .Tuple es k p := by
  unfold dTup at h; split at h <;> cases h; exact ⟨_, _, rfl⟩
theorem dLst_e {e : Expr} {es : List Expr} (h : dLst e = some es) : ∃ p, e = .List es p := by
  unfold dLst at h; split at h <;> cases h; exact ⟨_, rfl⟩
theorem dDic0_e {e : Expr} (h : dDic0 e = true) : ∃ p, e = .Dict [] [] p := by
  unfold dDic0 at h; split at h <;> cases h; exact ⟨_, rfl⟩
theorem dBin_e {e a b : Expr} {o : Operator} (h : dBin e = some (a, o, b)) : ∃ p, e = .BinOp a o b p := by
  unfold dBin at h; split at h <;> cases h; exact ⟨_, rfl⟩
theorem dUn_e {e a : Expr} {o : UnaryOp} (h : dUn e = some (o, a)) : ∃ p, e = .UnaryOp o a p := by
  unfold dUn at h; split at h <;> cases h; exact ⟨_, rfl⟩
theorem dBool_e {e : Expr} {es : List Expr} {o : BoolOp} (h : dBool e = some (o, es)) : ∃ p, e = .BoolOp o es p := by
  unfold dBool at h; split at h <;> cases h; exact ⟨_, rfl⟩
theorem dCmp_e {e a : Expr} {os : List CmpOp} {es : List Expr} (h : dCmp e = some (a, os, es)) : ∃ p, e = .Compare a os es p := by
  unfold dCmp at h; split at h <;> cases h; exact ⟨_, rfl⟩
theorem dIf_e {e c a b : Expr} (h : dIf e = some (c, a, b)) : ∃ p, e = .IfExp c a b p := by
  unfold dIf at h; split at h <;> cases h; exact ⟨_, rfl⟩
theorem dCall_e {e : Expr} {f : Str} {es : List Expr} {ks : List Keyword} (h : dCall e = some (f, es, ks)) : ∃ p q, e = .Call (.Name f p) es ks q := by
  unfold dCall at h; split at h <;> cases h; exact ⟨_, _, rfl⟩
theorem dSub_e {e a i : Expr} (h : dSub e = some (a, i)) : ∃ p, e = .Subscript a i p := by
  unfold dSub at h; split at h <;> cases h; exact ⟨_, rfl⟩
theorem dSlc_e {e a : Expr} {lo hi : Option Expr} (h : dSlc e = some (a, lo, hi)) : ∃ p q, e = .Subscript a (.Slice lo hi none p) q := by
  unfold dSlc at h; split at h <;> cases h; exact ⟨_, _, rfl⟩
theorem dLc_e {e el tg it : Expr} {ifs : List Expr} {sc : Scope} (h : dLc e = some (el, tg, it, ifs, sc)) : ∃ p, e = .ListComp el [⟨tg, it, ifs, 0⟩] sc p := by
  unfold dLc at h; split at h <;> cases h; exact ⟨_, rfl⟩

/-- new lists -/
def frX (G : Gam) : Ex → Bool
  | .abs | .var _ | .ovar _ | .glob _ | .idx _ _ | .an _ | .or _ | .fnr _ | .callv _ _ | .tmp _ _ | .dget _ _ | .dlen _ | .hear _ _ => false
  | .ife _ a b => frX G a && frX G b
  | .call f _ | .callk f _ _ _ _ => match G.fns f with
    | some fd => fd.fr
    | none => false
  | _ => true
def visB (c : Ck) (x : Str) : Bool := (c.sc.names.lookup x == some .local || c.sc.names.lookup x == some .cell || c.sc.names.lookup x == some .free) && !(x == ("__debug__" : Str)) && !(x == ("__classdict__" : Str))
def glB (c : Ck) (x : Str) : Bool := c.sc.names.lookup x == some .globalImplicit
def locB (c : Ck) (x : Str) : Bool := (c.sc.names.lookup x == some .local) || (c.sc.names.lookup x == some .cell && c.fnb x)
def varB (c : Ck) (i : Nat) (e : Expr) : Bool := match dName e with
  | some x => c.N[i]? == some x && visB c x
  | none => false
def constB (k : Const) (e : Expr) : Bool := match dConst e with
  | some k' => k' == k
  | none => false
def Ty.all : List Ty := [.int, .bool, .str, .tuple, .list, .dict]
def tyB (c : Ck) (t : Ty) (e : Expr) : Bool := match dName e with
  | some x => x == Str.ofString t.nm && glB c x
  | none => false
def tysB (c : Ck) : List Ty → List Expr → Bool
  | [], [] => true
  | t :: ts, e :: es => tyB c t e && tysB c ts es
  | _, _ => false
mutual
def tgB (c : Ck) : Tg → Expr → Bool
  | .nm i, e => match dName e with
    | some x => c.N[i]? == some x && locB c x
    | none => false
  | .tup ts, e => match dTup e with
    | some es => tgBs c ts es
    | none => false
def tgBs (c : Ck) : List Tg → List Expr → Bool
  | [], [] => true
  | t :: ts, e :: es => plainE e && tgB c t e && tgBs c ts es
  | _, _ => false
end
/-- the place within a comprehension -/
def Ck.blk (c : Ck) (sc : Scope) : Ck := { c with sc := relS sc c.sc, fnb := fun x => sc.names.lookup x == some .cell, lam := false }
/-- the place within a lambda -/
def Ck.lbd (c : Ck) (sc : Scope) : Ck := { c with sc := sc, fnb := fun _ => false, lam := false }
def noPar : Arguments → Bool
  | ⟨[], [], none, [], [], none, []⟩ => true
  | _ => false
theorem noPar_e {p : Arguments} (h : noPar p = true) : p = ⟨[], [], none, [], [], none, []⟩ := by
  unfold noPar at h
  split at h
  · rfl
  · cases h
def dRg : Expr → Option (Str × List Expr)
  | .Call (.Name f _) [.Call (.Name g _) es [] _] [] _ => if g = ("range" : Str) then some (f, es) else none
  | _ => none
theorem dRg_e {e : Expr} {f : Str} {es : List Expr} (h : dRg e = some (f, es)) : ∃ p q r s, e = .Call (.Name f p) [.Call (.Name "range" q) es [] r] [] s := by
  unfold dRg at h
  split at h
  · split at h
    · rename_i hg
      subst hg
      cases h
      exact ⟨_, _, _, _, rfl⟩
    · cases h
  · cases h
def dLam : Expr → Option (Str × Arguments × Expr × Scope)
  | .Call (.Name g _) [.Lambda ps b sc _] [] _ => some (g, ps, b, sc)
  | _ => none
theorem dLam_e {e b : Expr} {g : Str} {ps : Arguments} {sc : Scope} (h : dLam e = some (g, ps, b, sc)) : ∃ p l q, e = .Call (.Name g p) [.Lambda ps b sc l] [] q := by
  unfold dLam at h; split at h <;> cases h; exact ⟨_, _, _, rfl⟩
/-- the block's own names and their places -/
def ownOf (c : Ck) (l : List Nat) : List (Str × Nat) := l.map fun i => (c.N.getD i default, i)
def isTupTg : Tg → Bool
  | .tup _ => true
  | _ => false
def isAbs : Ex → Bool
  | .abs => true
  | _ => false
mutual
def chkE (c : Ck) : Ex → Bool → Expr → Bool
  | .abs, _, _ => false
  | .nev, _, _ => true
  | .var i, _, e => varB c i e
  | .ovar i, o, e => o && varB c i e
  | .glob x, _, e => (match dName e with
    | some y => y == x && glB c x && (c.G.cst x).isSome && !(x == ("__debug__" : Str))
    | none => false)
  | .non, _, e => constB .none e
  | .bl b, _, e => constB (.bool b) e
  | .num i, _, e => constB (.int i) e
  | .txt x, _, e => constB (.str x) e
  | .tup l, _, e => (match dTup e with
    | some es => decide (l.length ≤ 1000) && chkA c l false es
    | none => false)
  | .lst l, _, e => (match dLst e with
    | some es => decide (l.length ≤ 1000) && chkA c l false es
    | none => false)
  | .refl l, _, e => (match dLst e with
    | some es => decide (l.length ≤ 1000) && chkA c l false es
    | none => false)
  | .dic0, _, e => dDic0 e
  | .bin o a b, _, e => (match dBin e with
    | some (x, p, y) => p == o.py && chkE c a true x && chkE c b true y
    | none => false)
  | .neg a, _, e => (match dUn e with
    | some (.USub, x) => chkE c a true x
    | _ => false)
  | .nt a, _, e => (match dUn e with
    | some (.Not, x) => chkE c a false x
    | _ => false)
  | .an l, _, e => (match dBool e with
    | some (.And, es) => chkB c l es && !l.isEmpty
    | _ => false)
  | .or l, _, e => (match dBool e with
    | some (.Or, es) => chkB c l es && !l.isEmpty
    | _ => false)
  | .cmp o a b, _, e => (match dCmp e with
    | some (x, [p], [y]) => p == o.py && chkE c a true x && chkE c b true y && !behindInMarks p y
    | _ => false)
  | .ch o p a b d, _, e => (match dCmp e with
    | some (x, [o', p'], [y, z]) => o' == o.py && p' == p.py && chkE c a false x && chkE c b false y && chkE c d false z && !lastMarks [o', p'] [y, z]
    | _ => false)
  | .isN a, _, e => (match dCmp e with
    | some (x, [.Is], [y]) => chkE c a true x && constB .none y
    | _ => false)
  | .notN a, _, e => (match dCmp e with
    | some (x, [.IsNot], [y]) => chkE c a true x && constB .none y
    | _ => false)
  | .ife t a b, _, e => (match dIf e with
    | some (x, y, z) => chkE c t false x && chkE c a false y && chkE c b false z
    | none => false)
  | .call f l, _, e => (match dCall e with
    | some (g, es, []) => g == f && glB c f && !(f == ("__debug__" : Str)) && (match c.G.fns f with | some fd => l.length == fd.ps.length | none => false) && es.all plainE && chkA c l false es
    | _ => false)
  | .callk f l m ns π, _, e => (match dCall e with
    | some (g, es, ks) => g == f && glB c f && !(f == ("__debug__" : Str)) && (c.G.fns f).isSome && es.all plainE && chkA c l false es && decide (ks.map (·.arg) = ns.map some) && m.length == ns.length && (c.kb f).contains (l.length, ns, π) && chkA c m false (ks.map (·.value))
    | _ => false)
  | .bf f l, _, e => (match dCall e with
    | some (g, es, []) => g == f.nm && glB c f.nm && es.all plainE && !es.isEmpty && chkA c l true es
    | _ => false)
  | .isi a ts w, _, e => (match dCall e with
    | some (g, [x, y], []) => g == ("isinstance" : Str) && glB c g && plainE x && chkE c a true x && (match w with
      | true => (match dTup y with | some es => tysB c ts es && decide (ts.length ≤ 1000) | none => false)
      | false => tysB c ts [y])
    | _ => false)
  | .idx a i, _, e => (match dSub e with
    | some (x, y) => plainE y && chkE c a true x && chkE c i true y
    | none => false)
  | .slc a lo hi, _, e => (match dSlc e with
    | some (x, l, h) => chkE c a true x && (match l with | none => isAbs lo | some y => chkE c lo true y) && (match h with | none => isAbs hi | some y => chkE c hi true y)
    | none => false)
  | .comp el t k ss cs, _, e => (match dLc e with
    | some (x, tg, it, ifs, sc) => chkI c true k ss t tg it && plainE it && blkC c.N c.sc sc (ownOf c t.at) && tgB (c.blk sc) t tg && chkC (c.blk sc) cs ifs && chkE (c.blk sc) el false x
    | none => false)
  | .sset a, _, e => (match dCall e with
    | some (f, [x], []) => f == ("sorted" : Str) && glB c f && (match dCall x with
      | some (g, [y], []) => g == ("set" : Str) && glB c g && plainE y && chkE c a true y
      | _ => false)
    | _ => false)
  | .isB a b w, _, e => (match dCmp e with
    | some (x, [p], [y]) => p == (if w then .IsNot else .Is) && chkE c a true x && constB (.bool b) y
    | _ => false)
  | .rev a, _, e => (match dRev e with
    | some x => chkE c a true x
    | none => false)
  | .fnr x, _, e => (match dName e with
    | some y => y == x && glB c x && !(x == ("__debug__" : Str))
    | none => false)
  | .callv i l, _, e => (match dCall e with
    | some (g, es, []) => c.N[i]? == some g && visB c g && es.all plainE && chkA c l false es && !es.isEmpty
    | _ => false)
  | .tmp _ a, _, e => !isLc e && chkE c a false e
  | .dget i a, _, e => (match dSub e with
    | some (x, y) => plainE y && varB c i x && chkE c a false y
    | none => false)
  | .dlen i, _, e => (match dCall e with
    | some (f, [x], []) => f == ("len" : Str) && glB c f && varB c i x
    | _ => false)
  | .din i a w, _, e => (match dCmp e with
    | some (x, [p], [y]) => p == (if w then .NotIn else .In) && chkE c a false x && varB c i y
    | _ => false)
  | .rg1 t a, _, e => (match dRg e with
    | some (f, [x]) => f == Str.ofString (if t then "tuple" else "list") && glB c f && glB c "range" && plainE x && chkE c a true x
    | _ => false)
  | .rg2 t a b, _, e => (match dRg e with
    | some (f, [x, y]) => f == Str.ofString (if t then "tuple" else "list") && glB c f && glB c "range" && plainE x && plainE y && chkE c a true x && chkE c b true y
    | _ => false)
  | .hear h a, _, e => (match dLam e with
    | some (g, ps, b, sc) => g == h && glB c h && !(h == ("__debug__" : Str)) && (c.G.hrs h).isSome && c.lam && noPar ps && LamX.lamSB c.sc sc && chkE (c.lbd sc) a false b
    | none => false)
def chkA (c : Ck) : List Ex → Bool → List Expr → Bool
  | [], _, [] => true
  | x :: l, o, e :: es => plainE e && chkE c x o e && chkA c l o es
  | _, _, _ => false
def chkB (c : Ck) : List Ex → List Expr → Bool
  | [], [] => true
  | x :: l, e :: es => chkE c x false e && chkB c l es
  | _, _ => false
def chkC (c : Ck) : List Ex → List Expr → Bool
  | [], [] => true
  | [x], [e] => chkE c x false e
  | _, _ => false
/-- a source -/
def chkI (c : Ck) (o : Bool) : Sk → List Ex → Tg → Expr → Expr → Bool
  | .it, [x], _, _, e => chkE c x o e
  | .rng, [x], _, _, e => (match dCall e with
    | some (f, [a], []) => f == ("range" : Str) && glB c f && plainE a && chkE c x o a
    | _ => false)
  | .rng, [x, y], _, _, e => (match dCall e with
    | some (f, [a, b], []) => f == ("range" : Str) && glB c f && plainE a && plainE b && chkE c x o a && chkE c y o b
    | _ => false)
  | .enum, [x], t, tg, e => (match dCall e with
    | some (f, [a], []) => f == ("enumerate" : Str) && glB c f && plainE a && (dTup tg).isSome && chkE c x o a
    | _ => false)
  | .zip, [x, y], t, tg, e => (match dCall e with
    | some (f, [a, b], []) => f == ("zip" : Str) && glB c f && plainE a && plainE b && (dTup tg).isSome && chkE c x o a && chkE c y o b
    | _ => false)
  | _, _, _, _, _ => false
end
end Z
end

section
set_option maxRecDepth 100000
set_option maxHeartbeats 4000000
/-! What the checker of expressions gives. -/
namespace Z
open PySem PySem.Spec PyProof.Rows L2
variable [HW]

def bltNames : List Str := ["len", "abs", "max", "min", "sum", "all", "any", "tuple", "list", "int", "repr", "divmod", "sorted", "bool", "str", "dict", "range", "zip", "enumerate", "isinstance", "set"]
/-- nothing is raised -/
abbrev Wf : WX := fun _ _ _ _ => False
section
variable {X : Cx} {Γ : Kn} {W : EW}
theorem Run.anyW {α : Type} {K0 F : Hp} {φ : List Addr} {η : Env} {σ : L2.St} {r : R α} {k : Hp → List Addr → Hp → α → Sto → Prop} (h : Run Γ W0 K0 F φ η σ r k) : Run Γ W K0 F φ η σ r k := by
  cases r with
  | ok a s => exact h
  | er x s => exact fun F' φ' H' l p S => (h F' φ' H' l p S).elim
  | no => exact h
theorem pe_W0 {e : Expr} {fr : Bool} {v : Env → Sto → R Z.D} (h : PE X e (rdX Γ W fr v)) : PE X e (rdX Γ W0 fr v) := pe_imp h fun σ H Q ⟨K0, F, φ, η, s, S, r⟩ => ⟨K0, F, φ, η, s, S, r.anyW⟩
theorem pts_W0 {es : List Expr} {v : Env → Sto → R Bool} (h : PTs X es (rdT Γ W v)) : PTs X es (rdT Γ W0 v) := ⟨fun pins s σ H Q I ⟨K0, F, φ, η, s', S, r⟩ => h.run pins s σ H Q I ⟨K0, F, φ, η, s', S, r.anyW⟩⟩
end
structure CxK (X : Cx) (Γ : Kn) (c : Ck) (C : Str → List Z.D → Sto → R Z.D) (k : Nat) (Wx : WX) : Prop where
  tk : Takes X Wx
  K : X.K = Γ.K
  hw : X.w = HW.w
  mg : X.mg = Γ.mg
  N : X.N = c.N
  nd : X.N.Nodup
  calm : X.calm = true
  gd : X.A.guards = some []
  rm : Room k X.A
  sc : X.env.scope = c.sc
  fnb : ∀ x, c.fnb x = true → X.fn x = true
  bi : ∀ x ∈ bltNames, X.mg x = none
  lm : c.lam = true → Room (k + 2) X.A ∧ ∃ cc P, LamX.TabB X.base X.mg cc P ∧ X.env.code = .ref cc ∧ (P, X.env.qual ++ "<lambda>") ∈ HW.T ∧ ∀ p ∈ HW.T, p.1 = P → p.2 = X.env.qual ++ "<lambda>"
  hrs : ∀ x h, c.G.hrs x = some h → Hears X.K X.mg x h
  exc : ∀ x ∈ c.exs, ∃ C, ExcN X.K X.mg x C
  cst : ∀ x d, c.G.cst x = some d → ∃ u v, X.mg x = some u ∧ RelV v u ∧ ∀ F, Rv Γ.K F v d
  fns : ∀ f fd, c.G.fns f = some fd → Clb X.prog X.w X.K X.mg X.base k (C f) f fd (c.kb f)
structure Good (X : Cx) (Γ : Kn) (Wx : WX) (fr : Bool) (A : ES) (o : Bool) (e : Expr) : Prop where
  op : PE X e (rdO Γ (WQ Γ Wx) o A.v)
  vl : o = false → PE X e (rdX Γ (WQ Γ Wx) fr A.v)
  ts : o = false → PT X e (rdT Γ (WQ Γ Wx) A.t)
  bd : PO X (some e) (rdB Γ (WQ Γ Wx) A.b)
section
variable {X : Cx} {Γ : Kn} {c : Ck} {C : Str → List Z.D → Sto → R Z.D} {k : Nat} {Wx : WX}
theorem CxK.blk (h : CxK X Γ c C k Wx) (s : Shared) (H : Hp) (sc : Scope) (C' : Addr) (cl : List (Str × Addr)) (fp : List Addr) : CxK (X.blk s H sc (compEnvC sc cl C' X.env) fp) Γ (c.blk sc) C k Wf :=
  ⟨LamX.takes0, h.K, h.hw, h.mg, h.N, h.nd, h.calm, h.gd, h.rm, by show relS sc X.env.scope = relS sc c.sc; rw [h.sc], fun x hx => hx, h.bi, nofun, h.hrs, h.exc, h.cst, h.fns⟩
/-- within a lambda -/
theorem CxK.lbd (h : CxK X Γ c C k Wx) {sc : Scope} (A' : Around) (outer : List PySem.Env) (t : Shared) (J : Hp) (E : XK) (f c' : Addr) (hg : A'.guards = some []) (hr : Room k (A'.deeper (LamX.lamEnv X sc t.heap.objs.size f c'))) :
    CxK (LamX.lamCx X A' outer t J E sc f c') Γ (c.lbd sc) C k (fun cls d _ H => E cls d H) :=
  ⟨takes_of rfl rfl rfl rfl, h.K, h.hw, h.mg, h.N, h.nd, rfl, hg, hr, rfl, nofun, h.bi, nofun, h.hrs, h.exc, h.cst, h.fns⟩
theorem CxK.un (h : CxK X Γ c C k Wx) : X.A.units + 66 < cLine := by have := h.rm.un; omega
theorem CxK.gl (h : CxK X Γ c C k Wx) {x : Str} (hx : glB c x = true) : Gl X x := by
  unfold glB at hx
  show X.env.scope.names.lookup x = _
  rw [h.sc]
  exact eq_of_beq hx
theorem CxK.vis (h : CxK X Γ c C k Wx) {x : Str} (hx : visB c x = true) : Vis X.env.scope x ∧ (x == ("__debug__" : Str)) = false ∧ (x == ("__classdict__" : Str)) = false := by
  unfold visB at hx
  simp only [Bool.and_eq_true, Bool.or_eq_true, Bool.not_eq_true'] at hx
  obtain ⟨⟨h1, h2⟩, h3⟩ := hx
  refine ⟨?_, h2, h3⟩
  rw [h.sc]
  rcases h1 with (h1 | h1) | h1
  · exact .inl (eq_of_beq h1)
  · exact .inr (.inl (eq_of_beq h1))
  · exact .inr (.inr (eq_of_beq h1))
theorem CxK.loc (h : CxK X Γ c C k Wx) {x : Str} (hx : locB c x = true) : Loc X.env.scope x ∧ (X.fn x = true ∨ X.env.scope.names.lookup x = some .local) := by
  unfold locB at hx
  simp only [Bool.and_eq_true, Bool.or_eq_true] at hx
  rw [h.sc]
  rcases hx with hx | ⟨h1, h2⟩
  · exact ⟨.inl (eq_of_beq hx), .inr (eq_of_beq hx)⟩
  · exact ⟨.inr (eq_of_beq h1), .inl (h.fnb x h2)⟩
theorem var_e (h : CxK X Γ c C k Wx) {i : Nat} {e : Expr} (hv : varB c i e = true) : ∃ x p, e = .Name x p ∧ X.N[i]? = some x ∧ Vis X.env.scope x ∧ (x == ("__debug__" : Str)) = false ∧ (x == ("__classdict__" : Str)) = false := by
  unfold varB at hv
  split at hv
  · rename_i x hx
    obtain ⟨p, rfl⟩ := dName_e hx
    rw [Bool.and_eq_true] at hv
    refine ⟨x, p, rfl, by rw [h.N]; exact eq_of_beq hv.1, h.vis hv.2⟩
  · cases hv
/-- a plain value -/
theorem Good.of {fr : Bool} {v : Env → Sto → R Z.D} {o : Bool} {e : Expr} (hv : PE X e (rdX Γ (WQ Γ Wx) fr v)) (he : ∀ whole, isTrue e X.env whole = (do let v ← whole; standAt e.pos; holding [v] (truthy v))) : Good X Γ Wx fr (es v) o e :=
  ⟨pe_O hv o, fun _ => hv, fun _ => xt_val (A := es v) (pe_O hv true) he, xb_val (A := es v) (pe_O hv true)⟩
theorem Good.of' {fr : Bool} {A : ES} {o : Bool} {e : Expr} (hv : PE X e (rdX Γ (WQ Γ Wx) fr A.v)) (ht : PT X e (rdT Γ (WQ Γ Wx) A.t)) (hb : A.b = (fun _ _ => .no) ∨ A.b = valB A.v) : Good X Γ Wx fr A o e :=
  ⟨pe_O hv o, fun _ => hv, fun _ => ht, by
    rcases hb with hb | hb
    · rw [hb]; exact ⟨fun pins s σ H Q I ⟨K0, F, φ, η, s', S, r⟩ => r.elim⟩
    · rw [hb]; exact xb_val (A := A) (pe_O hv true)⟩
theorem pt_no {e : Expr} : PT X e (rdT Γ (WQ Γ Wx) fun _ _ => .no) := ⟨fun pins s σ H Q I ⟨K0, F, φ, η, s', S, r⟩ => r.elim⟩
theorem pe_nov {e : Expr} {o : Bool} : PE X e (rdO Γ (WQ Γ Wx) o fun _ _ => .no) := ⟨fun pins s σ H Q I ⟨K0, F, φ, η, s', S, r⟩ => r.elim⟩
theorem pe_nov' {e : Expr} {b : Bool} : PE X e (rdX Γ (WQ Γ Wx) b fun _ _ => .no) := ⟨fun pins s σ H Q I ⟨K0, F, φ, η, s', S, r⟩ => r.elim⟩
theorem tys_e (h : CxK X Γ c C k Wx) : ∀ {ts : List Ty} {es : List Expr}, tysB c ts es = true → TyNs X es ts
  | [], [], _ => .nil
  | t :: ts, e :: es, hh => by
    unfold tysB at hh
    rw [Bool.and_eq_true] at hh
    have h1 := hh.1
    unfold tyB at h1
    split at h1
    · rename_i x hx
      obtain ⟨p, rfl⟩ := dName_e hx
      rw [Bool.and_eq_true] at h1
      have hx2 : x = Str.ofString t.nm := eq_of_beq h1.1
      subst hx2
      exact .cons (h.gl h1.2) (h.bi _ (by cases t <;> decide)) (tys_e h hh.2)
    · cases h1
  | [], _ :: _, hh => by simp [tysB] at hh
  | _ :: _, [], hh => by simp [tysB] at hh
theorem const_e {q : Const} {e : Expr} (h : constB q e = true) : ∃ k p, e = .Constant q k p := by
  unfold constB at h
  split at h
  · rename_i q' hq
    cases eq_of_beq h
    exact dConst_e hq
  · cases h
theorem bf_bi (h : CxK X Γ c C k Wx) (f : Bf) : X.mg f.nm = none := h.bi _ (by cases f <;> decide)
mutual
theorem tg_e (h : CxK X Γ c C k Wx) : ∀ {t : Tg} {e : Expr}, tgB c t e = true → PG X e (rdG Γ t)
  | .nm i, e, hh => by
    unfold tgB at hh
    split at hh
    · rename_i x hx
      obtain ⟨p, rfl⟩ := dName_e hx
      rw [Bool.and_eq_true] at hh
      obtain ⟨h1, h2⟩ := h.loc hh.2
      exact g_name h.nd (by rw [h.N]; exact eq_of_beq hh.1) h1 h2
    · cases hh
  | .tup ts, e, hh => by
    unfold tgB at hh
    split at hh
    · rename_i es hx
      obtain ⟨k, p, rfl⟩ := dTup_e hx
      obtain ⟨h1, h2, h3⟩ := tgs_e h hh
      exact g_tup h.K h.calm h1 h2 h3
    · cases hh
theorem tgs_e (h : CxK X Γ c C k Wx) : ∀ {ts : List Tg} {es : List Expr}, tgBs c ts es = true → es.length = ts.length ∧ es.all plainE = true ∧ PGs X es (rdGs Γ ts)
  | [], [], _ => ⟨rfl, rfl, g_nil⟩
  | t :: ts, e :: es, hh => by
    unfold tgBs at hh
    simp only [Bool.and_eq_true] at hh
    obtain ⟨h1, h2, h3⟩ := tgs_e h hh.2
    exact ⟨by simp [h1], by simp [hh.1.1, h2], g_cons (tg_e h hh.1.2) h3 hh.1.1⟩
  | [], _ :: _, hh => by simp [tgBs] at hh
  | _ :: _, [], hh => by simp [tgBs] at hh
end
theorem own_of {l : List Nat} : (ownOf c l).map (·.2) = l := by unfold ownOf; rw [List.map_map]; exact List.map_id' l
end
section
variable {Γ : Kn} {C : Str → List Z.D → Sto → R Z.D} {k : Nat}
omit [HW] in
theorem b2 {a b : Bool} (h : (a && b) = true) : a = true ∧ b = true := by rwa [Bool.and_eq_true] at h
theorem ife_fr {X : Cx} {e : Expr} {v : Env → Sto → R Z.D} {a b : Bool} (h : PE X e (rdX Γ (WQ Γ Wx) a v)) : PE X e (rdX Γ (WQ Γ Wx) (a && b) v) := by
  cases b with
  | true => rw [Bool.and_true]; exact h
  | false => rw [Bool.and_false]; exact pe_E h
theorem ife_fr' {X : Cx} {e : Expr} {v : Env → Sto → R Z.D} {a b : Bool} (h : PE X e (rdX Γ (WQ Γ Wx) b v)) : PE X e (rdX Γ (WQ Γ Wx) (a && b) v) := by
  cases a with
  | true => rw [Bool.true_and]; exact h
  | false => rw [Bool.false_and]; exact pe_E h
mutual
theorem simE : ∀ (x : Ex) {X : Cx} {c : Ck} {o : Bool} {e : Expr} {Wx : WX}, CxK X Γ c C k Wx → chkE c x o e = true → Good X Γ Wx (frX c.G x) (eX C c.G x) o e
  | .abs, X, c, o, e, Wx, hX, h => by simp [chkE] at h
  | .nev, X, c, o, e, Wx, hX, h => by
    rw [eX]
    exact ⟨pe_nov, fun _ => pe_nov', fun _ => pt_no, ⟨fun pins s σ H Q I ⟨K0, F, φ, η, s', S, r⟩ => r.elim⟩⟩
  | .var i, X, c, o, e, Wx, hX, h => by
    rw [chkE] at h
    obtain ⟨x, p, rfl, h1, h2, h3, h4⟩ := var_e hX h
    rw [eX]
    exact .of (x_var h1 h2 h3 h4) fun _ => rfl
  | .ovar i, X, c, o, e, Wx, hX, h => by
    rw [chkE] at h
    obtain ⟨rfl, h⟩ := b2 h
    obtain ⟨x, p, rfl, h1, h2, h3, h4⟩ := var_e hX h
    rw [eX]
    exact ⟨x_own h1 h2 h3 h4, nofun, nofun, xb_val (A := es fun η s => lookO η i s) (x_own h1 h2 h3 h4)⟩
  | .glob x, X, c, o, e, Wx, hX, h => by
    rw [chkE] at h
    split at h
    · rename_i y hy
      obtain ⟨p, rfl⟩ := dName_e hy
      obtain ⟨h, h4⟩ := b2 h
      obtain ⟨h, h3⟩ := b2 h
      obtain ⟨h1, h2⟩ := b2 h
      cases eq_of_beq h1
      obtain ⟨d, hd⟩ := Option.isSome_iff_exists.mp h3
      obtain ⟨u, v, q1, q2, q3⟩ := hX.cst _ d hd
      rw [eX]
      exact .of (x_glob hd (hX.gl h2) q1 q2 (by simpa using h4) q3) fun _ => rfl
    · cases h
  | .non, X, c, o, e, Wx, hX, h => by
    rw [chkE] at h
    obtain ⟨k', p, rfl⟩ := const_e h
    rw [eX]
    exact .of (x_con (b := frX c.G .non) pe_non (fun _ => .non) fun _ => nofun) fun _ => rfl
  | .bl b, X, c, o, e, Wx, hX, h => by
    rw [chkE] at h
    obtain ⟨k', p, rfl⟩ := const_e h
    rw [eX]
    exact .of (x_con (b := frX c.G (.bl b)) pe_bl (fun _ => .bl b) fun _ => nofun) fun _ => rfl
  | .num i, X, c, o, e, Wx, hX, h => by
    rw [chkE] at h
    obtain ⟨k', p, rfl⟩ := const_e h
    rw [eX]
    exact .of (x_con (b := frX c.G (.num i)) pe_int (fun _ => .int i) fun _ => nofun) fun _ => rfl
  | .txt x, X, c, o, e, Wx, hX, h => by
    rw [chkE] at h
    obtain ⟨k', p, rfl⟩ := const_e h
    rw [eX]
    exact .of (x_con (b := frX c.G (.txt x)) pe_str (fun _ => .str x) fun _ => nofun) fun _ => rfl
  | .tup l, X, c, o, e, Wx, hX, h => by
    rw [chkE] at h
    split at h
    · rename_i es hy
      obtain ⟨k', p, rfl⟩ := dTup_e hy
      obtain ⟨h1, h2⟩ := b2 h
      obtain ⟨_, h3, h4⟩ := simA l hX h2
      rw [eX]
      exact .of (x_tup (by rw [h4]; exact of_decide_eq_true h1) h3) fun _ => rfl
    · cases h
  | .lst l, X, c, o, e, Wx, hX, h => by
    rw [chkE] at h
    split at h
    · rename_i es hy
      obtain ⟨p, rfl⟩ := dLst_e hy
      obtain ⟨h1, h2⟩ := b2 h
      obtain ⟨_, h3, h4⟩ := simA l hX h2
      rw [eX]
      exact .of (x_lst (by rw [h4]; exact of_decide_eq_true h1) h3) fun _ => rfl
    · cases h
  | .refl l, X, c, o, e, Wx, hX, h => by
    rw [chkE] at h
    split at h
    · rename_i es hy
      obtain ⟨p, rfl⟩ := dLst_e hy
      obtain ⟨h1, h2⟩ := b2 h
      obtain ⟨_, h3, h4⟩ := simA l hX h2
      rw [eX]
      exact .of (x_refl (by rw [h4]; exact of_decide_eq_true h1) h3) fun _ => rfl
    · cases h
  | .dic0, X, c, o, e, Wx, hX, h => by
    rw [chkE] at h
    obtain ⟨p, rfl⟩ := dDic0_e h
    rw [eX]
    exact .of x_dic0 fun _ => rfl
  | .bin op a b, X, c, o, e, Wx, hX, h => by
    rw [chkE] at h
    split at h
    · rename_i x p y hy
      obtain ⟨q, rfl⟩ := dBin_e hy
      obtain ⟨h, h3⟩ := b2 h
      obtain ⟨h1, h2⟩ := b2 h
      cases eq_of_beq h1
      rw [eX]
      exact .of (x_bin hX.K (simE a hX h2).op (simE b hX h3).op) fun _ => rfl
    · cases h
  | .neg a, X, c, o, e, Wx, hX, h => by
    rw [chkE] at h
    split at h
    · rename_i x hy
      obtain ⟨q, rfl⟩ := dUn_e hy
      rw [eX]
      exact .of (x_neg (simE a hX h).op) fun _ => rfl
    · cases h
  | .nt a, X, c, o, e, Wx, hX, h => by
    rw [chkE] at h
    split at h
    · rename_i x hy
      obtain ⟨q, rfl⟩ := dUn_e hy
      rw [eX]
      have g := simE a hX h
      exact .of' (x_not (pe_O (g.vl rfl) true)) (xt_not (g.ts rfl)) (.inl rfl)
    · cases h
  | .an l, X, c, o, e, Wx, hX, h => by
    rw [chkE] at h
    split at h
    · rename_i es hy
      obtain ⟨q, rfl⟩ := dBool_e hy
      obtain ⟨h1, h2⟩ := b2 h
      obtain ⟨g1, g2, _, _⟩ := simB l hX h1 (by simpa using h2) q
      rw [eX]
      exact .of' g1 g2.pt (.inl rfl)
    · cases h
  | .or l, X, c, o, e, Wx, hX, h => by
    rw [chkE] at h
    split at h
    · rename_i es hy
      obtain ⟨q, rfl⟩ := dBool_e hy
      obtain ⟨h1, h2⟩ := b2 h
      obtain ⟨_, _, g1, g2⟩ := simB l hX h1 (by simpa using h2) q
      rw [eX]
      exact .of' g1 g2.pt (.inl rfl)
    · cases h
  | .cmp op a b, X, c, o, e, Wx, hX, h => by
    rw [chkE] at h
    split at h
    · rename_i x p y hy
      obtain ⟨q, rfl⟩ := dCmp_e hy
      obtain ⟨h, h4⟩ := b2 h
      obtain ⟨h, h3⟩ := b2 h
      obtain ⟨h1, h2⟩ := b2 h
      cases eq_of_beq h1
      have hu : X.A.units + 65 < cLine := by have := hX.un; omega
      have hm : behindInMarks op.py y = false := by simpa using h4
      rw [eX]
      exact .of' (x_cmp hX.K hu (simE a hX h2).op (simE b hX h3).op hm) (xt_cmp hX.K hu (simE a hX h2).op (simE b hX h3).op hm) (.inl rfl)
    · cases h
  | .ch o1 o2 a b d, X, c, o, e, Wx, hX, h => by
    rw [chkE] at h
    split at h
    · rename_i x p p' y z hy
      obtain ⟨q, rfl⟩ := dCmp_e hy
      obtain ⟨h, h6⟩ := b2 h
      obtain ⟨h, h5⟩ := b2 h
      obtain ⟨h, h4⟩ := b2 h
      obtain ⟨h, h3⟩ := b2 h
      obtain ⟨h1, h2⟩ := b2 h
      cases eq_of_beq h1
      cases eq_of_beq h2
      have hu : X.A.units + 65 < cLine := by have := hX.un; omega
      have hm : lastMarks [o1.py, o2.py] [y, z] = false := by simpa using h6
      rw [eX]
      exact .of' (x_ch hX.K hu (simE a hX h3).op (simE b hX h4).op (simE d hX h5).op hm) (xt_ch hX.K hu (simE a hX h3).op (simE b hX h4).op (simE d hX h5).op hm) (.inl rfl)
    · cases h
  | .isN a, X, c, o, e, Wx, hX, h => by
    rw [chkE] at h
    split at h
    · rename_i x y hy
      obtain ⟨q, rfl⟩ := dCmp_e hy
      obtain ⟨h1, h2⟩ := b2 h
      obtain ⟨k', p, rfl⟩ := const_e h2
      rw [eX]
      exact .of' (x_isN (simE a hX h1).op) (xt_isN (simE a hX h1).op) (.inl rfl)
    · cases h
  | .notN a, X, c, o, e, Wx, hX, h => by
    rw [chkE] at h
    split at h
    · rename_i x y hy
      obtain ⟨q, rfl⟩ := dCmp_e hy
      obtain ⟨h1, h2⟩ := b2 h
      obtain ⟨k', p, rfl⟩ := const_e h2
      rw [eX]
      exact .of' (x_notN (simE a hX h1).op) (xt_notN (simE a hX h1).op) (.inl rfl)
    · cases h
  | .ife t a b, X, c, o, e, Wx, hX, h => by
    rw [chkE] at h
    split at h
    · rename_i x y z hy
      obtain ⟨q, rfl⟩ := dIf_e hy
      obtain ⟨h, h3⟩ := b2 h
      obtain ⟨h1, h2⟩ := b2 h
      rw [eX]
      exact .of' (x_ife ((simE t hX h1).ts rfl) (ife_fr ((simE a hX h2).vl rfl)) (ife_fr' ((simE b hX h3).vl rfl))) pt_no (.inr rfl)
    · cases h
  | .call f l, X, c, o, e, Wx, hX, h => by
    rw [chkE] at h
    split at h
    · rename_i g es hy
      obtain ⟨p, q, rfl⟩ := dCall_e hy
      obtain ⟨h, h6⟩ := b2 h
      obtain ⟨h, h5⟩ := b2 h
      obtain ⟨h, h4⟩ := b2 h
      obtain ⟨h, h3⟩ := b2 h
      obtain ⟨h1, h2⟩ := b2 h
      cases eq_of_beq h1
      cases hf : c.G.fns f with
      | none => rw [hf] at h4; cases h4
      | some fd =>
        rw [hf] at h4
        obtain ⟨_, g3, g4⟩ := simA l hX h6
        have hfr : frX c.G (.call f l) = fd.fr := by rw [frX, hf]
        rw [hfr, eX]
        have hdb : (f == ("__debug__" : Str)) = false := by simpa using h3
        have hl : (eXs C c.G l).length = fd.ps.length := by rw [g4]; exact eq_of_beq h4
        cases es with
        | nil =>
          have : l = [] := by
            cases l with
            | nil => rfl
            | cons a l => simp [chkA] at h6
          subst this
          have hl : 0 = fd.ps.length := eq_of_beq h4
          exact .of (x_call0 hX.K hX.mg hX.tk rfl (hX.fns f fd hf) hX.rm hX.gd (hX.gl h2) hdb hl) fun _ => rfl
        | cons e es => exact .of (x_call hX.K hX.mg hX.tk rfl (hX.fns f fd hf) hX.rm hX.gd (hX.gl h2) hdb h5 hl g3) fun _ => rfl
    · cases h
  | .callk f l m ns π, X, c, o, e, Wx, hX, h => by
    rw [chkE] at h
    split at h
    · rename_i g es ks hy
      obtain ⟨p, q, rfl⟩ := dCall_e hy
      obtain ⟨h, h10⟩ := b2 h
      obtain ⟨h, h9⟩ := b2 h
      obtain ⟨h, h8⟩ := b2 h
      obtain ⟨h, h7⟩ := b2 h
      obtain ⟨h, h6⟩ := b2 h
      obtain ⟨h, h5⟩ := b2 h
      obtain ⟨h, h4⟩ := b2 h
      obtain ⟨h, h3⟩ := b2 h
      obtain ⟨h1, h2⟩ := b2 h
      cases eq_of_beq h1
      obtain ⟨fd, hf⟩ := Option.isSome_iff_exists.mp h4
      obtain ⟨_, g3, g4⟩ := simA l hX h6
      obtain ⟨gk, gl⟩ := simK m hX h10
      have hfr : frX c.G (.callk f l m ns π) = fd.fr := by rw [frX, hf]
      rw [hfr, eX]
      have hdb : (f == ("__debug__" : Str)) = false := by simpa using h3
      have hkb : ((eXs C c.G l).length, ns, π) ∈ c.kb f := by rw [g4]; exact List.contains_iff_mem.mp h9
      have hmn : (eXs C c.G m).length = ns.length := by rw [gl]; exact eq_of_beq h8
      cases es with
      | nil =>
        have : l = [] := by
          cases l with
          | nil => rfl
          | cons a l => simp [chkA] at h6
        subst this
        exact .of (x_callk0 hX.K hX.mg hX.tk rfl (hX.fns f fd hf) hX.rm hX.gd (hX.gl h2) hdb hkb (of_decide_eq_true h7) hmn gk) fun _ => rfl
      | cons e es => exact .of (x_callk hX.K hX.mg hX.tk rfl (hX.fns f fd hf) hX.rm hX.gd (hX.gl h2) hdb hkb h5 (of_decide_eq_true h7) hmn g3 gk) fun _ => rfl
    · cases h
  | .bf f l, X, c, o, e, Wx, hX, h => by
    rw [chkE] at h
    split at h
    · rename_i g es hy
      obtain ⟨p, q, rfl⟩ := dCall_e hy
      obtain ⟨h, h5⟩ := b2 h
      obtain ⟨h, h4⟩ := b2 h
      obtain ⟨h, h3⟩ := b2 h
      obtain ⟨h1, h2⟩ := b2 h
      cases eq_of_beq h1
      obtain ⟨_, g3, g4⟩ := simA l hX h5
      rw [eX]
      cases es with
      | nil => cases h4
      | cons e es => exact .of (x_bf hX.K hX.gd hX.un hX.calm (hX.gl h2) (bf_bi hX f) h3 g3) fun _ => rfl
    · cases h
  | .isi a ts w, X, c, o, e, Wx, hX, h => by
    rw [chkE] at h
    split at h
    · rename_i g x y hy
      obtain ⟨p, q, rfl⟩ := dCall_e hy
      obtain ⟨h, h5⟩ := b2 h
      obtain ⟨h, h4⟩ := b2 h
      obtain ⟨h, h3⟩ := b2 h
      obtain ⟨h1, h2⟩ := b2 h
      cases eq_of_beq h1
      have hm := hX.bi "isinstance" (by decide)
      have ga := simE a hX h4
      rw [eX]
      cases w with
      | true =>
        simp only at h5
        split at h5
        · rename_i es hes
          obtain ⟨k', p', rfl⟩ := dTup_e hes
          obtain ⟨h6, h7⟩ := b2 h5
          exact .of (x_isiT hX.K (of_decide_eq_true h7) (hX.gl h2) hm (tys_e hX h6) h3 ga.op) fun _ => rfl
        · cases h5
      | false =>
        have ty := tys_e hX h5
        cases ty with
        | cons t1 t2 t3 =>
          cases t3
          exact .of (x_isi1 hX.K (hX.gl h2) hm t1 t2 h3 ga.op) fun _ => rfl
    · cases h
  | .idx a i, X, c, o, e, Wx, hX, h => by
    rw [chkE] at h
    split at h
    · rename_i x y hy
      obtain ⟨q, rfl⟩ := dSub_e hy
      obtain ⟨h, h3⟩ := b2 h
      obtain ⟨h1, h2⟩ := b2 h
      rw [eX]
      exact .of (x_idx hX.K h1 (simE a hX h2).op (simE i hX h3).op) fun _ => rfl
    · cases h
  | .slc a lo hi, X, c, o, e, Wx, hX, h => by
    rw [chkE] at h
    split at h
    · rename_i x l u hy
      obtain ⟨p, q, rfl⟩ := dSlc_e hy
      obtain ⟨h, h3⟩ := b2 h
      obtain ⟨h1, h2⟩ := b2 h
      rw [eX]
      have pl : PO X l (rdB Γ (WQ Γ Wx) (eX C c.G lo).b) := by
        cases l with
        | none => cases lo <;> first | exact (by rw [eX]; exact xb_none) | cases h2
        | some y => exact (simE lo hX h2).bd
      have ph : PO X u (rdB Γ (WQ Γ Wx) (eX C c.G hi).b) := by
        cases u with
        | none => cases hi <;> first | exact (by rw [eX]; exact xb_none) | cases h3
        | some y => exact (simE hi hX h3).bd
      exact .of (x_slc hX.K (simE a hX h1).op pl ph) fun _ => rfl
    · cases h
  | .comp el t kd ss cs, X, c, o, e, Wx, hX, h => by
    rw [chkE] at h
    split at h
    · rename_i x tg it ifs sc hy
      obtain ⟨q, rfl⟩ := dLc_e hy
      obtain ⟨h, h6⟩ := b2 h
      obtain ⟨h, h5⟩ := b2 h
      obtain ⟨h, h4⟩ := b2 h
      obtain ⟨h, h3⟩ := b2 h
      obtain ⟨h1, h2⟩ := b2 h
      rw [eX]
      have ok : BlkOk X.N X.env.scope sc (ownOf c t.at) := by
        rw [hX.N, hX.sc]
        exact blkOk_by h3
      exact .of (x_comp hX.calm hX.nd (simI ss hX h1) ok own_of h2 (fun s H C' cl fp => tg_e (c := c.blk sc) (hX.blk s H sc C' cl fp) h4)
        (fun s H C' cl fp => pts_W0 (simC (c := c.blk sc) cs (hX.blk s H sc C' cl fp) h5))
        (fun s H C' cl fp => pe_W0 (pe_E ((simE (c := c.blk sc) el (hX.blk s H sc C' cl fp) h6).vl rfl)))) fun _ => rfl
    · cases h
  | .sset a, X, c, o, e, Wx, hX, h => by
    rw [chkE] at h
    split at h
    · rename_i f x hy
      obtain ⟨p, q, rfl⟩ := dCall_e hy
      obtain ⟨h, h3⟩ := b2 h
      obtain ⟨h1, h2⟩ := b2 h
      cases eq_of_beq h1
      split at h3
      · rename_i g y hz
        obtain ⟨p', q', rfl⟩ := dCall_e hz
        obtain ⟨h3, h6⟩ := b2 h3
        obtain ⟨h3, h5⟩ := b2 h3
        obtain ⟨h3, h4⟩ := b2 h3
        cases eq_of_beq h3
        rw [eX]
        exact .of (x_sset hX.K hX.calm (hX.gl h2) (hX.bi _ (by decide)) (hX.gl h4) (hX.bi _ (by decide)) h5 (simE a hX h6).op) fun _ => rfl
      · cases h3
    · cases h
  | .isB a b w, X, c, o, e, Wx, hX, h => by
    rw [chkE] at h
    split at h
    · rename_i x p y hy
      obtain ⟨q, rfl⟩ := dCmp_e hy
      obtain ⟨h, h3⟩ := b2 h
      obtain ⟨h1, h2⟩ := b2 h
      cases eq_of_beq h1
      obtain ⟨k', p, rfl⟩ := const_e h3
      rw [eX]
      exact .of' (x_isB (simE a hX h2).op) (xt_isB (simE a hX h2).op) (.inl rfl)
    · cases h
  | .rev a, X, c, o, e, Wx, hX, h => by
    rw [chkE] at h
    split at h
    · rename_i x hy
      obtain ⟨k', p1, p2, p3, q, rfl⟩ := dRev_e hy
      rw [eX]
      exact .of (x_rev hX.K (simE a hX h).op) fun _ => rfl
    · cases h
  | .fnr x, X, c, o, e, Wx, hX, h => by
    rw [chkE] at h
    split at h
    · rename_i y hy
      obtain ⟨p, rfl⟩ := dName_e hy
      obtain ⟨h, h3⟩ := b2 h
      obtain ⟨h1, h2⟩ := b2 h
      cases eq_of_beq h1
      rw [eX]
      exact .of (x_fnr hX.mg (fun fd hf => by
        obtain ⟨a, _, e1, _⟩ := (hX.fns x fd hf).ex
        exact ⟨a, e1⟩) (hX.gl h2) (by simpa using h3)) fun _ => rfl
    · cases h
  | .callv i l, X, c, o, e, Wx, hX, h => by
    rw [chkE] at h
    split at h
    · rename_i g es hy
      obtain ⟨p, q, rfl⟩ := dCall_e hy
      obtain ⟨h, h5⟩ := b2 h
      obtain ⟨h, h4⟩ := b2 h
      obtain ⟨h, h3⟩ := b2 h
      obtain ⟨h1, h2⟩ := b2 h
      obtain ⟨v1, v2, v3⟩ := hX.vis h2
      obtain ⟨_, g3, g4⟩ := simA l hX h4
      rw [eX]
      cases es with
      | nil => cases h5
      | cons e es => exact .of (x_callv hX.K hX.mg hX.tk rfl (fun f fd hf => ⟨_, hX.fns f fd hf⟩) hX.rm hX.gd (x_var (by rw [hX.N]; exact eq_of_beq h1) v1 v2 v3) h3 g3) fun _ => rfl
    · cases h
  | .tmp i a, X, c, o, e, Wx, hX, h => by
    rw [chkE] at h
    have g := simE a hX (b2 h).2
    rw [eX]
    exact .of' (x_tmp (g.vl rfl)) (xt_tmp (g.ts rfl)) (.inl rfl)
  | .dget i a, X, c, o, e, Wx, hX, h => by
    rw [chkE] at h
    split at h
    · rename_i x y hy
      obtain ⟨q, rfl⟩ := dSub_e hy
      obtain ⟨h, h3⟩ := b2 h
      obtain ⟨h1, h2⟩ := b2 h
      obtain ⟨z, p, rfl, v1, v2, v3, v4⟩ := var_e hX h2
      have hu : X.A.units + 65 < cLine := by have := hX.un; omega
      rw [eX]
      exact .of (x_dget hX.K hX.hw hu v1 v2 v3 v4 h1 (simE a hX h3).op) fun _ => rfl
    · cases h
  | .dlen i, X, c, o, e, Wx, hX, h => by
    rw [chkE] at h
    split at h
    · rename_i f x hy
      obtain ⟨p, q, rfl⟩ := dCall_e hy
      obtain ⟨h, h3⟩ := b2 h
      obtain ⟨h1, h2⟩ := b2 h
      cases eq_of_beq h1
      obtain ⟨z, p', rfl, v1, v2, v3, v4⟩ := var_e hX h3
      rw [eX]
      exact .of (x_dlen (hX.gl h2) (hX.bi _ (by decide)) v1 v2 v3 v4) fun _ => rfl
    · cases h
  | .din i a w, X, c, o, e, Wx, hX, h => by
    rw [chkE] at h
    split at h
    · rename_i x p y hy
      obtain ⟨q, rfl⟩ := dCmp_e hy
      obtain ⟨h, h3⟩ := b2 h
      obtain ⟨h1, h2⟩ := b2 h
      cases eq_of_beq h1
      obtain ⟨z, p', rfl, v1, v2, v3, v4⟩ := var_e hX h3
      have hu : X.A.units + 65 < cLine := by have := hX.un; omega
      rw [eX]
      exact .of' (x_din hX.K hX.hw hu v1 v2 v3 v4 (simE a hX h2).op) (xt_din hX.K hX.hw hu v1 v2 v3 v4 (simE a hX h2).op) (.inl rfl)
    · cases h
  | .hear h a, X, c, o, e, Wx, hX, hh => by
    rw [chkE] at hh
    split at hh
    · rename_i g ps b sc hy
      obtain ⟨p, l, q, rfl⟩ := dLam_e hy
      obtain ⟨hh, h8⟩ := b2 hh
      obtain ⟨hh, h7⟩ := b2 hh
      obtain ⟨hh, h6⟩ := b2 hh
      obtain ⟨hh, h5⟩ := b2 hh
      obtain ⟨hh, h4⟩ := b2 hh
      obtain ⟨hh, h3⟩ := b2 hh
      obtain ⟨h1, h2⟩ := b2 hh
      cases eq_of_beq h1
      obtain ⟨hd, hhd⟩ := Option.isSome_iff_exists.mp h4
      obtain ⟨rm, cc, P, t1, t2, t3, t4⟩ := hX.lm h5
      cases noPar_e h6
      have L : LamX.LamS X.env.scope sc := LamX.lamS_by (by rw [hX.sc]; exact h7)
      rw [eX]
      exact .of (x_hear hX.mg hhd (hX.hrs _ _ hhd) (hX.gl h2) (by simpa using h3) t1 t2 t3 t4 rm hX.gd L rfl (fun _ _ _ _ _ => rfl)
        (fun A' outer t J E f c' hg hr => pe_E ((simE (c := c.lbd sc) a (hX.lbd A' outer t J E f c' hg hr) h8).vl rfl))) fun _ => rfl
    · cases hh
  | .rg1 t a, X, c, o, e, Wx, hX, h => by
    rw [chkE] at h
    split at h
    · rename_i f x hy
      obtain ⟨p, q, r, s, rfl⟩ := dRg_e hy
      obtain ⟨h, h5⟩ := b2 h
      obtain ⟨h, h4⟩ := b2 h
      obtain ⟨h, h3⟩ := b2 h
      obtain ⟨h1, h2⟩ := b2 h
      cases eq_of_beq h1
      rw [eX]
      exact .of (x_rg1 (t := t) hX.calm (hX.gl h2) (hX.bi _ (by cases t <;> decide)) (hX.gl h3) (hX.bi _ (by decide)) h4 (simE a hX h5).op) fun _ => rfl
    · cases h
  | .rg2 t a b, X, c, o, e, Wx, hX, h => by
    rw [chkE] at h
    split at h
    · rename_i f x y hy
      obtain ⟨p, q, r, s, rfl⟩ := dRg_e hy
      obtain ⟨h, h7⟩ := b2 h
      obtain ⟨h, h6⟩ := b2 h
      obtain ⟨h, h5⟩ := b2 h
      obtain ⟨h, h4⟩ := b2 h
      obtain ⟨h, h3⟩ := b2 h
      obtain ⟨h1, h2⟩ := b2 h
      cases eq_of_beq h1
      rw [eX]
      exact .of (x_rg2 (t := t) hX.calm (hX.gl h2) (hX.bi _ (by cases t <;> decide)) (hX.gl h3) (hX.bi _ (by decide)) h4 h5 (simE a hX h6).op (simE b hX h7).op) fun _ => rfl
    · cases h
theorem simA : ∀ (l : List Ex) {X : Cx} {c : Ck} {o : Bool} {es : List Expr} {Wx : WX}, CxK X Γ c C k Wx → chkA c l o es = true → es.all plainE = true ∧ PA X es (rdA Γ (WQ Γ Wx) o (seqV (eXs C c.G l))) ∧ (eXs C c.G l).length = l.length
  | [], X, c, o, es, Wx, hX, h => by
    cases es with
    | nil => rw [eXs]; exact ⟨rfl, xa_nil, rfl⟩
    | cons e es => simp [chkA] at h
  | x :: l, X, c, o, es, Wx, hX, h => by
    cases es with
    | nil => simp [chkA] at h
    | cons e es =>
      rw [chkA] at h
      obtain ⟨h, h3⟩ := b2 h
      obtain ⟨h1, h2⟩ := b2 h
      obtain ⟨g1, g2, g3⟩ := simA l hX h3
      rw [eXs]
      exact ⟨by rw [List.all_cons, h1, g1]; rfl, xa_cons (simE x hX h2).op g2 (star_cons h1 _ _), by simp [g3]⟩
theorem simK : ∀ (l : List Ex) {X : Cx} {c : Ck} {ks : List Keyword} {Wx : WX}, CxK X Γ c C k Wx → chkA c l false (ks.map (·.value)) = true → PK X ks (rdA Γ (WQ Γ Wx) false (seqV (eXs C c.G l))) ∧ (eXs C c.G l).length = l.length
  | [], X, c, ks, Wx, hX, h => by
    cases ks with
    | nil => rw [eXs]; exact ⟨xk_nil, rfl⟩
    | cons e es => simp [chkA] at h
  | x :: l, X, c, ks, Wx, hX, h => by
    cases ks with
    | nil => simp [chkA] at h
    | cons e es =>
      obtain ⟨ea, ev', ep⟩ := e
      rw [List.map_cons, chkA] at h
      obtain ⟨h, h3⟩ := b2 h
      obtain ⟨h1, h2⟩ := b2 h
      obtain ⟨g2, g3⟩ := simK l hX h3
      rw [eXs]
      exact ⟨xk_cons (simE x hX h2).op g2, by simp [g3]⟩
theorem simB : ∀ (l : List Ex) {X : Cx} {c : Ck} {es : List Expr} {Wx : WX}, CxK X Γ c C k Wx → chkB c l es = true → l ≠ [] → ∀ q : Pos,
    PE X (.BoolOp .And es q) (rdX Γ (WQ Γ Wx) false (anV (eXs C c.G l))) ∧ PW X (.BoolOp .And es q) (rdT Γ (WQ Γ Wx) (anT (eXs C c.G l))) ∧ PE X (.BoolOp .Or es q) (rdX Γ (WQ Γ Wx) false (orV (eXs C c.G l))) ∧ PW X (.BoolOp .Or es q) (rdT Γ (WQ Γ Wx) (orT (eXs C c.G l)))
  | [], X, c, es, Wx, hX, h, hn, q => absurd rfl hn
  | [x], X, c, es, Wx, hX, h, hn, q => by
    match es, h with
    | [e], h =>
      rw [chkB] at h
      have g := simE x hX (b2 h).1
      rw [eXs, eXs]
      exact ⟨x_and1 (pe_E (g.vl rfl)), xw_and1 (g.ts rfl), x_or1 (pe_E (g.vl rfl)), xw_or1 (g.ts rfl)⟩
    | [], h => simp [chkB] at h
    | _ :: _ :: _, h => simp [chkB] at h
  | x :: y :: l, X, c, es, Wx, hX, h, hn, q => by
    match es, h with
    | e :: f :: es, h =>
      rw [chkB] at h
      obtain ⟨h1, h2⟩ := b2 h
      have g := simE x hX h1
      obtain ⟨g1, g2, g3, g4⟩ := simB (y :: l) hX h2 (by simp) q
      rw [eXs]
      rw [eXs] at g1 g2 g3 g4 ⊢
      exact ⟨x_and (pe_E (g.vl rfl)) g1, xw_and (g.ts rfl) g2, x_or (pe_E (g.vl rfl)) g3, xw_or (g.ts rfl) g4⟩
    | [], h => simp [chkB] at h
    | [_], h => simp [chkB] at h
theorem simC : ∀ (l : List Ex) {X : Cx} {c : Ck} {es : List Expr} {Wx : WX}, CxK X Γ c C k Wx → chkC c l es = true → PTs X es (rdT Γ (WQ Γ Wx) (allT (eXs C c.G l)))
  | [], X, c, es, Wx, hX, h => by
    cases es with
    | nil => rw [eXs]; exact x_tests0
    | cons e es => simp [chkC] at h
  | [x], X, c, es, Wx, hX, h => by
    match es, h with
    | [e], h =>
      rw [chkC] at h
      rw [eXs, eXs]
      exact x_tests ((simE x hX h).ts rfl)
    | [], h => simp [chkC] at h
    | _ :: _ :: _, h => simp [chkC] at h
  | x :: y :: l, X, c, es, Wx, hX, h => by simp [chkC] at h
theorem simI : ∀ (l : List Ex) {X : Cx} {c : Ck} {o : Bool} {kd : Sk} {t : Tg} {tg e : Expr} {Wx : WX}, CxK X Γ c C k Wx → chkI c o kd l t tg e = true → PI X tg e (iSrc o Γ (WQ Γ Wx) (vSrc kd (eXs C c.G l)))
  | [], X, c, o, kd, t, tg, e, Wx, hX, h => by cases kd <;> simp [chkI] at h
  | [x], X, c, o, kd, t, tg, e, Wx, hX, h => by
    cases kd with
    | it =>
      rw [chkI] at h
      rw [eXs, eXs]
      exact s_it hX.K (simE x hX h).op
    | rng =>
      rw [chkI] at h
      split at h
      · rename_i f a hy
        obtain ⟨p, q, rfl⟩ := dCall_e hy
        obtain ⟨h, h4⟩ := b2 h
        obtain ⟨h, h3⟩ := b2 h
        obtain ⟨h1, h2⟩ := b2 h
        cases eq_of_beq h1
        rw [eXs, eXs]
        exact s_rng1 (hX.gl h2) (hX.bi _ (by decide)) h3 (xa_cons (simE x hX h4).op xa_nil (star_cons h3 _ _))
      · cases h
    | enum =>
      rw [chkI] at h
      split at h
      · rename_i f a hy
        obtain ⟨p, q, rfl⟩ := dCall_e hy
        obtain ⟨h, h5⟩ := b2 h
        obtain ⟨h, h4⟩ := b2 h
        obtain ⟨h, h3⟩ := b2 h
        obtain ⟨h1, h2⟩ := b2 h
        cases eq_of_beq h1
        obtain ⟨tes, ht⟩ := Option.isSome_iff_exists.mp h4
        obtain ⟨k', p', rfl⟩ := dTup_e ht
        rw [eXs, eXs]
        exact s_enum hX.K (hX.gl h2) (hX.bi _ (by decide)) h3 (xa_cons (simE x hX h5).op xa_nil (star_cons h3 _ _))
      · cases h
    | zip => simp [chkI] at h
  | [x, y], X, c, o, kd, t, tg, e, Wx, hX, h => by
    cases kd with
    | it => simp [chkI] at h
    | rng =>
      rw [chkI] at h
      split at h
      · rename_i f a b hy
        obtain ⟨p, q, rfl⟩ := dCall_e hy
        obtain ⟨h, h6⟩ := b2 h
        obtain ⟨h, h5⟩ := b2 h
        obtain ⟨h, h4⟩ := b2 h
        obtain ⟨h, h3⟩ := b2 h
        obtain ⟨h1, h2⟩ := b2 h
        cases eq_of_beq h1
        rw [eXs, eXs, eXs]
        exact s_rng2 (hX.gl h2) (hX.bi _ (by decide)) h3 h4 (xa_cons (simE x hX h5).op (xa_cons (simE y hX h6).op xa_nil (star_cons h4 _ _)) (star_cons h3 _ _))
      · cases h
    | enum => simp [chkI] at h
    | zip =>
      rw [chkI] at h
      split at h
      · rename_i f a b hy
        obtain ⟨p, q, rfl⟩ := dCall_e hy
        obtain ⟨h, h7⟩ := b2 h
        obtain ⟨h, h6⟩ := b2 h
        obtain ⟨h, h5⟩ := b2 h
        obtain ⟨h, h4⟩ := b2 h
        obtain ⟨h, h3⟩ := b2 h
        obtain ⟨h1, h2⟩ := b2 h
        cases eq_of_beq h1
        obtain ⟨tes, ht⟩ := Option.isSome_iff_exists.mp h5
        obtain ⟨k', p', rfl⟩ := dTup_e ht
        rw [eXs, eXs, eXs]
        exact s_zip hX.K (hX.gl h2) (hX.bi _ (by decide)) h3 h4 (xa_cons (simE x hX h6).op (xa_cons (simE y hX h7).op xa_nil (star_cons h4 _ _)) (star_cons h3 _ _))
      · cases h
  | x :: y :: z :: l, X, c, o, kd, t, tg, e, Wx, hX, h => by cases kd <;> simp [chkI] at h
end
end
end Z
end

section
set_option maxRecDepth 100000
set_option maxHeartbeats 4000000
/-! The checker of statements, and what it gives. -/
namespace Z
open PySem PySem.Spec PyProof.Rows L2
variable [HW]

def dAsgN : Stmt → Option (Str × Pos × Expr × Pos)
  | .Assign [.Name x p] v q => some (x, p, v, q)
  | _ => none
def dAsgT : Stmt → Option (Expr × Expr × Pos)
  | .Assign [tg] v q => some (tg, v, q)
  | _ => none
def dPar : Stmt → Option (List Expr × Nat × Pos × List Expr × Nat × Pos × Pos)
  | .Assign [.Tuple ts k p] (.Tuple vs k2 p2) q => some (ts, k, p, vs, k2, p2, q)
  | _ => none
def dSetI : Stmt → Option (Str × Expr × Expr)
  | .Assign [.Subscript (.Name x _) i _] v _ => some (x, i, v)
  | _ => none
def dMeth : Stmt → Option (Str × Str × Pos × Expr × Pos)
  | .Expr (.Call (.Attribute (.Name x _) m ap) [e] [] cp) _ => some (x, m, ap, e, cp)
  | _ => none
def dRet : Stmt → Option (Option Expr)
  | .Return v _ => some v
  | _ => none
def dIfS : Stmt → Option (Expr × List Stmt × List Stmt)
  | .If t a b _ => some (t, a, b)
  | _ => none
def dWhl : Stmt → Option (Expr × List Stmt)
  | .While t a [] _ => some (t, a)
  | _ => none
def dFor : Stmt → Option (Expr × Expr × List Stmt)
  | .For tg it a [] _ => some (tg, it, a)
  | _ => none
def dExpr : Stmt → Option Expr
  | .Expr e _ => some e
  | _ => none
def dSub2 : Stmt → Option (Str × Int × Str × Expr)
  | .Assign [.Tuple [.Subscript (.Name x _) (.Constant (.int i) _ _) _, .Name y _] _ _] e _ => some (x, i, y, e)
  | _ => none
theorem dSub2_e {s : Stmt} {x y : Str} {i : Int} {e : Expr} (h : dSub2 s = some (x, i, y, e)) : ∃ nm ik ip tp py kt pt q, s = .Assign [.Tuple [.Subscript (.Name x nm) (.Constant (.int i) ik ip) tp, .Name y py] kt pt] e q := by
  unfold dSub2 at h; split at h <;> cases h; exact ⟨_, _, _, _, _, _, _, _, rfl⟩
theorem dAsgN_e {s : Stmt} {x : Str} {p q : Pos} {v : Expr} (h : dAsgN s = some (x, p, v, q)) : s = .Assign [.Name x p] v q := by
  unfold dAsgN at h; split at h <;> cases h; rfl
theorem dAsgT_e {s : Stmt} {tg v : Expr} {q : Pos} (h : dAsgT s = some (tg, v, q)) : s = .Assign [tg] v q := by
  unfold dAsgT at h; split at h <;> cases h; rfl
theorem dPar_e {s : Stmt} {ts vs : List Expr} {k k2 : Nat} {p p2 q : Pos} (h : dPar s = some (ts, k, p, vs, k2, p2, q)) : s = .Assign [.Tuple ts k p] (.Tuple vs k2 p2) q := by
  unfold dPar at h; split at h <;> cases h; rfl
theorem dSetI_e {s : Stmt} {x : Str} {i v : Expr} (h : dSetI s = some (x, i, v)) : ∃ p q r, s = .Assign [.Subscript (.Name x p) i q] v r := by
  unfold dSetI at h; split at h <;> cases h; exact ⟨_, _, _, rfl⟩
theorem dMeth_e {s : Stmt} {x m : Str} {ap cp : Pos} {e : Expr} (h : dMeth s = some (x, m, ap, e, cp)) : ∃ p q, s = .Expr (.Call (.Attribute (.Name x p) m ap) [e] [] cp) q := by
  unfold dMeth at h; split at h <;> cases h; exact ⟨_, _, rfl⟩
theorem dRet_e {s : Stmt} {v : Option Expr} (h : dRet s = some v) : ∃ q, s = .Return v q := by
  unfold dRet at h; split at h <;> cases h; exact ⟨_, rfl⟩
theorem dIfS_e {s : Stmt} {t : Expr} {a b : List Stmt} (h : dIfS s = some (t, a, b)) : ∃ q, s = .If t a b q := by
  unfold dIfS at h; split at h <;> cases h; exact ⟨_, rfl⟩
theorem dWhl_e {s : Stmt} {t : Expr} {a : List Stmt} (h : dWhl s = some (t, a)) : ∃ q, s = .While t a [] q := by
  unfold dWhl at h; split at h <;> cases h; exact ⟨_, rfl⟩
theorem dFor_e {s : Stmt} {tg it : Expr} {a : List Stmt} (h : dFor s = some (tg, it, a)) : ∃ q, s = .For tg it a [] q := by
  unfold dFor at h; split at h <;> cases h; exact ⟨_, rfl⟩
theorem dExpr_e {s : Stmt} {e : Expr} (h : dExpr s = some e) : ∃ q, s = .Expr e q := by
  unfold dExpr at h; split at h <;> cases h; exact ⟨_, rfl⟩
/-- a comprehension that is stored at once -/
def lcSw (c : Ck) (v : Expr) (x : Str) (p : Pos) : Bool := match v with
  | .ListComp _ _ scope lp => (c.sc.names.lookup x == some .local) && (p.line == lp.line) && !(scope.names.any fun (n, k) => n == x && (k == .local || k == .cell))
  | _ => false
def noSD : Expr → Bool
  | .SetComp _ _ _ _ => false
  | .DictComp _ _ _ _ _ => false
  | _ => true
def chkF (c : Ck) : List Bool → List Ex → List Expr → Bool
  | [], [], [] => true
  | o :: os, x :: l, e :: es => plainE e && chkE c x false e && (!o || frX c.G x) && chkF c os l es
  | _, _, _ => false
def nmsB (c : Ck) : List Expr → List Nat → Bool
  | [], [] => true
  | t :: ts, i :: is => (match dName t with
    | some x => c.N[i]? == some x && locB c x
    | none => false) && nmsB c ts is
  | _, _ => false
def nmsOf (c : Ck) (is : List Nat) : List (Nat × Str) := is.map fun i => (i, c.N.getD i default)
def isO : Ex → Option Nat
  | .ovar v => some v
  | _ => none
def dRse : Stmt → Option Str
  | .Raise (some (.Call (.Name x _) [] [] _)) none _ => some x
  | _ => none
theorem dRse_e {s : Stmt} {x : Str} (h : dRse s = some x) : ∃ p p' q, s = .Raise (some (.Call (.Name x p) [] [] p')) none q := by
  unfold dRse at h; split at h <;> cases h; exact ⟨_, _, _, rfl⟩
mutual
def chkS (c : Ck) (fr : Bool) : Sm → List Nat → Stmt → Bool
  | .asg i e, L, s => (match dAsgN s with
    | some (x, p, v, _) => c.N[i]? == some x && locB c x && L.contains i && noSD v && chkE c e false v
    | none => false)
  | .own i e, L, s => (match dAsgN s with
    | some (x, p, v, _) => c.N[i]? == some x && locB c x && L.contains i && noSD v && chkE c e false v && frX c.G e
    | none => false)
  | .asgT ts e, L, s => (match dAsgT s with
    | some (tg, v, _) => (dTup tg).isSome && noTup v && chkE c e false v && tgB c (.tup ts) tg && (Tg.at (.tup ts)).all (L.contains ·)
    | none => false)
  | .par os is es, L, s => (match dPar s with
    | some (ts, _, _, vs, _, _, _) => chkF c os es vs && nmsB c ts is && is.all (L.contains ·) && decide is.Nodup && decide (is.length ≤ 1000) && (match swC c.sc ts vs with
      | some none => true
      | some (some xs) => decide (xs = (nmsOf c is).map (·.2))
      | none => false)
    | none => false)
  | .setI v i e, L, s => (match dSetI s with
    | some (x, a, b) => c.N[v]? == some x && visB c x && plainE a && chkE c i false a && chkE c e false b
    | none => false)
  | .app v e, L, s => (match dMeth s with
    | some (x, m, ap, a, cp) => m == ("append" : Str) && c.N[v]? == some x && visB c x && ap.endLine == cp.line && plainE a && chkE c e false a
    | none => false)
  | .ext v e, L, s => (match dMeth s with
    | some (x, m, ap, a, cp) => m == ("extend" : Str) && c.N[v]? == some x && visB c x && ap.endLine == cp.line && plainE a && chkE c e false a
    | none => false)
  | .frz _, _, _ => false
  | .nev, _, _ => true
  | .sub2 v i d e, L, s => (match dSub2 s with
    | some (x, j, y, a) => c.N[v]? == some x && visB c x && j == i && c.N[d]? == some y && locB c y && L.contains d && noTup a && chkE c e false a
    | none => false)
  | .ret e, L, s => (match dRet s with
    | some (some v) => (match isO e with
      | some i => varB c i v
      | none => chkE c e false v && (!fr || frX c.G e))
    | _ => false)
  | .retN, L, s => (match dRet s with
    | some none => true
    | _ => false)
  | .ife t a b, L, s => (match dIfS s with
    | some (x, y, z) => chkE c t false x && chkSs c fr a L y && chkSs c fr b L z
    | none => false)
  | .whl t a, L, s => (match dWhl s with
    | some (x, y) => chkE c t false x && chkSs c fr a L y
    | none => false)
  | .fr t k ss a, L, s => (match dFor s with
    | some (tg, it, y) => chkI c false k ss t tg it && plainE it && tgB c t tg && t.at.all (L.contains ·) && chkSs c fr a L y
    | none => false)
  | .frO t v a, L, s => (match dFor s with
    | some (tg, it, y) => varB c v it && tgB c t tg && t.at.all ((L.filter (· != v)).contains ·) && chkSs c fr a (L.filter (· != v)) y
    | none => false)
  | .exp e, L, s => (match dExpr s with
    | some x => noLc x && chkE c e false x
    | none => false)
  | .pas, L, s => (match s with
    | .Pass _ => true
    | _ => false)
  | .brk, L, s => (match s with
    | .Break _ => true
    | _ => false)
  | .cnt, L, s => (match s with
    | .Continue _ => true
    | _ => false)
  | .odc m i e, L, s => (match dAsgN s with
    | some (x, p, v, _) => !m && c.N[i]? == some x && locB c x && L.contains i && (match dCall v with
      | some (f, [a], []) => f == ("dict" : Str) && glB c f && plainE a && chkE c e false a
      | _ => false)
    | none => false)
  | .dset v k e, L, s => (match dSetI s with
    | some (x, a, b) => c.N[v]? == some x && visB c x && plainE a && chkE c k false a && chkE c e false b
    | none => false)
  | .rse y, _, s => (match dRse s with
    | some x => x == y && glB c y && !(y == ("__debug__" : Str)) && c.exs.contains y
    | none => false)
def chkSs (c : Ck) (fr : Bool) : List Sm → List Nat → List Stmt → Bool
  | [], _, [] => true
  | .frz _ :: l, L, es => chkSs c fr l L es
  | x :: l, L, e :: es => chkS c fr x L e && chkSs c fr l L es
  | _, _, _ => false
end
end Z
end

section
set_option maxRecDepth 100000
set_option maxHeartbeats 4000000
/-! What the checker of statements gives. -/
namespace Z
open PySem PySem.Spec PyProof.Rows L2
variable [HW]

structure CxS (X : Cx) (Γ : Kn) (c : Ck) (C : Str → List Z.D → Sto → R Z.D) (k : Nat) (Wx : WX) : Prop extends CxK X Γ c C k Wx where
  po : PassesOwn (model X.prog X.w) X.A X.env X.xe
  kd : X.env.scope.kind = .function
section
variable {Γ : Kn} {C : Str → List Z.D → Sto → R Z.D} {k : Nat} {Wx : WX}
/-- the parts of a comprehension -/
theorem comp_parts {X : Cx} {c : Ck} {el : Ex} {t : Tg} {kd : Sk} {ss cs : List Ex} {o : Bool} {x tg it : Expr} {ifs : List Expr} {sc : Scope} {q : Pos} (hX : CxK X Γ c C k Wx) (h : chkE c (.comp el t kd ss cs) o (.ListComp x [⟨tg, it, ifs, 0⟩] sc q) = true) :
    PI X tg it (iSrc true Γ (WQ Γ Wx) (vSrc kd (eXs C c.G ss))) ∧ BlkOk X.N X.env.scope sc (ownOf c t.at) ∧ plainE it = true ∧
    (∀ (s : Shared) (H : Hp) (C' : Addr) (cl : List (Str × Addr)) (fp : List Addr), PG (X.blk s H sc (compEnvC sc cl C' X.env) fp) tg (rdG Γ t)) ∧
    (∀ (s : Shared) (H : Hp) (C' : Addr) (cl : List (Str × Addr)) (fp : List Addr), PTs (X.blk s H sc (compEnvC sc cl C' X.env) fp) ifs (rdT Γ W0 (allT (eXs C c.G cs)))) ∧
    (∀ (s : Shared) (H : Hp) (C' : Addr) (cl : List (Str × Addr)) (fp : List Addr), PE (X.blk s H sc (compEnvC sc cl C' X.env) fp) x (rdX Γ W0 false (eX C c.G el).v)) := by
  rw [chkE] at h
  have h : (chkI c true kd ss t tg it && plainE it && blkC c.N c.sc sc (ownOf c t.at) && tgB (c.blk sc) t tg && chkC (c.blk sc) cs ifs && chkE (c.blk sc) el false x) = true := h
  obtain ⟨h, h6⟩ := b2 h
  obtain ⟨h, h5⟩ := b2 h
  obtain ⟨h, h4⟩ := b2 h
  obtain ⟨h, h3⟩ := b2 h
  obtain ⟨h1, h2⟩ := b2 h
  have ok : BlkOk X.N X.env.scope sc (ownOf c t.at) := by
    rw [hX.N, hX.sc]
    exact blkOk_by h3
  exact ⟨simI ss hX h1, ok, h2, fun s H C' cl fp => tg_e (c := c.blk sc) (hX.blk s H sc C' cl fp) h4, fun s H C' cl fp => pts_W0 (simC (c := c.blk sc) cs (hX.blk s H sc C' cl fp) h5),
    fun s H C' cl fp => pe_W0 (pe_E ((simE (c := c.blk sc) el (hX.blk s H sc C' cl fp) h6).vl rfl))⟩
/-- a name takes a value: the way without the comprehension's own store, and with it -/
theorem lc_cases {X : Cx} {c : Ck} {e : Ex} {v : Expr} (hX : CxS X Γ c C k Wx) (x : Str) (p : Pos) (l : Nat) (hs : noSD v = true) (h : chkE c e false v = true) :
    swapsWith v (some (.Name x p)) l X.env = pure false ∨ e = .nev ∨
    ∃ el t kd ss cs y tg it ifs sc q, e = .comp el t kd ss cs ∧ v = .ListComp y [⟨tg, it, ifs, 0⟩] sc q ∧ X.env.scope.names.lookup x = some .local ∧ swapsWith v (some (.Name x p)) l X.env = pure true := by
  by_cases hn : noLc v = true
  · exact .inl (sw_no hn _ _ _)
  · cases v with
    | ListComp y gs sc q =>
      have hsw : swapsWith (.ListComp y gs sc q) (some (.Name x p)) l X.env = pure (X.env.blockKind == .function && X.env.kindOf x == some .local && p.line == q.line && !(sc.names.any fun (n, k) => n == x && (k == .local || k == .cell))) := rfl
      cases hb : (X.env.blockKind == .function && X.env.kindOf x == some .local && p.line == q.line && !(sc.names.any fun (n, k) => n == x && (k == .local || k == .cell))) with
      | false => exact .inl (by rw [hsw, hb])
      | true =>
        have hx : X.env.scope.names.lookup x = some .local := by
          simp only [Bool.and_eq_true] at hb
          exact eq_of_beq hb.1.1.2
        cases e with
        | comp el t kd ss cs =>
          have h0 := h
          rw [chkE] at h
          split at h
          · rename_i x' tg it ifs sc' hy
            obtain ⟨q', e'⟩ := dLc_e hy
            cases e'
            exact .inr (.inr ⟨el, t, kd, ss, cs, _, tg, it, ifs, _, _, rfl, rfl, hx, by rw [hsw, hb]⟩)
          · cases h
        | nev => exact .inr (.inl rfl)
        | _ => first
          | (exfalso; simp [chkE, varB, constB, dName, dConst, dTup, dLst, dDic0, dBin, dUn, dBool, dCmp, dIf, dCall, dSub, dSlc, dRev, isLc, dLam, dRg] at h; done)
    | SetComp _ _ _ _ => cases hs
    | DictComp _ _ _ _ _ => cases hs
    | _ => exact absurd rfl hn
theorem simF : ∀ (l : List Ex) {X : Cx} {c : Ck} {os : List Bool} {es : List Expr}, CxK X Γ c C k Wx → chkF c os l es = true → PA X es (rdF Γ Wx os (seqV (eXs C c.G l)))
  | [], X, c, os, es, hX, h => by
    match os, es, h with
    | [], [], h => rw [eXs]; exact xf_nil
    | _ :: _, _, h => simp [chkF] at h
    | [], _ :: _, h => simp [chkF] at h
  | x :: l, X, c, os, es, hX, h => by
    match os, es, h with
    | o :: os, e :: es, h =>
      rw [chkF] at h
      obtain ⟨h, h4⟩ := b2 h
      obtain ⟨h, h3⟩ := b2 h
      obtain ⟨h1, h2⟩ := b2 h
      rw [eXs]
      have g := (simE x hX h2).vl rfl
      refine xf_cons ?_ (simF l hX h4) h1
      cases o with
      | false => exact pe_E g
      | true =>
        have : frX c.G x = true := by simpa using h3
        rw [this] at g
        exact g
    | [], _, h => simp [chkF] at h
    | _ :: _, [], h => simp [chkF] at h
theorem nms_e {X : Cx} {c : Ck} (hX : CxK X Γ c C k Wx) : ∀ {ts : List Expr} {is : List Nat}, nmsB c ts is = true → Nms X ts (nmsOf c is)
  | [], [], _ => .nil
  | t :: ts, i :: is, h => by
    rw [nmsB] at h
    obtain ⟨h1, h2⟩ := b2 h
    split at h1
    · rename_i x hx
      obtain ⟨p, rfl⟩ := dName_e hx
      obtain ⟨h3, h4⟩ := b2 h1
      have h3 := eq_of_beq h3
      have e : c.N.getD i default = x := by rw [List.getD_eq_getElem?_getD, h3]; rfl
      have := nms_e hX h2
      unfold nmsOf at this ⊢
      rw [List.map_cons, e]
      exact .cons (by rw [hX.N]; exact h3) (hX.loc h4) this
    · cases h1
  | [], _ :: _, h => by simp [nmsB] at h
  | _ :: _, [], h => by simp [nmsB] at h
theorem nmsOf_fst {c : Ck} {is : List Nat} : (nmsOf c is).map (·.1) = is := by unfold nmsOf; rw [List.map_map]; exact List.map_id' is
theorem s_more {X : Cx} {fr : Bool} {L L' : List Nat} {st : Stmt} {x : Env → Sto → RS} (h : PS X st (rdS Γ (WQ Γ Wx) fr L' x)) (hl : ∀ j ∈ L', j ∈ L) : PS X st (rdS Γ (WQ Γ Wx) fr L x) :=
  ps_imp h fun D σ H ⟨K00, F, φ, η, s, S, r⟩ => ⟨K00, F, φ, η, s, S, r.fewer hl⟩
theorem isO_e {e : Ex} {v : Nat} (h : isO e = some v) : e = .ovar v := by
  unfold isO at h
  split at h
  · cases h; rfl
  · cases h
mutual
theorem simS : ∀ (x : Sm) {X : Cx} {c : Ck} {fr : Bool} {L : List Nat} {s : Stmt}, CxS X Γ c C k Wx → chkS c fr x L s = true → PS X s (rdS Γ (WQ Γ Wx) fr L (exec C c.G x))
  | .asg i e, X, c, fr, L, s, hX, h => by
    rw [chkS] at h
    split at h
    · rename_i x p v q hy
      cases dAsgN_e hy
      obtain ⟨h, h5⟩ := b2 h
      obtain ⟨h, h4⟩ := b2 h
      obtain ⟨h, h3⟩ := b2 h
      obtain ⟨h1, h2⟩ := b2 h
      obtain ⟨l1, l2⟩ := hX.loc h2
      have hN : X.N[i]? = some x := by rw [hX.N]; exact eq_of_beq h1
      have hL : i ∈ L := List.contains_iff_mem.mp h3
      show PS X _ (rdS Γ (WQ Γ Wx) fr L fun η s => RS.of η ((eX C c.G e).v η s) fun d s => put η i d s)
      rcases lc_cases hX x p q.line h4 h5 with hs | rfl | ⟨el, t, kd, ss, cs, y, tg, it, ifs, sc, q', rfl, rfl, hx, hs⟩
      · exact s_asg hX.nd hN l1 l2 hL hs ((simE e hX.toCxK h5).vl rfl)
      · exact ⟨fun pins s σ H D I ⟨K00, F, φ, η, s', S, r⟩ => r.elim⟩
      · obtain ⟨g1, g2, g3, g4, g5, g6⟩ := comp_parts hX.toCxK h5
        rw [eX]
        exact s_asgLc hX.calm hX.nd hN hx hL hs g1 g2 own_of g3 g4 g5 g6
    · cases h
  | .own i e, X, c, fr, L, s, hX, h => by
    rw [chkS] at h
    split at h
    · rename_i x p v q hy
      cases dAsgN_e hy
      obtain ⟨h, h6⟩ := b2 h
      obtain ⟨h, h5⟩ := b2 h
      obtain ⟨h, h4⟩ := b2 h
      obtain ⟨h, h3⟩ := b2 h
      obtain ⟨h1, h2⟩ := b2 h
      obtain ⟨l1, l2⟩ := hX.loc h2
      have hN : X.N[i]? = some x := by rw [hX.N]; exact eq_of_beq h1
      have hL : i ∈ L := List.contains_iff_mem.mp h3
      show PS X _ (rdS Γ (WQ Γ Wx) fr L fun η s => RS.of η ((eX C c.G e).v η s) fun d s => RS.of η (R.opt (toOwn d) s) fun xs s => if i < η.length then .fl (.nx (η.set i (some (.own xs)))) s else .no)
      rcases lc_cases hX x p q.line h4 h5 with hs | rfl | ⟨el, t, kd, ss, cs, y, tg, it, ifs, sc, q', rfl, rfl, hx, hs⟩
      · have g := (simE e hX.toCxK h5).vl rfl
        rw [h6] at g
        exact s_own hX.nd hN l1 l2 hL hs g
      · exact ⟨fun pins s σ H D I ⟨K00, F, φ, η, s', S, r⟩ => r.elim⟩
      · obtain ⟨g1, g2, g3, g4, g5, g6⟩ := comp_parts hX.toCxK h5
        rw [eX]
        exact s_ownLc hX.calm hX.nd hN hx hL hs g1 g2 own_of g3 g4 g5 g6
    · cases h
  | .asgT ts e, X, c, fr, L, s, hX, h => by
    rw [chkS] at h
    split at h
    · rename_i tg v q hy
      cases dAsgT_e hy
      obtain ⟨h, h5⟩ := b2 h
      obtain ⟨h, h4⟩ := b2 h
      obtain ⟨h, h3⟩ := b2 h
      obtain ⟨h1, h2⟩ := b2 h
      obtain ⟨es, hes⟩ := Option.isSome_iff_exists.mp h1
      obtain ⟨k', p', rfl⟩ := dTup_e hes
      show PS X _ (rdS Γ (WQ Γ Wx) fr L fun η s => RS.of η ((eX C c.G e).v η s) fun d s => RS.of η (R.opt (datOf d) s) fun d s => RS.of η (R.opt (bindT (.tup ts) d η) s) fun η s => .fl (.nx η) s)
      exact s_asgT (by cases v <;> rfl) h2 rfl (tg_e hX.toCxK h4) (fun i hi => List.contains_iff_mem.mp (List.all_eq_true.mp h5 i hi)) (pe_O ((simE e hX.toCxK h3).vl rfl) false)
    · cases h
  | .par os is es, X, c, fr, L, s, hX, h => by
    rw [chkS] at h
    split at h
    · rename_i ts k1 p vs k2 p2 q hy
      cases dPar_e hy
      obtain ⟨h, h6⟩ := b2 h
      obtain ⟨h, h5⟩ := b2 h
      obtain ⟨h, h4⟩ := b2 h
      obtain ⟨h, h3⟩ := b2 h
      obtain ⟨h1, h2⟩ := b2 h
      have nm := nms_e hX.toCxK h2
      have hl : (nmsOf c is).length ≤ 1000 := by unfold nmsOf; rw [List.length_map]; exact of_decide_eq_true h5
      have hL : ∀ p ∈ nmsOf c is, p.1 ∈ L := fun p hp => by
        have : p.1 ∈ (nmsOf c is).map (·.1) := List.mem_map.mpr ⟨p, hp, rfl⟩
        rw [nmsOf_fst] at this
        exact List.contains_iff_mem.mp (List.all_eq_true.mp h3 _ this)
      have ha := simF es hX.toCxK h1
      have e : exec C c.G (.par os is es) = fun η s => RS.of η (seqV (eXs C c.G es) η s) fun ds s => RS.of η (R.opt (puts os ((nmsOf c is).map (·.1)) ds η) s) fun η s => .fl (.nx η) s := by
        rw [nmsOf_fst]; rfl
      rw [e]
      rw [← hX.sc] at h6
      split at h6
      · rename_i hw
        exact s_parT hX.K hX.calm hX.nd nm hl hL (swC_ok hX.kd hw) ha
      · rename_i xs hw
        have hx := of_decide_eq_true h6
        rw [hx] at hw
        exact s_parN hX.calm hX.nd nm (by rw [nmsOf_fst]; exact of_decide_eq_true h4) hl hL (swC_ok hX.kd hw) ha
      · cases h6
    · cases h
  | .setI v i e, X, c, fr, L, s, hX, h => by
    rw [chkS] at h
    split at h
    · rename_i x a b hy
      obtain ⟨p, q, r, rfl⟩ := dSetI_e hy
      obtain ⟨h, h5⟩ := b2 h
      obtain ⟨h, h4⟩ := b2 h
      obtain ⟨h, h3⟩ := b2 h
      obtain ⟨h1, h2⟩ := b2 h
      obtain ⟨v1, v2, v3⟩ := hX.vis h2
      have hN : X.N[v]? = some x := by rw [hX.N]; exact eq_of_beq h1
      exact s_setI hX.K hN v1 v2 v3 h3 (pe_O ((simE e hX.toCxK h5).vl rfl) false) (pe_O ((simE i hX.toCxK h4).vl rfl) false)
    · cases h
  | .app v e, X, c, fr, L, s, hX, h => by
    rw [chkS] at h
    split at h
    · rename_i x m ap a cp hy
      obtain ⟨p, q, rfl⟩ := dMeth_e hy
      obtain ⟨h, h6⟩ := b2 h
      obtain ⟨h, h5⟩ := b2 h
      obtain ⟨h, h4⟩ := b2 h
      obtain ⟨h, h3⟩ := b2 h
      obtain ⟨h1, h2⟩ := b2 h
      cases eq_of_beq h1
      obtain ⟨v1, v2, v3⟩ := hX.vis h3
      have hN : X.N[v]? = some x := by rw [hX.N]; exact eq_of_beq h2
      exact s_app hX.K hN v1 v2 v3 h4 h5 (pe_O ((simE e hX.toCxK h6).vl rfl) false)
    · cases h
  | .ext v e, X, c, fr, L, s, hX, h => by
    rw [chkS] at h
    split at h
    · rename_i x m ap a cp hy
      obtain ⟨p, q, rfl⟩ := dMeth_e hy
      obtain ⟨h, h6⟩ := b2 h
      obtain ⟨h, h5⟩ := b2 h
      obtain ⟨h, h4⟩ := b2 h
      obtain ⟨h, h3⟩ := b2 h
      obtain ⟨h1, h2⟩ := b2 h
      cases eq_of_beq h1
      obtain ⟨v1, v2, v3⟩ := hX.vis h3
      have hN : X.N[v]? = some x := by rw [hX.N]; exact eq_of_beq h2
      exact s_ext hX.K hN v1 v2 v3 h4 h5 (pe_O ((simE e hX.toCxK h6).vl rfl) false)
    · cases h
  | .frz v, X, c, fr, L, s, hX, h => by simp [chkS] at h
  | .nev, X, c, fr, L, s, hX, h => ⟨fun pins s σ H D I ⟨K00, F, φ, η, s', S, r⟩ => r.elim⟩
  | .sub2 v i d e, X, c, fr, L, s, hX, h => by
    rw [chkS] at h
    split at h
    · rename_i x j y a hy
      obtain ⟨nm, ik, ip, tp, py, kt, pt, q, rfl⟩ := dSub2_e hy
      obtain ⟨h, h8⟩ := b2 h
      obtain ⟨h, h7⟩ := b2 h
      obtain ⟨h, h6⟩ := b2 h
      obtain ⟨h, h5⟩ := b2 h
      obtain ⟨h, h4⟩ := b2 h
      obtain ⟨h, h3⟩ := b2 h
      obtain ⟨h1, h2⟩ := b2 h
      cases eq_of_beq h3
      obtain ⟨v1, v2, v3⟩ := hX.vis h2
      obtain ⟨l1, l2⟩ := hX.loc h5
      exact s_sub2 hX.K hX.calm (by rw [hX.N]; exact eq_of_beq h1) v1 v2 v3 hX.nd (by rw [hX.N]; exact eq_of_beq h4) l1 l2 (List.contains_iff_mem.mp h6) h7 (pe_O ((simE e hX.toCxK h8).vl rfl) false)
    · cases h
  | .ret e, X, c, fr, L, s, hX, h => by
    rw [chkS] at h
    split at h
    · rename_i v hy
      obtain ⟨q, rfl⟩ := dRet_e hy
      show PS X _ (rdS Γ (WQ Γ Wx) fr L fun η s => RS.of η ((eX C c.G e).v η s) fun d s => .fl (.rt (unown d)) s)
      split at h
      · rename_i i hi
        cases isO_e hi
        obtain ⟨x, p, rfl, h1, h2, h3, h4⟩ := var_e hX.toCxK h
        rw [eX]
        exact s_retO h1 h2 h3 h4
      · obtain ⟨h1, h2⟩ := b2 h
        have g := (simE e hX.toCxK h1).vl rfl
        cases fr with
        | false => exact s_ret (pe_E g)
        | true =>
          have : frX c.G e = true := by simpa using h2
          rw [this] at g
          exact s_ret g
    · cases h
  | .retN, X, c, fr, L, s, hX, h => by
    rw [chkS] at h
    split at h
    · rename_i hy
      obtain ⟨q, rfl⟩ := dRet_e hy
      exact s_retN
    · cases h
  | .ife t a b, X, c, fr, L, s, hX, h => by
    rw [chkS] at h
    split at h
    · rename_i x y z hy
      obtain ⟨q, rfl⟩ := dIfS_e hy
      obtain ⟨h, h3⟩ := b2 h
      obtain ⟨h1, h2⟩ := b2 h
      exact s_if ((simE t hX.toCxK h1).ts rfl) (simSs a hX h2) (simSs b hX h3)
    · cases h
  | .whl t a, X, c, fr, L, s, hX, h => by
    rw [chkS] at h
    split at h
    · rename_i x y hy
      obtain ⟨q, rfl⟩ := dWhl_e hy
      obtain ⟨h1, h2⟩ := b2 h
      exact s_whl hX.po ((simE t hX.toCxK h1).ts rfl) (simSs a hX h2)
    · cases h
  | .fr t kd ss a, X, c, fr, L, s, hX, h => by
    rw [chkS] at h
    split at h
    · rename_i tg it y hy
      obtain ⟨q, rfl⟩ := dFor_e hy
      obtain ⟨h, h5⟩ := b2 h
      obtain ⟨h, h4⟩ := b2 h
      obtain ⟨h, h3⟩ := b2 h
      obtain ⟨h1, h2⟩ := b2 h
      exact s_for hX.po hX.calm (simI ss hX.toCxK h1) (tg_e hX.toCxK h3) h2 (fun i hi => List.contains_iff_mem.mp (List.all_eq_true.mp h4 i hi)) (simSs a hX h5)
    · cases h
  | .frO t v a, X, c, fr, L, s, hX, h => by
    rw [chkS] at h
    split at h
    · rename_i tg it y hy
      obtain ⟨q, rfl⟩ := dFor_e hy
      obtain ⟨h, h4⟩ := b2 h
      obtain ⟨h, h3⟩ := b2 h
      obtain ⟨h1, h2⟩ := b2 h
      obtain ⟨x, p, rfl, v1, v2, v3, v4⟩ := var_e hX.toCxK h1
      refine s_more (L' := L.filter (· != v)) (s_frO hX.po hX.calm v1 v2 v3 v4 hX.K (tg_e hX.toCxK h2) (fun i hi => List.contains_iff_mem.mp (List.all_eq_true.mp h3 i hi)) (by simp) (simSs a hX h4)) fun j hj => (List.mem_filter.mp hj).1
    · cases h
  | .exp e, X, c, fr, L, s, hX, h => by
    rw [chkS] at h
    split at h
    · rename_i x hy
      obtain ⟨q, rfl⟩ := dExpr_e hy
      obtain ⟨h1, h2⟩ := b2 h
      exact s_exp (sw_no h1 _ _ _) ((simE e hX.toCxK h2).vl rfl)
    · cases h
  | .pas, X, c, fr, L, s, hX, h => by
    cases s with
    | Pass q => exact s_pass
    | _ => simp [chkS] at h
  | .brk, X, c, fr, L, s, hX, h => by
    cases s with
    | Break q => exact s_brk
    | _ => simp [chkS] at h
  | .cnt, X, c, fr, L, s, hX, h => by
    cases s with
    | Continue q => exact s_cnt
    | _ => simp [chkS] at h
  | .odc m i e, X, c, fr, L, s, hX, h => by
    rw [chkS] at h
    split at h
    · rename_i x p v q hy
      cases dAsgN_e hy
      obtain ⟨h, h4⟩ := b2 h
      obtain ⟨h, h3⟩ := b2 h
      obtain ⟨h1, h2⟩ := b2 h
      obtain ⟨h0, h1⟩ := b2 h1
      have hm : m = false := by simpa using h0
      subst hm
      obtain ⟨l1, l2⟩ := hX.loc h2
      have hN : X.N[i]? = some x := by rw [hX.N]; exact eq_of_beq h1
      have hL : i ∈ L := List.contains_iff_mem.mp h3
      split at h4
      · rename_i f a hz
        obtain ⟨p', q', rfl⟩ := dCall_e hz
        obtain ⟨h4, g4⟩ := b2 h4
        obtain ⟨h4, g3⟩ := b2 h4
        obtain ⟨g1, g2⟩ := b2 h4
        cases eq_of_beq g1
        show PS X _ (rdS Γ (WQ Γ Wx) fr L fun η s => RS.of η (vDic false (eXs C c.G [e]) η s) fun kvs s => putC false i η kvs s)
        have hA : PA X [a] (rdA Γ (WQ Γ Wx) false (seqV (eXs C c.G [e]))) := by
          rw [eXs, eXs]
          exact xa_cons (simE e hX.toCxK g4).op xa_nil (star_cons g3 _ _)
        exact s_odc hX.nd hN l1 l2 hL rfl (x_dic hX.K hX.calm (hX.gl g2) (hX.bi _ (by decide)) g3 hA)
      · cases h4
    · cases h
  | .dset v k' e, X, c, fr, L, s, hX, h => by
    rw [chkS] at h
    split at h
    · rename_i x a b hy
      obtain ⟨p, q, r, rfl⟩ := dSetI_e hy
      obtain ⟨h, h5⟩ := b2 h
      obtain ⟨h, h4⟩ := b2 h
      obtain ⟨h, h3⟩ := b2 h
      obtain ⟨h1, h2⟩ := b2 h
      obtain ⟨v1, v2, v3⟩ := hX.vis h2
      have hN : X.N[v]? = some x := by rw [hX.N]; exact eq_of_beq h1
      have hu : X.A.units + 65 < cLine := by have := hX.un; omega
      exact s_dset hX.K hX.hw hu hN v1 v2 v3 h3 (pe_O ((simE e hX.toCxK h5).vl rfl) false) (pe_O ((simE k' hX.toCxK h4).vl rfl) false)
    · cases h
  | .rse y, X, c, fr, L, s, hX, h => by
    rw [chkS] at h
    split at h
    · rename_i x hy
      obtain ⟨p, p', q, rfl⟩ := dRse_e hy
      obtain ⟨h, h4⟩ := b2 h
      obtain ⟨h, h3⟩ := b2 h
      obtain ⟨h1, h2⟩ := b2 h
      cases eq_of_beq h1
      obtain ⟨C', F⟩ := hX.exc _ (List.contains_iff_mem.mp h4)
      exact s_rse hX.mg hX.calm hX.tk F (hX.gl h2) (by simpa using h3)
    · cases h
theorem simSs : ∀ (l : List Sm) {X : Cx} {c : Ck} {fr : Bool} {L : List Nat} {es : List Stmt}, CxS X Γ c C k Wx → chkSs c fr l L es = true → PSs X es (rdS Γ (WQ Γ Wx) fr L (execs C c.G l))
  | [], X, c, fr, L, es, hX, h => by
    cases es with
    | nil => exact s_nil
    | cons e es => simp [chkSs] at h
  | x :: l, X, c, fr, L, es, hX, h => by
    have gen : ∀ {e : Stmt} {es : List Stmt}, (chkS c fr x L e && chkSs c fr l L es) = true → PSs X (e :: es) (rdS Γ (WQ Γ Wx) fr L (execs C c.G (x :: l))) := fun {e es} h => s_cons (simS x hX (b2 h).1) (simSs l hX (b2 h).2)
    cases x with
    | frz v =>
      rw [chkSs] at h
      exact s_frz (simSs l hX h)
    | _ =>
      cases es with
      | nil => simp [chkSs] at h
      | cons e es => exact gen (by rw [chkSs] at h <;> first | exact h | nofun)
end
end
end Z
end

section
set_option maxRecDepth 100000
set_option maxHeartbeats 4000000
/-! All the defs of a text, and what a law's end asks. -/
namespace Z
open PySem PySem.Spec PyProof.Rows L2
variable [HW]

/-- a def of the text that the interpreter knows -/
structure DefOk (K : PySem.W.Frag) (mg : Str → Option Value) (G : Gam) (kb : Str → List (Nat × List Str × List Nat)) (lam : Str → Bool) (exs : List Str) (f : Str) (fd : Fd) : Prop where
  ex : ∃ (params : Arguments) (body : List Stmt) (scope : Scope) (a : Addr) (fdd : FuncData) (N : List Str), FunD K f f params body scope [] [] a fdd ∧ mg f = some (.ref a) ∧ PySem.W.keepIn K (.ref a) = true ∧ FnScope N fd.ps (scope) ∧ N.length = fd.n ∧ Bnd fdd fd.ps fd.ps.length [] [] ∧ (∀ b ∈ kb f, Bnd fdd fd.ps b.1 b.2.1 b.2.2) ∧
    chkSs ⟨N, scope, fun _ => true, G, kb, lam f, exs⟩ fd.fr fd.body (List.range fd.n) (body) = true
structure TextOk (K : PySem.W.Frag) (mg : Str → Option Value) (G : Gam) (kb : Str → List (Nat × List Str × List Nat)) (lam : Str → Bool) (exs : List Str) : Prop where
  defs : ∀ f fd, G.fns f = some fd → DefOk K mg G kb lam exs f fd
  bi : ∀ x ∈ bltNames, mg x = none
  cst : ∀ x d, G.cst x = some d → ∃ u v, mg x = some u ∧ RelV v u ∧ ∀ F, Rv K F v d
  hrs : ∀ x h, G.hrs x = some h → Hears K mg x h
  exc : ∀ x ∈ exs, ∃ C, ExcN K mg x C
/-- the tables of the defs that make lambdas -/
def LamOk (K : PySem.W.Frag) (mg : Str → Option Value) (base : Heap) (lam : Str → Bool) : Prop := ∀ (f : Str) (params : Arguments) (body : List Stmt) (scope : Scope) (a : Addr) (fdd : FuncData), lam f = true → FunD K f f params body scope [] [] a fdd → mg f = some (.ref a) →
  ∃ cc P, fdd.code = .ref cc ∧ LamX.TabB base mg cc P ∧ (P, f ++ ".<locals>." ++ "<lambda>") ∈ HW.T ∧ ∀ p ∈ HW.T, p.1 = P → p.2 = f ++ ".<locals>." ++ "<lambda>"
theorem start_get {α : Type} {n : Nat} {ds : List α} {i : Nat} {d : α} (h : (ds.map some ++ List.replicate (n - ds.length) none)[i]? = some (some d)) : ds[i]? = some d := by
  by_cases hi : i < ds.length
  · rw [List.getElem?_append_left (by simpa using hi), List.getElem?_map] at h
    cases e : ds[i]? with
    | none => rw [e] at h; cases h
    | some a => rw [e] at h; cases h; rfl
  · rw [List.getElem?_append_right (by simpa using hi), List.getElem?_replicate] at h
    split at h <;> cases h
theorem RDs.get {K : PySem.W.Frag} {mg : Str → Option Value} {F : Hp} {φ : List Addr} {vs : List V} {ds : List Z.D} (r : RDs K mg F φ vs ds) : ∀ {i : Nat} {d : Z.D}, ds[i]? = some d → ∃ v, vs[i]? = some v ∧ RD K mg F φ v d := by
  induction r with
  | nil => intro i d h; simp at h
  | cons a r ih =>
    intro i d h
    cases i with
    | zero => simp at h; subst h; exact ⟨_, rfl, a⟩
    | succ i => simpa using ih (by simpa using h)
/-- at a def's entry -/
theorem entry {Γ : Kn} {K0 F H : Hp} {φ : List Addr} {s : Sto} {N : List Str} {n : Nat} {vs : List V} {ds : List Z.D} (W : World Γ K0 F φ s H) (r : RDs Γ.K Γ.mg F φ vs ds) (hn : N.length = n) : Sim Γ K0 F φ (Z.start n ds) s (L2.start N vs) H := by
  have noOwn : ∀ {i : Nat} {d : Z.D}, d.isOwn = true → (Z.start n ds)[i]? = some (some d) → False := fun {i d} hd h => by
    obtain ⟨v, _, q⟩ := r.get (start_get h)
    cases d with
    | own xs => exact q
    | odc m xs => exact q
    | _ => cases hd
  refine ⟨W.kp, W.fz, W.nd, W.ln, W.so, ?_, fun i d hd h => ?_, fun i d hd h => (noOwn hd h).elim, fun i j a d e hd _ h => (noOwn hd h).elim, W.tb⟩
  · unfold Z.start L2.start
    simp [hn, r.len]
  · obtain ⟨v, q1, q2⟩ := r.get (start_get h)
    refine ⟨v, ?_, q2⟩
    unfold L2.start
    rw [List.getElem?_append_left (by rw [List.length_map]; exact (List.getElem?_eq_some_iff.mp q1).1), List.getElem?_map, q1]
    rfl
theorem fin_run {Γ : Kn} {fr : Bool} {K0 F : Hp} {φ : List Addr} {σ : L2.St} {L : List Nat} {r : RS} {Q : VK} {E : XK} (h : Run Γ (WQ Γ fun cls d _ H' => E cls d H') K0 F φ [] [] (fin r) fun F' φ' H' d _ => ∀ x, FD fr Γ K0 F' φ' H' x d → Q x H') :
    RunS Γ (WQ Γ fun cls d _ H' => E cls d H') fr K0 F φ σ L r { nx := fun _ H' => Q .non H', rt := Q } := by
  cases r with
  | fl f s =>
    cases f with
    | nx η => exact fun F' φ' σ' H' l p _ ⟨K1, lk, _, S⟩ => h F' φ' H' l p (S.toWorld lk) .non (FD.const .non fun _ => nofun)
    | rt d => exact fun F' φ' H' x l p W hx => h F' φ' H' l p W x hx
    | bk η => exact h.elim
    | ct η => exact h.elim
  | er x η s => exact fun K1 F' φ' σ' H' lk l p _ S => h F' φ' H' l p (S.toWorld lk)
  | no => exact h.elim
/-- a def keeps its promise where those that it calls do -/
theorem stepG {P : Program} {w : PySem.World} {K : PySem.W.Frag} {mg : Str → Option Value} {base : Heap} {G : Gam} {kb : Str → List (Nat × List Str × List Nat)} {lam : Str → Bool} {exs : List Str} (T : TextOk K mg G kb lam exs) (hw : w = HW.w) (LM : LamOk K mg base lam) {k : Nat} {f : Str} {fd : Fd} {params : Arguments} {body : List Stmt} {scope : Scope} {a : Addr} {fdd : FuncData} {N : List Str}
    (hf : G.fns f = some fd) (h1 : FunD K f f params body scope [] [] a fdd) (h2 : mg f = some (.ref a)) (h4 : FnScope N fd.ps scope) (h5 : N.length = fd.n) (h8 : chkSs ⟨N, scope, fun _ => true, G, kb, lam f, exs⟩ fd.fr fd.body (List.range fd.n) body = true)
    (ih : ∀ f fd, G.fns f = some fd → Clb P w K mg base (3 * k) (callF G k f) f fd (kb f)) : FnG P w K mg base (3 * (k + 1)) a fdd fd.ps (spZ K mg fd.fr (callF G (k + 1) f)) := by
  refine FnG.of (k := 3 * k + 2) (N := N) h1 h4 fun cdv A outer s H vs Q E hcdv hr hg hl ⟨K0, F, φ, s', ds, Wd, hrd, r⟩ => ?_
  refine ⟨rdS ⟨K, mg⟩ (WQ ⟨K, mg⟩ fun cls d _ H' => E cls d H') fd.fr (List.range fd.n) (execs (callF G k) G fd.body), ?_, ?_⟩
  · have hX : CxS (cxOf (L2.CX P w) P w K mg base N f scope a cdv A outer s H E) ⟨K, mg⟩ ⟨N, scope, fun _ => true, G, kb, lam f, exs⟩ (callF G k) (3 * k) (fun cls d _ H' => E cls d H') :=
      { tk := takes_of rfl rfl rfl rfl, K := rfl, hw := hw, mg := rfl, N := rfl, nd := h4.nd, calm := rfl, gd := hg, rm := hr.mono (by omega), sc := rfl, fnb := fun _ _ => rfl, bi := T.bi, cst := T.cst, fns := ih, po := passes_of rfl, kd := h4.kind,
        hrs := T.hrs, exc := T.exc, lm := fun hl => by
          obtain ⟨cc, Pt, t1, t2, t3, t4⟩ := LM f params body scope a fdd hl h1 h2
          exact ⟨hr, cc, Pt, t2, hcdv.symm.trans t1, t3, t4⟩ }
    exact simSs fd.body hX h8
  · have hd : ds.length = fd.ps.length := by rw [← hrd.len]; exact hl
    have e : callF G (k + 1) f ds s' = fin (execs (callF G k) G fd.body (Z.start fd.n ds) s') := by
      rw [callF, hf]
      exact if_pos hd
    rw [e] at r
    have E0 := entry (N := N) (n := fd.n) Wd hrd h5
    refine ⟨K0, F, φ, _, s', ⟨K0, HLe.refl _, fun i d b hd h _ => ?_, E0⟩, fin_run r⟩
    obtain ⟨c, q1, q2⟩ := E0.ow i d hd h
    exfalso
    obtain ⟨v, _, q⟩ := hrd.get (start_get h)
    cases d with
    | own xs => exact q
    | odc m xs => exact q
    | _ => cases hd
theorem allDefs {P : Program} {w : PySem.World} {K : PySem.W.Frag} {mg : Str → Option Value} {base : Heap} {G : Gam} {kb : Str → List (Nat × List Str × List Nat)} {lam : Str → Bool} {exs : List Str} (T : TextOk K mg G kb lam exs) (hw : w = HW.w) (LM : LamOk K mg base lam) :
    ∀ k f fd, G.fns f = some fd → Clb P w K mg base (3 * k) (callF G k f) f fd (kb f)
  | 0, f, fd, hf => by
    obtain ⟨params, body, scope, a, fdd, N, h1, h2, h3, h4, h5, h6, h7, h8⟩ := (T.defs f fd hf).ex
    exact ⟨a, fdd, h2, h3, ⟨fun A outer s H args us vs Q E _ _ _ _ _ _ ⟨K0, F, φ, s', ds, _, _, r⟩ => r.elim⟩, h6, h7⟩
  | k + 1, f, fd, hf => by
    obtain ⟨params, body, scope, a, fdd, N, h1, h2, h3, h4, h5, h6, h7, h8⟩ := (T.defs f fd hf).ex
    exact ⟨a, fdd, h2, h3, stepG T hw LM hf h1 h2 h4 h5 h8 (allDefs T hw LM k), h6, h7⟩
end Z
end

section
set_option maxRecDepth 100000
set_option maxHeartbeats 4000000
/-! A law's end. -/
namespace Z
open PySem PySem.Spec PyProof.Rows L2
variable [HW]

/-- what is tracked at the law's call: the script, unless it is written already; the tables -/
def only (K : PySem.W.Frag) (a : Addr) (vs : List Value) (ns : List Int) (ts : List Addr) : Hp := fun b => if b = a ∧ K.lookup a = none then some (.frz ⟨.type "list", none, .seq vs.toArray 0, #[]⟩ (.lst (ns.map V.int))) else if b ∈ ts then some (.tbl #[]) else none
theorem only_some {K : PySem.W.Frag} {a b : Addr} {vs : List Value} {ns : List Int} {ts : List Addr} {u : HO} (h : only K a vs ns ts b = some u) : (b = a ∧ K.lookup a = none ∧ u = .frz ⟨.type "list", none, .seq vs.toArray 0, #[]⟩ (.lst (ns.map V.int))) ∨ (b ∈ ts ∧ u = .tbl #[]) := by
  unfold only at h
  split at h
  · rename_i c
    exact .inl ⟨c.1, c.2, (Option.some.inj h).symm⟩
  · split at h
    · rename_i c
      exact .inr ⟨c, (Option.some.inj h).symm⟩
    · cases h
/-- an empty table -/
abbrev noTab : Obj := { cls := .none, data := .fields #[] }
theorem law_true {P : Program} {w : PySem.World} {K : PySem.W.Frag} {mg mb : Str → Option Value} {G : Gam} {k n : Nat} {fa a : Addr} {fd : FuncData} {x law : Str} {z : Fd} {s₁ : Shared} {vs : List Value} {ns : List Int} {s' : Sto} {cs : List (Addr × Addr)}
    (kin : K.In s₁.heap) (globals : s₁.heap.Ns mainGlobals mg) (blt : s₁.heap.Ns builtinsNs mb) (bltIs : ∀ x : Str, x ≠ "__name__" → mb x = bootBuiltins x) (lim : s₁.heap.NoLimit) (gens : s₁.gens = #[])
    (tabs : ∀ p ∈ cs, s₁.heap.get? p.2 = some noTab) (out : ∀ p ∈ cs, K.lookup p.2 = none) (codes : ∀ p ∈ cs, PySem.W.CodeHd s₁.heap p.1 p.2) (hTc : ∀ p ∈ HW.T, ∃ c ∈ cs, c.2 = p.1)
    (bmain : ∃ (bm : Addr) (ob : Obj), mg "__builtins__" = some (.ref bm) ∧ bm ≠ builtinsNs ∧ s₁.heap.get? bm = some ob ∧ ob.cls = .type "module" ∧ ob.dict = some builtinsNs ∧ ob.data = .plain)
    (script : s₁.heap.get? a = some { cls := .type "list", data := .seq vs.toArray }) (nums : IntsAre vs ns) (short : ns.length ≤ sizeLine) (room : Room k callerA) (bind1 : ∀ (s : Shared) (u : Value), BindsTo s fd ⟨[u], []⟩ [(x, u)])
    (F : ∀ base : Heap, K.In base → base.Ns mainGlobals mg → (∀ p ∈ cs, LamX.TabB base mg p.1 p.2) → FnG P w K mg base k fa fd [x] (spZ K mg z.fr (callF G n law))) (good : callF G n law [.scr ns] [] = .ok (.dat (.bool true)) s') :
    codeAny (model P w) callerA (.call (.ref fa) ⟨[.ref a], []⟩) (fun r t => r = .ok (.ret (.bool true)) ∧ OldK s₁.heap t.heap ∧ t.os = s₁.os ∧ AllBare t.gens) s₁ := by
  have rel : Vals (ns.map V.int) vs := vals_ints nums
  let H := only K a vs ns (cs.map (·.2))
  have isT : ∀ b ∈ cs.map (·.2), s₁.heap.get? b = some noTab ∧ K.lookup b = none := fun b hb => by
    obtain ⟨p, hp, rfl⟩ := List.mem_map.mp hb
    exact ⟨tabs p hp, out p hp⟩
  have aT : a ∉ cs.map (·.2) := fun h => by
    have e := (isT a h).1
    rw [script] at e
    cases e
  have tabH : ∀ b ∈ cs.map (·.2), H b = some (.tbl #[]) := fun b hb => by
    show only K a vs ns (cs.map (·.2)) b = _
    unfold only
    rw [if_neg (fun h => aT (by rw [← h.1]; exact hb)), if_pos hb]
  have free : ∀ {b : Addr} {o : Obj}, s₁.heap.get? b = some o → (b = a → K.lookup a ≠ none) → (o ≠ noTab) → (hidT s₁.heap H).get? b = some o := fun {b o} e hb ht => hidT_get e (by
    cases q : H b with
    | none => rfl
    | some u =>
      rcases only_some q with q | q
      · exact absurd q.2.1 (hb q.1)
      · exact absurd (Option.some.inj (e.symm.trans (isT b q.1).1)) ht)
  have names : ∀ {b : Addr} {m : Str → Option Value}, s₁.heap.Ns b m → (hidT s₁.heap H).Ns b m := fun {b m} ⟨o, es, ep, e, d, r⟩ =>
    ⟨o, es, ep, free e (fun z => (by subst z; rw [script] at e; cases e; cases d)) (fun z => by subst z; cases d), d, r⟩
  have kinB : K.In (hidT s₁.heap H) := fun b o e => by
    by_cases hb : b ∈ cs.map (·.2)
    · rw [(isT b hb).2] at e; cases e
    · refine hidT_get (kin b o e) ?_
      cases q : H b with
      | none => rfl
      | some u =>
        rcases only_some q with q | q
        · rw [q.1, q.2.1] at e; cases e
        · exact absurd q.1 hb
  have md : Mod K mg (hidT s₁.heap H) := { kin := kinB, glob := names globals, blt := ⟨mb, names blt, bltIs⟩, nolimit := let ⟨mc, h1, h2⟩ := lim; ⟨mc, names h1, h2⟩ }
  have hok : HOk P w H s₁.heap := fun b u e => by
    rcases only_some e with ⟨rfl, _, rfl⟩ | ⟨hb, rfl⟩
    · exact ⟨script, by rw [List.length_map]; exact short, vs, 0, rel, script⟩
    · exact (isT b hb).1
  have TB : ∀ p ∈ cs, LamX.TabB (hidT s₁.heap H) mg p.1 p.2 := fun p hp => by
    have plain : ∀ {b : Addr} {o : Obj}, s₁.heap.get? b = some o → (∀ us n, o.data ≠ .seq us n) → o.data ≠ .fields #[] → (hidT s₁.heap H).get? b = some o := fun {b o} e h1 h2 =>
      free e (fun z => by subst z; rw [script] at e; cases e; exact (h1 _ _ rfl).elim) fun z => by subst z; exact h2 rfl
    refine ⟨?_, ?_, fun z => ?_⟩
    · obtain ⟨o, us, fl, tf, flg, tg, iF, tx, tt, e1, r1, r2, r3, r4⟩ := codes p hp
      refine ⟨o, us, fl, tf, flg, tg, iF, tx, tt, plain e1 (fun us' n z => ?_) (fun z => ?_), r1, r2, r3, r4⟩
      · rw [r2] at z; cases z
      · rw [r2] at z
        cases z
        simp at r3
    · obtain ⟨bm, ob, b1, b2', b3, b4, b5, b6⟩ := bmain
      refine ⟨bm, ob, b1, b2', fun q => ?_, fun q => ?_, plain b3 (fun us n z => ?_) (fun z => ?_), b4, b5, b6⟩
      · obtain ⟨o, es, ep, e, hd, _⟩ := globals
        rw [q, e] at b3
        cases b3
        rw [hd] at b6
        cases b6
      · rw [q, tabs p hp] at b3
        cases b3
        cases b6
      · rw [b6] at z; cases z
      · rw [b6] at z; cases z
    · obtain ⟨o, es, ep, e, hd, _⟩ := globals
      rw [z, tabs p hp] at e
      cases e
      cases hd
  have e0 : Env0 P w K mg (hidT s₁.heap H) callerA [] s₁ H :=
    { frames := rfl, mod := md, bs := fun b o e => of_hidT e, bsz := Nat.le_of_eq (hidT_size _ _), funs := trivial, frf := fun b hb => (List.not_mem_nil hb).elim, hok := hok, bare := .of_eq gens }
  have seq : SqL K H a (ns.map V.int) := by
    cases q : K.lookup a with
    | none => exact .inl (.inr ⟨_, if_pos ⟨rfl, q⟩⟩)
    | some o =>
      have e := kin a o q
      rw [script] at e
      cases e
      exact .inr ⟨_, vs.toArray, _, q, rfl, rfl, rfl, by rw [List.size_toArray, nums.length]; exact short, by simpa using rel⟩
  have frOnly : ∀ b o, (if tblAt (H b) = true then none else H b) = some o → H b = some o ∧ NoT o := fun b o e => by
    split at e
    · cases e
    · rename_i hn
      exact ⟨e, fun ps z => hn (by rw [e, z]; rfl)⟩
  have want : spZ K mg z.fr (callF G n law) [.ref a] H (fun v _ => v = .bl true) fun _ _ _ => False := by
    refine ⟨fun _ => none, fun b => if tblAt (H b) = true then none else H b, [], [], [.scr ns], ⟨fun b o e => (by cases e), fun b o e => ⟨(frOnly b o e).1, List.not_mem_nil⟩, .nil, rfl, fun n b ob e => (by simp at e), rfl, fun i d _ e => (by simp at e), fun i d _ e => (by simp at e), fun i j b d e _ _ h => (by simp at h),
        ⟨fun p hp => ?_, nofun, fun b o e => (frOnly b o e).2⟩⟩,
      .cons ⟨a, rfl, ?_⟩ .nil, ?_⟩
    · obtain ⟨c, hc, e⟩ := hTc p hp
      exact LamX.TabS.nil (tabH _ (List.mem_map.mpr ⟨c, hc, e⟩))
    · rcases seq with q | q
      · refine .inl ?_
        rcases q with q | ⟨o, q⟩
        · exact .inl ((if_neg (by rw [q]; simp [tblAt])).trans q)
        · exact .inr ⟨o, (if_neg (by rw [q]; simp [tblAt])).trans q⟩
      · exact .inr q
    · rw [good]
      intro F' φ' H' _ _ _ v hv
      cases (show Rv K F' v (.bool true) from hv.rd fun _ => nofun)
      rfl
  refine codeAny_mono ((F _ kinB (names globals) TB).run callerA [] s₁ H ⟨[.ref a], []⟩ [.ref a] [.ref a] _ _ room rfl e0 (bind1 s₁ (.ref a)) rfl (.cons rfl .nil) want) fun r t h => ?_
  cases r with
  | error e =>
    obtain ⟨_, _, _, _, _, _, _, _, _, _, _, _, q⟩ := h
    exact q.elim
  | ok fl =>
    cases fl with
    | ret u =>
      obtain ⟨v, H', os, bare, un, hok', rv, q⟩ := h
      cases (show v = .bl true from q)
      cases (show u = Value.bool true from rv)
      have grown : ∀ b ∈ cs.map (·.2), ∃ more : Array Value, t.heap.get? b = some { cls := .none, data := .fields more } := fun b hb => by
        obtain ⟨more, z⟩ := un.tbls b #[] (tabH b hb)
        exact ⟨_, hok' b _ z⟩
      have kept : ∀ b o, b ∉ cs.map (·.2) → s₁.heap.get? b = some o → t.heap.get? b = some o := fun b o nb e => by
        cases q : H b with
        | none => exact un.keep b o e q (fun m => (List.not_mem_nil m).elim) List.not_mem_nil
        | some u =>
          rcases only_some q with ⟨rfl, _, rfl⟩ | q2
          · obtain ⟨e2, _⟩ := hok' b _ (un.frzs b _ _ q)
            rw [script] at e
            cases e
            exact e2
          · exact absurd q2.1 nb
      refine ⟨rfl, ⟨fun b o e => ?_, fun b o e => ?_⟩, os, bare⟩
      · by_cases hb : b ∈ cs.map (·.2)
        · obtain ⟨more, hm⟩ := grown b hb
          obtain ⟨p, hp, ep⟩ := List.mem_map.mp hb
          have e2 := (isT b hb).1
          rw [e] at e2
          cases e2
          exact .inr (.inl ⟨by rw [← ep]; exact ((codes p hp).tab (tabs p hp)).isCodeTable, rfl, #[], more, rfl, by rw [Array.empty_append]; exact hm⟩)
        · exact .inl (kept b o hb e)
      · by_cases hb : b ∈ cs.map (·.2)
        · obtain ⟨more, hm⟩ := grown b hb
          exact ⟨_, hm⟩
        · exact ⟨o, kept b o hb e⟩
    | next => exact h.elim
    | brk => exact h.elim
    | cont => exact h.elim
end Z
end

section
set_option maxRecDepth 100000
set_option maxHeartbeats 4000000
/-! From the top of a text to the interpreter's text. -/
namespace Z
open PySem PySem.Spec PyProof.Rows L2
variable [HW]

/-- a def of the top: its name, its place, what the interpreter makes of it, its names -/
structure DD where
  nm : Str
  at_ : Nat
  fd : Fd
  N : List Str
/-- a def that hears lambdas out: fd tells its parameter alone -/
structure HH where
  d : DD
  hd : HdK
/-- a text: its defs, its constants, the arguments by name, turns of a while, the defs with lambdas, those that hear them out, classes of errors -/
structure Txt where
  P : Program
  dds : List DD
  cs : List (Str × PyData)
  kb : List (Str × List (Nat × List Str × List Nat))
  W : Nat
  lams : List Str := []
  hds : List HH := []
  exs : List Str := []
def Txt.st (T : Txt) (d : DD) : Stmt := T.P.main.body.getD d.at_ (.Pass ⟨0, 0, 0, 0⟩)
def Txt.dd (T : Txt) (d : DD) : He.DefD := ⟨(d.nm, none), d.nm, d.nm, defArgs (T.st d), defBody (T.st d), defScope (T.st d), [], []⟩
def Txt.gam (T : Txt) : Gam := ⟨fun f => (T.dds.find? fun d => d.nm == f).map (·.fd), fun x => T.cs.lookup x, T.W, fun x => (T.hds.find? fun d => d.d.nm == x).map (·.hd)⟩
def Txt.kbs (T : Txt) : Str → List (Nat × List Str × List Nat) := fun f => (T.kb.lookup f).getD []
def faC : Str × PyData → He.Fa
  | (x, .int i) => .int x i
  | (x, .str z) => .str x z
  | (x, _) => .glo x
def okC : Str × PyData → Bool
  | (_, .int _) => true
  | (_, .str _) => true
  | _ => false
def Txt.fa (T : Txt) : List He.Fa := (T.dds.map (fun d => .glo d.nm) ++ (bltNames.map (.free ·) ++ T.cs.map faC)) ++ (T.hds.flatMap (fun d => [.glo d.d.nm, .glo d.hd.cls, .glo d.hd.is]) ++ T.exs.map (fun x => .glo x))
def Txt.fn (T : Txt) : List He.DefD := T.dds.map T.dd ++ T.hds.map fun d => T.dd d.d
/-- a class of errors that is made of nothing -/
def excK (K : PySem.W.Frag) (C : Addr) : Bool := (PySem.W.excIn K C [.type "RuntimeError", .type "Exception", .type "BaseException", .type "object"] "RuntimeError.__new__" || PySem.W.excIn K C [.type "LookupError", .type "Exception", .type "BaseException", .type "object"] "LookupError.__new__")
  && PySem.W.keepIn K (.ref C) && decide (PySem.W.subIn K (.ref C) (.type "BaseException") = some true) && decide (PySem.W.typeIn K (.ref C) = some (.type "type"))
/-- its instances may be asked -/
def ecK (K : PySem.W.Frag) (C D : Addr) : Bool := decide (PySem.W.exmOne K (.ref C) (.ref C) = some true) && decide (PySem.W.kitOne K (.ref C) (.ref D) = some true)
  && decide (PySem.W.findIn K (.ref C) "__getattribute__" = some (some (.builtin "BaseException.__getattribute__"))) && decide (PySem.W.findIn K (.ref C) "__getattr__" = some none) && decide (PySem.W.subIn K (.ref C) (.type "BaseException") = some true)
  && PySem.W.hasDictIn K C && decide (PySem.W.findIn K (.ref C) "__class__" = some (some (.builtin "object.__class__"))) && decide (PySem.W.specialIn K (.builtin "object.__class__") "__get__" = some (some (.builtin "getset_descriptor.__get__")))
  && decide (PySem.W.takesIn K (.builtin "object.__class__") = some true) && decide (PySem.W.mroIn K C (.type "object") = some true)
def Txt.tf (T : Txt) : List He.Defn := T.lams.map fun f => (f, none)
def Txt.exB (T : Txt) (K : PySem.W.Frag) : Bool := decide ((T.tf.map fun p => (He.cT K p).2).Nodup) && T.exs.all (fun x => excK K (He.ga K x)) && T.hds.all fun d => ecK K (He.ga K d.hd.cls) (He.ga K d.hd.is)
def Txt.chkH1 (T : Txt) (d : HH) : Bool := (match d.d.fd.ps with
  | [a] => C8.scC d.d.N [a] (defScope (T.st d.d)) && decide (d.d.N[0]? = some a) && chkH d.hd d.d.N (defScope (T.st d.d)) (defBody (T.st d.d))
  | _ => false)
def Txt.chk1 (T : Txt) (d : DD) : Bool := C8.scC d.N d.fd.ps (defScope (T.st d)) && d.N.length == d.fd.n && chkSs ⟨d.N, defScope (T.st d), fun _ => true, T.gam, T.kbs, T.lams.contains d.nm, T.exs⟩ d.fd.fr d.fd.body (List.range d.fd.n) (defBody (T.st d))
/-- how a def's arguments are bound -/
def Txt.bnd1 (T : Txt) (d : DD) (n : Nat) (ks : List Str) (π : List Nat) : Prop := ∀ (kV doc pm : Value) (an : Option Addr) (cdv ct : Value) (us ws : List Value), us.length = n → ws.length = ks.length →
  bindArgs (PySem.W.fnOf d.nm d.nm (defArgs (T.st d)) (defBody (T.st d)) (defScope (T.st d)) .none kV doc pm an cdv ct) ⟨us, ks.zip ws⟩ = pure (d.fd.ps.zip (us ++ pick π ws))
structure Txt.Bnds (T : Txt) (d : DD) : Prop where
  pos : T.bnd1 d d.fd.ps.length [] []
  kw : ∀ b ∈ T.kbs d.nm, T.bnd1 d b.1 b.2.1 b.2.2
def okKb (d : DD) (b : Nat × List Str × List Nat) : Bool := b.1 + b.2.2.length == d.fd.ps.length && b.2.2.all (· < b.2.1.length)
section
variable {T : Txt} {K : PySem.W.Frag} {mg : Str → Option Value} {h : Heap}
theorem bnd_of {d : DD} {a : Addr} {fdd : FuncData} {n : Nat} {ks : List Str} {π : List Nat} (F : FunD K d.nm d.nm (defArgs (T.st d)) (defBody (T.st d)) (defScope (T.st d)) [] [] a fdd) (b : T.bnd1 d n ks π) (hl : n + π.length = d.fd.ps.length) (lt : ∀ i ∈ π, i < ks.length) : Bnd fdd d.fd.ps n ks π := by
  obtain ⟨oc, od, dV, kV, doc, pm, an, cdv, ct, osl, rfl, lk, hcd, hD, hK⟩ := F.ex
  rcases hD with ⟨_, rfl⟩ | ⟨e, _⟩
  · exact ⟨fun s us ws h1 h2 => .of_eq (b kV doc pm an cdv ct us ws h1 h2), hl, lt⟩
  · exact absurd rfl e
theorem facts_l {f : He.Fa} (hf : f ∈ T.dds.map (fun d => .glo d.nm) ++ (bltNames.map (.free ·) ++ T.cs.map faC)) : f ∈ T.fa := List.mem_append_left _ hf
theorem text_ok (X : K.In h) (Gl : h.Ns mainGlobals mg) (c : He.SaysD T.fa T.fn K) (ex : T.exB K = true) (hc : T.dds.all T.chk1 = true) (hk : T.dds.all (fun d => (T.kbs d.nm).all (okKb d)) = true) (hs : T.cs.all okC = true) (hb : ∀ d ∈ T.dds, T.Bnds d) (hh : T.hds.all T.chkH1 = true) (hbh : ∀ d ∈ T.hds, T.bnd1 d.d 1 [] []) : TextOk K mg T.gam T.kbs (fun f => T.lams.contains f) T.exs where
  defs := fun f fd hf => by
    obtain ⟨d, hd, rfl⟩ := Option.map_eq_some_iff.mp (show (T.dds.find? fun d => d.nm == f).map (·.fd) = some fd from hf)
    have hm : d ∈ T.dds := List.mem_of_find?_eq_some hd
    have hn : d.nm = f := eq_of_beq (List.find?_some (p := fun d : DD => d.nm == f) hd)
    subst hn
    obtain ⟨fdd, F⟩ := c.defs (d := T.dd d) (List.mem_append_left _ (List.mem_map.mpr ⟨d, hm, rfl⟩))
    have F : FunD K d.nm d.nm (defArgs (T.st d)) (defBody (T.st d)) (defScope (T.st d)) [] [] (He.ga K d.nm) fdd := F
    have g : mg d.nm = some (.ref (He.ga K d.nm)) := He.glo_ok X Gl (c.facts (f := .glo d.nm) (facts_l (List.mem_append_left _ (List.mem_map.mpr ⟨d, hm, rfl⟩))))
    have q := List.all_eq_true.mp hc d hm
    unfold Txt.chk1 at q
    obtain ⟨q, q3⟩ := b2 q
    obtain ⟨q1, q2⟩ := b2 q
    have kbd : ∀ b ∈ T.kbs d.nm, b.1 + b.2.2.length = d.fd.ps.length ∧ ∀ i ∈ b.2.2, i < b.2.1.length := fun b hb => by
      have z := List.all_eq_true.mp (List.all_eq_true.mp hk d hm) b hb
      unfold okKb at z
      obtain ⟨z1, z2⟩ := b2 z
      exact ⟨eq_of_beq z1, fun i hi => of_decide_eq_true (List.all_eq_true.mp z2 i hi)⟩
    exact ⟨_, _, _, _, fdd, d.N, F, g, F.kp, C8.fnScope_by q1, eq_of_beq q2, bnd_of F (hb d hm).pos rfl nofun, fun b hb' => bnd_of F ((hb d hm).kw b hb') (kbd b hb').1 (kbd b hb').2, q3⟩
  bi := fun x hx => He.free_ok X Gl (c.facts (f := .free x) (facts_l (List.mem_append_right _ (List.mem_append_left _ (List.mem_map.mpr ⟨x, hx, rfl⟩)))))
  cst := fun x d hd => by
    have hm : (x, d) ∈ T.cs := PySem.mem_of_lookup hd
    have f := c.facts (f := faC (x, d)) (facts_l (List.mem_append_right _ (List.mem_append_right _ (List.mem_map.mpr ⟨_, hm, rfl⟩))))
    have o := List.all_eq_true.mp hs _ hm
    cases d with
    | int i => obtain ⟨t, e⟩ := He.int_ok X Gl f; exact ⟨_, .int i, e, ⟨t, rfl⟩, fun F => .int i⟩
    | str z => obtain ⟨t, e⟩ := He.str_ok X Gl f; exact ⟨_, .str z, e, ⟨t, rfl⟩, fun F => .str z⟩
    | _ => cases o
  hrs := fun x h hx => by
    obtain ⟨d, hd, rfl⟩ := Option.map_eq_some_iff.mp (show (T.hds.find? fun d => d.d.nm == x).map (·.hd) = some h from hx)
    have hm : d ∈ T.hds := List.mem_of_find?_eq_some hd
    have hn : d.d.nm = x := eq_of_beq (List.find?_some (p := fun d : HH => d.d.nm == x) hd)
    subst hn
    obtain ⟨fdd, F⟩ := c.defs (d := T.dd d.d) (List.mem_append_right _ (List.mem_map.mpr ⟨d, hm, rfl⟩))
    have F : FunD K d.d.nm d.d.nm (defArgs (T.st d.d)) (defBody (T.st d.d)) (defScope (T.st d.d)) [] [] (He.ga K d.d.nm) fdd := F
    have gl : ∀ z ∈ [d.d.nm, d.hd.cls, d.hd.is], mg z = some (.ref (He.ga K z)) := fun z hz => He.glo_ok X Gl (c.facts (f := .glo z) (List.mem_append_right _ (List.mem_append_left _ (List.mem_flatMap.mpr ⟨d, hm, by
      simp only [List.mem_cons, List.not_mem_nil, or_false] at hz ⊢
      rcases hz with rfl | rfl | rfl
      · exact .inl rfl
      · exact .inr (.inl rfl)
      · exact .inr (.inr rfl)⟩))))
    have q := List.all_eq_true.mp hh d hm
    have e := List.all_eq_true.mp (b2 ex).2 d hm
    unfold ecK at e
    simp only [Bool.and_eq_true, decide_eq_true_eq] at e
    obtain ⟨⟨⟨⟨⟨⟨⟨⟨⟨e1, e2⟩, e3⟩, e4⟩, e5⟩, e6⟩, e7⟩, e8⟩, e9⟩, e10⟩ := e
    unfold Txt.chkH1 at q
    split at q
    · rename_i a ha
      obtain ⟨q, q3⟩ := b2 q
      obtain ⟨q1, q2⟩ := b2 q
      have bn := bnd_of F (hbh d hm) (by rw [ha]; rfl) nofun
      rw [ha] at bn
      exact ⟨_, _, _, fdd, _, _, _, d.d.N, a, gl _ List.mem_cons_self, F.kp, F, bn, C8.fnScope_by q1, of_decide_eq_true q2, q3, ⟨gl _ (List.mem_cons_of_mem _ List.mem_cons_self), gl _ (List.mem_cons_of_mem _ (List.mem_cons_of_mem _ List.mem_cons_self)), e1, ⟨e3, e4, e5, e6, e7, e8, e9, e10⟩, e2⟩,
        He.free_ok X Gl (c.facts (f := .free "isinstance") (facts_l (List.mem_append_right _ (List.mem_append_left _ (List.mem_map.mpr ⟨_, by decide, rfl⟩)))))⟩
    · cases q
  exc := fun x hx => by
    have g : mg x = some (.ref (He.ga K x)) := He.glo_ok X Gl (c.facts (f := .glo x) (List.mem_append_right _ (List.mem_append_right _ (List.mem_map.mpr ⟨x, hx, rfl⟩))))
    have e := List.all_eq_true.mp (b2 (b2 ex).1).2 x hx
    unfold excK at e
    simp only [Bool.and_eq_true, Bool.or_eq_true, decide_eq_true_eq] at e
    obtain ⟨⟨⟨e1, e2⟩, e3⟩, e4⟩ := e
    refine ⟨_, g, e2, e3, e4, ?_⟩
    rcases e1 with e1 | e1
    · exact ⟨_, _, _, _, PySem.F.excBase_RuntimeError, e1⟩
    · exact ⟨_, _, _, _, PySem.F.excBase_LookupError, e1⟩
end
/-- what is left of a law: the interpreter comes to True -/
def Txt.Good (T : Txt) (k : Nat) (law : Str) : Prop := ∀ ns : List Int, ns.length ≤ 63 → ∃ s, callF T.gam k law [.scr ns] [] = .ok (.dat (.bool true)) s
omit [HW] in
theorem nodup_at {α β : Type} {f : α → β} {l : List α} (h : (l.map f).Nodup) {a b : α} (ha : a ∈ l) (hb : b ∈ l) (e : f a = f b) : a = b := by
  obtain ⟨i, hi, rfl⟩ := List.mem_iff_getElem.mp ha
  obtain ⟨j, hj, rfl⟩ := List.mem_iff_getElem.mp hb
  have := (List.getElem_inj (h := h) (h₀ := by simpa using hi) (h₁ := by simpa using hj)).mp (by simpa using e)
  subst this
  rfl
/-- the tables of the defs with lambdas -/
def Txt.tabs (T : Txt) (K : PySem.W.Frag) : List (Addr × Str) := T.lams.map fun f => ((He.cT K (f, none)).2, f ++ ".<locals>." ++ "<lambda>")
theorem lam_ok {T : Txt} {K : PySem.W.Frag} {mg : Str → Option Value} {h base : Heap} (hT : HW.T = T.tabs K) (gl : ∀ f ∈ T.lams, mg f = some (.ref (He.ga K f))) (ex : T.exB K = true) (TB : ∀ p ∈ T.tf.map (He.cT K), LamX.TabB base mg p.1 p.2) : LamOk K mg base fun f => T.lams.contains f := by
  intro f params body scope a fdd hl F hm
  have hf : f ∈ T.lams := List.contains_iff_mem.mp hl
  have hp : ((f, none) : He.Defn) ∈ T.tf := List.mem_map.mpr ⟨f, hf, rfl⟩
  have nd : (T.tf.map fun p => (He.cT K p).2).Nodup := of_decide_eq_true (b2 (b2 ex).1).1
  have ea : a = He.ga K f := by
    have := gl f hf
    rw [hm] at this
    cases this; rfl
  obtain ⟨oc, od, dV, kV, doc, pm, an, cdv, ct, osl, rfl, lk, hcd, _, _⟩ := F.ex
  obtain ⟨cc, rfl⟩ := He.codeIn_ref hcd
  have ec : He.codeOf K (f, none) = cc := He.codeOf_eq (by
    show K.lookup (He.ga K f) = _
    rw [← ea]
    exact lk) rfl
  refine ⟨cc, (He.cT K (f, none)).2, rfl, ?_, by rw [hT]; exact List.mem_map.mpr ⟨f, hf, rfl⟩, fun p hp' e => ?_⟩
  · have := TB _ (List.mem_map.mpr ⟨_, hp, rfl⟩)
    unfold He.cT at this ⊢
    rw [ec] at this ⊢
    exact this
  · rw [hT] at hp'
    obtain ⟨f', hf', rfl⟩ := List.mem_map.mp hp'
    have := nodup_at nd (List.mem_map.mpr ⟨f', hf', rfl⟩) hp e
    cases this
    rfl
omit [HW] in
theorem walkZ {T : Txt} {l : PySem.W.OpenLaw} {k : Nat} {q : Program} {loose : List Str} {XP : (Str → Option Value) → Heap → Prop} {n : Nat} {d : DefRec} {law : Str} {z : DD} (hP : T.P = l.prog) (hn : l.most = some 63) (hdf : d.params.defaults = []) (room : Room (3 * (k + 1)) callerA)
    (hd : d.name = law) (hz : T.dds.find? (fun d => d.nm == law) = some z) (hps : z.fd.ps = [("script" : Str)]) (hkz : T.kbs law = []) (hc : T.dds.all T.chk1 = true) (hk : T.dds.all (fun d => (T.kbs d.nm).all (okKb d)) = true) (hs : T.cs.all okC = true) (hb : ∀ d ∈ T.dds, T.Bnds d)
    (hh : T.hds.all T.chkH1 = true) (hbh : ∀ d ∈ T.hds, T.bnd1 d.d 1 [] []) (hl : T.lams.all (fun f => T.dds.any fun d => d.nm == f) = true) (good : T.Good (k + 1) law) :
    PySem.W.WalkO q loose XP (He.hookX n T.fa T.fn [] T.tf T.exB).says l.row.toRowW d [] (fun f vs => PySem.call f vs) := by
  refine Att.attach_callB hn hdf fun w s₀ s₁ mg mb fa o pm cd doc a vs ns G Y ho hfd hcd hmg hobj nums hlen hbits hg => ?_
  obtain ⟨K, KX, cX⟩ := Y
  letI : HW := ⟨w, T.tabs K⟩
  have c := cX.t.d
  have TX := text_ok KX G.T.g c cX.more hc hk hs hb hh hbh
  have gl : ∀ f ∈ T.lams, mg f = some (.ref (He.ga K f)) := fun f hf => by
    obtain ⟨d, hd, e⟩ := List.any_eq_true.mp (List.all_eq_true.mp hl f hf)
    have e : d.nm = f := eq_of_beq e
    subst e
    exact He.glo_ok KX G.T.g (c.facts (f := .glo d.nm) (facts_l (List.mem_append_left _ (List.mem_map.mpr ⟨d, hd, rfl⟩))))
  have hf : T.gam.fns law = some z.fd := by
    show (T.dds.find? fun d => d.nm == law).map (·.fd) = _
    rw [hz]; rfl
  obtain ⟨s', e⟩ := good ns hlen
  obtain ⟨params, body, scope, a0, fdd, N, h1, h2, _, h4, h5, h6, _, h8⟩ := (TX.defs law z.fd hf).ex
  rw [hd, h2] at hmg
  cases hmg
  have b1 : ∀ (s : Shared) (u : Value), BindsTo s fdd ⟨[u], []⟩ [(("script" : Str), u)] := fun s u => by
    have := h6.to s [u] [] (by rw [hps]; rfl) rfl
    rw [hps] at this
    exact this
  refine law_true (z := z.fd) (n := k + 1) (cs := T.tf.map (He.cT K)) KX G.T.g G.T.b G.T.builtins G.T.nolimit hg (fun p hp => ?_) (fun p hp => ?_) (fun p hp => ?_) (fun p hp => ?_) G.T.bmain hobj nums (Nat.le_trans hlen (by decide)) room b1 (fun base _ _ TB => ?_) e
  · obtain ⟨f, hf, rfl⟩ := List.mem_map.mp hp
    exact cX.empty f hf
  · obtain ⟨f, hf, rfl⟩ := List.mem_map.mp hp
    exact cX.out f hf
  · obtain ⟨f, hf, rfl⟩ := List.mem_map.mp hp
    exact PySem.W.codeHd_of_K KX (cX.hd f hf)
  · obtain ⟨f, hf, rfl⟩ := List.mem_map.mp hp
    exact ⟨_, List.mem_map.mpr ⟨_, List.mem_map.mpr ⟨f, hf, rfl⟩, rfl⟩, rfl⟩
  · have LM := lam_ok (T := T) (K := K) (mg := mg) (h := s₁.heap) (base := base) rfl gl cX.more TB
    have g := stepG (P := l.prog) (w := w) (base := base) TX rfl LM hf h1 h2 h4 h5 h8 (allDefs TX rfl LM k)
    rw [hps] at g
    exact g
end Z
end

section
set_option maxRecDepth 100000
set_option maxHeartbeats 4000000
namespace Z
open PySem PySem.Spec PyProof.Rows L2
def f_is_integer : Fd := ⟨["value"], 1, false, [
    .ret (.an [(.isi (.var 0) [.int] false), (.nt (.isi (.var 0) [.bool] false))])]⟩
def f_is_within : Fd := ⟨["value", "least", "most"], 3, false, [
    .ret (.an [(.call "is_integer" [(.var 0)]), (.ch .le .le (.var 1) (.var 0) (.var 2))])]⟩
def f_is_tuple : Fd := ⟨["value", "many"], 2, false, [
    .ret (.an [(.isi (.var 0) [.tuple] false), (.cmp .eq (.bf .len [(.var 0)]) (.var 1))])]⟩
def f_are_rising : Fd := ⟨["values"], 3, true, [
    .ret (.bf .all [(.comp (.cmp .lt (.var 1) (.var 2)) (.tup [(.nm 1), (.nm 2)]) .zip [(.var 0), (.slc (.var 0) (.num 1) .abs)] [])])]⟩
def f_is_lot : Fd := ⟨["value", "most"], 3, false, [
    .ret (.an [(.isi (.var 0) [.tuple] false), (.bf .all [(.comp (.call "is_within" [(.var 2), (.num 0), (.var 1)]) (.nm 2) .it [(.var 0)] [])]), (.call "are_rising" [(.var 0)])])]⟩
def f_is_deed : Fd := ⟨["boards", "value"], 2, false, [
    .ife (.or [(.nt (.isi (.var 1) [.tuple] false)), (.cmp .nin (.bf .len [(.var 1)]) (.tup [(.num 1), (.num 3)])), (.nt (.isi (.idx (.var 1) (.num 0)) [.str] false))]) [.ret (.bl false)] [],
    .ife (.cmp .eq (.idx (.var 1) (.num 0)) (.glob "REST")) [.ret (.cmp .eq (.bf .len [(.var 1)]) (.num 1))] [],
    .ife (.or [(.cmp .nin (.idx (.var 1) (.num 0)) (.tup [(.glob "READ"), (.glob "WRITE")])), (.cmp .ne (.bf .len [(.var 1)]) (.num 3)), (.nt (.call "is_within" [(.idx (.var 1) (.num 1)), (.num 0), (.bin .sub (.bf .len [(.var 0)]) (.num 1))]))]) [.ret (.bl false)] [],
    .ret (.call "is_within" [(.idx (.var 1) (.num 2)), (.num 0), (.bin .sub (.idx (.var 0) (.idx (.var 1) (.num 1))) (.num 1))])]⟩
def f_is_step : Fd := ⟨["boards", "states", "value"], 3, false, [
    .ife (.or [(.nt (.call "is_tuple" [(.var 2), (.num 4)])), (.nt (.isi (.idx (.var 2) (.num 0)) [.str] false)), (.cmp .ne (.idx (.var 2) (.num 0)) (.glob "STEP"))]) [.ret (.bl false)] [],
    .ret (.an [(.call "is_within" [(.idx (.var 2) (.num 1)), (.num 0), (.bin .sub (.var 1) (.num 1))]), (.call "is_deed" [(.var 0), (.idx (.var 2) (.num 2))]), (.call "is_within" [(.idx (.var 2) (.num 3)), (.num 0), (.bin .sub (.var 1) (.num 1))])])]⟩
def f_is_player : Fd := ⟨["boards", "value"], 3, false, [
    .ife (.or [(.nt (.call "is_tuple" [(.var 1), (.num 2)])), (.nt (.call "is_within" [(.idx (.var 1) (.num 0)), (.num 1), (.glob "MOST_STATES")])), (.nt (.isi (.idx (.var 1) (.num 1)) [.tuple] false))]) [.ret (.bl false)] [],
    .ret (.an [(.cmp .le (.bf .len [(.idx (.var 1) (.num 1))]) (.glob "MOST_STEPS")), (.bf .all [(.comp (.call "is_step" [(.var 0), (.idx (.var 1) (.num 0)), (.var 2)]) (.nm 2) .it [(.idx (.var 1) (.num 1))] [])])])]⟩
def f_is_office_any : Fd := ⟨["value"], 6, false, [
    .ife (.or [(.nt (.call "is_tuple" [(.var 0), (.num 4)])), (.nt (.isi (.idx (.var 0) (.num 0)) [.str] false)), (.cmp .ne (.idx (.var 0) (.num 0)) (.glob "OFFICE"))]) [.ret (.bl false)] [],
    .asgT [(.nm 1), (.nm 2), (.nm 3), (.nm 4)] (.var 0),
    .ife (.or [(.nt (.isi (.var 2) [.tuple] false)), (.nt (.ch .le .le (.num 1) (.bf .len [(.var 2)]) (.glob "MOST_BOARDS")))]) [.ret (.bl false)] [],
    .ife (.nt (.bf .all [(.comp (.call "is_within" [(.var 5), (.num 1), (.glob "MOST_NOTES")]) (.nm 5) .it [(.var 2)] [])])) [.ret (.bl false)] [],
    .ret (.an [(.call "is_player" [(.var 2), (.var 3)]), (.call "is_player" [(.var 2), (.var 4)])])]⟩
def f_are_notes_of : Fd := ⟨["office", "value"], 4, false, [
    .ret (.an [(.call "is_tuple" [(.var 1), (.bf .len [(.idx (.var 0) (.num 1))])]), (.bf .all [(.comp (.call "is_within" [(.var 2), (.num 0), (.bin .sub (.var 3) (.num 1))]) (.tup [(.nm 2), (.nm 3)]) .zip [(.var 1), (.idx (.var 0) (.num 1))] [])])])]⟩
def f_is_lot_of : Fd := ⟨["office", "value"], 2, false, [
    .ret (.call "is_lot" [(.var 1), (.bin .sub (.idx (.idx (.var 0) (.num 3)) (.num 0)) (.num 1))])]⟩
def f_is_standing_of : Fd := ⟨["office", "value"], 2, false, [
    .ife (.or [(.nt (.call "is_tuple" [(.var 1), (.num 3)])), (.nt (.call "is_within" [(.idx (.var 1) (.num 0)), (.num 0), (.bin .sub (.idx (.idx (.var 0) (.num 2)) (.num 0)) (.num 1))]))]) [.ret (.bl false)] [],
    .ret (.an [(.call "are_notes_of" [(.var 0), (.idx (.var 1) (.num 1))]), (.call "is_lot_of" [(.var 0), (.idx (.var 1) (.num 2))]), (.cmp .inn (.num 0) (.idx (.var 1) (.num 2)))])]⟩
def f_is_move_of : Fd := ⟨["office", "value"], 2, false, [
    .ife (.or [(.nt (.call "is_tuple" [(.var 1), (.num 2)])), (.nt (.isi (.idx (.var 1) (.num 0)) [.str] false))]) [.ret (.bl false)] [],
    .ife (.cmp .eq (.idx (.var 1) (.num 0)) (.glob "HEAD")) [.ret (.call "is_within" [(.idx (.var 1) (.num 1)), (.num 0), (.bin .sub (.bf .len [(.idx (.idx (.var 0) (.num 2)) (.num 1))]) (.num 1))])] [],
    .ret (.an [(.cmp .eq (.idx (.var 1) (.num 0)) (.glob "HELPER")), (.call "is_within" [(.idx (.var 1) (.num 1)), (.num 0), (.bin .sub (.bf .len [(.idx (.idx (.var 0) (.num 3)) (.num 1))]) (.num 1))])])]⟩
def f_want_office : Fd := ⟨["office"], 1, true, [
    .ife (.nt (.call "is_office_any" [(.var 0)])) [.nev] []]⟩
def f_want_standing : Fd := ⟨["office", "standing"], 2, true, [
    .ife (.nt (.call "is_standing_of" [(.var 0), (.var 1)])) [.nev] []]⟩
def f_want_move : Fd := ⟨["office", "move"], 2, true, [
    .ife (.nt (.call "is_move_of" [(.var 0), (.var 1)])) [.nev] []]⟩
def f_notes_behind : Fd := ⟨["deed", "notes"], 2, false, [
    .ife (.cmp .eq (.idx (.var 0) (.num 0)) (.glob "READ")) [.ret (.ife (.cmp .eq (.idx (.var 1) (.idx (.var 0) (.num 1))) (.idx (.var 0) (.num 2))) (.var 1) .non)] [],
    .ife (.cmp .eq (.idx (.var 0) (.num 0)) (.glob "WRITE")) [.ret (.bin .add (.bin .add (.slc (.var 1) .abs (.idx (.var 0) (.num 1))) (.tup [(.idx (.var 0) (.num 2))])) (.slc (.var 1) (.bin .add (.idx (.var 0) (.num 1)) (.num 1)) .abs))] [],
    .ret (.var 1)]⟩
def f_step_of : Fd := ⟨["office", "move"], 2, false, [
    .ret (.ife (.cmp .eq (.idx (.var 1) (.num 0)) (.glob "HEAD")) (.idx (.idx (.idx (.var 0) (.num 2)) (.num 1)) (.idx (.var 1) (.num 1))) (.idx (.idx (.idx (.var 0) (.num 3)) (.num 1)) (.idx (.var 1) (.num 1))))]⟩
def f_moves_of : Fd := ⟨["office"], 3, true, [
    .asg 1 (.comp (.tup [(.glob "HEAD"), (.var 2)]) (.nm 2) .rng [(.bf .len [(.idx (.idx (.var 0) (.num 2)) (.num 1))])] []),
    .ret (.bin .add (.var 1) (.comp (.tup [(.txt "helper"), (.var 2)]) (.nm 2) .rng [(.bf .len [(.idx (.idx (.var 0) (.num 3)) (.num 1))])] []))]⟩
def f_lot_with : Fd := ⟨["lot", "state"], 2, false, [
    .ret (.ife (.cmp .inn (.var 1) (.var 0)) (.var 0) (.bf .tuple [(.bf .sorted [(.bin .add (.var 0) (.tup [(.var 1)]))])]))]⟩
def f_behind : Fd := ⟨["office", "standing", "move"], 11, true, [
    .asgT [(.nm 4), (.nm 5), (.nm 6)] (.var 1),
    .asgT [(.nm 7), (.nm 8), (.nm 9), (.nm 10)] (.call "step_of" [(.var 0), (.var 2)]),
    .asg 3 (.call "notes_behind" [(.var 9), (.var 5)]),
    .ife (.isN (.var 3)) [.ret .non] [],
    .ife (.cmp .eq (.idx (.var 2) (.num 0)) (.glob "HEAD")) [.ret (.ife (.cmp .eq (.var 8) (.var 4)) (.tup [(.var 10), (.var 3), (.var 6)]) .non)] [],
    .ret (.ife (.cmp .inn (.var 8) (.var 6)) (.tup [(.var 4), (.var 3), (.call "lot_with" [(.var 6), (.var 10)])]) .non)]⟩
def f_next_ones : Fd := ⟨["office", "standing"], 5, true, [
    .own 2 (.lst []),
    .fr (.nm 3) .it [(.call "moves_of" [(.var 0)])] [.asg 4 (.call "behind" [(.var 0), (.var 1), (.var 3)]), .ife (.notN (.var 4)) [.app 2 (.tup [(.var 3), (.var 4)])] []],
    .ret (.ovar 2)]⟩
def f_counted_behind : Fd := ⟨["office", "counted", "move"], 12, true, [
    .asgT [(.nm 5), (.nm 6), (.nm 7)] (.var 1),
    .asgT [(.nm 8), (.nm 9), (.nm 10), (.nm 11)] (.call "step_of" [(.var 0), (.var 2)]),
    .asg 3 (.call "notes_behind" [(.var 10), (.var 6)]),
    .ife (.isN (.var 3)) [.ret .non] [],
    .ife (.cmp .eq (.idx (.var 2) (.num 0)) (.glob "HEAD")) [.ret (.ife (.cmp .eq (.var 9) (.var 5)) (.tup [(.var 11), (.var 3), (.var 7)]) .non)] [],
    .ife (.cmp .eq (.idx (.var 7) (.var 9)) (.num 0)) [.ret .non] [],
    .own 4 (.bf .list [(.var 7)]),
    .setI 4 (.var 9) (.bin .sub (.idx (.ovar 4) (.var 9)) (.num 1)),
    .setI 4 (.var 11) (.bin .add (.idx (.ovar 4) (.var 11)) (.num 1)),
    .ret (.tup [(.var 5), (.var 3), (.bf .tuple [(.ovar 4)])])]⟩
def f_counted_next : Fd := ⟨["office", "counted"], 5, true, [
    .own 2 (.lst []),
    .fr (.nm 3) .it [(.call "moves_of" [(.var 0)])] [.asg 4 (.call "counted_behind" [(.var 0), (.var 1), (.var 3)]), .ife (.notN (.var 4)) [.app 2 (.tup [(.var 3), (.var 4)])] []],
    .ret (.ovar 2)]⟩
def f_is_counted_any : Fd := ⟨["office", "value"], 3, false, [
    .ife (.or [(.nt (.call "is_tuple" [(.var 1), (.num 3)])), (.nt (.call "is_within" [(.idx (.var 1) (.num 0)), (.num 0), (.bin .sub (.idx (.idx (.var 0) (.num 2)) (.num 0)) (.num 1))])), (.nt (.call "are_notes_of" [(.var 0), (.idx (.var 1) (.num 1))]))]) [.ret (.bl false)] [],
    .ret (.an [(.call "is_tuple" [(.idx (.var 1) (.num 2)), (.idx (.idx (.var 0) (.num 3)) (.num 0))]), (.bf .all [(.comp (.call "is_within" [(.var 2), (.num 0), (.glob "MOST_COUNT")]) (.nm 2) .it [(.idx (.var 1) (.num 2))] [])])])]⟩
def f_want_counted : Fd := ⟨["office", "counted"], 2, true, [
    .ife (.nt (.call "is_counted_any" [(.var 0), (.var 1)])) [.nev] []]⟩
def f_let_moves : Fd := ⟨["office", "standing"], 4, true, [
    .exp (.call "want_office" [(.var 0)]),
    .exp (.call "want_standing" [(.var 0), (.var 1)]),
    .ret (.comp (.var 2) (.tup [(.nm 2), (.nm 3)]) .it [(.call "next_ones" [(.var 0), (.var 1)])] [])]⟩
def f_let_counted : Fd := ⟨["office", "counted"], 4, true, [
    .exp (.call "want_office" [(.var 0)]),
    .exp (.call "want_counted" [(.var 0), (.var 1)]),
    .ret (.comp (.var 2) (.tup [(.nm 2), (.nm 3)]) .it [(.call "counted_next" [(.var 0), (.var 1)])] [])]⟩
def f_behind_move : Fd := ⟨["office", "standing", "move"], 4, false, [
    .exp (.call "want_office" [(.var 0)]),
    .exp (.call "want_standing" [(.var 0), (.var 1)]),
    .exp (.call "want_move" [(.var 0), (.var 2)]),
    .asg 3 (.call "behind" [(.var 0), (.var 1), (.var 2)]),
    .ife (.isN (.var 3)) [.rse "NotLet"] [],
    .ret (.var 3)]⟩
def f_behind_counted : Fd := ⟨["office", "counted", "move"], 4, false, [
    .exp (.call "want_office" [(.var 0)]),
    .exp (.call "want_counted" [(.var 0), (.var 1)]),
    .exp (.call "want_move" [(.var 0), (.var 2)]),
    .asg 3 (.call "counted_behind" [(.var 0), (.var 1), (.var 2)]),
    .ife (.isN (.var 3)) [.rse "NotLet"] [],
    .ret (.var 3)]⟩
def f_law_pot : Fd := ⟨["script", "k"], 3, true, [
    .asg 2 (.ife (.cmp .lt (.var 1) (.bf .len [(.var 0)])) (.bf .abs [(.idx (.var 0) (.var 1))]) (.bin .add (.bin .mul (.num 751) (.var 1)) (.num 1567))),
    .ret (.refl [(.bf .max [(.num 0), (.bin .sub (.var 2) (.bin .pow (.num 10) (.num 18)))]), (.bin .add (.bin .mod (.bf .int [(.bin .add (.bin .add (.bin .mul (.bin .mod (.bf .int [(.var 2)]) (.num 2147483549)) (.num 40693)) (.bin .mul (.num 1871) (.var 1))) (.num 1567))]) (.num 2147483563)) (.num 1))])]⟩
def f_law_draw : Fd := ⟨["pot", "many"], 3, false, [
    .ife (.cmp .gt (.idx (.var 0) (.num 0)) (.num 0)) [.sub2 0 0 2 (.bf .divmod [(.idx (.var 0) (.num 0)), (.var 1)]), .ret (.var 2)] [],
    .setI 0 (.num 1) (.bin .mod (.bf .int [(.bin .add (.bin .mul (.idx (.var 0) (.num 1)) (.num 39373)) (.num 733))]) (.num 2147483587)),
    .ret (.bin .mod (.bf .int [(.bin .fdiv (.bin .mod (.bf .int [(.bin .mul (.idx (.var 0) (.num 1)) (.idx (.var 0) (.num 1)))]) (.num 2147483563)) (.num 29))]) (.var 1))]⟩
def f_law_pick : Fd := ⟨["pot", "some"], 2, false, [
    .ret (.idx (.var 1) (.call "_law_draw" [(.var 0), (.bf .len [(.var 1)])]))]⟩
def f_law_step : Fd := ⟨["pot", "boards", "states"], 7, true, [
    .asg 3 (.call "_law_draw" [(.var 0), (.bf .len [(.var 1)])]),
    .asg 4 (.call "_law_draw" [(.var 0), (.idx (.var 1) (.var 3))]),
    .asg 5 (.call "_law_pick" [(.var 0), (.lst [(.tup [(.txt "rest")]), (.tup [(.txt "read"), (.var 3), (.var 4)]), (.tup [(.txt "write"), (.var 3), (.var 4)]), (.tup [(.txt "write"), (.var 3), (.var 4)])])]),
    .asg 6 (.ife (.cmp .eq (.call "_law_draw" [(.var 0), (.num 2)]) (.num 0)) (.num 0) (.call "_law_draw" [(.var 0), (.var 2)])),
    .ret (.tup [(.txt "step"), (.var 6), (.var 5), (.call "_law_draw" [(.var 0), (.var 2)])])]⟩
def f_law_player : Fd := ⟨["pot", "boards", "most"], 5, true, [
    .asg 3 (.bin .add (.num 1) (.call "_law_draw" [(.var 0), (.num 3)])),
    .ret (.tup [(.var 3), (.bf .tuple [(.comp (.call "_law_step" [(.var 0), (.var 1), (.var 3)]) (.nm 4) .rng [(.call "_law_draw" [(.var 0), (.bin .add (.var 2) (.num 1))])] [])])])]⟩
def f_law_office : Fd := ⟨["pot", "most"], 4, true, [
    .asg 2 (.bf .tuple [(.comp (.bin .add (.num 2) (.call "_law_draw" [(.var 0), (.num 2)])) (.nm 3) .rng [(.call "_law_pick" [(.var 0), (.lst [(.num 1), (.num 1), (.num 2)])])] [])]),
    .ret (.tup [(.txt "office"), (.var 2), (.call "_law_player" [(.var 0), (.var 2), (.var 1)]), (.call "_law_player" [(.var 0), (.var 2), (.var 1)])])]⟩
def f_law_notes : Fd := ⟨["deed", "notes"], 4, false, [
    .ife (.cmp .eq (.idx (.var 0) (.num 0)) (.txt "rest")) [.ret (.var 1)] [],
    .ife (.cmp .eq (.idx (.var 0) (.num 0)) (.txt "read")) [.ret (.ife (.cmp .eq (.idx (.var 1) (.idx (.var 0) (.num 1))) (.idx (.var 0) (.num 2))) (.var 1) .non)] [],
    .ret (.bf .tuple [(.comp (.ife (.cmp .eq (.var 2) (.idx (.var 0) (.num 1))) (.idx (.var 0) (.num 2)) (.var 3)) (.tup [(.nm 2), (.nm 3)]) .enum [(.var 1)] [])])]⟩
def f_law_moves : Fd := ⟨["office"], 2, true, [
    .ret (.bin .add (.comp (.tup [(.txt "head"), (.var 1)]) (.nm 1) .rng [(.bf .len [(.idx (.idx (.var 0) (.num 2)) (.num 1))])] []) (.comp (.tup [(.txt "helper"), (.var 1)]) (.nm 1) .rng [(.bf .len [(.idx (.idx (.var 0) (.num 3)) (.num 1))])] []))]⟩
def f_law_behind : Fd := ⟨["office", "standing", "move"], 5, true, [
    .asg 3 (.idx (.idx (.idx (.var 0) (.ife (.cmp .eq (.idx (.var 2) (.num 0)) (.txt "head")) (.num 2) (.num 3))) (.num 1)) (.idx (.var 2) (.num 1))),
    .asg 4 (.call "_law_notes" [(.idx (.var 3) (.num 2)), (.idx (.var 1) (.num 1))]),
    .ife (.isN (.var 4)) [.ret .non] [],
    .ife (.cmp .eq (.idx (.var 2) (.num 0)) (.txt "head")) [.ret (.ife (.cmp .eq (.idx (.var 1) (.num 0)) (.idx (.var 3) (.num 1))) (.tup [(.idx (.var 3) (.num 3)), (.var 4), (.idx (.var 1) (.num 2))]) .non)] [],
    .ret (.ife (.cmp .inn (.idx (.var 3) (.num 1)) (.idx (.var 1) (.num 2))) (.tup [(.idx (.var 1) (.num 0)), (.var 4), (.bf .tuple [(.sset (.bin .add (.idx (.var 1) (.num 2)) (.tup [(.idx (.var 3) (.num 3))])))])]) .non)]⟩
def f_law_counted : Fd := ⟨["office", "counted", "move"], 8, true, [
    .asg 3 (.idx (.idx (.idx (.var 0) (.ife (.cmp .eq (.idx (.var 2) (.num 0)) (.txt "head")) (.num 2) (.num 3))) (.num 1)) (.idx (.var 2) (.num 1))),
    .asg 4 (.call "_law_notes" [(.idx (.var 3) (.num 2)), (.idx (.var 1) (.num 1))]),
    .ife (.isN (.var 4)) [.ret .non] [],
    .ife (.cmp .eq (.idx (.var 2) (.num 0)) (.txt "head")) [.ret (.ife (.cmp .eq (.idx (.var 1) (.num 0)) (.idx (.var 3) (.num 1))) (.tup [(.idx (.var 3) (.num 3)), (.var 4), (.idx (.var 1) (.num 2))]) .non)] [],
    .ife (.cmp .eq (.idx (.idx (.var 1) (.num 2)) (.idx (.var 3) (.num 1))) (.num 0)) [.ret .non] [],
    .odc false 5 (.comp (.tup [(.var 6), (.var 7)]) (.tup [(.nm 6), (.nm 7)]) .enum [(.idx (.var 1) (.num 2))] []),
    .dset 5 (.idx (.var 3) (.num 1)) (.bin .sub (.dget 5 (.idx (.var 3) (.num 1))) (.num 1)),
    .dset 5 (.idx (.var 3) (.num 3)) (.bin .add (.dget 5 (.idx (.var 3) (.num 3))) (.num 1)),
    .ret (.tup [(.idx (.var 1) (.num 0)), (.var 4), (.bf .tuple [(.comp (.dget 5 (.var 6)) (.nm 6) .rng [(.dlen 5)] [])])])]⟩
def f_law_first : Fd := ⟨["office"], 1, true, [
    .ret (.tup [(.num 0), (.bin .mul (.tup [(.num 0)]) (.bf .len [(.idx (.var 0) (.num 1))])), (.tup [(.num 0)])])]⟩
def f_law_first_counted : Fd := ⟨["office", "many"], 2, true, [
    .ret (.tup [(.num 0), (.bin .mul (.tup [(.num 0)]) (.bf .len [(.idx (.var 0) (.num 1))])), (.bin .add (.tup [(.var 1)]) (.bin .mul (.tup [(.num 0)]) (.bin .sub (.idx (.idx (.var 0) (.num 3)) (.num 0)) (.num 1))))])]⟩
def f_law_standing : Fd := ⟨["pot", "office"], 5, true, [
    .asg 2 (.bf .tuple [(.comp (.var 3) (.nm 3) .rng [(.idx (.idx (.var 1) (.num 3)) (.num 0))] [(.or [(.cmp .eq (.var 3) (.num 0)), (.cmp .eq (.call "_law_draw" [(.var 0), (.num 2)]) (.num 0))])])]),
    .ret (.tup [(.call "_law_draw" [(.var 0), (.idx (.idx (.var 1) (.num 2)) (.num 0))]), (.bf .tuple [(.comp (.call "_law_draw" [(.var 0), (.var 4)]) (.nm 4) .it [(.idx (.var 1) (.num 1))] [])]), (.var 2)])]⟩
def f_law_counts : Fd := ⟨["pot", "office"], 5, true, [
    .asg 2 (.bf .tuple [(.comp (.call "_law_pick" [(.var 0), (.lst [(.num 0), (.num 0), (.num 1), (.num 2), (.bin .pow (.num 10) (.num 9))])]) (.nm 3) .rng [(.idx (.idx (.var 1) (.num 3)) (.num 0))] [])]),
    .ret (.tup [(.call "_law_draw" [(.var 0), (.idx (.idx (.var 1) (.num 2)) (.num 0))]), (.bf .tuple [(.comp (.call "_law_draw" [(.var 0), (.var 4)]) (.nm 4) .it [(.idx (.var 1) (.num 1))] [])]), (.var 2)])]⟩
def f_law_standing_right : Fd := ⟨["pot", "office", "standing"], 11, false, [
    .par [false, false] [7, 8] [(.call "_law_moves" [(.var 1)]), (.bf .repr [(.lst [(.var 1), (.var 2)])])],
    .asg 3 (.comp (.var 5) (.nm 5) .it [(.var 7)] [(.notN (.call "_law_behind" [(.var 1), (.var 2), (.var 5)]))]),
    .own 4 (.call "let_moves" [(.var 1), (.var 2)]),
    .ife (.tmp 4 (.cmp .ne (.bf .repr [(.lst [(.var 4), (.callk "let_moves" [] [(.var 2), (.var 1)] ["standing", "office"] [1, 0])])]) (.bf .repr [(.lst [(.var 3), (.var 3)])]))) [.ret (.bl false)] [],
    .fr (.nm 5) .it [(.var 7)] [.asg 9 (.call "_law_behind" [(.var 1), (.var 2), (.var 5)]), .asg 9 (.ife (.isN (.var 9)) (.lst [(.txt "not let"), (.bl true)]) (.var 9)), .own 10 (.lst [(.hear "_law_heard" (.call "behind_move" [(.var 1), (.var 2), (.var 5)]))]), .app 10 (.hear "_law_heard" (.callk "behind_move" [] [(.var 5), (.var 2), (.var 1)] ["move", "standing", "office"] [2, 1, 0])), .ife (.cmp .ne (.bf .repr [(.ovar 10)]) (.bf .repr [(.lst [(.var 9), (.var 9)])])) [.ret (.bl false)] []],
    .app 4 .non,
    .asg 6 (.bin .add (.slc (.var 2) .abs (.num 2)) (.tup [(.rg1 true (.idx (.idx (.var 1) (.num 3)) (.num 0)))])),
    .ret (.an [(.cmp .eq (.bf .repr [(.call "let_moves" [(.var 1), (.var 2)])]) (.bf .repr [(.var 3)])), (.bf .all [(.comp (.cmp .inn (.var 5) (.call "let_moves" [(.var 1), (.var 6)])) (.nm 5) .it [(.var 3)] [])]), (.cmp .eq (.bf .repr [(.lst [(.var 1), (.var 2)])]) (.var 8))])]⟩
def f_law_counted_right : Fd := ⟨["pot", "office", "counted"], 14, false, [
    .par [false, false] [3, 9] [(.call "_law_moves" [(.var 1)]), (.bf .repr [(.lst [(.var 1), (.var 2)])])],
    .asg 3 (.comp (.var 6) (.nm 6) .it [(.var 3)] [(.or [(.cmp .eq (.idx (.var 6) (.num 0)) (.txt "head")), (.cmp .lt (.idx (.idx (.var 2) (.num 2)) (.idx (.idx (.idx (.idx (.var 1) (.num 3)) (.num 1)) (.idx (.var 6) (.num 1))) (.num 3))) (.bin .pow (.num 10) (.num 9)))])]),
    .asg 4 (.comp (.var 6) (.nm 6) .it [(.call "_law_moves" [(.var 1)])] [(.notN (.call "_law_counted" [(.var 1), (.var 2), (.var 6)]))]),
    .own 5 (.call "let_counted" [(.var 1), (.var 2)]),
    .ife (.tmp 5 (.cmp .ne (.bf .repr [(.lst [(.var 5), (.callk "let_counted" [] [(.var 2), (.var 1)] ["counted", "office"] [1, 0])])]) (.bf .repr [(.lst [(.var 4), (.var 4)])]))) [.ret (.bl false)] [],
    .fr (.nm 6) .it [(.var 3)] [.asg 10 (.call "_law_counted" [(.var 1), (.var 2), (.var 6)]), .asg 10 (.ife (.isN (.var 10)) (.lst [(.txt "not let"), (.bl true)]) (.var 10)), .own 11 (.lst [(.hear "_law_heard" (.call "behind_counted" [(.var 1), (.var 2), (.var 6)]))]), .app 11 (.hear "_law_heard" (.callk "behind_counted" [] [(.var 6), (.var 2), (.var 1)] ["move", "counted", "office"] [2, 1, 0])), .ife (.cmp .ne (.bf .repr [(.ovar 11)]) (.bf .repr [(.lst [(.var 10), (.var 10)])])) [.ret (.bl false)] []],
    .asg 7 (.bf .tuple [(.comp (.var 12) (.tup [(.nm 12), (.nm 13)]) .enum [(.idx (.var 2) (.num 2))] [(.or [(.cmp .gt (.var 13) (.num 0)), (.cmp .eq (.var 12) (.num 0))])])]),
    .app 5 .non,
    .asg 8 (.call "let_moves" [(.var 1), (.bin .add (.slc (.var 2) .abs (.num 2)) (.tup [(.var 7)]))]),
    .ret (.an [(.cmp .eq (.bf .repr [(.call "let_counted" [(.var 1), (.var 2)])]) (.bf .repr [(.var 4)])), (.bf .all [(.comp (.cmp .inn (.var 6) (.var 8)) (.nm 6) .it [(.var 4)] [])]), (.cmp .eq (.bf .repr [(.lst [(.var 1), (.var 2)])]) (.var 9))])]⟩
def f_law_right : Fd := ⟨["pot"], 3, false, [
    .asg 1 (.call "_law_office" [(.var 0), (.num 5)]),
    .fr (.nm 2) .rng [(.num 3)] [.ife (.or [(.nt (.call "_law_standing_right" [(.var 0), (.var 1), (.call "_law_standing" [(.var 0), (.var 1)])])), (.nt (.call "_law_counted_right" [(.var 0), (.var 1), (.call "_law_counts" [(.var 0), (.var 1)])]))]) [.ret (.bl false)] []],
    .ret (.an [(.call "_law_standing_right" [(.var 0), (.var 1), (.call "_law_first" [(.var 1)])]), (.call "_law_counted_right" [(.var 0), (.var 1), (.call "_law_first_counted" [(.var 1), (.call "_law_draw" [(.var 0), (.num 3)])])])])]⟩
def f_law : Fd := ⟨["script"], 2, true, [
    .ret (.bf .all [(.comp (.call "_law_right" [(.call "_law_pot" [(.var 0), (.var 1)])]) (.nm 1) .rng [(.bf .max [(.num 1), (.bf .min [(.num 2), (.bf .len [(.var 0)])])])] [])])]⟩
def df_is_integer : DD := ⟨"is_integer", 1, f_is_integer, ["value"]⟩
def df_is_within : DD := ⟨"is_within", 2, f_is_within, ["value", "least", "most"]⟩
def df_is_tuple : DD := ⟨"is_tuple", 3, f_is_tuple, ["value", "many"]⟩
def df_are_rising : DD := ⟨"are_rising", 4, f_are_rising, ["values", "near", "far"]⟩
def df_is_lot : DD := ⟨"is_lot", 5, f_is_lot, ["value", "most", "one"]⟩
def df_is_deed : DD := ⟨"is_deed", 26, f_is_deed, ["boards", "value"]⟩
def df_is_step : DD := ⟨"is_step", 27, f_is_step, ["boards", "states", "value"]⟩
def df_is_player : DD := ⟨"is_player", 28, f_is_player, ["boards", "value", "one"]⟩
def df_is_office_any : DD := ⟨"is_office_any", 29, f_is_office_any, ["value", "word", "boards", "head", "helper", "one"]⟩
def df_are_notes_of : DD := ⟨"are_notes_of", 30, f_are_notes_of, ["office", "value", "one", "many"]⟩
def df_is_lot_of : DD := ⟨"is_lot_of", 31, f_is_lot_of, ["office", "value"]⟩
def df_is_standing_of : DD := ⟨"is_standing_of", 32, f_is_standing_of, ["office", "value"]⟩
def df_is_move_of : DD := ⟨"is_move_of", 33, f_is_move_of, ["office", "value"]⟩
def df_want_office : DD := ⟨"want_office", 34, f_want_office, ["office"]⟩
def df_want_standing : DD := ⟨"want_standing", 35, f_want_standing, ["office", "standing"]⟩
def df_want_move : DD := ⟨"want_move", 36, f_want_move, ["office", "move"]⟩
def df_notes_behind : DD := ⟨"notes_behind", 38, f_notes_behind, ["deed", "notes"]⟩
def df_step_of : DD := ⟨"step_of", 39, f_step_of, ["office", "move"]⟩
def df_moves_of : DD := ⟨"moves_of", 40, f_moves_of, ["office", "found", "at"]⟩
def df_lot_with : DD := ⟨"lot_with", 41, f_lot_with, ["lot", "state"]⟩
def df_behind : DD := ⟨"behind", 42, f_behind, ["office", "standing", "move", "late", "state", "notes", "lot", "word", "begin", "deed", "end"]⟩
def df_next_ones : DD := ⟨"next_ones", 43, f_next_ones, ["office", "standing", "found", "move", "late"]⟩
def df_counted_behind : DD := ⟨"counted_behind", 44, f_counted_behind, ["office", "counted", "move", "late", "found", "state", "notes", "counts", "word", "begin", "deed", "end"]⟩
def df_counted_next : DD := ⟨"counted_next", 45, f_counted_next, ["office", "counted", "found", "move", "late"]⟩
def df_is_counted_any : DD := ⟨"is_counted_any", 48, f_is_counted_any, ["office", "value", "one"]⟩
def df_want_counted : DD := ⟨"want_counted", 50, f_want_counted, ["office", "counted"]⟩
def df_let_moves : DD := ⟨"let_moves", 51, f_let_moves, ["office", "standing", "move", "late"]⟩
def df_let_counted : DD := ⟨"let_counted", 52, f_let_counted, ["office", "counted", "move", "late"]⟩
def df_behind_move : DD := ⟨"behind_move", 53, f_behind_move, ["office", "standing", "move", "late"]⟩
def df_behind_counted : DD := ⟨"behind_counted", 54, f_behind_counted, ["office", "counted", "move", "late"]⟩
def df_law_pot : DD := ⟨"_law_pot", 56, f_law_pot, ["script", "k", "cell"]⟩
def df_law_draw : DD := ⟨"_law_draw", 57, f_law_draw, ["pot", "many", "digit"]⟩
def df_law_pick : DD := ⟨"_law_pick", 58, f_law_pick, ["pot", "some"]⟩
def df_law_step : DD := ⟨"_law_step", 59, f_law_step, ["pot", "boards", "states", "board", "note", "deed", "begin"]⟩
def df_law_player : DD := ⟨"_law_player", 60, f_law_player, ["pot", "boards", "most", "states", "turn"]⟩
def df_law_office : DD := ⟨"_law_office", 61, f_law_office, ["pot", "most", "boards", "turn"]⟩
def df_law_notes : DD := ⟨"_law_notes", 62, f_law_notes, ["deed", "notes", "board", "note"]⟩
def df_law_moves : DD := ⟨"_law_moves", 63, f_law_moves, ["office", "at"]⟩
def df_law_behind : DD := ⟨"_law_behind", 64, f_law_behind, ["office", "standing", "move", "step", "notes"]⟩
def df_law_counted : DD := ⟨"_law_counted", 65, f_law_counted, ["office", "counted", "move", "step", "notes", "counts", "state", "many"]⟩
def df_law_first : DD := ⟨"_law_first", 66, f_law_first, ["office"]⟩
def df_law_first_counted : DD := ⟨"_law_first_counted", 67, f_law_first_counted, ["office", "many"]⟩
def df_law_standing : DD := ⟨"_law_standing", 69, f_law_standing, ["pot", "office", "lot", "state", "many"]⟩
def df_law_counts : DD := ⟨"_law_counts", 70, f_law_counts, ["pot", "office", "counts", "state", "many"]⟩
def df_law_standing_right : DD := ⟨"_law_standing_right", 74, f_law_standing_right, ["pot", "office", "standing", "due", "told", "move", "wide", "every", "shown", "late", "some"]⟩
def df_law_counted_right : DD := ⟨"_law_counted_right", 75, f_law_counted_right, ["pot", "office", "counted", "every", "due", "told", "move", "lot", "crowd", "shown", "late", "some", "state", "many"]⟩
def df_law_right : DD := ⟨"_law_right", 76, f_law_right, ["pot", "office", "turn"]⟩
def df_law : DD := ⟨"law", 77, f_law, ["script", "k"]⟩
def hf_law_heard : HH := ⟨⟨"_law_heard", 73, ⟨["call"], 3, false, []⟩, ["call", "told", "e"]⟩, ⟨"NotLet", "not let", "StateError"⟩⟩
def TX : Txt := ⟨PySem.Challenge.pw_boardcrowds_k12_whole_moves_by_hand, [df_is_integer, df_is_within, df_is_tuple, df_are_rising, df_is_lot, df_is_deed, df_is_step, df_is_player, df_is_office_any, df_are_notes_of, df_is_lot_of, df_is_standing_of, df_is_move_of, df_want_office, df_want_standing, df_want_move, df_notes_behind, df_step_of, df_moves_of, df_lot_with, df_behind, df_next_ones, df_counted_behind, df_counted_next, df_is_counted_any, df_want_counted, df_let_moves, df_let_counted, df_behind_move, df_behind_counted, df_law_pot, df_law_draw, df_law_pick, df_law_step, df_law_player, df_law_office, df_law_notes, df_law_moves, df_law_behind, df_law_counted, df_law_first, df_law_first_counted, df_law_standing, df_law_counts, df_law_standing_right, df_law_counted_right, df_law_right, df_law], [("HEAD", .str "head"), ("HELPER", .str "helper"), ("MOST_BOARDS", .int 2), ("MOST_COUNT", .int 1000000000), ("MOST_NOTES", .int 4), ("MOST_STATES", .int 6), ("MOST_STEPS", .int 12), ("OFFICE", .str "office"), ("READ", .str "read"), ("REST", .str "rest"), ("STEP", .str "step"), ("WRITE", .str "write")], [("let_moves", [(0, ["standing", "office"], [1, 0])]), ("behind_move", [(0, ["move", "standing", "office"], [2, 1, 0])]), ("let_counted", [(0, ["counted", "office"], [1, 0])]), ("behind_counted", [(0, ["move", "counted", "office"], [2, 1, 0])])], 4000, ["_law_standing_right", "_law_counted_right"], [hf_law_heard], ["NotLet"]⟩
theorem bhs : ∀ d ∈ TX.hds, TX.bnd1 d.d 1 [] [] := fun d hd => by
  cases List.mem_singleton.mp hd
  exact fun _ _ _ _ _ _ us ws h1 h2 => match us, ws, h1, h2 with | [_], [], _, _ => rfl
theorem bf_is_integer : TX.Bnds df_is_integer where
  pos := fun _ _ _ _ _ _ us ws h1 h2 => match us, ws, h1, h2 with | [_], [], _, _ => rfl
  kw := fun b hb => nomatch hb
theorem bf_is_within : TX.Bnds df_is_within where
  pos := fun _ _ _ _ _ _ us ws h1 h2 => match us, ws, h1, h2 with | [_, _, _], [], _, _ => rfl
  kw := fun b hb => nomatch hb
theorem bf_is_tuple : TX.Bnds df_is_tuple where
  pos := fun _ _ _ _ _ _ us ws h1 h2 => match us, ws, h1, h2 with | [_, _], [], _, _ => rfl
  kw := fun b hb => nomatch hb
theorem bf_are_rising : TX.Bnds df_are_rising where
  pos := fun _ _ _ _ _ _ us ws h1 h2 => match us, ws, h1, h2 with | [_], [], _, _ => rfl
  kw := fun b hb => nomatch hb
theorem bf_is_lot : TX.Bnds df_is_lot where
  pos := fun _ _ _ _ _ _ us ws h1 h2 => match us, ws, h1, h2 with | [_, _], [], _, _ => rfl
  kw := fun b hb => nomatch hb
theorem bf_is_deed : TX.Bnds df_is_deed where
  pos := fun _ _ _ _ _ _ us ws h1 h2 => match us, ws, h1, h2 with | [_, _], [], _, _ => rfl
  kw := fun b hb => nomatch hb
theorem bf_is_step : TX.Bnds df_is_step where
  pos := fun _ _ _ _ _ _ us ws h1 h2 => match us, ws, h1, h2 with | [_, _, _], [], _, _ => rfl
  kw := fun b hb => nomatch hb
theorem bf_is_player : TX.Bnds df_is_player where
  pos := fun _ _ _ _ _ _ us ws h1 h2 => match us, ws, h1, h2 with | [_, _], [], _, _ => rfl
  kw := fun b hb => nomatch hb
theorem bf_is_office_any : TX.Bnds df_is_office_any where
  pos := fun _ _ _ _ _ _ us ws h1 h2 => match us, ws, h1, h2 with | [_], [], _, _ => rfl
  kw := fun b hb => nomatch hb
theorem bf_are_notes_of : TX.Bnds df_are_notes_of where
  pos := fun _ _ _ _ _ _ us ws h1 h2 => match us, ws, h1, h2 with | [_, _], [], _, _ => rfl
  kw := fun b hb => nomatch hb
theorem bf_is_lot_of : TX.Bnds df_is_lot_of where
  pos := fun _ _ _ _ _ _ us ws h1 h2 => match us, ws, h1, h2 with | [_, _], [], _, _ => rfl
  kw := fun b hb => nomatch hb
theorem bf_is_standing_of : TX.Bnds df_is_standing_of where
  pos := fun _ _ _ _ _ _ us ws h1 h2 => match us, ws, h1, h2 with | [_, _], [], _, _ => rfl
  kw := fun b hb => nomatch hb
theorem bf_is_move_of : TX.Bnds df_is_move_of where
  pos := fun _ _ _ _ _ _ us ws h1 h2 => match us, ws, h1, h2 with | [_, _], [], _, _ => rfl
  kw := fun b hb => nomatch hb
theorem bf_want_office : TX.Bnds df_want_office where
  pos := fun _ _ _ _ _ _ us ws h1 h2 => match us, ws, h1, h2 with | [_], [], _, _ => rfl
  kw := fun b hb => nomatch hb
theorem bf_want_standing : TX.Bnds df_want_standing where
  pos := fun _ _ _ _ _ _ us ws h1 h2 => match us, ws, h1, h2 with | [_, _], [], _, _ => rfl
  kw := fun b hb => nomatch hb
theorem bf_want_move : TX.Bnds df_want_move where
  pos := fun _ _ _ _ _ _ us ws h1 h2 => match us, ws, h1, h2 with | [_, _], [], _, _ => rfl
  kw := fun b hb => nomatch hb
theorem bf_notes_behind : TX.Bnds df_notes_behind where
  pos := fun _ _ _ _ _ _ us ws h1 h2 => match us, ws, h1, h2 with | [_, _], [], _, _ => rfl
  kw := fun b hb => nomatch hb
theorem bf_step_of : TX.Bnds df_step_of where
  pos := fun _ _ _ _ _ _ us ws h1 h2 => match us, ws, h1, h2 with | [_, _], [], _, _ => rfl
  kw := fun b hb => nomatch hb
theorem bf_moves_of : TX.Bnds df_moves_of where
  pos := fun _ _ _ _ _ _ us ws h1 h2 => match us, ws, h1, h2 with | [_], [], _, _ => rfl
  kw := fun b hb => nomatch hb
theorem bf_lot_with : TX.Bnds df_lot_with where
  pos := fun _ _ _ _ _ _ us ws h1 h2 => match us, ws, h1, h2 with | [_, _], [], _, _ => rfl
  kw := fun b hb => nomatch hb
theorem bf_behind : TX.Bnds df_behind where
  pos := fun _ _ _ _ _ _ us ws h1 h2 => match us, ws, h1, h2 with | [_, _, _], [], _, _ => rfl
  kw := fun b hb => nomatch hb
theorem bf_next_ones : TX.Bnds df_next_ones where
  pos := fun _ _ _ _ _ _ us ws h1 h2 => match us, ws, h1, h2 with | [_, _], [], _, _ => rfl
  kw := fun b hb => nomatch hb
theorem bf_counted_behind : TX.Bnds df_counted_behind where
  pos := fun _ _ _ _ _ _ us ws h1 h2 => match us, ws, h1, h2 with | [_, _, _], [], _, _ => rfl
  kw := fun b hb => nomatch hb
theorem bf_counted_next : TX.Bnds df_counted_next where
  pos := fun _ _ _ _ _ _ us ws h1 h2 => match us, ws, h1, h2 with | [_, _], [], _, _ => rfl
  kw := fun b hb => nomatch hb
theorem bf_is_counted_any : TX.Bnds df_is_counted_any where
  pos := fun _ _ _ _ _ _ us ws h1 h2 => match us, ws, h1, h2 with | [_, _], [], _, _ => rfl
  kw := fun b hb => nomatch hb
theorem bf_want_counted : TX.Bnds df_want_counted where
  pos := fun _ _ _ _ _ _ us ws h1 h2 => match us, ws, h1, h2 with | [_, _], [], _, _ => rfl
  kw := fun b hb => nomatch hb
theorem bf_let_moves : TX.Bnds df_let_moves where
  pos := fun _ _ _ _ _ _ us ws h1 h2 => match us, ws, h1, h2 with | [_, _], [], _, _ => rfl
  kw := fun b hb => by
    cases List.mem_singleton.mp hb
    exact fun _ _ _ _ _ _ us ws h1 h2 => match us, ws, h1, h2 with | [], [_, _], _, _ => rfl
theorem bf_let_counted : TX.Bnds df_let_counted where
  pos := fun _ _ _ _ _ _ us ws h1 h2 => match us, ws, h1, h2 with | [_, _], [], _, _ => rfl
  kw := fun b hb => by
    cases List.mem_singleton.mp hb
    exact fun _ _ _ _ _ _ us ws h1 h2 => match us, ws, h1, h2 with | [], [_, _], _, _ => rfl
theorem bf_behind_move : TX.Bnds df_behind_move where
  pos := fun _ _ _ _ _ _ us ws h1 h2 => match us, ws, h1, h2 with | [_, _, _], [], _, _ => rfl
  kw := fun b hb => by
    cases List.mem_singleton.mp hb
    exact fun _ _ _ _ _ _ us ws h1 h2 => match us, ws, h1, h2 with | [], [_, _, _], _, _ => rfl
theorem bf_behind_counted : TX.Bnds df_behind_counted where
  pos := fun _ _ _ _ _ _ us ws h1 h2 => match us, ws, h1, h2 with | [_, _, _], [], _, _ => rfl
  kw := fun b hb => by
    cases List.mem_singleton.mp hb
    exact fun _ _ _ _ _ _ us ws h1 h2 => match us, ws, h1, h2 with | [], [_, _, _], _, _ => rfl
theorem bf_law_pot : TX.Bnds df_law_pot where
  pos := fun _ _ _ _ _ _ us ws h1 h2 => match us, ws, h1, h2 with | [_, _], [], _, _ => rfl
  kw := fun b hb => nomatch hb
theorem bf_law_draw : TX.Bnds df_law_draw where
  pos := fun _ _ _ _ _ _ us ws h1 h2 => match us, ws, h1, h2 with | [_, _], [], _, _ => rfl
  kw := fun b hb => nomatch hb
theorem bf_law_pick : TX.Bnds df_law_pick where
  pos := fun _ _ _ _ _ _ us ws h1 h2 => match us, ws, h1, h2 with | [_, _], [], _, _ => rfl
  kw := fun b hb => nomatch hb
theorem bf_law_step : TX.Bnds df_law_step where
  pos := fun _ _ _ _ _ _ us ws h1 h2 => match us, ws, h1, h2 with | [_, _, _], [], _, _ => rfl
  kw := fun b hb => nomatch hb
theorem bf_law_player : TX.Bnds df_law_player where
  pos := fun _ _ _ _ _ _ us ws h1 h2 => match us, ws, h1, h2 with | [_, _, _], [], _, _ => rfl
  kw := fun b hb => nomatch hb
theorem bf_law_office : TX.Bnds df_law_office where
  pos := fun _ _ _ _ _ _ us ws h1 h2 => match us, ws, h1, h2 with | [_, _], [], _, _ => rfl
  kw := fun b hb => nomatch hb
theorem bf_law_notes : TX.Bnds df_law_notes where
  pos := fun _ _ _ _ _ _ us ws h1 h2 => match us, ws, h1, h2 with | [_, _], [], _, _ => rfl
  kw := fun b hb => nomatch hb
theorem bf_law_moves : TX.Bnds df_law_moves where
  pos := fun _ _ _ _ _ _ us ws h1 h2 => match us, ws, h1, h2 with | [_], [], _, _ => rfl
  kw := fun b hb => nomatch hb
theorem bf_law_behind : TX.Bnds df_law_behind where
  pos := fun _ _ _ _ _ _ us ws h1 h2 => match us, ws, h1, h2 with | [_, _, _], [], _, _ => rfl
  kw := fun b hb => nomatch hb
theorem bf_law_counted : TX.Bnds df_law_counted where
  pos := fun _ _ _ _ _ _ us ws h1 h2 => match us, ws, h1, h2 with | [_, _, _], [], _, _ => rfl
  kw := fun b hb => nomatch hb
theorem bf_law_first : TX.Bnds df_law_first where
  pos := fun _ _ _ _ _ _ us ws h1 h2 => match us, ws, h1, h2 with | [_], [], _, _ => rfl
  kw := fun b hb => nomatch hb
theorem bf_law_first_counted : TX.Bnds df_law_first_counted where
  pos := fun _ _ _ _ _ _ us ws h1 h2 => match us, ws, h1, h2 with | [_, _], [], _, _ => rfl
  kw := fun b hb => nomatch hb
theorem bf_law_standing : TX.Bnds df_law_standing where
  pos := fun _ _ _ _ _ _ us ws h1 h2 => match us, ws, h1, h2 with | [_, _], [], _, _ => rfl
  kw := fun b hb => nomatch hb
theorem bf_law_counts : TX.Bnds df_law_counts where
  pos := fun _ _ _ _ _ _ us ws h1 h2 => match us, ws, h1, h2 with | [_, _], [], _, _ => rfl
  kw := fun b hb => nomatch hb
theorem bf_law_standing_right : TX.Bnds df_law_standing_right where
  pos := fun _ _ _ _ _ _ us ws h1 h2 => match us, ws, h1, h2 with | [_, _, _], [], _, _ => rfl
  kw := fun b hb => nomatch hb
theorem bf_law_counted_right : TX.Bnds df_law_counted_right where
  pos := fun _ _ _ _ _ _ us ws h1 h2 => match us, ws, h1, h2 with | [_, _, _], [], _, _ => rfl
  kw := fun b hb => nomatch hb
theorem bf_law_right : TX.Bnds df_law_right where
  pos := fun _ _ _ _ _ _ us ws h1 h2 => match us, ws, h1, h2 with | [_], [], _, _ => rfl
  kw := fun b hb => nomatch hb
theorem bf_law : TX.Bnds df_law where
  pos := fun _ _ _ _ _ _ us ws h1 h2 => match us, ws, h1, h2 with | [_], [], _, _ => rfl
  kw := fun b hb => nomatch hb
theorem chk_all : TX.dds.all TX.chk1 = true := by decide +kernel
theorem chk_kb : TX.dds.all (fun d => (TX.kbs d.nm).all (okKb d)) = true := by decide +kernel
theorem chk_cs : TX.cs.all okC = true := by decide +kernel
theorem chk_hh : TX.hds.all TX.chkH1 = true := by decide +kernel
theorem chk_l : TX.lams.all (fun f => TX.dds.any fun d => d.nm == f) = true := by decide +kernel
end Z
end

section
set_option maxRecDepth 100000
set_option maxHeartbeats 0
namespace Z
open PySem PySem.Spec PyProof.Rows L2
def loose : List PySem.Str := (["is_integer", "is_within", "is_tuple", "are_rising", "is_lot", "OfficeError", "StateError", "InvalidOffice", "InvalidStanding", "InvalidMove", "InvalidCounted", "NotLet", "OFFICE", "STEP", "HEAD", "HELPER", "REST", "READ", "WRITE", "MOST_BOARDS", "MOST_NOTES", "MOST_STATES", "MOST_STEPS", "is_deed", "is_step", "is_player", "is_office_any", "are_notes_of", "is_lot_of", "is_standing_of"] : List PySem.Str) ++ (["is_move_of", "want_office", "want_standing", "want_move", "notes_behind", "step_of", "moves_of", "lot_with", "behind", "next_ones", "counted_behind", "counted_next", "MOST_COUNT", "is_counted_any", "want_counted", "let_moves", "let_counted", "behind_move", "behind_counted", "_law_pot", "_law_draw", "_law_pick", "_law_step", "_law_player", "_law_office", "_law_notes", "_law_moves", "_law_behind", "_law_counted", "_law_first"] : List PySem.Str) ++ (["_law_first_counted", "_law_drawn_moves", "_law_standing", "_law_counts", "_law_order", "_law_is_within", "_law_heard", "_law_standing_right", "_law_counted_right", "_law_right"] : List PySem.Str)
abbrev Rw : PySem.W.OpenRow := PySem.W.OpenLaw.row PySem.Challenge.rw_boardcrowds_k12_whole_moves_by_hand
abbrev hk : PySem.W.Hook := He.hookX 4 TX.fa TX.fn [] TX.tf TX.exB
def ob (s : PySem.W.SharedT) : He.AlX := He.obsX 4 TX.fa TX.fn [] TX.tf TX.exB (HandSHeadRun.getT s)
theorem ob_eq (s : PySem.W.SharedT) : ob s = hk.obs s.abs := He.obsX_eq (HandSHeadRun.getT_eq s)
theorem run (w : PySem.World) : HandSHeadRun.RunEq Rw (PySem.W.view Rw.prog [77]) hk ob 4000 loose w := by
  intro os
  kernel_rfl

end Z
end

section
/-! Good data: no dict, few signs; and what its print tells. -/
namespace Z
namespace Y
open PySem PySem.PyData PySem.Builtin PySem.Builtin.Str PyProof.Rows

/-! ### lists of data as such -/
theorem canLayAll_iff : ∀ xs : List PyData, PyData.canLayAll0 xs = true ↔ ∀ x ∈ xs, x.canLay0 = true
  | [] => by simp [PyData.canLayAll0]
  | x :: xs => by simp [PyData.canLayAll0, canLayAll_iff xs]
theorem leavesAll_iff (B : Nat) : ∀ xs : List PyData, PyData.leavesShortAll B xs = true ↔ ∀ x ∈ xs, x.leavesShort B = true
  | [] => by simp [PyData.leavesShortAll]
  | x :: xs => by simp [PyData.leavesShortAll, leavesAll_iff B xs]
theorem showAll_iff : ∀ xs : List PyData, PyData.showableAll xs = true ↔ ∀ x ∈ xs, x.showable = true
  | [] => by simp [PyData.showableAll]
  | x :: xs => by simp [PyData.showableAll, showAll_iff xs]
theorem depthAll_iff (k : Nat) : ∀ xs : List PyData, PyData.depthAll xs ≤ k ↔ ∀ x ∈ xs, x.depth ≤ k
  | [] => by simp [PyData.depthAll]
  | x :: xs => by simp [PyData.depthAll, ← depthAll_iff k xs, Nat.max_le]
theorem bulkAll_app : ∀ xs ys : List PyData, PyData.bulkAll (xs ++ ys) = PyData.bulkAll xs + PyData.bulkAll ys
  | [], ys => by simp [PyData.bulkAll]
  | x :: xs, ys => by simp only [List.cons_append, PyData.bulkAll, bulkAll_app xs ys]; omega
theorem bulk_mem : ∀ {xs : List PyData} {x : PyData}, x ∈ xs → x.bulk + 1 ≤ PyData.bulkAll xs
  | y :: xs, x, h => by
    simp only [PyData.bulkAll]
    rcases List.mem_cons.mp h with rfl | h
    · omega
    · have := bulk_mem h; omega
theorem len_bulk : ∀ xs : List PyData, xs.length ≤ PyData.bulkAll xs
  | [] => Nat.zero_le _
  | x :: xs => by have := len_bulk xs; simp only [PyData.bulkAll, List.length_cons]; omega
theorem bulkAll_le (n : Nat) : ∀ xs : List PyData, (∀ x ∈ xs, x.bulk ≤ n) → PyData.bulkAll xs ≤ (n + 1) * xs.length
  | [], _ => by simp [PyData.bulkAll]
  | x :: xs, h => by
    have h1 := h x (List.mem_cons_self ..)
    have h2 := bulkAll_le n xs fun y hy => h y (List.mem_cons_of_mem _ hy)
    simp only [PyData.bulkAll, List.length_cons, Nat.mul_add]; omega

structure At (d : PyData) : Prop where
  lay : d.canLay0 = true
  sh : d.leavesShort 13 = true
  sw : d.showable = true
theorem At.tup {xs : List PyData} (h : ∀ x ∈ xs, At x) : At (.tuple xs) :=
  ⟨by simp only [PyData.canLay0]; exact (canLayAll_iff xs).mpr fun x hx => (h x hx).lay, by simp only [PyData.leavesShort]; exact (leavesAll_iff 13 xs).mpr fun x hx => (h x hx).sh, by simp only [PyData.showable]; exact (showAll_iff xs).mpr fun x hx => (h x hx).sw⟩
theorem At.lst {xs : List PyData} (h : ∀ x ∈ xs, At x) : At (.list xs) :=
  ⟨by simp only [PyData.canLay0]; exact (canLayAll_iff xs).mpr fun x hx => (h x hx).lay, by simp only [PyData.leavesShort]; exact (leavesAll_iff 13 xs).mpr fun x hx => (h x hx).sh, by simp only [PyData.showable]; exact (showAll_iff xs).mpr fun x hx => (h x hx).sw⟩
theorem At.of_tup {xs : List PyData} (h : At (.tuple xs)) : ∀ x ∈ xs, At x := fun x hx =>
  ⟨(canLayAll_iff xs).mp (by simpa only [PyData.canLay0] using h.lay) x hx, (leavesAll_iff 13 xs).mp (by simpa only [PyData.leavesShort] using h.sh) x hx, (showAll_iff xs).mp (by simpa only [PyData.showable] using h.sw) x hx⟩
theorem At.of_lst {xs : List PyData} (h : At (.list xs)) : ∀ x ∈ xs, At x := fun x hx =>
  ⟨(canLayAll_iff xs).mp (by simpa only [PyData.canLay0] using h.lay) x hx, (leavesAll_iff 13 xs).mp (by simpa only [PyData.leavesShort] using h.sh) x hx, (showAll_iff xs).mp (by simpa only [PyData.showable] using h.sw) x hx⟩
theorem at_non : At .none := ⟨rfl, rfl, rfl⟩
theorem at_bl (b : Bool) : At (.bool b) := ⟨rfl, rfl, rfl⟩
theorem at_int {i : Int} (h1 : -999999999999 ≤ i) (h2 : i ≤ 999999999999) : At (.int i) := by
  refine ⟨rfl, ?_, ?_⟩
  · simp only [PyData.leavesShort, decide_eq_true_eq]
    exact PyData.shown_int_le2 h1 h2
  · simp only [PyData.showable, decide_eq_true_eq]
    have : i.natAbs < 2 ^ 1920 := by
      have : i.natAbs ≤ 999999999999 := by omega
      have : (999999999999 : Nat) < 2 ^ 1920 := by decide +kernel
      omega
    by_cases h0 : i.natAbs = 0
    · rw [h0]; decide +kernel
    · exact (Nat.log2_lt h0).mpr this
def strG (x : Str) : Bool := strOk x && (x.cps.toList.all fun c => decide (c < 16 ^ 8))
theorem at_str {x : Str} (h : strG x = true) : At (.str x) := by
  have h := Bool.and_eq_true_iff.mp h
  exact ⟨by simp only [PyData.canLay0]; exact h.1, by simp only [PyData.leavesShort]; exact h.2, rfl⟩

/-- good data, so deep and so large at most -/
structure Ok (k n : Nat) (d : PyData) : Prop where
  atm : At d
  dep : d.depth ≤ k
  blk : d.bulk ≤ n
theorem Ok.mono {k n k' n' : Nat} {d : PyData} (h : Ok k n d) (hk : k ≤ k') (hn : n ≤ n') : Ok k' n' d := ⟨h.atm, Nat.le_trans h.dep hk, Nat.le_trans h.blk hn⟩
theorem Ok.tup {k n : Nat} {xs : List PyData} (h : ∀ x ∈ xs, Ok k n x) : Ok (k + 1) ((n + 1) * xs.length) (.tuple xs) :=
  ⟨.tup fun x hx => (h x hx).atm, by simp only [PyData.depth]; exact Nat.succ_le_succ ((depthAll_iff k xs).mpr fun x hx => (h x hx).dep), by simp only [PyData.bulk]; exact bulkAll_le n xs fun x hx => (h x hx).blk⟩
theorem Ok.lst {k n : Nat} {xs : List PyData} (h : ∀ x ∈ xs, Ok k n x) : Ok (k + 1) ((n + 1) * xs.length) (.list xs) :=
  ⟨.lst fun x hx => (h x hx).atm, by simp only [PyData.depth]; exact Nat.succ_le_succ ((depthAll_iff k xs).mpr fun x hx => (h x hx).dep), by simp only [PyData.bulk]; exact bulkAll_le n xs fun x hx => (h x hx).blk⟩
theorem Ok.of_tup {k n : Nat} {xs : List PyData} (h : Ok k n (.tuple xs)) : ∀ x ∈ xs, Ok (k - 1) (n - 1) x := fun x hx => by
  have hd := h.dep
  have hb := h.blk
  simp only [PyData.depth, PyData.bulk] at hd hb
  have := (depthAll_iff (k - 1) xs).mp (by omega) x hx
  have := bulk_mem hx
  exact ⟨h.atm.of_tup x hx, by omega, by omega⟩

/-! ### what can be shown -/
theorem reprOk_of {k n : Nat} {d : PyData} (h : Ok k n d) (hk : k ≤ 64 := by omega) (hn : n ≤ 2 ^ 20 := by omega) : reprOk d = true := by
  have h1 := PyData.hasDict_of_canLay d h.atm.lay
  have h2 : noDict d = true := by
    unfold noDict
    split
    · rfl
    · rw [h1]; rfl
  simp only [reprOk, Bool.and_eq_true, decide_eq_true_eq]
  exact ⟨⟨⟨h.atm.sw, PyData.shown_fits_bulk (by omega) (by omega) h.atm.sh (Nat.le_trans h.blk hn)⟩, Nat.le_trans h.dep hk⟩, h2⟩
theorem shaped_of {k n : Nat} {d : PyData} (h : Ok k n d) (hk : k ≤ 64 := by omega) : SeqAt.shaped d = true := by
  simp only [SeqAt.shaped, Bool.and_eq_true, decide_eq_true_eq]
  exact ⟨h.atm.lay, Nat.le_trans h.dep hk⟩

/-! ### only a text is shown as a text is -/
/-- the first sign -/
def fst (x : Str) : Option Nat := x.cps.toList.head?
theorem fst_app (x y : Str) (h : x.cps.toList ≠ []) : fst (x ++ y) = fst x := by
  show (x.cps ++ y.cps).toList.head? = _
  rw [Array.toList_append, List.head?_append]
  cases h1 : x.cps.toList with
  | nil => exact absurd h1 h
  | cons a l => rw [fst, h1]; rfl
theorem app_ne {x : Str} (y : Str) (h : x.cps.toList ≠ []) : (x ++ y).cps.toList ≠ [] := by
  show (x.cps ++ y.cps).toList ≠ []
  rw [Array.toList_append]
  exact List.append_ne_nil_of_left_ne_nil h _
theorem fst_from : ∀ (ts : List Str) (k : Nat) (a : Str), a.cps.toList ≠ [] → fst (textFrom k a ts) = fst a ∧ (textFrom k a ts).cps.toList ≠ []
  | [], _, a, h => ⟨rfl, h⟩
  | t :: ts, k, a, h => by
    have h1 := app_ne ((if k > 0 then ", " else "" : String) : Str) h
    have h2 := app_ne t h1
    obtain ⟨e, e2⟩ := fst_from ts (k + 1) _ h2
    exact ⟨e.trans ((fst_app _ _ h1).trans (fst_app _ _ h)), e2⟩
theorem fst_list (xs : List PyData) : fst (PyData.shown (.list xs)) = some 91 := by
  simp only [PyData.shown, listText]
  have h := fst_from (PyData.shownAll xs) 0 "[" (by decide +kernel)
  rw [fst_app _ _ h.2, h.1]
  decide +kernel
theorem fst_tuple (xs : List PyData) : fst (PyData.shown (.tuple xs)) = some 40 := by
  simp only [PyData.shown, tupleText]
  have h : (("(" : Str)).cps.toList ≠ [] := by decide +kernel
  rw [fst_app _ _ (app_ne _ h), fst_app _ _ h]
  decide +kernel

theorem reprChar_cases (q c : Nat) : reprChar q c = [c] ∨ ∃ r, reprChar q c = 92 :: r := by
  unfold reprChar
  simp only []
  repeat' split
  all_goals first | exact .inl rfl | exact .inr ⟨_, rfl⟩
theorem fold_repr (q : Nat) : ∀ (l : List Nat) (a : Array Nat), (l.foldl (fun out c => out ++ (reprChar q c).toArray) a).toList = a.toList ++ l.flatMap (reprChar q)
  | [], a => by simp
  | c :: l, a => by rw [List.foldl_cons, fold_repr q l]; simp
theorem flat_repr (q : Nat) : ∀ (l w : List Nat), 92 ∉ w → l.flatMap (reprChar q) = w → l = w
  | [], w, _, h => by simpa using h
  | c :: l, w, hw, h => by
    rw [List.flatMap_cons] at h
    rcases reprChar_cases q c with e | ⟨r, e⟩
    · rw [e] at h
      cases w with
      | nil => exact absurd h (by simp)
      | cons d w =>
        obtain ⟨e1, e2⟩ := List.cons.inj h
        rw [e1, flat_repr q l w (fun hm => hw (List.mem_cons_of_mem _ hm)) e2]
    · rw [e] at h
      exact absurd (h ▸ List.mem_cons_self ..) hw
theorem repr_list (x : Str) : (reprText x).cps.toList = reprQuote x :: (x.cps.toList.flatMap (reprChar (reprQuote x)) ++ [reprQuote x]) := by
  show ((x.cps.foldl (fun out c => out ++ (reprChar (reprQuote x) c).toArray) #[reprQuote x]).push (reprQuote x)).toList = _
  rw [Array.toList_push, ← Array.foldl_toList, fold_repr]
  simp
/-- a text between quotes -/
def quoted (w : Str) : Str := ⟨#[39] ++ w.cps ++ #[39]⟩
theorem repr_quoted {x w : Str} (hw : 92 ∉ w.cps.toList) (h : reprText x = quoted w) : x = w := by
  have h := congrArg (fun y : Str => y.cps.toList) h
  simp only [repr_list, quoted, Array.toList_append, List.singleton_append, List.cons_append] at h
  obtain ⟨e1, e2⟩ := List.cons.inj h
  rw [e1] at e2
  have e3 := List.append_cancel_right e2
  have e4 := flat_repr 39 _ _ hw e3
  obtain ⟨⟨a⟩⟩ := x
  obtain ⟨⟨b⟩⟩ := w
  exact congrArg (fun l : List Nat => (⟨⟨l⟩⟩ : Str)) e4
theorem shown_quoted {d : PyData} {w : Str} (ha : d.canLay0 = true) (hw : 92 ∉ w.cps.toList) (h : d.shown = quoted w) : d = .str w := by
  have h39 : fst (quoted w) = some 39 := by simp [fst, quoted]
  have hm : 39 ∈ (quoted w).cps.toList := by simp [quoted]
  cases d with
  | str x => have e : x = w := repr_quoted hw (by simpa only [PyData.shown] using h)
             rw [e]
  | none => rw [← h] at h39; exact absurd h39 (by decide +kernel)
  | bool b => rw [← h] at h39; exact absurd h39 (by cases b <;> decide +kernel)
  | int i => rw [← h] at hm; exact absurd hm (shown_int_free' ⟨by omega, by omega⟩ i)
  | list xs => rw [← h, fst_list] at h39; cases h39
  | tuple xs => rw [← h, fst_tuple] at h39; cases h39
  | dict kvs => simp [PyData.canLay0] at ha
end Y
end Z
end

section
/-! Runs of the interpreter: calls, walks, the pot. -/
namespace Z
namespace Y
open PySem

theorem cal_of {G : Gam} {k : Nat} {f : Str} {fd : Fd} {ds : List D} {s : Sto} (h : G.fns f = some fd) (hl : ds.length = fd.ps.length) : callF G (k + 1) f ds s = fin (execs (callF G k) G fd.body (start fd.n ds) s) := by
  simp only [callF, h, hl, if_true]

@[simp] theorem bd_ite {α β : Type} (c : Prop) [Decidable c] (a b : R α) (f : α → Sto → R β) : (if c then a else b).bd f = if c then a.bd f else b.bd f := by split <;> rfl
@[simp] theorem of_ite {α : Type} (η : Env) (c : Prop) [Decidable c] (a b : R α) (f : α → Sto → RS) : RS.of η (if c then a else b) f = if c then RS.of η a f else RS.of η b f := by split <;> rfl
@[simp] theorem nxt_ite (c : Prop) [Decidable c] (a b : RS) (f : Env → Sto → RS) : RS.nxt (if c then a else b) f = if c then a.nxt f else b.nxt f := by split <;> rfl
@[simp] theorem turn_ite (c : Prop) [Decidable c] (a b : RS) (f : Env → Sto → RS) : RS.turn (if c then a else b) f = if c then a.turn f else b.turn f := by split <;> rfl
@[simp] theorem fin_ite (c : Prop) [Decidable c] (a b : RS) : fin (if c then a else b) = if c then fin a else fin b := by split <;> rfl
@[simp] theorem opt_ite {α : Type} (c : Prop) [Decidable c] (a b : Option α) (s : Sto) : R.opt (if c then a else b) s = if c then R.opt a s else R.opt b s := by split <;> rfl
@[simp] theorem calm_ite {α : Type} (c : Prop) [Decidable c] (a b : R α) : R.calm (if c then a else b) = if c then a.calm else b.calm := by split <;> rfl
@[simp] theorem turn_nx (η : Env) (s : Sto) (f : Env → Sto → RS) : RS.turn (.fl (.nx η) s) f = f η s := rfl
@[simp] theorem turn_ct (η : Env) (s : Sto) (f : Env → Sto → RS) : RS.turn (.fl (.ct η) s) f = f η s := rfl
@[simp] theorem turn_bk (η : Env) (s : Sto) (f : Env → Sto → RS) : RS.turn (.fl (.bk η) s) f = .fl (.nx η) s := rfl
@[simp] theorem turn_rt (d : D) (s : Sto) (f : Env → Sto → RS) : RS.turn (.fl (.rt d) s) f = .fl (.rt d) s := rfl
@[simp] theorem nxt_bk (η : Env) (s : Sto) (f : Env → Sto → RS) : RS.nxt (.fl (.bk η) s) f = .fl (.bk η) s := rfl
@[simp] theorem nxt_ct (η : Env) (s : Sto) (f : Env → Sto → RS) : RS.nxt (.fl (.ct η) s) f = .fl (.ct η) s := rfl
@[simp] theorem fin_rt (d : D) (s : Sto) : fin (.fl (.rt d) s) = .ok d s := rfl
@[simp] theorem fin_nx (η : Env) (s : Sto) : fin (.fl (.nx η) s) = .ok (.dat .none) s := rfl
@[simp] theorem vwI_ref (n : Nat) (s : Sto) : vwI (.ref n) s = vw (.ref n) s := rfl
@[simp] theorem vwI_dat (d : PyData) (s : Sto) : vwI (.dat d) s = some d := rfl
@[simp] theorem vwI_scr (ns : List Int) (s : Sto) : vwI (.scr ns) s = some (.list (ns.map .int)) := rfl
@[simp] theorem vwI_own (xs : List PyData) (s : Sto) : vwI (.own xs) s = some (.list xs) := rfl
@[simp] theorem vwF_len (d : D) (s : Sto) : vwF .len [d] s = (vwI d s).map fun x => [x] := rfl
/-! primitives; what stands behind a value is a name, never a lambda -/
def bind2 {α β γ : Type} (x : Option α) (y : Option β) (f : α → β → Option γ) : Option γ := x.bind fun a => y.bind fun b => f a b
@[simp] theorem bind2_ss {α β γ : Type} (a : α) (b : β) (f : α → β → Option γ) : bind2 (some a) (some b) f = f a b := rfl
def oD (o : Option PyData) (s : Sto) : R D := match o with
  | some d => .ok (.dat d) s
  | none => .no
@[simp] theorem oD_s (d : PyData) (s : Sto) : oD (some d) s = .ok (.dat d) s := rfl
@[simp] theorem oD_ite (c : Prop) [Decidable c] (a b : Option PyData) (s : Sto) : oD (if c then a else b) s = if c then oD a s else oD b s := by split <;> rfl
def pBin (o : Bop) (x y : D) (s : Sto) : R D := oD (bind2 (vw x s) (vw y s) (binD o)) s
def pCmp (o : Cop) (x y : D) (s : Sto) : R Bool := R.opt (bind2 (vw x s) (vw y s) (cmpD o)) s
def pIdx (x y : D) (s : Sto) : R D := oD (bind2 (vwI x s) (vw y s) idxD) s
def pBf (f : Bf) (ds : List D) (s : Sto) : R D := oD ((vwF f ds s).bind (bfD f)) s
def isiD (ts : List Ty) (d : PyData) : PyData := .bool (ts.any (isT d))
def pIsi (ts : List Ty) (x : D) (s : Sto) : R D := oD ((vw x s).map (isiD ts)) s
def pSlc (l h : Option Int) (x : D) (s : Sto) : R D := oD ((vw x s).bind (slcD l h)) s
def pTup (ds : List D) (s : Sto) : R D := oD ((datsOf ds).map .tuple) s
def pLst (ds : List D) (s : Sto) : R D := oD ((datsOf ds).map .list) s
def reflK (o : Option (List PyData)) (s : Sto) : R D := match o with
  | some xs => .ok (.ref s.length) (s ++ [.lst xs])
  | none => .no
def pRefl (ds : List D) (s : Sto) : R D := reflK (datsOf ds) s
def pSrc (k : Sk) (ds : List D) (s : Sto) : R (List PyData) := R.opt ((datOs ds).bind (srcD k)) s
@[simp] theorem pBin_eq (o : Bop) (x y : D) (s : Sto) : pBin o x y s = oD (bind2 (vw x s) (vw y s) (binD o)) s := rfl
@[simp] theorem pCmp_eq (o : Cop) (x y : D) (s : Sto) : pCmp o x y s = R.opt (bind2 (vw x s) (vw y s) (cmpD o)) s := rfl
@[simp] theorem pIdx_eq (x y : D) (s : Sto) : pIdx x y s = oD (bind2 (vwI x s) (vw y s) idxD) s := rfl
@[simp] theorem pBf_eq (f : Bf) (ds : List D) (s : Sto) : pBf f ds s = oD ((vwF f ds s).bind (bfD f)) s := rfl
@[simp] theorem isiD_eq (ts : List Ty) (d : PyData) : isiD ts d = .bool (ts.any (isT d)) := rfl
@[simp] theorem pIsi_eq (ts : List Ty) (x : D) (s : Sto) : pIsi ts x s = oD ((vw x s).map (isiD ts)) s := rfl
@[simp] theorem pSlc_eq (l h : Option Int) (x : D) (s : Sto) : pSlc l h x s = oD ((vw x s).bind (slcD l h)) s := rfl
@[simp] theorem pTup_eq (ds : List D) (s : Sto) : pTup ds s = oD ((datsOf ds).map .tuple) s := rfl
@[simp] theorem pLst_eq (ds : List D) (s : Sto) : pLst ds s = oD ((datsOf ds).map .list) s := rfl
@[simp] theorem pRefl_eq (ds : List D) (s : Sto) : pRefl ds s = reflK (datsOf ds) s := rfl
@[simp] theorem reflK_s (xs : List PyData) (s : Sto) : reflK (some xs) s = .ok (.ref s.length) (s ++ [.lst xs]) := rfl
@[simp] theorem pSrc_eq (k : Sk) (ds : List D) (s : Sto) : pSrc k ds s = R.opt ((datOs ds).bind (srcD k)) s := rfl
def asT (m : R D) : R Bool := m.bd fun d s => (R.opt (datOf d) s).bd fun d s => R.opt (truD d) s
def asB (m : R D) : R (Option Int) := m.bd fun d s => R.opt (loHi d) s
def asV (m : R Bool) : R D := m.bd fun b s => .ok (.dat (.bool b)) s
def notB (m : R Bool) : R Bool := m.bd fun b s => .ok (!b) s
def isNB (m : R D) : R Bool := m.bd fun x s => .ok (isNon x) s
def consR (d : D) (m : R (List D)) : R (List D) := m.bd fun ds s => .ok (d :: ds) s
def compL (m : R (List PyData)) : R D := m.calm.bd fun l s => .ok (.dat (.list l)) s
def someD (m : R D) : R (Option PyData) := m.bd fun d s => (R.opt (datOf d) s).bd fun d s => .ok (some d) s
@[simp] theorem asT_b (b : Bool) (s : Sto) : asT (.ok (.dat (.bool b)) s) = .ok b s := rfl
@[simp] theorem asV_b (b : Bool) (s : Sto) : asV (.ok b s) = .ok (.dat (.bool b)) s := rfl
@[simp] theorem asB_i (i : Int) (s : Sto) : asB (.ok (.dat (.int i)) s) = .ok (some i) s := rfl
@[simp] theorem notB_b (b : Bool) (s : Sto) : notB (.ok b s) = .ok (!b) s := rfl
@[simp] theorem isNB_d (d : D) (s : Sto) : isNB (.ok d s) = .ok (isNon d) s := rfl
@[simp] theorem consR_d (d : D) (ds : List D) (s : Sto) : consR d (.ok ds s) = .ok (d :: ds) s := rfl
@[simp] theorem compL_d (l : List PyData) (s : Sto) : compL (.ok l s) = .ok (.dat (.list l)) s := rfl
@[simp] theorem someD_d (d : PyData) (s : Sto) : someD (.ok (.dat d) s) = .ok (some d) s := rfl
@[simp] theorem asT_ite (c : Prop) [Decidable c] (a b : R D) : asT (if c then a else b) = if c then asT a else asT b := by split <;> rfl
@[simp] theorem asV_ite (c : Prop) [Decidable c] (a b : R Bool) : asV (if c then a else b) = if c then asV a else asV b := by split <;> rfl
@[simp] theorem asB_ite (c : Prop) [Decidable c] (a b : R D) : asB (if c then a else b) = if c then asB a else asB b := by split <;> rfl
@[simp] theorem notB_ite (c : Prop) [Decidable c] (a b : R Bool) : notB (if c then a else b) = if c then notB a else notB b := by split <;> rfl
@[simp] theorem isNB_ite (c : Prop) [Decidable c] (a b : R D) : isNB (if c then a else b) = if c then isNB a else isNB b := by split <;> rfl
@[simp] theorem consR_ite (d : D) (c : Prop) [Decidable c] (a b : R (List D)) : consR d (if c then a else b) = if c then consR d a else consR d b := by split <;> rfl
@[simp] theorem compL_ite (c : Prop) [Decidable c] (a b : R (List PyData)) : compL (if c then a else b) = if c then compL a else compL b := by split <;> rfl
@[simp] theorem someD_ite (c : Prop) [Decidable c] (a b : R D) : someD (if c then a else b) = if c then someD a else someD b := by split <;> rfl
def negK (d : D) (s : Sto) : R D := match d with
  | .dat (.int i) => .ok (.dat (.int (-i))) s
  | _ => .no
@[simp] theorem negK_i (i : Int) (s : Sto) : negK (.dat (.int i)) s = .ok (.dat (.int (-i))) s := rfl

section
variable (C : Str → List D → Sto → R D) (G : Gam) (η : Env) (s : Sto)
/-- an expression's value, as a test, as a bound; a list of them -/
def EV (e : Ex) (η : Env) (s : Sto) : R D := (eX C G e).v η s
def ET (e : Ex) (η : Env) (s : Sto) : R Bool := (eX C G e).t η s
def EB (e : Ex) (η : Env) (s : Sto) : R (Option Int) := (eX C G e).b η s
def EL (l : List Ex) (η : Env) (s : Sto) : R (List D) := seqV (eXs C G l) η s
def EAn (l : List Ex) (η : Env) (s : Sto) : R D := anV (eXs C G l) η s
def EOr (l : List Ex) (η : Env) (s : Sto) : R D := orV (eXs C G l) η s
def TAn (l : List Ex) (η : Env) (s : Sto) : R Bool := anT (eXs C G l) η s
def TOr (l : List Ex) (η : Env) (s : Sto) : R Bool := orT (eXs C G l) η s
def TAll (l : List Ex) (η : Env) (s : Sto) : R Bool := allT (eXs C G l) η s
def ESrc (k : Sk) (l : List Ex) (η : Env) (s : Sto) : R (List PyData) := vSrc k (eXs C G l) η s
def ETurn (t : Tg) (cs : List Ex) (e : Ex) (η : Env) : PyData → Sto → R (Option PyData) := turnC t (eXs C G cs) (eX C G e) η
def kBin (o : Bop) (b : Ex) (η : Env) (x : D) (s : Sto) : R D := (EV C G b η s).bd (pBin o x)
def kIdx (i : Ex) (η : Env) (x : D) (s : Sto) : R D := (EV C G i η s).bd (pIdx x)
def kCmp (o : Cop) (b : Ex) (η : Env) (x : D) (s : Sto) : R Bool := (EV C G b η s).bd (pCmp o x)
def kCh4 (p : Cop) (y z : D) (s : Sto) : R Bool := R.opt (bind2 (datOf y) (datOf z) (cmpD p)) s
def kCh3 (p : Cop) (c : Ex) (η : Env) (y : D) (d : Bool) (s : Sto) : R Bool := if d then (EV C G c η s).bd (kCh4 p y) else .ok false s
def kCh2 (o p : Cop) (c : Ex) (η : Env) (x y : D) (s : Sto) : R Bool := (R.opt (bind2 (datOf x) (datOf y) (cmpD o)) s).bd (kCh3 C G p c η y)
def kCh1 (o p : Cop) (b c : Ex) (η : Env) (x : D) (s : Sto) : R Bool := (EV C G b η s).bd (kCh2 C G o p c η x)
def kIf (a b : Ex) (η : Env) (k : Bool) (s : Sto) : R D := if k then EV C G a η s else EV C G b η s
def kCallk (f : Str) (m : Nat) (π : List Nat) (ds : List D) (s : Sto) : R D := C f (kArgs m π ds) s
def kSlc2 (x : D) (l h : Option Int) (s : Sto) : R D := pSlc l h x s
def kSlc1 (hi : Ex) (η : Env) (x : D) (l : Option Int) (s : Sto) : R D := (EB C G hi η s).bd (kSlc2 x l)
def kSlc (lo hi : Ex) (η : Env) (x : D) (s : Sto) : R D := (EB C G lo η s).bd (kSlc1 C G hi η x)
def kEl (l : List Ex) (η : Env) (d : D) (s : Sto) : R (List D) := consR d (EL C G l η s)
def kAn (l : List Ex) (η : Env) (d : D) (s : Sto) : R D := match d with
  | .dat (.bool true) => EAn C G l η s
  | .dat (.bool false) => .ok (.dat (.bool false)) s
  | _ => .no
def kOr (l : List Ex) (η : Env) (d : D) (s : Sto) : R D := match d with
  | .dat (.bool false) => EOr C G l η s
  | .dat (.bool true) => .ok (.dat (.bool true)) s
  | _ => .no
def kTAn (l : List Ex) (η : Env) (b : Bool) (s : Sto) : R Bool := if b then TAn C G l η s else .ok false s
def kTOr (l : List Ex) (η : Env) (b : Bool) (s : Sto) : R Bool := if b then .ok true s else TOr C G l η s
def kTAll (l : List Ex) (η : Env) (b : Bool) (s : Sto) : R Bool := if b then TAll C G l η s else .ok false s
def kComp (t : Tg) (cs : List Ex) (e : Ex) (η : Env) (l : List PyData) (s : Sto) : R D := if big l.length = true then compL (cgo (ETurn C G t cs e η) l s) else .no
def kTurn2 (e : Ex) (η' : Env) (k : Bool) (s : Sto) : R (Option PyData) := if k then someD (EV C G e η' s) else .ok none s
def kTurn (cs : List Ex) (e : Ex) (η' : Env) (s : Sto) : R (Option PyData) := (TAll C G cs η' s).bd (kTurn2 C G e η')
@[simp] theorem kBin_eq (o : Bop) (b : Ex) (x : D) : kBin C G o b η x s = (EV C G b η s).bd (pBin o x) := rfl
@[simp] theorem kIdx_eq (i : Ex) (x : D) : kIdx C G i η x s = (EV C G i η s).bd (pIdx x) := rfl
@[simp] theorem kCmp_eq (o : Cop) (b : Ex) (x : D) : kCmp C G o b η x s = (EV C G b η s).bd (pCmp o x) := rfl
@[simp] theorem kCh4_eq (p : Cop) (y z : D) : kCh4 p y z s = R.opt (bind2 (datOf y) (datOf z) (cmpD p)) s := rfl
@[simp] theorem kCh3_eq (p : Cop) (c : Ex) (y : D) (d : Bool) : kCh3 C G p c η y d s = if d then (EV C G c η s).bd (kCh4 p y) else .ok false s := rfl
@[simp] theorem kCh2_eq (o p : Cop) (c : Ex) (x y : D) : kCh2 C G o p c η x y s = (R.opt (bind2 (datOf x) (datOf y) (cmpD o)) s).bd (kCh3 C G p c η y) := rfl
@[simp] theorem kCh1_eq (o p : Cop) (b c : Ex) (x : D) : kCh1 C G o p b c η x s = (EV C G b η s).bd (kCh2 C G o p c η x) := rfl
@[simp] theorem kIf_eq (a b : Ex) (k : Bool) : kIf C G a b η k s = if k then EV C G a η s else EV C G b η s := rfl
@[simp] theorem kCallk_eq (f : Str) (m : Nat) (π : List Nat) (ds : List D) : kCallk C f m π ds s = C f (kArgs m π ds) s := rfl
@[simp] theorem kSlc2_eq (x : D) (l h : Option Int) : kSlc2 x l h s = pSlc l h x s := rfl
@[simp] theorem kSlc1_eq (hi : Ex) (x : D) (l : Option Int) : kSlc1 C G hi η x l s = (EB C G hi η s).bd (kSlc2 x l) := rfl
@[simp] theorem kSlc_eq (lo hi : Ex) (x : D) : kSlc C G lo hi η x s = (EB C G lo η s).bd (kSlc1 C G hi η x) := rfl
@[simp] theorem kEl_eq (l : List Ex) (d : D) : kEl C G l η d s = consR d (EL C G l η s) := rfl
@[simp] theorem kAn_b (l : List Ex) (b : Bool) : kAn C G l η (.dat (.bool b)) s = if b then EAn C G l η s else .ok (.dat (.bool false)) s := by cases b <;> rfl
@[simp] theorem kOr_b (l : List Ex) (b : Bool) : kOr C G l η (.dat (.bool b)) s = if b then .ok (.dat (.bool true)) s else EOr C G l η s := by cases b <;> rfl
@[simp] theorem kTAn_eq (l : List Ex) (b : Bool) : kTAn C G l η b s = if b then TAn C G l η s else .ok false s := rfl
@[simp] theorem kTOr_eq (l : List Ex) (b : Bool) : kTOr C G l η b s = if b then .ok true s else TOr C G l η s := rfl
@[simp] theorem kTAll_eq (l : List Ex) (b : Bool) : kTAll C G l η b s = if b then TAll C G l η s else .ok false s := rfl
@[simp] theorem kComp_eq (t : Tg) (cs : List Ex) (e : Ex) (l : List PyData) : kComp C G t cs e η l s = if big l.length = true then compL (cgo (ETurn C G t cs e η) l s) else .no := rfl
@[simp] theorem kTurn2_eq (e : Ex) (k : Bool) : kTurn2 C G e η k s = if k then someD (EV C G e η s) else .ok none s := rfl
@[simp] theorem kTurn_eq (cs : List Ex) (e : Ex) : kTurn C G cs e η s = (TAll C G cs η s).bd (kTurn2 C G e η) := rfl
theorem bd_same {α β : Type} {m : R α} {f g : α → Sto → R β} (h : ∀ a s, f a s = g a s) : m.bd f = m.bd g := by cases m <;> simp [h]
@[simp] theorem v_var (i : Nat) : EV C G (.var i) η s = look η i s := rfl
@[simp] theorem v_ovar (i : Nat) : EV C G (.ovar i) η s = lookO η i s := rfl
@[simp] theorem v_glob (x : Str) : EV C G (.glob x) η s = globD G x s := rfl
@[simp] theorem v_non : EV C G .non η s = .ok (.dat .none) s := rfl
@[simp] theorem v_bl (b : Bool) : EV C G (.bl b) η s = .ok (.dat (.bool b)) s := rfl
@[simp] theorem v_num (i : Int) : EV C G (.num i) η s = .ok (.dat (.int i)) s := rfl
@[simp] theorem v_txt (x : Str) : EV C G (.txt x) η s = .ok (.dat (.str x)) s := rfl
@[simp] theorem v_tup (l : List Ex) : EV C G (.tup l) η s = (EL C G l η s).bd pTup := bd_same fun ds s => by
  simp only [pTup]
  cases datsOf ds <;> rfl
@[simp] theorem v_lst (l : List Ex) : EV C G (.lst l) η s = (EL C G l η s).bd pLst := bd_same fun ds s => by
  simp only [pLst]
  cases datsOf ds <;> rfl
@[simp] theorem v_refl (l : List Ex) : EV C G (.refl l) η s = (EL C G l η s).bd pRefl := bd_same fun ds s => by
  simp only [pRefl]
  cases datsOf ds <;> rfl
@[simp] theorem v_dic0 : EV C G .dic0 η s = .ok (.dat (.dict [])) s := rfl
@[simp] theorem v_bin (o : Bop) (a b : Ex) : EV C G (.bin o a b) η s = (EV C G a η s).bd (kBin C G o b η) := bd_same fun x s => bd_same fun y s => by
  simp only [pBin]
  cases vw x s with
  | none => rfl
  | some a =>
    cases h : vw y s with
    | none => simp [h, bind2, oD]
    | some b =>
      simp only [R.opt_some, R.bd_ok, bind2_ss]
      cases h2 : binD o a b <;> simp [h, h2, oD]
@[simp] theorem v_neg (a : Ex) : EV C G (.neg a) η s = (EV C G a η s).bd negK := rfl
@[simp] theorem v_nt (a : Ex) : EV C G (.nt a) η s = asV (notB (asT (EV C G a η s))) := rfl
@[simp] theorem t_nt (a : Ex) : ET C G (.nt a) η s = notB (ET C G a η s) := rfl
@[simp] theorem v_an (l : List Ex) : EV C G (.an l) η s = EAn C G l η s := rfl
@[simp] theorem t_an (l : List Ex) : ET C G (.an l) η s = TAn C G l η s := rfl
@[simp] theorem v_or (l : List Ex) : EV C G (.or l) η s = EOr C G l η s := rfl
@[simp] theorem t_or (l : List Ex) : ET C G (.or l) η s = TOr C G l η s := rfl
@[simp] theorem t_cmp (o : Cop) (a b : Ex) : ET C G (.cmp o a b) η s = (EV C G a η s).bd (kCmp C G o b η) := bd_same fun x s => bd_same fun y s => by
  simp only [pCmp]
  cases vw x s with
  | none => rfl
  | some a =>
    cases h : vw y s with
    | none => simp [h, bind2]
    | some b => simp [h]
@[simp] theorem v_cmp (o : Cop) (a b : Ex) : EV C G (.cmp o a b) η s = asV (ET C G (.cmp o a b) η s) := rfl
@[simp] theorem t_ch (o p : Cop) (a b c : Ex) : ET C G (.ch o p a b c) η s = (EV C G a η s).bd (kCh1 C G o p b c η) := bd_same fun x s => bd_same fun y s => by
  simp only [kCh2]
  cases hx : datOf x with
  | none => rfl
  | some a =>
    cases hy : datOf y with
    | none => simp [bind2]
    | some b =>
      simp only [R.opt_some, R.bd_ok, bind2_ss]
      refine bd_same fun d s => ?_
      simp only [kCh3]
      split
      · refine bd_same fun z s => ?_
        simp only [kCh4, hy]
        cases datOf z <;> rfl
      · rfl
@[simp] theorem v_ch (o p : Cop) (a b c : Ex) : EV C G (.ch o p a b c) η s = asV (ET C G (.ch o p a b c) η s) := rfl
@[simp] theorem t_isN (a : Ex) : ET C G (.isN a) η s = isNB (EV C G a η s) := rfl
@[simp] theorem v_isN (a : Ex) : EV C G (.isN a) η s = asV (ET C G (.isN a) η s) := rfl
@[simp] theorem t_notN (a : Ex) : ET C G (.notN a) η s = notB (isNB (EV C G a η s)) := by
  show (EV C G a η s).bd _ = _
  cases EV C G a η s <;> rfl
@[simp] theorem v_notN (a : Ex) : EV C G (.notN a) η s = asV (ET C G (.notN a) η s) := rfl
@[simp] theorem v_ife (c a b : Ex) : EV C G (.ife c a b) η s = (ET C G c η s).bd (kIf C G a b η) := rfl
@[simp] theorem v_call (f : Str) (l : List Ex) : EV C G (.call f l) η s = (EL C G l η s).bd (C f) := rfl
@[simp] theorem v_callk (f : Str) (l m : List Ex) (ns : List Str) (π : List Nat) : EV C G (.callk f l m ns π) η s = (EL C G (l ++ m) η s).bd (kCallk C f l.length π) := by
  have e1 : ∀ l : List Ex, (eXs C G l).length = l.length := fun l => by induction l with
    | nil => rfl
    | cons e l ih => simp only [eXs, List.length_cons, ih]
  have e2 : ∀ l : List Ex, eXs C G (l ++ m) = eXs C G l ++ eXs C G m := fun l => by induction l with
    | nil => rfl
    | cons e l ih => simp only [eXs, List.cons_append, ih]
  show vCallk C f (eXs C G l) (eXs C G m) π η s = _
  unfold vCallk EL
  rw [e1, e2]
  rfl
@[simp] theorem v_bf (f : Bf) (l : List Ex) : EV C G (.bf f l) η s = (EL C G l η s).bd (pBf f) := bd_same fun ds s => by
  simp only [pBf]
  cases vwF f ds s with
  | none => rfl
  | some xs =>
    simp only [R.opt_some, R.bd_ok, Option.bind_some]
    cases bfD f xs <;> rfl
@[simp] theorem v_isi (a : Ex) (ts : List Ty) (w : Bool) : EV C G (.isi a ts w) η s = (EV C G a η s).bd (pIsi ts) := bd_same fun x s => by
  simp only [pIsi]
  cases vw x s <;> rfl
@[simp] theorem v_idx (a i : Ex) : EV C G (.idx a i) η s = (EV C G a η s).bd (kIdx C G i η) := bd_same fun x s => bd_same fun y s => by
  simp only [pIdx]
  cases vwI x s with
  | none => rfl
  | some a =>
    cases h : vw y s with
    | none => simp [h, bind2, oD]
    | some b =>
      simp only [R.opt_some, R.bd_ok, bind2_ss]
      cases h2 : idxD a b <;> simp [h, h2, oD]
@[simp] theorem v_slc (a lo hi : Ex) : EV C G (.slc a lo hi) η s = (EV C G a η s).bd (kSlc C G lo hi η) := bd_same fun x s => bd_same fun l s => bd_same fun h s => by
  simp only [kSlc2, pSlc]
  cases vw x s with
  | none => rfl
  | some a =>
    simp only [R.opt_some, R.bd_ok, Option.bind_some]
    cases slcD l h a <;> rfl
@[simp] theorem v_comp (e : Ex) (t : Tg) (k : Sk) (ss cs : List Ex) : EV C G (.comp e t k ss cs) η s = (ESrc C G k ss η s).bd (kComp C G t cs e η) := bd_same fun l s => by
  simp only [kComp]
  split <;> rfl
@[simp] theorem v_tmp (i : Nat) (a : Ex) : EV C G (.tmp i a) η s = tmpV (EV C G a) s (tmpE i η) := by
  show tmpV _ s _ = _
  cases tmpE i η <;> rfl
@[simp] theorem t_tmp (i : Nat) (a : Ex) : ET C G (.tmp i a) η s = tmpT (ET C G a) s (tmpE i η) := by
  show tmpT _ s _ = _
  cases tmpE i η <;> rfl
@[simp] theorem src_eq (k : Sk) (ss : List Ex) : ESrc C G k ss η s = (EL C G ss η s).bd (pSrc k) := bd_same fun ds s => by
  simp only [pSrc]
  cases datOs ds <;> rfl
theorem turn_eq (t : Tg) (cs : List Ex) (e : Ex) (x : PyData) : ETurn C G t cs e η x s = (R.opt (bindT t x (wipeE η t.at)) s).bd (kTurn C G cs e) := rfl
@[simp] theorem b_abs : EB C G .abs η s = .ok none s := rfl
@[simp] theorem b_var (i : Nat) : EB C G (.var i) η s = asB (look η i s) := rfl
@[simp] theorem b_num (i : Int) : EB C G (.num i) η s = .ok (some i) s := rfl
@[simp] theorem b_bin (o : Bop) (a b : Ex) : EB C G (.bin o a b) η s = asB (EV C G (.bin o a b) η s) := rfl
@[simp] theorem b_neg (a : Ex) : EB C G (.neg a) η s = asB (EV C G (.neg a) η s) := rfl
@[simp] theorem b_call (f : Str) (l : List Ex) : EB C G (.call f l) η s = asB (EV C G (.call f l) η s) := rfl
@[simp] theorem b_bf (f : Bf) (l : List Ex) : EB C G (.bf f l) η s = asB (EV C G (.bf f l) η s) := rfl
@[simp] theorem b_idx (a i : Ex) : EB C G (.idx a i) η s = asB (EV C G (.idx a i) η s) := rfl
@[simp] theorem b_ife (c a b : Ex) : EB C G (.ife c a b) η s = asB (EV C G (.ife c a b) η s) := rfl
@[simp] theorem t_var (i : Nat) : ET C G (.var i) η s = asT (look η i s) := rfl
@[simp] theorem t_bl (b : Bool) : ET C G (.bl b) η s = .ok b s := rfl
@[simp] theorem t_call (f : Str) (l : List Ex) : ET C G (.call f l) η s = asT (EV C G (.call f l) η s) := rfl
@[simp] theorem t_callk (f : Str) (l m : List Ex) (ns : List Str) (π : List Nat) : ET C G (.callk f l m ns π) η s = asT (EV C G (.callk f l m ns π) η s) := rfl
@[simp] theorem t_bf (f : Bf) (l : List Ex) : ET C G (.bf f l) η s = asT (EV C G (.bf f l) η s) := rfl
@[simp] theorem t_isi (a : Ex) (ts : List Ty) (w : Bool) : ET C G (.isi a ts w) η s = asT (EV C G (.isi a ts w) η s) := rfl
@[simp] theorem t_idx (a i : Ex) : ET C G (.idx a i) η s = asT (EV C G (.idx a i) η s) := rfl
@[simp] theorem el_nil : EL C G [] η s = .ok [] s := rfl
@[simp] theorem el_cons (e : Ex) (l : List Ex) : EL C G (e :: l) η s = (EV C G e η s).bd (kEl C G l η) := rfl
@[simp] theorem anV_1 (e : Ex) : EAn C G [e] η s = EV C G e η s := rfl
@[simp] theorem anV_2 (e f : Ex) (l : List Ex) : EAn C G (e :: f :: l) η s = (EV C G e η s).bd (kAn C G (f :: l) η) := rfl
@[simp] theorem orV_1 (e : Ex) : EOr C G [e] η s = EV C G e η s := rfl
@[simp] theorem orV_2 (e f : Ex) (l : List Ex) : EOr C G (e :: f :: l) η s = (EV C G e η s).bd (kOr C G (f :: l) η) := rfl
@[simp] theorem anT_1 (e : Ex) : TAn C G [e] η s = ET C G e η s := rfl
@[simp] theorem anT_2 (e f : Ex) (l : List Ex) : TAn C G (e :: f :: l) η s = (ET C G e η s).bd (kTAn C G (f :: l) η) := rfl
@[simp] theorem orT_1 (e : Ex) : TOr C G [e] η s = ET C G e η s := rfl
@[simp] theorem orT_2 (e f : Ex) (l : List Ex) : TOr C G (e :: f :: l) η s = (ET C G e η s).bd (kTOr C G (f :: l) η) := rfl
@[simp] theorem allT_nil : TAll C G [] η s = .ok true s := rfl
@[simp] theorem allT_cons (e : Ex) (l : List Ex) : TAll C G (e :: l) η s = (ET C G e η s).bd (kTAll C G l η) := rfl
/-! statements -/
def ownK (i : Nat) (η : Env) (o : Option (List PyData)) (s : Sto) : RS := match o with
  | some xs => if i < η.length then .fl (.nx (η.set i (some (.own xs)))) s else .no
  | none => .no
def kOwn (i : Nat) (η : Env) (d : D) (s : Sto) : RS := ownK i η (toOwn d) s
def envS (o : Option Env) (s : Sto) : RS := match o with
  | some η => .fl (.nx η) s
  | none => .no
def bindTT (ts : List Tg) (η : Env) (d : PyData) : Option Env := bindT (.tup ts) d η
def kAsgT (ts : List Tg) (η : Env) (d : D) (s : Sto) : RS := envS ((datOf d).bind (bindTT ts η)) s
def setF (i d : PyData) (xs : List PyData) : Option (List PyData) := setD xs i d
def kPut (d : Nat) (y : PyData) (η : Env) (s : Sto) : RS := put η d (.dat y) s
def sub2K (v : Nat) (i : Int) (d : Nat) (η : Env) (o : Option (PyData × PyData)) (s : Sto) : RS := match o with
  | some xy => (chg v (setF (.int i) xy.1) η s).nxt (kPut d xy.2)
  | none => .no
def kSub2 (v : Nat) (i : Int) (d : Nat) (η : Env) (p : D) (s : Sto) : RS := sub2K v i d η ((datOf p).bind pairD) s
def kPar (os : List Bool) (is : List Nat) (η : Env) (ds : List D) (s : Sto) : RS := envS (puts os is ds η) s
def setI5 (v : Nat) (η : Env) (d : PyData) (o : Option PyData) (s : Sto) : RS := match o with
  | some k => chg v (setF k d) η s
  | none => .no
def kSetI4 (v : Nat) (η : Env) (d : PyData) (k : D) (s : Sto) : RS := setI5 v η d (datOf k) s
def kSetI3 (v : Nat) (i : Ex) (η : Env) (d : PyData) (_ : Unit) (s : Sto) : RS := RS.of η (EV C G i η s) (kSetI4 v η d)
def setI2 (v : Nat) (i : Ex) (η : Env) (o : Option PyData) (s : Sto) : RS := match o with
  | some d => RS.of η (isLst η v s) (kSetI3 C G v i η d)
  | none => .no
def kSetI1 (v : Nat) (i : Ex) (η : Env) (d : D) (s : Sto) : RS := setI2 C G v i η (datOf d) s
def app3 (v : Nat) (η : Env) (o : Option PyData) (s : Sto) : RS := match o with
  | some d => chg v (appD d) η s
  | none => .no
def kApp2 (v : Nat) (η : Env) (d : D) (s : Sto) : RS := app3 v η (datOf d) s
def kApp (v : Nat) (e : Ex) (η : Env) (_ : Unit) (s : Sto) : RS := RS.of η (EV C G e η s) (kApp2 v η)
def ext3 (v : Nat) (η : Env) (o : Option PyData) (s : Sto) : RS := match o with
  | some d => chg v (extD d) η s
  | none => .no
def kExt2 (v : Nat) (η : Env) (d : D) (s : Sto) : RS := ext3 v η (datOf d) s
def kExt (v : Nat) (e : Ex) (η : Env) (_ : Unit) (s : Sto) : RS := RS.of η (EV C G e η s) (kExt2 v η)
def kRet (d : D) (s : Sto) : RS := .fl (.rt (unown d)) s
def kIfe (a b : List Sm) (η : Env) (k : Bool) (s : Sto) : RS := if k then execs C G a η s else execs C G b η s
def loop2 (b : List Sm) (o : Option Env) (s : Sto) : RS := match o with
  | some η => execs C G b η s
  | none => .no
def loopB (t : Tg) (b : List Sm) (x : PyData) (η : Env) (s : Sto) : RS := loop2 C G b (bindT t x η) s
def kFr (t : Tg) (b : List Sm) (η : Env) (l : List PyData) (s : Sto) : RS := fgo (loopB C G t b) l η s
def kExp (η : Env) (_ : D) (s : Sto) : RS := .fl (.nx η) s
@[simp] theorem ownK_s (i : Nat) (xs : List PyData) : ownK i η (some xs) s = if i < η.length then .fl (.nx (η.set i (some (.own xs)))) s else .no := rfl
@[simp] theorem kOwn_eq (i : Nat) (d : D) : kOwn i η d s = ownK i η (toOwn d) s := rfl
@[simp] theorem envS_s (η : Env) : envS (some η) s = .fl (.nx η) s := rfl
@[simp] theorem envS_ite (c : Prop) [Decidable c] (a b : Option Env) : envS (if c then a else b) s = if c then envS a s else envS b s := by split <;> rfl
@[simp] theorem bindTT_eq (ts : List Tg) (d : PyData) : bindTT ts η d = bindT (.tup ts) d η := rfl
@[simp] theorem kAsgT_eq (ts : List Tg) (d : D) : kAsgT ts η d s = envS ((datOf d).bind (bindTT ts η)) s := rfl
@[simp] theorem setF_eq (i d : PyData) (xs : List PyData) : setF i d xs = setD xs i d := rfl
@[simp] theorem kPut_eq (d : Nat) (y : PyData) : kPut d y η s = put η d (.dat y) s := rfl
@[simp] theorem sub2K_s (v : Nat) (i : Int) (d : Nat) (xy : PyData × PyData) : sub2K v i d η (some xy) s = (chg v (setF (.int i) xy.1) η s).nxt (kPut d xy.2) := rfl
@[simp] theorem kSub2_eq (v : Nat) (i : Int) (d : Nat) (p : D) : kSub2 v i d η p s = sub2K v i d η ((datOf p).bind pairD) s := rfl
@[simp] theorem kPar_eq (os : List Bool) (is : List Nat) (ds : List D) : kPar os is η ds s = envS (puts os is ds η) s := rfl
@[simp] theorem setI5_s (v : Nat) (d k : PyData) : setI5 v η d (some k) s = chg v (setF k d) η s := rfl
@[simp] theorem kSetI4_eq (v : Nat) (d : PyData) (k : D) : kSetI4 v η d k s = setI5 v η d (datOf k) s := rfl
@[simp] theorem kSetI3_eq (v : Nat) (i : Ex) (d : PyData) (u : Unit) : kSetI3 C G v i η d u s = RS.of η (EV C G i η s) (kSetI4 v η d) := rfl
@[simp] theorem setI2_s (v : Nat) (i : Ex) (d : PyData) : setI2 C G v i η (some d) s = RS.of η (isLst η v s) (kSetI3 C G v i η d) := rfl
@[simp] theorem kSetI1_eq (v : Nat) (i : Ex) (d : D) : kSetI1 C G v i η d s = setI2 C G v i η (datOf d) s := rfl
@[simp] theorem app3_s (v : Nat) (d : PyData) : app3 v η (some d) s = chg v (appD d) η s := rfl
@[simp] theorem kApp2_eq (v : Nat) (d : D) : kApp2 v η d s = app3 v η (datOf d) s := rfl
@[simp] theorem kApp_eq (v : Nat) (e : Ex) (u : Unit) : kApp C G v e η u s = RS.of η (EV C G e η s) (kApp2 v η) := rfl
@[simp] theorem ext3_s (v : Nat) (d : PyData) : ext3 v η (some d) s = chg v (extD d) η s := rfl
@[simp] theorem kExt2_eq (v : Nat) (d : D) : kExt2 v η d s = ext3 v η (datOf d) s := rfl
@[simp] theorem kExt_eq (v : Nat) (e : Ex) (u : Unit) : kExt C G v e η u s = RS.of η (EV C G e η s) (kExt2 v η) := rfl
@[simp] theorem kRet_eq (d : D) : kRet d s = .fl (.rt (unown d)) s := rfl
@[simp] theorem kIfe_eq (a b : List Sm) (k : Bool) : kIfe C G a b η k s = if k then execs C G a η s else execs C G b η s := rfl
@[simp] theorem loop2_s (b : List Sm) (η : Env) : loop2 C G b (some η) s = execs C G b η s := rfl
@[simp] theorem loop2_ite (b : List Sm) (c : Prop) [Decidable c] (x y : Option Env) : loop2 C G b (if c then x else y) s = if c then loop2 C G b x s else loop2 C G b y s := by split <;> rfl
theorem loopB_eq (t : Tg) (b : List Sm) (x : PyData) : loopB C G t b x η s = loop2 C G b (bindT t x η) s := rfl
@[simp] theorem kFr_eq (t : Tg) (b : List Sm) (l : List PyData) : kFr C G t b η l s = fgo (loopB C G t b) l η s := rfl
@[simp] theorem kExp_eq (d : D) : kExp η d s = .fl (.nx η) s := rfl
theorem of_same {α : Type} {η : Env} {m : R α} {f g : α → Sto → RS} (h : ∀ a s, f a s = g a s) : RS.of η m f = RS.of η m g := by cases m <;> simp [h]
theorem loop_same {G : Gam} {t : Tg} {b : List Sm} : (fun x η s => RS.of η (R.opt (bindT t x η) s) fun η s => execs C G b η s) = loopB C G t b := by
  funext x η s
  simp only [loopB]
  cases bindT t x η <;> rfl
@[simp] theorem x_nil : execs C G [] η s = .fl (.nx η) s := by simp only [execs]
@[simp] theorem x_cons (x : Sm) (r : List Sm) : execs C G (x :: r) η s = (exec C G x η s).nxt (execs C G r) := by simp only [execs]
@[simp] theorem x_asg (i : Nat) (e : Ex) : exec C G (.asg i e) η s = RS.of η (EV C G e η s) (put η i) := by simp only [exec]; rfl
@[simp] theorem x_own (i : Nat) (e : Ex) : exec C G (.own i e) η s = RS.of η (EV C G e η s) (kOwn i η) := by
  simp only [exec]
  refine of_same fun d s => ?_
  simp only [kOwn]
  cases toOwn d <;> rfl
@[simp] theorem x_asgT (ts : List Tg) (e : Ex) : exec C G (.asgT ts e) η s = RS.of η (EV C G e η s) (kAsgT ts η) := by
  simp only [exec]
  refine of_same fun d s => ?_
  simp only [kAsgT]
  cases datOf d with
  | none => rfl
  | some d =>
    simp only [R.opt_some, RS.of_ok, Option.bind_some, bindTT]
    cases bindT (.tup ts) d η <;> rfl
@[simp] theorem x_sub2 (v : Nat) (i : Int) (d : Nat) (e : Ex) : exec C G (.sub2 v i d e) η s = RS.of η (EV C G e η s) (kSub2 v i d η) := by
  simp only [exec]
  refine of_same fun p s => ?_
  simp only [kSub2]
  cases datOf p with
  | none => rfl
  | some p =>
    simp only [R.opt_some, RS.of_ok, Option.bind_some]
    cases pairD p <;> rfl
@[simp] theorem x_par (os : List Bool) (is : List Nat) (es : List Ex) : exec C G (.par os is es) η s = RS.of η (EL C G es η s) (kPar os is η) := by
  simp only [exec]
  refine of_same fun ds s => ?_
  simp only [kPar]
  cases puts os is ds η <;> rfl
@[simp] theorem x_setI (v : Nat) (i e : Ex) : exec C G (.setI v i e) η s = RS.of η (EV C G e η s) (kSetI1 C G v i η) := by
  simp only [exec]
  refine of_same fun d s => ?_
  simp only [kSetI1]
  cases datOf d with
  | none => rfl
  | some d =>
    show RS.of η (isLst η v s) _ = RS.of η (isLst η v s) _
    refine of_same fun u s => ?_
    show RS.of η (EV C G i η s) _ = RS.of η (EV C G i η s) _
    refine of_same fun k s => ?_
    show _ = setI5 v η d (datOf k) s
    cases datOf k <;> rfl
@[simp] theorem x_app (v : Nat) (e : Ex) : exec C G (.app v e) η s = RS.of η (isLst η v s) (kApp C G v e η) := by
  simp only [exec]
  refine of_same fun _ s => of_same fun d s => ?_
  show _ = app3 v η (datOf d) s
  cases datOf d <;> rfl
@[simp] theorem x_ext (v : Nat) (e : Ex) : exec C G (.ext v e) η s = RS.of η (isLst η v s) (kExt C G v e η) := by
  simp only [exec]
  refine of_same fun _ s => of_same fun d s => ?_
  show _ = ext3 v η (datOf d) s
  cases datOf d <;> rfl
@[simp] theorem x_frz (v : Nat) : exec C G (.frz v) η s = frzE v η s := by simp only [exec]
@[simp] theorem x_ret (e : Ex) : exec C G (.ret e) η s = RS.of η (EV C G e η s) kRet := by simp only [exec]; rfl
@[simp] theorem x_retN : exec C G .retN η s = .fl (.rt (.dat .none)) s := by simp only [exec]
@[simp] theorem x_ife (c : Ex) (a b : List Sm) : exec C G (.ife c a b) η s = RS.of η (ET C G c η s) (kIfe C G a b η) := by simp only [exec]; rfl
@[simp] theorem x_whl (c : Ex) (b : List Sm) : exec C G (.whl c b) η s = wgo (ET C G c) (execs C G b) G.W η s := by simp only [exec]; rfl
@[simp] theorem x_fr (t : Tg) (k : Sk) (ss : List Ex) (b : List Sm) : exec C G (.fr t k ss b) η s = RS.of η (ESrc C G k ss η s) (kFr C G t b η) := by
  simp only [exec, loop_same]; rfl
@[simp] theorem x_frO (t : Tg) (v : Nat) (b : List Sm) : exec C G (.frO t v b) η s = ogo v (loopB C G t b) G.W 0 η s := by
  simp only [exec, loop_same]
@[simp] theorem x_exp (e : Ex) : exec C G (.exp e) η s = RS.of η (EV C G e η s) (kExp η) := by simp only [exec]; rfl
@[simp] theorem x_pas : exec C G .pas η s = .fl (.nx η) s := by simp only [exec]
@[simp] theorem x_brk : exec C G .brk η s = .fl (.bk η) s := by simp only [exec]
@[simp] theorem x_cnt : exec C G .cnt η s = .fl (.ct η) s := by simp only [exec]
end
/-! names -/
@[simp] theorem look_0d (d : PyData) (r : Env) (s : Sto) : look (some (.dat d) :: r) 0 s = .ok (.dat d) s := rfl
@[simp] theorem look_0r (n : Nat) (r : Env) (s : Sto) : look (some (.ref n) :: r) 0 s = .ok (.ref n) s := rfl
@[simp] theorem look_0f (x : Str) (r : Env) (s : Sto) : look (some (.fn x) :: r) 0 s = .ok (.fn x) s := rfl
@[simp] theorem look_0s (x : List Int) (r : Env) (s : Sto) : look (some (.scr x) :: r) 0 s = .ok (.scr x) s := rfl
@[simp] theorem look_s (x : Option D) (r : Env) (i : Nat) (s : Sto) : look (x :: r) (i + 1) s = look r i s := rfl
@[simp] theorem lookO_0 (x : List PyData) (r : Env) (s : Sto) : lookO (some (.own x) :: r) 0 s = .ok (.own x) s := rfl
@[simp] theorem lookO_s (x : Option D) (r : Env) (i : Nat) (s : Sto) : lookO (x :: r) (i + 1) s = lookO r i s := rfl
theorem glob_eq {G : Gam} {x : Str} {d : PyData} (h : G.cst x = some d) (s : Sto) : globD G x s = .ok (.dat d) s := by rw [globD, h]
/-! data of values -/
@[simp] theorem vw_d (d : PyData) (s : Sto) : vw (.dat d) s = some d := rfl
@[simp] theorem vw_o (xs : List PyData) (s : Sto) : vw (.own xs) s = some (.list xs) := rfl
theorem vw_r {n : Nat} {s : Sto} {xs : List PyData} (h : s[n]? = some (.lst xs)) : vw (.ref n) s = some (.list xs) := by simp only [vw, h]
@[simp] theorem datOf_d (d : PyData) : datOf (.dat d) = some d := rfl
@[simp] theorem datO_d (d : PyData) : datO (.dat d) = some d := rfl
@[simp] theorem datO_o (xs : List PyData) : datO (.own xs) = some (.list xs) := rfl
@[simp] theorem datOs_nil : datOs [] = some [] := rfl
@[simp] theorem datOs_d (d : PyData) (r : List D) : datOs (.dat d :: r) = (datOs r).map (d :: ·) := rfl
@[simp] theorem datOs_o (xs : List PyData) (r : List D) : datOs (.own xs :: r) = (datOs r).map (.list xs :: ·) := rfl
@[simp] theorem datsOf_nil : datsOf [] = some [] := rfl
@[simp] theorem datsOf_d (d : PyData) (r : List D) : datsOf (.dat d :: r) = (datsOf r).map (d :: ·) := rfl
@[simp] theorem vws_nil (s : Sto) : vws [] s = some [] := rfl
@[simp] theorem vws_cons (d : D) (r : List D) (s : Sto) : vws (d :: r) s = (vw d s).bind fun x => (vws r s).map (x :: ·) := rfl
@[simp] theorem vwF_abs (ds : List D) (s : Sto) : vwF .abs ds s = vws ds s := by simp [vwF]
@[simp] theorem vwF_max (ds : List D) (s : Sto) : vwF .max ds s = vws ds s := by simp [vwF]
@[simp] theorem vwF_min (ds : List D) (s : Sto) : vwF .min ds s = vws ds s := by simp [vwF]
@[simp] theorem vwF_sum (ds : List D) (s : Sto) : vwF .sum ds s = vws ds s := by simp [vwF]
@[simp] theorem vwF_all (ds : List D) (s : Sto) : vwF .all ds s = vws ds s := by simp [vwF]
@[simp] theorem vwF_any (ds : List D) (s : Sto) : vwF .any ds s = vws ds s := by simp [vwF]
@[simp] theorem vwF_tuple (ds : List D) (s : Sto) : vwF .tuple ds s = vws ds s := by simp [vwF]
@[simp] theorem vwF_list (ds : List D) (s : Sto) : vwF .list ds s = vws ds s := by simp [vwF]
@[simp] theorem vwF_int (ds : List D) (s : Sto) : vwF .int ds s = vws ds s := by simp [vwF]
@[simp] theorem vwF_repr (ds : List D) (s : Sto) : vwF .repr ds s = vws ds s := by simp [vwF]
@[simp] theorem vwF_divmod (ds : List D) (s : Sto) : vwF .divmod ds s = vws ds s := by simp [vwF]
@[simp] theorem bf_len (l : List PyData) : bfD .len l = lenD l := rfl
@[simp] theorem bf_abs (i : Int) : bfD .abs [.int i] = some (.int (if i < 0 then -i else i)) := rfl
@[simp] theorem bf_max (i j : Int) : bfD .max [.int i, .int j] = some (.int (if j > i then j else i)) := rfl
@[simp] theorem bf_min (i j : Int) : bfD .min [.int i, .int j] = some (.int (if j < i then j else i)) := rfl
@[simp] theorem bf_sum (l : List PyData) : bfD .sum [.list l] = (intsOf l).map fun ns => .int ns.sum := rfl
def allB (bs : List Bool) : Bool := bs.all id
def anyB (bs : List Bool) : Bool := bs.any id
@[simp] theorem bf_all (l : List PyData) : bfD .all [.list l] = (boolsOf l).map fun bs => .bool (allB bs) := rfl
@[simp] theorem bf_any (l : List PyData) : bfD .any [.list l] = (boolsOf l).map fun bs => .bool (anyB bs) := rfl
theorem allB_map {α : Type} (p : α → Bool) (l : List α) : allB (l.map p) = l.all p := by simp only [allB, List.all_map]; rfl
theorem anyB_map {α : Type} (p : α → Bool) (l : List α) : anyB (l.map p) = l.any p := by simp only [anyB, List.any_map]; rfl
@[simp] theorem bf_tupL (l : List PyData) : bfD .tuple [.list l] = some (.tuple l) := rfl
@[simp] theorem bf_tupT (l : List PyData) : bfD .tuple [.tuple l] = some (.tuple l) := rfl
@[simp] theorem bf_lstL (l : List PyData) : bfD .list [.list l] = some (.list l) := rfl
@[simp] theorem bf_lstT (l : List PyData) : bfD .list [.tuple l] = some (.list l) := rfl
@[simp] theorem bf_int (i : Int) : bfD .int [.int i] = some (.int i) := rfl
@[simp] theorem bf_intB (b : Bool) : bfD .int [.bool b] = some (.int (b2i b)) := rfl
@[simp] theorem bf_repr (d : PyData) : bfD .repr [d] = if reprOk d = true then some (.str d.shown) else none := rfl
@[simp] theorem bf_dvm (i j : Int) : bfD .divmod [.int i, .int j] = if 0 < j ∧ j < 1073741824 then some (.tuple [.int (i / j), .int (i % j)]) else none := rfl
@[simp] theorem len_l (l : List PyData) : lenD [.list l] = some (.int l.length) := rfl
@[simp] theorem len_t (l : List PyData) : lenD [.tuple l] = some (.int l.length) := rfl
@[simp] theorem idx_l (xs : List PyData) (i : Int) : idxD (.list xs) (.int i) = (ixN xs.length i).bind fun j => xs[j]? := rfl
@[simp] theorem idx_t (xs : List PyData) (i : Int) : idxD (.tuple xs) (.int i) = (ixN xs.length i).bind fun j => xs[j]? := rfl
@[simp] theorem slc_l (lo hi : Option Int) (xs : List PyData) : slcD lo hi (.list xs) = some (.list (cut xs lo hi)) := rfl
@[simp] theorem slc_t (lo hi : Option Int) (xs : List PyData) : slcD lo hi (.tuple xs) = some (.tuple (cut xs lo hi)) := rfl
@[simp] theorem src_l (xs : List PyData) : srcD .it [.list xs] = some xs := rfl
@[simp] theorem src_t (xs : List PyData) : srcD .it [.tuple xs] = some xs := rfl
@[simp] theorem src_r1 (b : Int) : srcD .rng [.int b] = if rngOk 0 b then some (rngL 0 b.toNat) else none := rfl
@[simp] theorem src_r2 (a b : Int) : srcD .rng [.int a, .int b] = if rngOk a b then some (rngL a (b - a).toNat) else none := rfl
@[simp] theorem src_zl (xs ys : List PyData) : srcD .zip [.list xs, .list ys] = some (zipL xs ys) := rfl
@[simp] theorem src_zt (xs ys : List PyData) : srcD .zip [.tuple xs, .tuple ys] = some (zipL xs ys) := rfl
@[simp] theorem src_el (xs : List PyData) : srcD .enum [.list xs] = some (enumL 0 xs) := rfl
@[simp] theorem src_et (xs : List PyData) : srcD .enum [.tuple xs] = some (enumL 0 xs) := rfl
@[simp] theorem bind_nm (i : Nat) (d : PyData) (η : Env) : bindT (.nm i) d η = if i < η.length then some (η.set i (some (.dat d))) else none := by simp only [bindT]
@[simp] theorem bind_tup (ts : List Tg) (ds : List PyData) (η : Env) : bindT (.tup ts) (.tuple ds) η = bindTs ts ds η := by simp only [bindT]
@[simp] theorem binds_nil (η : Env) : bindTs [] [] η = some η := by simp only [bindTs]
@[simp] theorem binds_cons (t : Tg) (ts : List Tg) (d : PyData) (ds : List PyData) (η : Env) : bindTs (t :: ts) (d :: ds) η = (bindT t d η).bind fun η' => bindTs ts ds η' := by simp only [bindTs]
@[simp] theorem put_d (η : Env) (i : Nat) (d : PyData) (s : Sto) : put η i (.dat d) s = if i < η.length then .fl (.nx (η.set i (some (.dat d)))) s else .no := by simp [put, D.isOwn]
@[simp] theorem put_r (η : Env) (i : Nat) (n : Nat) (s : Sto) : put η i (.ref n) s = if i < η.length then .fl (.nx (η.set i (some (.ref n)))) s else .no := by simp [put, D.isOwn]
@[simp] theorem unown_d (d : PyData) : unown (.dat d) = .dat d := rfl
@[simp] theorem unown_r (n : Nat) : unown (.ref n) = .ref n := rfl
@[simp] theorem unown_o (xs : List PyData) : unown (.own xs) = .dat (.list xs) := rfl
@[simp] theorem toOwn_l (xs : List PyData) : toOwn (.dat (.list xs)) = some xs := rfl
@[simp] theorem pair_t (x y : PyData) : pairD (.tuple [x, y]) = some (x, y) := rfl
@[simp] theorem setD_i (xs : List PyData) (i : Int) (d : PyData) : setD xs (.int i) d = (ixN xs.length i).map fun j => xs.set j d := rfl
@[simp] theorem extD_l (ys xs : List PyData) : extD (.list ys) xs = if xs.length + ys.length ≤ sizeLine then some (xs ++ ys) else none := rfl
@[simp] theorem loHi_i (i : Int) : loHi (.dat (.int i)) = some (some i) := rfl
@[simp] theorem isNon_n : isNon (.dat .none) = true := rfl
@[simp] theorem isNon_b (b : Bool) : isNon (.dat (.bool b)) = false := rfl
@[simp] theorem isNon_i (b : Int) : isNon (.dat (.int b)) = false := rfl
@[simp] theorem isNon_s (b : Str) : isNon (.dat (.str b)) = false := rfl
@[simp] theorem isNon_t (b : List PyData) : isNon (.dat (.tuple b)) = false := rfl
@[simp] theorem isNon_l (b : List PyData) : isNon (.dat (.list b)) = false := rfl
@[simp] theorem tru_b (b : Bool) : truD (.bool b) = some b := rfl
@[simp] theorem isT_none_int : isT .none .int = false := rfl
@[simp] theorem isT_none_bool : isT .none .bool = false := rfl
@[simp] theorem isT_none_str : isT .none .str = false := rfl
@[simp] theorem isT_none_tuple : isT .none .tuple = false := rfl
@[simp] theorem isT_none_list : isT .none .list = false := rfl
@[simp] theorem isT_none_dict : isT .none .dict = false := rfl
@[simp] theorem isT_b_int (b : Bool) : isT (.bool b) .int = true := rfl
@[simp] theorem isT_b_bool (b : Bool) : isT (.bool b) .bool = true := rfl
@[simp] theorem isT_b_str (b : Bool) : isT (.bool b) .str = false := rfl
@[simp] theorem isT_b_tuple (b : Bool) : isT (.bool b) .tuple = false := rfl
@[simp] theorem isT_b_list (b : Bool) : isT (.bool b) .list = false := rfl
@[simp] theorem isT_b_dict (b : Bool) : isT (.bool b) .dict = false := rfl
@[simp] theorem isT_i_int (b : Int) : isT (.int b) .int = true := rfl
@[simp] theorem isT_i_bool (b : Int) : isT (.int b) .bool = false := rfl
@[simp] theorem isT_i_str (b : Int) : isT (.int b) .str = false := rfl
@[simp] theorem isT_i_tuple (b : Int) : isT (.int b) .tuple = false := rfl
@[simp] theorem isT_i_list (b : Int) : isT (.int b) .list = false := rfl
@[simp] theorem isT_i_dict (b : Int) : isT (.int b) .dict = false := rfl
@[simp] theorem isT_s_int (b : Str) : isT (.str b) .int = false := rfl
@[simp] theorem isT_s_bool (b : Str) : isT (.str b) .bool = false := rfl
@[simp] theorem isT_s_str (b : Str) : isT (.str b) .str = true := rfl
@[simp] theorem isT_s_tuple (b : Str) : isT (.str b) .tuple = false := rfl
@[simp] theorem isT_s_list (b : Str) : isT (.str b) .list = false := rfl
@[simp] theorem isT_s_dict (b : Str) : isT (.str b) .dict = false := rfl
@[simp] theorem isT_l_int (b : List PyData) : isT (.list b) .int = false := rfl
@[simp] theorem isT_l_bool (b : List PyData) : isT (.list b) .bool = false := rfl
@[simp] theorem isT_l_str (b : List PyData) : isT (.list b) .str = false := rfl
@[simp] theorem isT_l_tuple (b : List PyData) : isT (.list b) .tuple = false := rfl
@[simp] theorem isT_l_list (b : List PyData) : isT (.list b) .list = true := rfl
@[simp] theorem isT_l_dict (b : List PyData) : isT (.list b) .dict = false := rfl
@[simp] theorem isT_t_int (b : List PyData) : isT (.tuple b) .int = false := rfl
@[simp] theorem isT_t_bool (b : List PyData) : isT (.tuple b) .bool = false := rfl
@[simp] theorem isT_t_str (b : List PyData) : isT (.tuple b) .str = false := rfl
@[simp] theorem isT_t_tuple (b : List PyData) : isT (.tuple b) .tuple = true := rfl
@[simp] theorem isT_t_list (b : List PyData) : isT (.tuple b) .list = false := rfl
@[simp] theorem isT_t_dict (b : List PyData) : isT (.tuple b) .dict = false := rfl
@[simp] theorem isT_d_int (b : List (PyData × PyData)) : isT (.dict b) .int = false := rfl
@[simp] theorem isT_d_bool (b : List (PyData × PyData)) : isT (.dict b) .bool = false := rfl
@[simp] theorem isT_d_str (b : List (PyData × PyData)) : isT (.dict b) .str = false := rfl
@[simp] theorem isT_d_tuple (b : List (PyData × PyData)) : isT (.dict b) .tuple = false := rfl
@[simp] theorem isT_d_list (b : List (PyData × PyData)) : isT (.dict b) .list = false := rfl
@[simp] theorem isT_d_dict (b : List (PyData × PyData)) : isT (.dict b) .dict = true := rfl
@[simp] theorem start_eq (n : Nat) (ds : List D) : start n ds = ds.map some ++ List.replicate (n - ds.length) none := rfl
@[simp] theorem puts_nil (η : Env) : puts [] [] [] η = some η := by simp only [puts]
@[simp] theorem puts_t (os : List Bool) (i : Nat) (is : List Nat) (d : D) (ds : List D) (η : Env) : puts (true :: os) (i :: is) (d :: ds) η = if i < η.length ∧ i ∉ is then ((toOwn d).bind fun xs => puts os is ds (η.set i (some (.own xs)))) else none := by simp only [puts]
@[simp] theorem puts_d (os : List Bool) (i : Nat) (is : List Nat) (d : PyData) (ds : List D) (η : Env) : puts (false :: os) (i :: is) (.dat d :: ds) η = if i < η.length ∧ i ∉ is then puts os is ds (η.set i (some (.dat d))) else none := by simp [puts, D.isOwn]
@[simp] theorem puts_r (os : List Bool) (i : Nat) (is : List Nat) (d : Nat) (ds : List D) (η : Env) : puts (false :: os) (i :: is) (.ref d :: ds) η = if i < η.length ∧ i ∉ is then puts os is ds (η.set i (some (.ref d))) else none := by simp [puts, D.isOwn]
@[simp] theorem appD_eq (d : PyData) (xs : List PyData) : appD d xs = if xs.length < sizeLine then some (xs ++ [d]) else none := rfl
/-- what a list that may be changed becomes -/
def chO (v : Nat) (o : Option (List PyData)) (η : Env) (s : Sto) : RS := match o with
  | some ys => .fl (.nx (η.set v (some (.own ys)))) s
  | none => .no
def chR (n : Nat) (o : Option (List PyData)) (η : Env) (s : Sto) : RS := match o with
  | some ys => .fl (.nx η) (s.set n (.lst ys))
  | none => .no
@[simp] theorem chO_s (v : Nat) (ys : List PyData) (η : Env) (s : Sto) : chO v (some ys) η s = .fl (.nx (η.set v (some (.own ys)))) s := rfl
@[simp] theorem chR_s (n : Nat) (ys : List PyData) (η : Env) (s : Sto) : chR n (some ys) η s = .fl (.nx η) (s.set n (.lst ys)) := rfl
@[simp] theorem chO_ite (v : Nat) (c : Prop) [Decidable c] (a b : Option (List PyData)) (η : Env) (s : Sto) : chO v (if c then a else b) η s = if c then chO v a η s else chO v b η s := by split <;> rfl
@[simp] theorem chR_ite (v : Nat) (c : Prop) [Decidable c] (a b : Option (List PyData)) (η : Env) (s : Sto) : chR v (if c then a else b) η s = if c then chR v a η s else chR v b η s := by split <;> rfl
def chgK (v : Nat) (o : Option (Option D)) (f : List PyData → Option (List PyData)) (η : Env) (s : Sto) : RS := match o with
  | some (some (.own xs)) => chO v (f xs) η s
  | some (some (.ref n)) => match vw (.ref n) s with
    | some (.list xs) => chR n (f xs) η s
    | _ => .no
  | _ => .no
@[simp] theorem chg_eq (v : Nat) (f : List PyData → Option (List PyData)) (η : Env) (s : Sto) : chg v f η s = chgK v (η[v]?) f η s := by
  unfold chg chgK
  cases η[v]? with
  | none => rfl
  | some o =>
    cases o with
    | none => rfl
    | some d =>
      cases d with
      | own xs =>
        simp only [chO]
        all_goals (cases f xs <;> rfl)
      | ref n =>
        simp only [vw]
        cases s[n]? with
        | none => rfl
        | some o =>
          cases o with
          | lst xs =>
            simp only [chR]
            all_goals (cases f xs <;> rfl)
      | _ => rfl
@[simp] theorem chgK_own (v : Nat) (xs : List PyData) (f : List PyData → Option (List PyData)) (η : Env) (s : Sto) : chgK v (some (some (.own xs))) f η s = chO v (f xs) η s := rfl
theorem chgK_ref {n : Nat} {s : Sto} {xs : List PyData} (h : s[n]? = some (.lst xs)) (v : Nat) (f : List PyData → Option (List PyData)) (η : Env) : chgK v (some (some (.ref n))) f η s = chR n (f xs) η s := by simp only [chgK, vw_r h]
def isLK (o : Option (Option D)) (s : Sto) : R Unit := match o with
  | some (some (.own _)) => .ok () s
  | some (some (.ref n)) => if n < s.length then .ok () s else .no
  | _ => .no
@[simp] theorem isL_eq (v : Nat) (η : Env) (s : Sto) : isLst η v s = isLK (η[v]?) s := rfl
@[simp] theorem isLK_own (xs : List PyData) (s : Sto) : isLK (some (some (.own xs))) s = .ok () s := rfl
@[simp] theorem isLK_ref (n : Nat) (s : Sto) : isLK (some (some (.ref n))) s = if n < s.length then .ok () s else .no := rfl
def frzK (v : Nat) (o : Option (Option D)) (η : Env) (s : Sto) : RS := match o with
  | some (some (.own xs)) => .fl (.nx (η.set v (some (.dat (.list xs))))) s
  | _ => .no
@[simp] theorem frz_eq (v : Nat) (η : Env) (s : Sto) : frzE v η s = frzK v (η[v]?) η s := rfl
@[simp] theorem frzK_own (v : Nat) (xs : List PyData) (η : Env) (s : Sto) : frzK v (some (some (.own xs))) η s = .fl (.nx (η.set v (some (.dat (.list xs))))) s := rfl
@[simp] theorem wipe_nil (η : Env) : wipeE η [] = η := rfl
@[simp] theorem wipe_cons (η : Env) (v : Nat) (vs : List Nat) : wipeE η (v :: vs) = (wipeE η vs).set v none := rfl
@[simp] theorem at_nm (i : Nat) : Tg.at (.nm i) = [i] := by simp only [Tg.at]
@[simp] theorem at_tup (ts : List Tg) : Tg.at (.tup ts) = Tg.ats ts := by simp only [Tg.at]
@[simp] theorem ats_nil : Tg.ats [] = [] := by simp only [Tg.ats]
@[simp] theorem ats_cons (t : Tg) (ts : List Tg) : Tg.ats (t :: ts) = t.at ++ Tg.ats ts := by simp only [Tg.ats]
@[simp] theorem kArgs_eq (m : Nat) (π : List Nat) (ds : List D) : kArgs m π ds = ds.take m ++ pick π (ds.drop m) := rfl
@[simp] theorem pick_eq {α : Type} (π : List Nat) (ws : List α) : pick π ws = π.filterMap fun i => ws[i]? := rfl
@[simp] theorem flat_nil : allFlat [] = true := rfl
@[simp] theorem flat_i (i : Int) (r : List PyData) : allFlat (.int i :: r) = allFlat r := rfl
@[simp] theorem flat_s (i : Str) (r : List PyData) : allFlat (.str i :: r) = allFlat r := rfl
@[simp] theorem flat_n (r : List PyData) : allFlat (.none :: r) = allFlat r := rfl
@[simp] theorem flat_b (i : Bool) (r : List PyData) : allFlat (.bool i :: r) = allFlat r := rfl
@[simp] theorem cmp_lt (i j : Int) : cmpD .lt (.int i) (.int j) = some (decide (i < j)) := rfl
@[simp] theorem cmp_le (i j : Int) : cmpD .le (.int i) (.int j) = some (decide (i ≤ j)) := rfl
@[simp] theorem cmp_gt (i j : Int) : cmpD .gt (.int i) (.int j) = some (decide (j < i)) := rfl
@[simp] theorem cmp_ge (i j : Int) : cmpD .ge (.int i) (.int j) = some (decide (j ≤ i)) := rfl
@[simp] theorem cmp_eq (d e : PyData) : cmpD .eq d e = eqD d e := rfl
@[simp] theorem cmp_ne (d e : PyData) : cmpD .ne d e = (eqD d e).map not := rfl
@[simp] theorem cmp_in (d e : PyData) : cmpD .inn d e = inD d e := rfl
@[simp] theorem cmp_nin (d e : PyData) : cmpD .nin d e = (inD d e).map not := rfl
@[simp] theorem eqD_int (i j : Int) : eqD (.int i) (.int j) = some (decide (i = j)) := rfl
@[simp] theorem eqD_str (x y : Str) : eqD (.str x) (.str y) = some (decide (x = y)) := by
  simp only [eqD, scalD, flatD, PyData.eqv]; rfl
theorem inD_flat {d : PyData} {xs : List PyData} (h1 : flatD d = true) (h2 : allFlat xs = true) : inD d (.tuple xs) = some (xs.any fun z => PyData.eqv z d) := by
  simp only [inD]
  rw [h1, h2]; rfl
def inK (d : PyData) (xs : List PyData) : Bool → Option Bool
  | true => some (xs.any fun z => PyData.eqv z d)
  | false => inD d (.tuple xs)
@[simp] theorem inK_t (d : PyData) (xs : List PyData) : inK d xs true = some (xs.any fun z => PyData.eqv z d) := rfl
theorem inD_k {d : PyData} (h1 : flatD d = true) (xs : List PyData) : inD d (.tuple xs) = inK d xs (allFlat xs) := by
  cases h : allFlat xs with
  | false => rfl
  | true => exact inD_flat h1 h
@[simp] theorem inD_int (i : Int) (xs : List PyData) : inD (.int i) (.tuple xs) = inK (.int i) xs (allFlat xs) := inD_k rfl xs
@[simp] theorem inD_str (x : Str) (xs : List PyData) : inD (.str x) (.tuple xs) = inK (.str x) xs (allFlat xs) := inD_k rfl xs
@[simp] theorem inD_bool (x : Bool) (xs : List PyData) : inD (.bool x) (.tuple xs) = inK (.bool x) xs (allFlat xs) := inD_k rfl xs
@[simp] theorem inD_none (xs : List PyData) : inD .none (.tuple xs) = inK .none xs (allFlat xs) := inD_k rfl xs
@[simp] theorem eqv_int (i j : Int) : PyData.eqv (.int i) (.int j) = decide (i = j) := rfl
@[simp] theorem eqv_str (x y : Str) : PyData.eqv (.str x) (.str y) = decide (x = y) := by simp only [PyData.eqv]; rfl
@[simp] theorem bin_add (i j : Int) : binD .add (.int i) (.int j) = some (.int (i + j)) := rfl
@[simp] theorem bin_sub (i j : Int) : binD .sub (.int i) (.int j) = some (.int (i - j)) := rfl
@[simp] theorem bin_mul (i j : Int) : binD .mul (.int i) (.int j) = if mulOk i j then some (.int (i * j)) else none := rfl
@[simp] theorem bin_mod (i j : Int) : binD .mod (.int i) (.int j) = if 0 < j then some (.int (i % j)) else none := rfl
@[simp] theorem bin_fdiv (i j : Int) : binD .fdiv (.int i) (.int j) = if 0 < j ∧ j < 1073741824 then some (.int (i / j)) else none := rfl
@[simp] theorem bin_pow (i j : Int) : binD .pow (.int i) (.int j) = if 0 ≤ j ∧ j ≤ 1000000 ∧ i.natAbs < 2 ^ 64 then some (.int (i ^ j.toNat)) else none := rfl
@[simp] theorem bin_addL (xs ys : List PyData) : binD .add (.list xs) (.list ys) = if xs.length + ys.length ≤ sizeLine then some (.list (xs ++ ys)) else none := rfl
@[simp] theorem bin_addT (xs ys : List PyData) : binD .add (.tuple xs) (.tuple ys) = if xs.length + ys.length ≤ sizeLine then some (.tuple (xs ++ ys)) else none := rfl
@[simp] theorem bin_mulT (xs : List PyData) (k : Int) : binD .mul (.tuple xs) (.int k) = if 0 ≤ k ∧ k ≤ 1000 ∧ xs.length ≤ 1000 then some (.tuple (List.replicate k.toNat xs).flatten) else none := rfl


/-! ### comprehensions -/
theorem cgo_st {f : PyData → Sto → R (Option PyData)} {I : Sto → Prop} {P : PyData → Prop} : ∀ (l : List PyData), (∀ x ∈ l, ∀ s, I s → ∃ y s', f x s = .ok (some y) s' ∧ I s' ∧ P y) → ∀ s, I s → ∃ ys s', cgo f l s = .ok ys s' ∧ I s' ∧ ys.length = l.length ∧ ∀ y ∈ ys, P y
  | [], _, s, hs => ⟨[], s, rfl, hs, rfl, fun _ h => nomatch h⟩
  | x :: l, h, s, hs => by
    obtain ⟨y, s1, e1, h1, p1⟩ := h x (List.mem_cons_self ..) s hs
    obtain ⟨ys, s2, e2, h2, l2, p2⟩ := cgo_st l (fun z hz => h z (List.mem_cons_of_mem _ hz)) s1 h1
    refine ⟨y :: ys, s2, by simp only [cgo, e1, R.bd_ok, e2], h2, by simp [l2], ?_⟩
    intro z hz
    rcases List.mem_cons.mp hz with rfl | hz
    · exact p1
    · exact p2 z hz
/-- each turn hands back g's value, if p lets it -/
theorem cgo_if {f : PyData → Sto → R (Option PyData)} {s : Sto} (p : PyData → Bool) (g : PyData → PyData) : ∀ (l : List PyData), (∀ x ∈ l, f x s = .ok (if p x then some (g x) else none) s) → cgo f l s = .ok ((l.filter p).map g) s
  | [], _ => rfl
  | x :: l, h => by
    simp only [cgo, h x (List.mem_cons_self ..), R.bd_ok, cgo_if p g l fun z hz => h z (List.mem_cons_of_mem _ hz)]
    cases hp : p x <;> simp [hp]
theorem cgo_map {f : PyData → Sto → R (Option PyData)} {s : Sto} (g : PyData → PyData) (l : List PyData) (h : ∀ x ∈ l, f x s = .ok (some (g x)) s) : cgo f l s = .ok (l.map g) s := by
  have e := cgo_if (f := f) (s := s) (fun _ => true) g l (by simpa using h)
  rw [List.filter_eq_self.mpr (fun _ _ => rfl)] at e
  exact e
theorem boolsOf_map {α : Type} (p : α → Bool) : ∀ l : List α, boolsOf (l.map fun x => .bool (p x)) = some (l.map p)
  | [] => rfl
  | x :: l => by simp [boolsOf, boolsOf_map p l]
theorem intsOf_map {α : Type} (p : α → Int) : ∀ l : List α, intsOf (l.map fun x => .int (p x)) = some (l.map p)
  | [] => rfl
  | x :: l => by simp [intsOf, intsOf_map p l]
theorem intsOf_ints : ∀ l : List Int, intsOf (l.map .int) = some l
  | [] => rfl
  | x :: l => by simp [intsOf, intsOf_ints l]
theorem ixN_pos {n : Nat} {i : Int} (h0 : 0 ≤ i) (h1 : i < n) : ixN n i = some i.toNat := by simp [ixN, h0, h1]

/-! ### the pot -/
def PotO (o : Ob) : Prop := ∃ a b : Int, o = .lst [.int a, .int b] ∧ 0 ≤ b ∧ b < 4294967296
/-- all objects are pots -/
def Pots (s : Sto) : Prop := ∀ o ∈ s, PotO o
structure Pot (n : Nat) (s : Sto) : Prop where
  all : Pots s
  lt : n < s.length
theorem Pot.get {n : Nat} {s : Sto} (h : Pot n s) : ∃ a b : Int, s[n]? = some (.lst [.int a, .int b]) ∧ 0 ≤ b ∧ b < 4294967296 := by
  obtain ⟨o, ho⟩ : ∃ o, s[n]? = some o := ⟨_, List.getElem?_eq_getElem h.lt⟩
  obtain ⟨a, b, rfl, h1, h2⟩ := h.all o (List.mem_of_getElem? ho)
  exact ⟨a, b, ho, h1, h2⟩
theorem Pot.set {n : Nat} {s : Sto} (h : Pot n s) {a b : Int} (h0 : 0 ≤ b) (h1 : b < 4294967296) : Pot n (s.set n (.lst [.int a, .int b])) := by
  refine ⟨fun o ho => ?_, by rw [List.length_set]; exact h.lt⟩
  rcases List.mem_or_eq_of_mem_set ho with ho | rfl
  · exact h.all o ho
  · exact ⟨a, b, rfl, h0, h1⟩
theorem Pots.push {s : Sto} (h : Pots s) {a b : Int} (h0 : 0 ≤ b) (h1 : b < 4294967296) : Pot s.length (s ++ [.lst [.int a, .int b]]) := by
  refine ⟨fun o ho => ?_, by simp⟩
  rcases List.mem_append.mp ho with ho | ho
  · exact h o ho
  · rw [List.mem_singleton.mp ho]; exact ⟨a, b, rfl, h0, h1⟩
theorem Pots.flat {s : Sto} (h : Pots s) : flatSto s = true := by
  refine List.all_eq_true.mpr fun o ho => ?_
  obtain ⟨a, b, rfl, _⟩ := h o ho
  rfl
def drawFd (p q m r t : Int) : Fd := ⟨["pot", "many"], 3, false, [
    .ife (.cmp .gt (.idx (.var 0) (.num 0)) (.num 0)) [.sub2 0 0 2 (.bf .divmod [(.idx (.var 0) (.num 0)), (.var 1)]), .ret (.var 2)] [],
    .setI 0 (.num 1) (.bin .mod (.bf .int [(.bin .add (.bin .mul (.idx (.var 0) (.num 1)) (.num p)) (.num q))]) (.num m)),
    .ret (.bin .mod (.bf .int [(.bin .fdiv (.bin .mod (.bf .int [(.bin .mul (.idx (.var 0) (.num 1)) (.idx (.var 0) (.num 1)))]) (.num r)) (.num t))]) (.var 1))]⟩
def drawC (m r t : Int) : Bool := decide (0 < m) && decide (m ≤ 4294967296) && decide (0 < r) && decide (0 < t) && decide (t < 1073741824)

theorem mulOk_l {i j : Int} (h0 : 0 ≤ i) (h1 : i < 4294967296) : mulOk i j = true := by
  simp only [mulOk, Bool.or_eq_true, Bool.and_eq_true, decide_eq_true_eq]
  exact .inl ⟨by omega, by omega⟩
theorem draw_ok {G : Gam} {p q m r t : Int} (hG : G.fns "_law_draw" = some (drawFd p q m r t)) (hc : drawC m r t = true) {n : Nat} {s : Sto} (hp : Pot n s) {many : Int} (h0 : 0 < many) (h1 : many < 1073741824) (k : Nat) :
    ∃ j s', callF G (k + 1) "_law_draw" [.ref n, .dat (.int many)] s = .ok (.dat (.int j)) s' ∧ Pot n s' ∧ 0 ≤ j ∧ j < many := by
  obtain ⟨a, b, hs, hb0, hb1⟩ := hp.get
  obtain ⟨hlt, hs'⟩ := List.getElem?_eq_some_iff.mp hs
  simp only [drawC, Bool.and_eq_true, decide_eq_true_eq] at hc
  obtain ⟨⟨⟨⟨hm0, hm1⟩, hr⟩, ht⟩, ht1⟩ := hc
  rw [cal_of hG rfl]
  by_cases ha : 0 < a
  · refine ⟨a % many, s.set n (.lst [.int (a / many), .int b]), ?_, hp.set hb0 hb1, Int.emod_nonneg _ (by omega), Int.emod_lt_of_pos _ h0⟩
    simp [drawFd, vw_r hs, ixN, ha, h0, h1, chgK_ref hs]
  · refine ⟨(((b * p + q) % m * ((b * p + q) % m)) % r / t) % many, s.set n (.lst [.int a, .int ((b * p + q) % m)]), ?_, hp.set (Int.emod_nonneg _ (by omega)) ?_, Int.emod_nonneg _ (by omega), Int.emod_lt_of_pos _ h0⟩
    · have e1 := mulOk_l (j := p) hb0 hb1
      have e2 := mulOk_l (i := (b * p + q) % m) (j := (b * p + q) % m) (Int.emod_nonneg _ (by omega)) (by have := Int.emod_lt_of_pos (b * p + q) hm0; omega)
      have hs2 : (s.set n (.lst [.int a, .int ((b * p + q) % m)]))[n]? = some (.lst [.int a, .int ((b * p + q) % m)]) := by simp [hlt]
      simp [drawFd, vw_r hs, vw_r hs2, ixN, ha, h0, h1, hlt, chgK_ref hs, hm0, hr, ht, ht1, e1, e2]
    · have := Int.emod_lt_of_pos (b * p + q) hm0
      omega

def potFd (u v w x y z p : Int) : Fd := ⟨["script", "k"], 3, true, [
    .asg 2 (.ife (.cmp .lt (.var 1) (.bf .len [(.var 0)])) (.bf .abs [(.idx (.var 0) (.var 1))]) (.bin .add (.bin .mul (.num u) (.var 1)) (.num v))),
    .ret (.refl [(.bf .max [(.num 0), (.bin .sub (.var 2) (.bin .pow (.num 10) (.num 18)))]), (.bin .add (.bin .mod (.bf .int [(.bin .add (.bin .add (.bin .mul (.bin .mod (.bf .int [(.var 2)]) (.num w)) (.num x)) (.bin .mul (.num y) (.var 1))) (.num z))]) (.num p)) (.num 1))])]⟩
def potC (u w y p : Int) : Bool := decide (0 ≤ u) && decide (u < 4294967296) && decide (0 < w) && decide (w ≤ 4294967296) && decide (0 ≤ y) && decide (y < 4294967296) && decide (0 < p) && decide (p < 4294967295)
theorem pot_ok {G : Gam} {u v w x y z p : Int} (hG : G.fns "_law_pot" = some (potFd u v w x y z p)) (hc : potC u w y p = true) (ns : List Int) (i : Nat) (s : Sto) (hs : Pots s) (k : Nat) :
    ∃ s', callF G (k + 1) "_law_pot" [.scr ns, .dat (.int i)] s = .ok (.ref s.length) s' ∧ Pot s.length s' := by
  simp only [potC, Bool.and_eq_true, decide_eq_true_eq] at hc
  obtain ⟨⟨⟨⟨⟨⟨⟨hu0, hu1⟩, hw0⟩, hw1⟩, hy0⟩, hy1⟩, hp0⟩, hp1⟩ := hc
  rw [cal_of hG rfl]
  have hz : ∀ c : Int, mulOk (c % w) x = true := fun c => mulOk_l (Int.emod_nonneg _ (by omega)) (by have := Int.emod_lt_of_pos c hw0; omega)
  have hy := mulOk_l (j := (i : Int)) hy0 hy1
  have hu := mulOk_l (j := (i : Int)) hu0 hu1
  suffices h : ∀ c : Int, ∀ η, η = start 3 [.scr ns, .dat (.int i)] → EV (callF G k) G (.ife (.cmp .lt (.var 1) (.bf .len [(.var 0)])) (.bf .abs [(.idx (.var 0) (.var 1))]) (.bin .add (.bin .mul (.num u) (.var 1)) (.num v))) η s = .ok (.dat (.int c)) s →
      ∃ s', fin (execs (callF G k) G (potFd u v w x y z p).body η s) = .ok (.ref s.length) s' ∧ Pot s.length s' by
    by_cases hi : i < ns.length
    · refine h (if ns[i] < 0 then -ns[i] else ns[i]) _ rfl ?_
      simp [vwF, ixN, hi]
    · refine h (u * i + v) _ rfl ?_
      simp [vwF, ixN, hi, hu]
  intro c η hη e
  refine ⟨s ++ [.lst [.int (if c - 10 ^ 18 > 0 then c - 10 ^ 18 else 0), .int ((c % w * x + y * i + z) % p + 1)]], ?_, hs.push ?_ ?_⟩
  · subst hη
    simp only [potFd, x_cons, x_asg, e, RS.of_ok]
    simp [vwF, hz, hy, hp0, hw0]
  · have := Int.emod_nonneg (c % w * x + y * i + z) (b := p) (by omega); omega
  · have := Int.emod_lt_of_pos (c % w * x + y * i + z) hp0; omega

def pickFd : Fd := ⟨["pot", "some"], 2, false, [
    .ret (.idx (.var 1) (.call "_law_draw" [(.var 0), (.bf .len [(.var 1)])]))]⟩
theorem pick_ok {G : Gam} {p q m r t : Int} (hG : G.fns "_law_draw" = some (drawFd p q m r t)) (hc : drawC m r t = true) (hG2 : G.fns "_law_pick" = some pickFd) {n : Nat} {s : Sto} (hp : Pot n s) {xs : List PyData} (h0 : xs ≠ []) (h1 : xs.length < 1073741824) (k : Nat) :
    ∃ d s', callF G (k + 2) "_law_pick" [.ref n, .dat (.list xs)] s = .ok (.dat d) s' ∧ Pot n s' ∧ d ∈ xs := by
  have hl : 0 < xs.length := List.length_pos_iff.mpr h0
  obtain ⟨j, s', e, hp', hj0, hj1⟩ := draw_ok hG hc hp (many := xs.length) (by omega) (by omega) k
  have hj : j.toNat < xs.length := by omega
  refine ⟨xs[j.toNat], s', ?_, hp', List.getElem_mem _⟩
  rw [cal_of hG2 rfl]
  have h2 : callF G (k + 1) "_law_draw" [.ref n, .dat (.int xs.length)] s = .ok (.dat (.int j)) s' := e
  simp [pickFd, h2, ixN, hj0, hj1, hj]
end Y
end Z
end

section
/-! The end of a law: all over the pots. -/
namespace Z
namespace Y
open PySem
def lawFd : Fd := ⟨["script"], 2, true, [
    .ret (.bf .all [(.comp (.call "_law_right" [(.call "_law_pot" [(.var 0), (.var 1)])]) (.nm 1) .rng [(.bf .max [(.num 1), (.bf .min [(.num 2), (.bf .len [(.var 0)])])])] [])])]⟩
theorem all_true : ∀ {ys : List PyData}, (∀ y ∈ ys, y = .bool true) → ∃ l, boolsOf ys = some l ∧ allB l = true
  | [], _ => ⟨[], rfl, rfl⟩
  | y :: ys, h => by
    obtain ⟨l, e, h2⟩ := all_true fun z hz => h z (List.mem_cons_of_mem _ hz)
    cases h y (List.mem_cons_self ..)
    exact ⟨true :: l, by simp [boolsOf, e], by simpa [allB] using h2⟩
theorem law_all {G : Gam} (hG : G.fns "law" = some lawFd) {u v w x y z p : Int} (hP : G.fns "_law_pot" = some (potFd u v w x y z p)) (hc : potC u w y p = true) {k : Nat}
    (hr : ∀ n s, Pot n s → ∃ s', callF G (k + 1) "_law_right" [.ref n] s = .ok (.dat (.bool true)) s' ∧ Pots s') (ns : List Int) : ∃ s, callF G (k + 2) "law" [.scr ns] [] = .ok (.dat (.bool true)) s := by
  obtain ⟨c, hc0, hc1, hc2⟩ : ∃ c : Int, c = (if (if (ns.length : Int) < 2 then (ns.length : Int) else 2) > 1 then (if (ns.length : Int) < 2 then (ns.length : Int) else 2) else 1) ∧ 1 ≤ c ∧ c ≤ 2 := by
    refine ⟨_, rfl, ?_, ?_⟩ <;> split <;> omega
  obtain ⟨ys, s', e, _, l, q⟩ := cgo_st (f := ETurn (callF G (k + 1)) G (.nm 1) [] (.call "_law_right" [(.call "_law_pot" [(.var 0), (.var 1)])]) [some (.scr ns), none]) (I := Pots) (P := fun y => y = .bool true) (rngL 0 c.toNat)
    (fun d hd s hs => by
      obtain ⟨i, _, rfl⟩ := List.mem_map.mp hd
      obtain ⟨s1, e1, p1⟩ := pot_ok hP hc ns i s hs k
      obtain ⟨s2, e2, q2⟩ := hr s.length s1 p1
      exact ⟨.bool true, s2, by simp [turn_eq, e1, e2], q2, rfl⟩) [] (fun _ h => nomatch h)
  obtain ⟨l2, e2, h2⟩ := all_true q
  refine ⟨s', ?_⟩
  have hr1 : rngOk 0 c = true := by
    simp only [rngOk, Bool.and_eq_true, decide_eq_true_eq]
    refine ⟨⟨⟨⟨by omega, by omega⟩, by omega⟩, by omega⟩, by omega⟩
  have hb : big (rngL 0 c.toNat).length = true := by
    have : (rngL 0 c.toNat).length ≤ 2 := by simp [rngL]; omega
    exact decide_eq_true (Nat.le_trans this (by decide +kernel))
  rw [cal_of hG rfl]
  have hc0' : (if 1 < (if (ns.length : Int) < 2 then (ns.length : Int) else 2) then (if (ns.length : Int) < 2 then (ns.length : Int) else 2) else 1) = c := hc0.symm
  simp [lawFd]
  rw [hc0']
  simp [hr1, hb, e, e2, h2]
end Y
end Z
end

section
set_option maxRecDepth 100000
set_option maxHeartbeats 4000000
/-! The program's looks at numbers, tuples, offices. -/
namespace Z
open PySem
namespace Y
namespace P
def f_is_integer : Fd := ⟨["value"], 1, false, [
    .ret (.an [(.isi (.var 0) [.int] false), (.nt (.isi (.var 0) [.bool] false))])]⟩
def f_is_within : Fd := ⟨["value", "least", "most"], 3, false, [
    .ret (.an [(.call "is_integer" [(.var 0)]), (.ch .le .le (.var 1) (.var 0) (.var 2))])]⟩
def f_is_tuple : Fd := ⟨["value", "many"], 2, false, [
    .ret (.an [(.isi (.var 0) [.tuple] false), (.cmp .eq (.bf .len [(.var 0)]) (.var 1))])]⟩
def f_is_deed : Fd := ⟨["boards", "value"], 2, false, [
    .ife (.or [(.nt (.isi (.var 1) [.tuple] false)), (.cmp .nin (.bf .len [(.var 1)]) (.tup [(.num 1), (.num 3)])), (.nt (.isi (.idx (.var 1) (.num 0)) [.str] false))]) [.ret (.bl false)] [],
    .ife (.cmp .eq (.idx (.var 1) (.num 0)) (.glob "REST")) [.ret (.cmp .eq (.bf .len [(.var 1)]) (.num 1))] [],
    .ife (.or [(.cmp .nin (.idx (.var 1) (.num 0)) (.tup [(.glob "READ"), (.glob "WRITE")])), (.cmp .ne (.bf .len [(.var 1)]) (.num 3)), (.nt (.call "is_within" [(.idx (.var 1) (.num 1)), (.num 0), (.bin .sub (.bf .len [(.var 0)]) (.num 1))]))]) [.ret (.bl false)] [],
    .ret (.call "is_within" [(.idx (.var 1) (.num 2)), (.num 0), (.bin .sub (.idx (.var 0) (.idx (.var 1) (.num 1))) (.num 1))])]⟩
def f_is_step : Fd := ⟨["boards", "states", "value"], 3, false, [
    .ife (.or [(.nt (.call "is_tuple" [(.var 2), (.num 4)])), (.nt (.isi (.idx (.var 2) (.num 0)) [.str] false)), (.cmp .ne (.idx (.var 2) (.num 0)) (.glob "STEP"))]) [.ret (.bl false)] [],
    .ret (.an [(.call "is_within" [(.idx (.var 2) (.num 1)), (.num 0), (.bin .sub (.var 1) (.num 1))]), (.call "is_deed" [(.var 0), (.idx (.var 2) (.num 2))]), (.call "is_within" [(.idx (.var 2) (.num 3)), (.num 0), (.bin .sub (.var 1) (.num 1))])])]⟩
def f_is_player : Fd := ⟨["boards", "value"], 3, false, [
    .ife (.or [(.nt (.call "is_tuple" [(.var 1), (.num 2)])), (.nt (.call "is_within" [(.idx (.var 1) (.num 0)), (.num 1), (.glob "MOST_STATES")])), (.nt (.isi (.idx (.var 1) (.num 1)) [.tuple] false))]) [.ret (.bl false)] [],
    .ret (.an [(.cmp .le (.bf .len [(.idx (.var 1) (.num 1))]) (.glob "MOST_STEPS")), (.bf .all [(.comp (.call "is_step" [(.var 0), (.idx (.var 1) (.num 0)), (.var 2)]) (.nm 2) .it [(.idx (.var 1) (.num 1))] [])])])]⟩
def f_is_office_any : Fd := ⟨["value"], 6, false, [
    .ife (.or [(.nt (.call "is_tuple" [(.var 0), (.num 4)])), (.nt (.isi (.idx (.var 0) (.num 0)) [.str] false)), (.cmp .ne (.idx (.var 0) (.num 0)) (.glob "OFFICE"))]) [.ret (.bl false)] [],
    .asgT [(.nm 1), (.nm 2), (.nm 3), (.nm 4)] (.var 0),
    .ife (.or [(.nt (.isi (.var 2) [.tuple] false)), (.nt (.ch .le .le (.num 1) (.bf .len [(.var 2)]) (.glob "MOST_BOARDS")))]) [.ret (.bl false)] [],
    .ife (.nt (.bf .all [(.comp (.call "is_within" [(.var 5), (.num 1), (.glob "MOST_NOTES")]) (.nm 5) .it [(.var 2)] [])])) [.ret (.bl false)] [],
    .ret (.an [(.call "is_player" [(.var 2), (.var 3)]), (.call "is_player" [(.var 2), (.var 4)])])]⟩
structure Basics (G : Gam) : Prop where
  is_integer : G.fns "is_integer" = some f_is_integer
  is_within : G.fns "is_within" = some f_is_within
  is_tuple : G.fns "is_tuple" = some f_is_tuple
  is_deed : G.fns "is_deed" = some f_is_deed
  is_step : G.fns "is_step" = some f_is_step
  is_player : G.fns "is_player" = some f_is_player
  is_office_any : G.fns "is_office_any" = some f_is_office_any
  c_rest : G.cst "REST" = some (.str "rest")
  c_read : G.cst "READ" = some (.str "read")
  c_write : G.cst "WRITE" = some (.str "write")
  c_step : G.cst "STEP" = some (.str "step")
  c_states : G.cst "MOST_STATES" = some (.int 6)
  c_steps : G.cst "MOST_STEPS" = some (.int 12)
  c_boards : G.cst "MOST_BOARDS" = some (.int 2)
  c_notes : G.cst "MOST_NOTES" = some (.int 4)
  c_office : G.cst "OFFICE" = some (.str "office")
variable {G : Gam}
def isI : PyData → Bool
  | .int _ => true
  | _ => false
theorem is_integer (B : Basics G) (k : Nat) (v : PyData) (s : Sto) : callF G (k + 1) "is_integer" [.dat v] s = .ok (.dat (.bool (isI v))) s := by
  rw [cal_of B.is_integer rfl]
  cases v <;> simp [f_is_integer, isI]
def wIn (a b : Int) : PyData → Bool
  | .int i => decide (a ≤ i) && decide (i ≤ b)
  | _ => false
theorem is_within (B : Basics G) (k : Nat) (v : PyData) (a b : Int) (s : Sto) : callF G (k + 2) "is_within" [.dat v, .dat (.int a), .dat (.int b)] s = .ok (.dat (.bool (wIn a b v))) s := by
  rw [cal_of B.is_within rfl]
  cases v <;> simp [f_is_within, isI, is_integer B, wIn]
  split <;> simp [*]
theorem is_tuple (B : Basics G) (k : Nat) (v : PyData) (n : Int) (s : Sto) : callF G (k + 1) "is_tuple" [.dat v, .dat (.int n)] s = .ok (.dat (.bool (match v with | .tuple xs => decide ((xs.length : Int) = n) | _ => false))) s := by
  rw [cal_of B.is_tuple rfl]
  cases v <;> simp [f_is_tuple]

/-- the boards as data -/
def bD (bs : List Int) : PyData := .tuple (bs.map .int)
def wDeed (bs : List Int) : PyData → Bool
  | .tuple [.str w] => decide (w = "rest")
  | .tuple [.str w, .int i, y] => (decide (w = "read") || decide (w = "write")) && (wIn 0 (bs.length - 1) (.int i) && wIn 0 ((bs[i.toNat]?).getD 0 - 1) y)
  | _ => false
theorem ne_rr : ¬ (Str.ofString "rest" = Str.ofString "read") := by decide +kernel
theorem ne_rw : ¬ (Str.ofString "rest" = Str.ofString "write") := by decide +kernel
theorem idx_in {bs : List Int} {i : Int} (h0 : 0 ≤ i) (h1 : i ≤ (bs.length : Int) - 1) : ∃ b, bs[i.toNat]? = some b ∧ ((ixN bs.length i).bind fun j => Option.map PyData.int bs[j]?) = some (.int b) := by
  have hl : i.toNat < bs.length := by omega
  refine ⟨bs[i.toNat], by simp [hl], ?_⟩
  rw [ixN_pos h0 (by omega)]
  simp [hl]
theorem is_deed (B : Basics G) (k : Nat) (bs : List Int) (v : PyData) (s : Sto) : callF G (k + 3) "is_deed" [.dat (bD bs), .dat v] s = .ok (.dat (.bool (wDeed bs v))) s := by
  rw [cal_of B.is_deed rfl]
  match v with
  | .none | .bool _ | .int _ | .str _ | .list _ | .dict _ => simp [f_is_deed, wDeed, bD]
  | .tuple [] => simp [f_is_deed, wDeed, bD]
  | .tuple [x] =>
    cases x <;> simp [f_is_deed, wDeed, bD, ixN, glob_eq B.c_rest, glob_eq B.c_read, glob_eq B.c_write]
    rename_i w
    by_cases h : w = Str.ofString "rest" <;> simp [h]
  | .tuple [x, y] => simp [f_is_deed, wDeed, bD, ixN, B.c_rest, B.c_read, B.c_write]
  | .tuple [x, y, z] =>
    cases x <;> simp [f_is_deed, wDeed, bD, ixN, glob_eq B.c_rest, glob_eq B.c_read, glob_eq B.c_write, is_within B]
    rename_i w
    by_cases h : w = Str.ofString "rest"
    · subst h
      cases y <;> simp [ne_rr, ne_rw, wDeed]
    by_cases h2 : ¬Str.ofString "read" = w ∧ ¬Str.ofString "write" = w
    · obtain ⟨h3, h4⟩ := h2
      have h3' : ¬ w = Str.ofString "read" := fun e => h3 e.symm
      have h4' : ¬ w = Str.ofString "write" := fun e => h4 e.symm
      cases y <;> simp [h, h3, h4, h3', h4', wDeed]
    have h3 : (decide (w = Str.ofString "read") || decide (w = Str.ofString "write")) = true := by
      simp only [Bool.or_eq_true, decide_eq_true_eq]
      by_cases e : Str.ofString "read" = w
      · exact .inl e.symm
      · exact .inr (Classical.byContradiction fun e2 => h2 ⟨e, fun e3 => e2 e3.symm⟩)
    cases y <;> simp only [h, h2, wDeed, h3, if_false, Bool.true_and, if_neg, not_false_eq_true]
    case int i =>
      by_cases h5 : wIn 0 (bs.length - 1) (.int i) = true
      · have h6 : 0 ≤ i ∧ i ≤ (bs.length : Int) - 1 := by simpa [wIn] using h5
        obtain ⟨b, e1, e2⟩ := idx_in h6.1 h6.2
        simp [h5, e1, e2, is_within B]
      · simp [h5]
    all_goals simp [wIn]
  | .tuple (x :: y :: z :: w :: r) =>
    have e1 : ¬ (1 = (r.length : Int) + 1 + 1 + 1 + 1) := by omega
    have e2 : ¬ (3 = (r.length : Int) + 1 + 1 + 1 + 1) := by omega
    cases x <;> simp [f_is_deed, wDeed, bD, ixN, e1, e2]

def wStep (bs : List Int) (n : Int) : PyData → Option Str
  | .tuple [.str w, b, d, e] => if w = Str.ofString "step" then (if wIn 0 (n - 1) b then (if wDeed bs d then (if wIn 0 (n - 1) e then none else some "end") else some "deed") else some "begin") else some "form"
  | _ => some "form"
def oStr : Option Str → PyData
  | none => .none
  | some w => .str w
theorem is_step (B : Basics G) (k : Nat) (bs : List Int) (n : Int) (v : PyData) (s : Sto) : callF G (k + 4) "is_step" [.dat (bD bs), .dat (.int n), .dat v] s = .ok (.dat (.bool (wStep bs n v).isNone)) s := by
  rw [cal_of B.is_step rfl]
  match v with
  | .none | .bool _ | .int _ | .str _ | .list _ | .dict _ => simp [f_is_step, wStep, is_tuple B]
  | .tuple [] | .tuple [x] | .tuple [x, y] | .tuple [x, y, z] => simp [f_is_step, wStep, is_tuple B]
  | .tuple (x :: y :: z :: w :: u :: r) =>
    have e2 : ¬ ((r.length : Int) + 1 + 1 + 1 + 1 + 1 = 4) := by omega
    simp [f_is_step, wStep, is_tuple B, e2]
  | .tuple [x, b, d, e] =>
    cases x <;> simp [f_is_step, wStep, is_tuple B, ixN, glob_eq B.c_step, is_within B, is_deed B]
    rename_i w
    by_cases h : w = Str.ofString "step"
    · cases h1 : wIn 0 (n - 1) b <;> cases h2 : wDeed bs d <;> cases h3 : wIn 0 (n - 1) e <;> simp [h]
    · simp [h]
/-- the first one with a flaw -/
def firstF (f : PyData → Option Str) : Nat → List PyData → Option (Nat × Str)
  | _, [] => none
  | k, x :: r => match f x with
    | some w => some (k, w)
    | none => firstF f (k + 1) r
theorem first_all (f : PyData → Option Str) : ∀ (xs : List PyData) (k : Nat), (firstF f k xs).isNone = xs.all fun x => (f x).isNone
  | [], _ => rfl
  | x :: r, k => by
    simp only [firstF, List.all_cons]
    cases h : f x with
    | none => simpa using first_all f r (k + 1)
    | some w => rfl
def pairF (who : Str) : Option (Nat × Str) → PyData
  | none => .none
  | some (k, w) => .tuple [.str who, .int k, .str w]
def wPlay (bs : List Int) (who : Str) : PyData → PyData
  | .tuple [n, st] => if wIn 1 6 n then (match n, st with
      | .int n, .tuple xs => if xs.length ≤ 12 then pairF who (firstF (wStep bs n) 0 xs) else .tuple [.str who, .str "steps"]
      | _, _ => .tuple [.str who, .str "steps"]) else .tuple [.str who, .str "states"]
  | _ => .tuple [.str who, .str "form"]
def isNo : PyData → Bool
  | .none => true
  | _ => false
@[simp] theorem isNo_n : isNo .none = true := rfl
@[simp] theorem isNo_t (l : List PyData) : isNo (.tuple l) = false := rfl
@[simp] theorem isNo_s (l : Str) : isNo (.str l) = false := rfl
theorem isNo_pair (who : Str) (o : Option (Nat × Str)) : isNo (pairF who o) = o.isNone := by cases o <;> rfl
theorem big_of {n : Nat} (h : n ≤ 2 ^ 20) : big n = true := by
  exact decide_eq_true (Nat.le_trans h (by decide +kernel))
theorem is_player (B : Basics G) (k : Nat) (bs : List Int) (who : Str) (v : PyData) (s : Sto) : callF G (k + 5) "is_player" [.dat (bD bs), .dat v] s = .ok (.dat (.bool (isNo (wPlay bs who v)))) s := by
  rw [cal_of B.is_player rfl]
  match v with
  | .none | .bool _ | .int _ | .str _ | .list _ | .dict _ => simp [f_is_player, wPlay, is_tuple B, isNo]
  | .tuple [] | .tuple [x] => simp [f_is_player, wPlay, is_tuple B, isNo]
  | .tuple (x :: y :: z :: r) =>
    have e2 : ¬ ((r.length : Int) + 1 + 1 + 1 = 2) := by omega
    simp [f_is_player, wPlay, is_tuple B, e2, isNo]
  | .tuple [n, st] =>
    cases h : wIn 1 6 n
    · simp [f_is_player, wPlay, is_tuple B, ixN, glob_eq B.c_states, is_within B, h, isNo]
    · cases n with
      | int n =>
        cases st with
        | tuple xs =>
          by_cases hl : xs.length ≤ 12
          · have hl' : (xs.length : Int) ≤ 12 := by omega
            have hc : cgo (ETurn (callF G (k + 4)) G (.nm 2) [] (.call "is_step" [(.var 0), (.idx (.var 1) (.num 0)), (.var 2)]) [some (.dat (bD bs)), some (.dat (.tuple [.int n, .tuple xs])), none]) xs s = .ok (xs.map fun x => .bool (wStep bs n x).isNone) s :=
              cgo_map _ xs fun x _ => by simp [turn_eq, ixN, is_step B]
            simp [f_is_player, wPlay, is_tuple B, ixN, glob_eq B.c_states, glob_eq B.c_steps, is_within B, h, hl, hl', hc, big_of (n := xs.length) (by omega), boolsOf_map, allB_map, isNo_pair, first_all]
          · have hl' : ¬ (xs.length : Int) ≤ 12 := by omega
            simp [f_is_player, wPlay, is_tuple B, ixN, glob_eq B.c_states, glob_eq B.c_steps, is_within B, h, hl, hl', isNo]
        | _ => simp [f_is_player, wPlay, is_tuple B, ixN, glob_eq B.c_states, is_within B, h, isNo]
      | _ => simp [wIn] at h
def allIn : List PyData → Option (List Int)
  | [] => some []
  | x :: r => match x with
    | .int i => if 1 ≤ i ∧ i ≤ 4 then (allIn r).map (i :: ·) else none
    | _ => none
def badAt : Nat → List PyData → Nat
  | k, [] => k
  | k, x :: r => if wIn 1 4 x then badAt (k + 1) r else k
/-- the boards, or their flaw -/
def wBoards : PyData → PyData ⊕ List Int
  | .tuple xs => if 1 ≤ xs.length ∧ xs.length ≤ 2 then (match allIn xs with
    | some bs => .inr bs
    | none => .inl (.tuple [.str "board", .int (badAt 0 xs)])) else .inl (.tuple [.str "boards"])
  | _ => .inl (.tuple [.str "boards"])
theorem allIn_some : ∀ {xs : List PyData} {bs : List Int}, allIn xs = some bs → xs = bs.map .int
  | [], bs, h => by cases h; rfl
  | x :: r, bs, h => by
    cases x with
    | int i =>
      simp only [allIn] at h
      split at h
      · cases h2 : allIn r with
        | none => rw [h2] at h; cases h
        | some l =>
          rw [h2] at h
          cases h
          simp [allIn_some h2]
      · cases h
    | _ => simp [allIn] at h
theorem allIn_all : ∀ (xs : List PyData), (allIn xs).isSome = xs.all (wIn 1 4)
  | [] => rfl
  | x :: r => by
    cases x with
    | int i =>
      simp only [allIn, List.all_cons, wIn, ← allIn_all r]
      by_cases h : 1 ≤ i ∧ i ≤ 4
      · rw [if_pos h]
        cases allIn r <;> simp [h.1, h.2]
      · rw [if_neg h]
        have : (decide (1 ≤ i) && decide (i ≤ 4)) = false := by
          rw [Bool.eq_false_iff]
          intro e
          exact h (by simpa using e)
        rw [this]; rfl
    | _ => simp [allIn, wIn]
def isIn : PyData ⊕ List Int → Bool
  | .inl _ => false
  | .inr _ => true
def flawB : PyData ⊕ List Int → PyData
  | .inl d => d
  | .inr _ => .none
def wOff : PyData → PyData
  | .tuple [.str w, b, p, q] => if w = Str.ofString "office" then (match wBoards b with
    | .inl f => f
    | .inr bs => if isNo (wPlay bs "head" p) then wPlay bs "helper" q else wPlay bs "head" p) else .tuple [.str "form"]
  | _ => .tuple [.str "form"]
theorem wB_inl {v f : PyData} (h : wBoards v = .inl f) : isNo f = false := by
  unfold wBoards at h
  repeat' split at h
  all_goals first | (cases h; rfl) | cases h
theorem wB_inr {v : PyData} {bs : List Int} (h : wBoards v = .inr bs) : v = bD bs := by
  unfold wBoards at h
  repeat' split at h
  all_goals first | cases h
  rename_i h2
  rw [allIn_some h2]; rfl
theorem is_office_any (B : Basics G) (k : Nat) (v : PyData) (s : Sto) : callF G (k + 6) "is_office_any" [.dat v] s = .ok (.dat (.bool (isNo (wOff v)))) s := by
  rw [cal_of B.is_office_any rfl]
  match v with
  | .none | .bool _ | .int _ | .str _ | .list _ | .dict _ => simp [f_is_office_any, wOff, is_tuple B]
  | .tuple [] | .tuple [x] | .tuple [x, y] | .tuple [x, y, z] => simp [f_is_office_any, wOff, is_tuple B]
  | .tuple (x :: y :: z :: w :: u :: r) =>
    have e2 : ¬ ((r.length : Int) + 1 + 1 + 1 + 1 + 1 = 4) := by omega
    simp [f_is_office_any, wOff, is_tuple B, e2]
  | .tuple [x, b, p, q] =>
    cases x <;> simp [f_is_office_any, wOff, is_tuple B, ixN, glob_eq B.c_office]
    case str w =>
      by_cases h : w = Str.ofString "office"
      · cases b <;> simp [h, wBoards]
        case tuple xs =>
          by_cases hl : 1 ≤ xs.length ∧ xs.length ≤ 2
          · have hl1 : (1 : Int) ≤ xs.length := by omega
            have hl2 : (xs.length : Int) ≤ 2 := by omega
            have hc : cgo (ETurn (callF G (k + 5)) G (.nm 5) [] (.call "is_within" [(.var 5), (.num 1), (.glob "MOST_NOTES")]) [some (.dat (.tuple [.str w, .tuple xs, p, q])), some (.dat (.str w)), some (.dat (.tuple xs)), some (.dat p), some (.dat q), none]) xs s = .ok (xs.map fun x => .bool (wIn 1 4 x)) s :=
              cgo_map _ xs fun x _ => by simp [turn_eq, ixN, is_within B, glob_eq B.c_notes]
            rw [h] at hc
            have h3 := allIn_all xs
            cases ha : allIn xs with
            | none =>
              rw [ha] at h3
              rw [← allB_map] at h3
              have h3 : allB (xs.map (wIn 1 4)) = false := h3.symm
              simp [hl1, hl2, hl, glob_eq B.c_boards, hc, big_of (n := xs.length) (by omega), boolsOf_map, h3]
            | some bs =>
              rw [ha] at h3
              rw [← allB_map] at h3
              have h3 : allB (xs.map (wIn 1 4)) = true := h3.symm
              simp [hl1, hl2, hl, glob_eq B.c_boards, hc, big_of (n := xs.length) (by omega), boolsOf_map, h3]
              cases allIn_some ha
              have h4 := is_player B k bs "head" p s
              have h5 := is_player B k bs "helper" q s
              simp only [bD] at h4 h5
              cases hp : isNo (wPlay bs "head" p) <;> simp [h4, h5, hp]
          · have hl' : ¬ ((1 : Int) ≤ xs.length ∧ (xs.length : Int) ≤ 2) := by omega
            by_cases h1 : (1 : Int) ≤ xs.length
            · have h2 : ¬ (xs.length : Int) ≤ 2 := fun h => hl' ⟨h1, h⟩
              simp [glob_eq B.c_boards, h1, h2, if_neg hl]
            · simp [glob_eq B.c_boards, h1, if_neg hl]
      · simp [h]
    all_goals simp 
theorem isNon_dat (d : PyData) : isNon (.dat d) = isNo d := by cases d <;> rfl
end P
end Y
end Z
end

section
set_option maxRecDepth 100000
set_option maxHeartbeats 4000000
/-! Offices as such, and the laws' drawn ones. -/
namespace Z
open PySem
namespace Y
open P
inductive Deed where
  | rest
  | read (b n : Nat)
  | write (b n : Nat)
  deriving DecidableEq
structure Step where
  b : Nat
  d : Deed
  e : Nat
  deriving DecidableEq
structure Play where
  n : Nat
  st : List Step
structure Off where
  bs : List Nat
  hd : Play
  hp : Play
def nD (n : Nat) : PyData := .int n
def Deed.D : Deed → PyData
  | .rest => .tuple [.str "rest"]
  | .read b n => .tuple [.str "read", .int b, .int n]
  | .write b n => .tuple [.str "write", .int b, .int n]
def Step.D (s : Step) : PyData := .tuple [.str "step", .int s.b, s.d.D, .int s.e]
def Play.D (p : Play) : PyData := .tuple [.int p.n, .tuple (p.st.map Step.D)]
def nsD (bs : List Nat) : PyData := .tuple (bs.map nD)
def Off.D (o : Off) : PyData := .tuple [.str "office", nsD o.bs, o.hd.D, o.hp.D]
def Deed.ok (bs : List Nat) : Deed → Prop
  | .rest => True
  | .read b n => ∃ m, bs[b]? = some m ∧ n < m
  | .write b n => ∃ m, bs[b]? = some m ∧ n < m
structure Step.ok (bs : List Nat) (n : Nat) (s : Step) : Prop where
  b : s.b < n
  d : s.d.ok bs
  e : s.e < n
structure Play.ok (bs : List Nat) (p : Play) : Prop where
  n0 : 1 ≤ p.n
  n1 : p.n ≤ 6
  l : p.st.length ≤ 12
  st : ∀ s ∈ p.st, s.ok bs p.n
structure Off.ok (o : Off) : Prop where
  l0 : 1 ≤ o.bs.length
  l1 : o.bs.length ≤ 2
  bs : ∀ b ∈ o.bs, 1 ≤ b ∧ b ≤ 4
  hd : o.hd.ok o.bs
  hp : o.hp.ok o.bs
theorem nsD_bD (bs : List Nat) : nsD bs = bD (bs.map fun b : Nat => (b : Int)) := by simp [nsD, bD, nD, Function.comp_def]

/-! ### such an office is one for the program -/
theorem wIn_nat {a b : Int} {i : Nat} (h1 : a ≤ i) (h2 : (i : Int) ≤ b) : wIn a b (.int i) = true := by simp [wIn, h1, h2]
theorem deed_w {bs : List Nat} {d : Deed} (h : d.ok bs) : wDeed (bs.map fun b : Nat => (b : Int)) d.D = true := by
  have hr : ¬ (Str.ofString "write" = Str.ofString "read") := by decide +kernel
  cases d with
  | rest => simp [Deed.D, wDeed]
  | read b n =>
    obtain ⟨m, h1, h2⟩ := h
    obtain ⟨h3, _⟩ := List.getElem?_eq_some_iff.mp h1
    simp only [Deed.D, wDeed]
    rw [wIn_nat (by omega) (by simp; omega)]
    simp [h1, wIn]; omega
  | write b n =>
    obtain ⟨m, h1, h2⟩ := h
    obtain ⟨h3, _⟩ := List.getElem?_eq_some_iff.mp h1
    simp only [Deed.D, wDeed]
    rw [wIn_nat (by omega) (by simp; omega)]
    simp [h1, wIn]; omega
theorem step_w {bs : List Nat} {n : Nat} {s : Step} (h : s.ok bs n) : wStep (bs.map fun b : Nat => (b : Int)) n s.D = none := by
  have h1 := h.b
  have h2 := h.e
  simp only [Step.D, wStep, deed_w h.d]
  rw [wIn_nat (by omega) (by omega), wIn_nat (by omega) (by omega)]
  simp
theorem first_none {f : PyData → Option Str} : ∀ (xs : List PyData) (k : Nat), (∀ x ∈ xs, f x = none) → firstF f k xs = none
  | [], _, _ => rfl
  | x :: r, k, h => by simp only [firstF, h x (List.mem_cons_self ..)]; exact first_none r (k + 1) fun y hy => h y (List.mem_cons_of_mem _ hy)
theorem play_w {bs : List Nat} {who : Str} {p : Play} (h : p.ok bs) : wPlay (bs.map fun b : Nat => (b : Int)) who p.D = .none := by
  have h1 := h.n0
  have h2 := h.n1
  have h3 := h.l
  simp only [Play.D, wPlay]
  rw [wIn_nat (by omega) (by omega), first_none]
  · simp [h3, pairF]
  · intro x hx
    obtain ⟨s, hs, rfl⟩ := List.mem_map.mp hx
    exact step_w (h.st s hs)
theorem allIn_ok : ∀ {bs : List Nat}, (∀ b ∈ bs, 1 ≤ b ∧ b ≤ 4) → allIn (bs.map nD) = some (bs.map fun b : Nat => (b : Int))
  | [], _ => rfl
  | b :: r, h => by
    have h1 := h b (List.mem_cons_self ..)
    simp only [List.map_cons, allIn, nD]
    rw [if_pos (by omega)]
    have h2 := allIn_ok (bs := r) fun c hc => h c (List.mem_cons_of_mem _ hc)
    simp only [h2]; rfl
theorem off_w {o : Off} (h : o.ok) : wOff o.D = .none := by
  have h1 := h.l0
  have h2 := h.l1
  simp only [Off.D, wOff, nsD, wBoards, List.length_map, h1, h2, and_self, if_true, allIn_ok h.bs, play_w h.hd, play_w h.hp, isNo]
theorem is_office_ok {G : Gam} (B : Basics G) (k : Nat) {o : Off} (h : o.ok) (s : Sto) : callF G (k + 6) "is_office_any" [.dat o.D] s = .ok (.dat (.bool true)) s := by
  rw [is_office_any B, off_w h]; rfl

/-! ### how large -/
theorem gd_int {i : Int} {k n : Nat} (h1 : -999999999999 ≤ i) (h2 : i ≤ 999999999999) : Ok k n (.int i) := ⟨at_int h1 h2, by simp [PyData.depth], by simp [PyData.bulk]⟩
theorem gd_non {k n : Nat} : Ok k n .none := ⟨at_non, by simp [PyData.depth], by simp [PyData.bulk]⟩
theorem gd_bl {k n : Nat} (b : Bool) : Ok k n (.bool b) := ⟨at_bl b, by simp [PyData.depth], by simp [PyData.bulk]⟩
theorem gd_str {k n : Nat} {x : Str} (h : strG x = true) (hn : x.cps.size ≤ n) : Ok k n (.str x) := ⟨at_str h, by simp [PyData.depth], by simp only [PyData.bulk]; exact hn⟩
theorem gd_w {k n : Nat} {x : String} (h : strG x = true) (hn : (x : Str).cps.size ≤ n) : Ok k n (.str x) := gd_str h hn
theorem ok_deedD {bs : List Nat} (hb : ∀ b ∈ bs, b ≤ 4) (hl : bs.length ≤ 2) {d : Deed} (h : d.ok bs) : Ok 1 18 d.D := by
  have key : ∀ {b n : Nat}, (∃ m, bs[b]? = some m ∧ n < m) → b ≤ 2 ∧ n ≤ 4 := fun {b n} ⟨m, h1, h2⟩ => by
    obtain ⟨h3, h4⟩ := List.getElem?_eq_some_iff.mp h1
    have := hb m (List.mem_of_getElem? h1)
    omega
  cases d with
  | rest => exact (Ok.tup (k := 0) (n := 5) (by simpa using gd_w (by decide +kernel) (by decide +kernel))).mono (by omega) (by simp)
  | read b n =>
    have := key h
    exact (Ok.tup (k := 0) (n := 5) (by simp only [List.forall_mem_cons]; exact ⟨gd_w (by decide +kernel) (by decide +kernel), gd_int (by omega) (by omega), gd_int (by omega) (by omega), fun _ h => nomatch h⟩)).mono (by omega) (by simp)
  | write b n =>
    have := key h
    exact (Ok.tup (k := 0) (n := 5) (by simp only [List.forall_mem_cons]; exact ⟨gd_w (by decide +kernel) (by decide +kernel), gd_int (by omega) (by omega), gd_int (by omega) (by omega), fun _ h => nomatch h⟩)).mono (by omega) (by simp)
theorem ok_stepD {bs : List Nat} (hb : ∀ b ∈ bs, b ≤ 4) (hl : bs.length ≤ 2) {n : Nat} (hn : n ≤ 6) {s : Step} (h : s.ok bs n) : Ok 2 76 s.D := by
  have h1 := h.b
  have h2 := h.e
  refine (Ok.tup (k := 1) (n := 18) ?_).mono (by omega) (by simp)
  simp only [List.forall_mem_cons]
  exact ⟨gd_w (by decide +kernel) (by decide +kernel), gd_int (by omega) (by omega), ok_deedD hb hl h.d, gd_int (by omega) (by omega), fun _ h => nomatch h⟩
theorem ok_playD {bs : List Nat} (hb : ∀ b ∈ bs, b ≤ 4) (hl : bs.length ≤ 2) {p : Play} (h : p.ok bs) : Ok 4 2000 p.D := by
  have h1 := h.n1
  have h2 := h.l
  have h3 : Ok 3 924 (.tuple (p.st.map Step.D)) := (Ok.tup (k := 2) (n := 76) fun x hx => by
    obtain ⟨s, hs, rfl⟩ := List.mem_map.mp hx
    exact ok_stepD hb hl h1 (h.st s hs)).mono (by omega) (by rw [List.length_map]; omega)
  refine (Ok.tup (k := 3) (n := 924) ?_).mono (by omega) (by simp)
  simp only [List.forall_mem_cons]
  exact ⟨gd_int (by omega) (by omega), h3, fun _ h => nomatch h⟩
theorem ok_nsD {bs : List Nat} (hb : ∀ b ∈ bs, b ≤ 999999) : Ok 1 bs.length (nsD bs) := by
  refine (Ok.tup (k := 0) (n := 0) fun x hx => ?_).mono (by omega) (by simp)
  obtain ⟨b, h, rfl⟩ := List.mem_map.mp hx
  have := hb b h
  exact gd_int (by omega) (by omega)
theorem ok_offD {o : Off} (h : o.ok) : Ok 5 8004 o.D := by
  have hb : ∀ b ∈ o.bs, b ≤ 4 := fun b hb => (h.bs b hb).2
  have h1 := h.l1
  refine (Ok.tup (k := 4) (n := 2000) ?_).mono (by omega) (by simp)
  simp only [List.forall_mem_cons]
  exact ⟨gd_w (by decide +kernel) (by decide +kernel), (ok_nsD fun b h => by have := hb b h; omega).mono (by omega) (by omega), ok_playD hb h1 h.hd, ok_playD hb h1 h.hp, fun _ h => nomatch h⟩

/-! ### drawn ones -/
namespace P
def f_law_step : Fd := ⟨["pot", "boards", "states"], 7, true, [
    .asg 3 (.call "_law_draw" [(.var 0), (.bf .len [(.var 1)])]),
    .asg 4 (.call "_law_draw" [(.var 0), (.idx (.var 1) (.var 3))]),
    .asg 5 (.call "_law_pick" [(.var 0), (.lst [(.tup [(.txt "rest")]), (.tup [(.txt "read"), (.var 3), (.var 4)]), (.tup [(.txt "write"), (.var 3), (.var 4)]), (.tup [(.txt "write"), (.var 3), (.var 4)])])]),
    .asg 6 (.ife (.cmp .eq (.call "_law_draw" [(.var 0), (.num 2)]) (.num 0)) (.num 0) (.call "_law_draw" [(.var 0), (.var 2)])),
    .ret (.tup [(.txt "step"), (.var 6), (.var 5), (.call "_law_draw" [(.var 0), (.var 2)])])]⟩
def f_law_player : Fd := ⟨["pot", "boards", "most"], 5, true, [
    .asg 3 (.bin .add (.num 1) (.call "_law_draw" [(.var 0), (.num 3)])),
    .ret (.tup [(.var 3), (.bf .tuple [(.comp (.call "_law_step" [(.var 0), (.var 1), (.var 3)]) (.nm 4) .rng [(.call "_law_draw" [(.var 0), (.bin .add (.var 2) (.num 1))])] [])])])]⟩
def f_law_office : Fd := ⟨["pot", "most"], 4, true, [
    .asg 2 (.bf .tuple [(.comp (.bin .add (.num 2) (.call "_law_draw" [(.var 0), (.num 2)])) (.nm 3) .rng [(.call "_law_pick" [(.var 0), (.lst [(.num 1), (.num 1), (.num 2)])])] [])]),
    .ret (.tup [(.txt "office"), (.var 2), (.call "_law_player" [(.var 0), (.var 2), (.var 1)]), (.call "_law_player" [(.var 0), (.var 2), (.var 1)])])]⟩
def f_law_is_within : Fd := ⟨["value", "least", "most"], 3, false, [
    .ret (.an [(.isi (.var 0) [.int] false), (.nt (.isi (.var 0) [.bool] false)), (.ch .le .le (.var 1) (.var 0) (.var 2))])]⟩
end P
structure Draws (G : Gam) : Prop where
  drw : ∃ p q m r t, G.fns "_law_draw" = some (drawFd p q m r t) ∧ drawC m r t = true
  pck : G.fns "_law_pick" = some pickFd
theorem Draws.draw {G : Gam} (W : Draws G) {n : Nat} {s : Sto} (hp : Pot n s) {many : Nat} (h0 : 0 < many) (h1 : many < 1073741824) (k : Nat) :
    ∃ (j : Nat) (s' : Sto), callF G (k + 1) "_law_draw" [.ref n, .dat (.int many)] s = .ok (.dat (.int j)) s' ∧ Pot n s' ∧ j < many := by
  obtain ⟨p, q, m, r, t, hG, hc⟩ := W.drw
  obtain ⟨j, s', e, p', j0, j1⟩ := draw_ok hG hc hp (many := many) (by omega) (by omega) k
  refine ⟨j.toNat, s', ?_, p', by omega⟩
  rw [e, Int.toNat_of_nonneg j0]
theorem Draws.drawI {G : Gam} (W : Draws G) {n : Nat} {s : Sto} (hp : Pot n s) {many : Int} (h0 : 0 < many) (h1 : many < 1073741824) (k : Nat) :
    ∃ (j : Nat) (s' : Sto), callF G (k + 1) "_law_draw" [.ref n, .dat (.int many)] s = .ok (.dat (.int j)) s' ∧ Pot n s' ∧ (j : Int) < many := by
  obtain ⟨j, s', e, p', h⟩ := W.draw hp (many := many.toNat) (by omega) (by omega) k
  rw [Int.toNat_of_nonneg (by omega)] at e
  exact ⟨j, s', e, p', by omega⟩
theorem Draws.pick {G : Gam} (W : Draws G) {n : Nat} {s : Sto} (hp : Pot n s) {xs : List PyData} (h0 : xs ≠ []) (h1 : xs.length < 1073741824) (k : Nat) :
    ∃ d s', callF G (k + 2) "_law_pick" [.ref n, .dat (.list xs)] s = .ok (.dat d) s' ∧ Pot n s' ∧ d ∈ xs := by
  obtain ⟨p, q, m, r, t, hG, hc⟩ := W.drw
  exact pick_ok hG hc W.pck hp h0 h1 k
theorem rng_ok {j : Int} (h0 : 0 ≤ j) (h1 : j ≤ 1000000) : rngOk 0 j = true := by
  simp only [rngOk, Bool.and_eq_true, decide_eq_true_eq]
  refine ⟨⟨⟨⟨by omega, by omega⟩, by omega⟩, by omega⟩, by omega⟩
theorem rng_len (a : Int) (n : Nat) : (rngL a n).length = n := by simp [rngL]
theorem big_rng {n : Nat} (h : n ≤ 2 ^ 20) : big (rngL 0 n).length = true := by rw [rng_len]; exact big_of h
theorem idx_ns {bs : List Nat} {i : Nat} (h : i < bs.length) : ((ixN bs.length (i : Int)).bind fun j => Option.map nD bs[j]?) = some (.int bs[i]) := by
  rw [ixN_pos (by omega) (by omega)]
  simp [h, nD]
structure DrawnOffices (G : Gam) : Prop extends Draws G where
  stp : G.fns "_law_step" = some P.f_law_step
  ply : G.fns "_law_player" = some P.f_law_player
  off : G.fns "_law_office" = some P.f_law_office
section
variable {G : Gam}
theorem law_step (W : DrawnOffices G) (k : Nat) {n : Nat} {s : Sto} (hp : Pot n s) {bs : List Nat} (h0 : bs ≠ []) (hl : bs.length ≤ 2) (hb : ∀ b ∈ bs, 1 ≤ b ∧ b ≤ 4) {m : Nat} (hm : 1 ≤ m ∧ m ≤ 6) :
    ∃ (st : Step) (s' : Sto), callF G (k + 3) "_law_step" [.ref n, .dat (nsD bs), .dat (.int m)] s = .ok (.dat st.D) s' ∧ Pot n s' ∧ st.ok bs m := by
  have hl0 : 0 < bs.length := List.length_pos_iff.mpr h0
  rw [cal_of W.stp rfl]
  obtain ⟨a, s1, e1, p1, a1⟩ := W.draw hp (many := bs.length) (by omega) (by omega) (k + 1)
  have hba := hb bs[a] (List.getElem_mem a1)
  obtain ⟨c, s2, e2, p2, c1⟩ := W.draw p1 (many := bs[a]) (by omega) (by omega) (k + 1)
  obtain ⟨d, s3, e3, p3, d1⟩ := W.pick p2 (xs := [.tuple [.str "rest"], .tuple [.str "read", .int a, .int c], .tuple [.str "write", .int a, .int c], .tuple [.str "write", .int a, .int c]]) (by simp) (by simp) k
  obtain ⟨dd, rfl, hd⟩ : ∃ dd : Deed, d = dd.D ∧ dd.ok bs := by
    have hk : ∃ z, bs[a]? = some z ∧ c < z := ⟨bs[a], List.getElem?_eq_getElem a1, c1⟩
    simp only [List.mem_cons, List.not_mem_nil, or_false] at d1
    rcases d1 with rfl | rfl | rfl | rfl
    · exact ⟨.rest, rfl, trivial⟩
    · exact ⟨.read a c, rfl, hk⟩
    · exact ⟨.write a c, rfl, hk⟩
    · exact ⟨.write a c, rfl, hk⟩
  obtain ⟨f, s4, e4, p4, f1⟩ := W.draw p3 (many := 2) (by omega) (by omega) (k + 1)
  have hi := idx_ns a1
  by_cases hf : f = 0
  · subst hf
    obtain ⟨g, s5, e5, p5, g1⟩ := W.draw p4 (many := m) (by omega) (by omega) (k + 1)
    exact ⟨⟨0, dd, g⟩, s5, by simp at e4; simp [P.f_law_step, nsD, e1, hi, e2, e3, e4, e5, Step.D], p5, ⟨by simp; omega, hd, g1⟩⟩
  · obtain ⟨g, s5, e5, p5, g1⟩ := W.draw p4 (many := m) (by omega) (by omega) (k + 1)
    obtain ⟨h, s6, e6, p6, h1⟩ := W.draw p5 (many := m) (by omega) (by omega) (k + 1)
    exact ⟨⟨g, dd, h⟩, s6, by simp at e4; simp [P.f_law_step, nsD, e1, hi, e2, e3, e4, hf, e5, e6, Step.D], p6, ⟨g1, hd, h1⟩⟩
/-- what is drawn again and again -/
theorem drawn_all {α : Type} {D : α → PyData} {P : α → Prop} : ∀ {ys : List PyData}, (∀ y ∈ ys, ∃ a, y = D a ∧ P a) → ∃ l : List α, ys = l.map D ∧ (∀ a ∈ l, P a) ∧ l.length = ys.length
  | [], _ => ⟨[], rfl, (fun _ h => nomatch h), rfl⟩
  | y :: ys, h => by
    obtain ⟨a, rfl, ha⟩ := h y (List.mem_cons_self ..)
    obtain ⟨l, rfl, hl, hn⟩ := drawn_all fun z hz => h z (List.mem_cons_of_mem _ hz)
    exact ⟨a :: l, rfl, List.forall_mem_cons.mpr ⟨ha, hl⟩, by simp⟩
theorem law_player (W : DrawnOffices G) (k : Nat) {n : Nat} {s : Sto} (hp : Pot n s) {bs : List Nat} (h0 : bs ≠ []) (hl : bs.length ≤ 2) (hb : ∀ b ∈ bs, 1 ≤ b ∧ b ≤ 4) {m : Nat} (hm : m ≤ 12) :
    ∃ (p : Play) (s' : Sto), callF G (k + 4) "_law_player" [.ref n, .dat (nsD bs), .dat (.int m)] s = .ok (.dat p.D) s' ∧ Pot n s' ∧ p.ok bs ∧ p.n ≤ 3 ∧ p.st.length ≤ m := by
  rw [cal_of W.ply rfl]
  obtain ⟨a, s1, e1, p1, a1⟩ := W.draw hp (many := 3) (by omega) (by omega) (k + 2)
  obtain ⟨c, s2, e2, p2, c1⟩ := W.draw p1 (many := m + 1) (by omega) (by omega) (k + 2)
  obtain ⟨ci, hci⟩ : ∃ ci : Int, ci = (c : Int) := ⟨_, rfl⟩
  rw [← hci] at e2
  obtain ⟨ys, s3, e3, p3, l3, q3⟩ := cgo_st (f := ETurn (callF G (k + 3)) G (.nm 4) [] (.call "_law_step" [(.var 0), (.var 1), (.var 3)]) [some (.ref n), some (.dat (nsD bs)), some (.dat (.int m)), some (.dat (.int (1 + (a : Int)))), none]) (I := Pot n) (P := fun y => ∃ st : Step, y = st.D ∧ st.ok bs (1 + a)) (rngL 0 ci.toNat)
    (fun x _ s hs => by
      obtain ⟨st, s', e, p', o⟩ := law_step W k hs h0 hl hb (m := 1 + a) (by omega)
      have e : callF G (k + 3) "_law_step" [.ref n, .dat (nsD bs), .dat (.int (1 + (a : Int)))] s = .ok (.dat st.D) s' := by simpa using e
      exact ⟨st.D, s', by simp [turn_eq, e], p', st, rfl, o⟩) s2 p2
  rw [rng_len] at l3
  obtain ⟨l, rfl, hq, hn⟩ := drawn_all q3
  simp only [List.length_map] at l3 hn
  refine ⟨⟨1 + a, l⟩, s3, ?_, p3, ⟨by simp, by simp; omega, by simp; omega, hq⟩, by simp; omega, by simp; omega⟩
  have hr : rngOk 0 ci = true := rng_ok (by omega) (by omega)
  simp at e1 e2
  simp [P.f_law_player, e1, e2, e3, hr, big_rng (n := ci.toNat) (by omega), Play.D]
theorem law_office (W : DrawnOffices G) (k : Nat) {n : Nat} {s : Sto} (hp : Pot n s) {m : Nat} (hm : m ≤ 12) :
    ∃ (o : Off) (s' : Sto), callF G (k + 5) "_law_office" [.ref n, .dat (.int m)] s = .ok (.dat o.D) s' ∧ Pot n s' ∧ o.ok ∧ (∀ b ∈ o.bs, 2 ≤ b ∧ b ≤ 3) ∧ (o.hd.n ≤ 3 ∧ o.hd.st.length ≤ m) ∧ (o.hp.n ≤ 3 ∧ o.hp.st.length ≤ m) := by
  rw [cal_of W.off rfl]
  obtain ⟨d, s1, e1, p1, d1⟩ := W.pick hp (xs := [.int 1, .int 1, .int 2]) (by simp) (by simp) (k + 2)
  obtain ⟨c, rfl, c0, c1⟩ : ∃ c : Int, d = .int c ∧ 1 ≤ c ∧ c ≤ 2 := by
    simp only [List.mem_cons, List.not_mem_nil, or_false] at d1
    rcases d1 with rfl | rfl | rfl
    · exact ⟨1, rfl, by omega, by omega⟩
    · exact ⟨1, rfl, by omega, by omega⟩
    · exact ⟨2, rfl, by omega, by omega⟩
  obtain ⟨ys, s2, e2, p2, l2, q2⟩ := cgo_st (f := ETurn (callF G (k + 4)) G (.nm 3) [] (.bin .add (.num 2) (.call "_law_draw" [(.var 0), (.num 2)])) [some (.ref n), some (.dat (.int m)), none, none]) (I := Pot n) (P := fun y => ∃ b, y = nD b ∧ (2 ≤ b ∧ b ≤ 3)) (rngL 0 c.toNat)
    (fun x _ s hs => by
      obtain ⟨j, s', e, p', j1⟩ := W.draw hs (many := 2) (by omega) (by omega) (k + 3)
      have e : callF G (k + 4) "_law_draw" [.ref n, .dat (.int 2)] s = .ok (.dat (.int j)) s' := e
      exact ⟨nD (2 + j), s', by simp [turn_eq, e, nD], p', 2 + j, rfl, by omega, by omega⟩) s1 p1
  rw [rng_len] at l2
  obtain ⟨bs, rfl, hbs, hn⟩ := drawn_all q2
  simp only [List.length_map] at l2 hn
  have hb0 : bs ≠ [] := List.length_pos_iff.mp (by omega)
  have hb4 : ∀ b ∈ bs, 1 ≤ b ∧ b ≤ 4 := fun b h => by have := hbs b h; omega
  obtain ⟨p, s3, e3, p3, o3, n3⟩ := law_player W k p2 hb0 (by omega) hb4 hm
  obtain ⟨q, s4, e4, p4, o4, n4⟩ := law_player W k p3 hb0 (by omega) hb4 hm
  refine ⟨⟨bs, p, q⟩, s4, ?_, p4, ⟨by simp; omega, by simp; omega, hb4, o3, o4⟩, hbs, n3, n4⟩
  have hr : rngOk 0 c = true := rng_ok (by omega) (by omega)
  simp only [nsD] at e3 e4
  simp [P.f_law_office, e1, e2, e3, e4, hr, big_rng (n := c.toNat) (by omega), Off.D, nsD]
end
end Y
end Z
end

section
set_option maxRecDepth 100000
set_option maxHeartbeats 4000000
/-! The program's looks at standings, counted standings, goals, moves. -/
namespace Z
open PySem
namespace Y
namespace P
def f_are_rising : Fd := ⟨["values"], 3, true, [
    .ret (.bf .all [(.comp (.cmp .lt (.var 1) (.var 2)) (.tup [(.nm 1), (.nm 2)]) .zip [(.var 0), (.slc (.var 0) (.num 1) .abs)] [])])]⟩
def f_is_lot : Fd := ⟨["value", "most"], 3, false, [
    .ret (.an [(.isi (.var 0) [.tuple] false), (.bf .all [(.comp (.call "is_within" [(.var 2), (.num 0), (.var 1)]) (.nm 2) .it [(.var 0)] [])]), (.call "are_rising" [(.var 0)])])]⟩
def f_are_notes_of : Fd := ⟨["office", "value"], 4, false, [
    .ret (.an [(.call "is_tuple" [(.var 1), (.bf .len [(.idx (.var 0) (.num 1))])]), (.bf .all [(.comp (.call "is_within" [(.var 2), (.num 0), (.bin .sub (.var 3) (.num 1))]) (.tup [(.nm 2), (.nm 3)]) .zip [(.var 1), (.idx (.var 0) (.num 1))] [])])])]⟩
def f_is_lot_of : Fd := ⟨["office", "value"], 2, false, [
    .ret (.call "is_lot" [(.var 1), (.bin .sub (.idx (.idx (.var 0) (.num 3)) (.num 0)) (.num 1))])]⟩
def f_is_standing_of : Fd := ⟨["office", "value"], 2, false, [
    .ife (.or [(.nt (.call "is_tuple" [(.var 1), (.num 3)])), (.nt (.call "is_within" [(.idx (.var 1) (.num 0)), (.num 0), (.bin .sub (.idx (.idx (.var 0) (.num 2)) (.num 0)) (.num 1))]))]) [.ret (.bl false)] [],
    .ret (.an [(.call "are_notes_of" [(.var 0), (.idx (.var 1) (.num 1))]), (.call "is_lot_of" [(.var 0), (.idx (.var 1) (.num 2))]), (.cmp .inn (.num 0) (.idx (.var 1) (.num 2)))])]⟩
def f_is_goal_of : Fd := ⟨["office", "value"], 4, true, [
    .ife (.or [(.nt (.call "is_tuple" [(.var 1), (.num 3)])), (.nt (.or [(.isN (.idx (.var 1) (.num 0))), (.call "is_within" [(.idx (.var 1) (.num 0)), (.num 0), (.bin .sub (.idx (.idx (.var 0) (.num 2)) (.num 0)) (.num 1))])]))]) [.ret (.bl false)] [],
    .ife (.or [(.nt (.call "is_tuple" [(.idx (.var 1) (.num 1)), (.bf .len [(.idx (.var 0) (.num 1))])])), (.nt (.call "is_lot_of" [(.var 0), (.idx (.var 1) (.num 2))]))]) [.ret (.bl false)] [],
    .ret (.bf .all [(.comp (.or [(.isN (.var 2)), (.call "is_within" [(.var 2), (.num 0), (.bin .sub (.var 3) (.num 1))])]) (.tup [(.nm 2), (.nm 3)]) .zip [(.idx (.var 1) (.num 1)), (.idx (.var 0) (.num 1))] [])])]⟩
def f_is_move_of : Fd := ⟨["office", "value"], 2, false, [
    .ife (.or [(.nt (.call "is_tuple" [(.var 1), (.num 2)])), (.nt (.isi (.idx (.var 1) (.num 0)) [.str] false))]) [.ret (.bl false)] [],
    .ife (.cmp .eq (.idx (.var 1) (.num 0)) (.glob "HEAD")) [.ret (.call "is_within" [(.idx (.var 1) (.num 1)), (.num 0), (.bin .sub (.bf .len [(.idx (.idx (.var 0) (.num 2)) (.num 1))]) (.num 1))])] [],
    .ret (.an [(.cmp .eq (.idx (.var 1) (.num 0)) (.glob "HELPER")), (.call "is_within" [(.idx (.var 1) (.num 1)), (.num 0), (.bin .sub (.bf .len [(.idx (.idx (.var 0) (.num 3)) (.num 1))]) (.num 1))])])]⟩
def f_want_office : Fd := ⟨["office"], 1, true, [
    .ife (.nt (.call "is_office_any" [(.var 0)])) [.nev] []]⟩
def f_is_counted_any : Fd := ⟨["office", "value"], 3, false, [
    .ife (.or [(.nt (.call "is_tuple" [(.var 1), (.num 3)])), (.nt (.call "is_within" [(.idx (.var 1) (.num 0)), (.num 0), (.bin .sub (.idx (.idx (.var 0) (.num 2)) (.num 0)) (.num 1))])), (.nt (.call "are_notes_of" [(.var 0), (.idx (.var 1) (.num 1))]))]) [.ret (.bl false)] [],
    .ret (.an [(.call "is_tuple" [(.idx (.var 1) (.num 2)), (.idx (.idx (.var 0) (.num 3)) (.num 0))]), (.bf .all [(.comp (.call "is_within" [(.var 2), (.num 0), (.glob "MOST_COUNT")]) (.nm 2) .it [(.idx (.var 1) (.num 2))] [])])])]⟩
structure LookMv (G : Gam) : Prop extends Basics G where
  is_move_of : G.fns "is_move_of" = some f_is_move_of
  want_office : G.fns "want_office" = some f_want_office
  c_head : G.cst "HEAD" = some (.str "head")
  c_helper : G.cst "HELPER" = some (.str "helper")
structure LookSt (G : Gam) : Prop extends LookMv G where
  are_rising : G.fns "are_rising" = some f_are_rising
  is_lot : G.fns "is_lot" = some f_is_lot
  are_notes_of : G.fns "are_notes_of" = some f_are_notes_of
  is_lot_of : G.fns "is_lot_of" = some f_is_lot_of
  is_standing_of : G.fns "is_standing_of" = some f_is_standing_of
  is_counted_any : G.fns "is_counted_any" = some f_is_counted_any
  c_count : G.cst "MOST_COUNT" = some (.int 1000000000)
structure Looks (G : Gam) : Prop extends LookSt G where
  is_goal_of : G.fns "is_goal_of" = some f_is_goal_of
theorem zipL_map : ∀ (xs ys : List PyData), zipL xs ys = (xs.zip ys).map fun p => .tuple [p.1, p.2]
  | [], _ => by simp [zipL]
  | _ :: _, [] => by simp [zipL]
  | x :: xs, y :: ys => by simp [zipL, zipL_map xs ys]
theorem cgo_map2 {α : Type} {f : PyData → Sto → R (Option PyData)} {s : Sto} (e g : α → PyData) (l : List α) (h : ∀ x ∈ l, f (e x) s = .ok (some (g x)) s) : cgo f (l.map e) s = .ok (l.map g) s := by
  induction l with
  | nil => rfl
  | cons x l ih => simp only [List.map_cons, cgo, h x (List.mem_cons_self ..), R.bd_ok, ih fun y hy => h y (List.mem_cons_of_mem _ hy)]
def rise : List Int → Bool
  | a :: b :: r => decide (a < b) && rise (b :: r)
  | _ => true
theorem rise_lt : ∀ {l : List Int}, rise l = true ↔ l.Pairwise (· < ·)
  | [] => by simp [rise]
  | [a] => by simp [rise]
  | a :: b :: r => by
    rw [rise, Bool.and_eq_true, decide_eq_true_eq, rise_lt (l := b :: r)]
    constructor
    · rintro ⟨h1, h2⟩
      refine List.pairwise_cons.mpr ⟨fun c hc => ?_, h2⟩
      rcases List.mem_cons.mp hc with rfl | hc
      · exact h1
      · have := (List.pairwise_cons.mp h2).1 c hc; omega
    · intro h
      have h := List.pairwise_cons.mp h
      exact ⟨h.1 b (List.mem_cons_self ..), h.2⟩
theorem rise_uniq (l : List Int) : rise l = decide (l = uniq l) := by
  rw [Bool.eq_iff_iff, rise_lt, decide_eq_true_eq]
  constructor
  · intro h
    exact lt_same h (uniq_lt l) fun z => (uniq_mem l z).symm
  · intro h
    rw [h]; exact uniq_lt l
theorem cut_tail (xs : List PyData) : cut xs (some 1) none = xs.drop 1 := by
  cases xs with
  | nil => rfl
  | cons x xs =>
    simp [cut, sIx]
theorem rise_zip : ∀ (ns : List Int), ((ns.map PyData.int).zip ((ns.map PyData.int).drop 1)).all (fun p => match p.1, p.2 with | .int a, .int b => decide (a < b) | _, _ => false) = rise ns
  | [] => rfl
  | [a] => rfl
  | a :: b :: r => by
    have := rise_zip (b :: r)
    simp only [List.map_cons, List.drop_succ_cons, List.drop_zero, List.zip_cons_cons, List.all_cons, rise] at this ⊢
    rw [this]
variable {G : Gam}
theorem len_big {xs : List PyData} (h : xs.length ≤ 1000000) : big xs.length = true := big_of (by omega)
theorem are_rising (B : LookSt G) (k : Nat) (ns : List Int) (hn : ns.length ≤ 1000) (s : Sto) : callF G (k + 1) "are_rising" [.dat (.tuple (ns.map .int))] s = .ok (.dat (.bool (rise ns))) s := by
  rw [cal_of B.are_rising rfl]
  have hc : cgo (ETurn (callF G k) G (.tup [(.nm 1), (.nm 2)]) [] (.cmp .lt (.var 1) (.var 2)) [some (.dat (.tuple (ns.map .int))), none, none]) (zipL (ns.map .int) ((ns.map .int).drop 1)) s = .ok (((ns.map PyData.int).zip ((ns.map PyData.int).drop 1)).map fun p => .bool (match p.1, p.2 with | .int a, .int b => decide (a < b) | _, _ => false)) s := by
    rw [zipL_map]
    refine cgo_map2 _ _ _ fun p hp => ?_
    obtain ⟨h1, h2⟩ := List.of_mem_zip hp
    obtain ⟨a, _, e1⟩ := List.mem_map.mp h1
    obtain ⟨b, _, e2⟩ := List.mem_map.mp (List.mem_of_mem_drop h2)
    rw [← e1, ← e2]
    simp [turn_eq]
  have hb : big (zipL (ns.map PyData.int) ((ns.map PyData.int).drop 1)).length = true := len_big (by rw [zipL_map]; simp; omega)
  simp only [List.drop_one] at hc hb
  simp [f_are_rising, cut_tail, hb, hc, boolsOf_map, allB_map]
  simpa using rise_zip ns
def isR : PyData → Bool
  | .tuple xs => match intsOf xs with
    | some ns => rise ns
    | none => false
  | _ => false
def wLot (m : Int) : PyData → Bool
  | .tuple xs => xs.all (wIn 0 m) && isR (.tuple xs)
  | _ => false
theorem all_ints {a b : Int} : ∀ {xs : List PyData}, xs.all (wIn a b) = true → ∃ ns : List Int, xs = ns.map .int ∧ ∀ n ∈ ns, a ≤ n ∧ n ≤ b
  | [], _ => ⟨[], rfl, fun _ h => nomatch h⟩
  | x :: xs, h => by
    rw [List.all_cons, Bool.and_eq_true] at h
    obtain ⟨ns, rfl, h2⟩ := all_ints h.2
    cases x with
    | int i =>
      have h1 : a ≤ i ∧ i ≤ b := by simpa [wIn] using h.1
      exact ⟨i :: ns, rfl, List.forall_mem_cons.mpr ⟨h1, h2⟩⟩
    | _ => simp [wIn] at h
theorem is_lot (B : LookSt G) (k : Nat) (m : Int) (v : PyData) (hv : ∀ xs, v = .tuple xs → xs.length ≤ 1000) (s : Sto) : callF G (k + 3) "is_lot" [.dat v, .dat (.int m)] s = .ok (.dat (.bool (wLot m v))) s := by
  rw [cal_of B.is_lot rfl]
  cases v with
  | tuple xs =>
    have hl := hv xs rfl
    have hc : cgo (ETurn (callF G (k + 2)) G (.nm 2) [] (.call "is_within" [(.var 2), (.num 0), (.var 1)]) [some (.dat (.tuple xs)), some (.dat (.int m)), none]) xs s = .ok (xs.map fun x => .bool (wIn 0 m x)) s :=
      cgo_map _ xs fun x _ => by simp [turn_eq, is_within B.toBasics]
    cases ha : xs.all (wIn 0 m) with
    | false =>
      have h2 : allB (xs.map (wIn 0 m)) = false := by rw [allB_map, ha]
      simp [f_is_lot, hc, len_big (xs := xs) (by omega), boolsOf_map, h2, wLot, ha]
    | true =>
      have h2 : allB (xs.map (wIn 0 m)) = true := by rw [allB_map, ha]
      obtain ⟨ns, e, _⟩ := all_ints ha
      have h3 : callF G (k + 2) "are_rising" [.dat (.tuple xs)] s = .ok (.dat (.bool (isR (.tuple xs)))) s := by
        rw [e, are_rising B (k + 1) ns (by rw [e] at hl; simpa using hl)]
        simp [isR, intsOf_ints]
      simp [f_is_lot, hc, len_big (xs := xs) (by omega), boolsOf_map, h2, wLot, ha, h3]
  | _ => simp [f_is_lot, wLot]
/-- notes; with g, none is let -/
def noteB (g : Bool) (m : Int) (x : PyData) : Bool := (g && isNo x) || wIn 0 (m - 1) x
def wNotes (g : Bool) (bs : List Nat) : PyData → Bool
  | .tuple xs => decide (xs.length = bs.length) && (xs.zip bs).all fun p => noteB g p.2 p.1
  | _ => false
theorem zip_ns (xs : List PyData) (bs : List Nat) : zipL xs (bs.map nD) = (xs.zip bs).map fun p => .tuple [p.1, nD p.2] := by
  rw [zipL_map, List.zip_map_right]; simp
theorem are_notes_of (B : LookSt G) (k : Nat) (o : Off) (ho : o.bs.length ≤ 2) (v : PyData) (s : Sto) : callF G (k + 3) "are_notes_of" [.dat o.D, .dat v] s = .ok (.dat (.bool (wNotes false o.bs v))) s := by
  rw [cal_of B.are_notes_of rfl]
  cases v with
  | tuple xs =>
    by_cases hl : xs.length = o.bs.length
    · have hl' : (xs.length : Int) = o.bs.length := by omega
      have hc : cgo (ETurn (callF G (k + 2)) G (.tup [(.nm 2), (.nm 3)]) [] (.call "is_within" [(.var 2), (.num 0), (.bin .sub (.var 3) (.num 1))]) [some (.dat o.D), some (.dat (.tuple xs)), none, none]) (zipL xs (o.bs.map nD)) s = .ok ((xs.zip o.bs).map fun p => .bool (noteB false p.2 p.1)) s := by
        rw [zip_ns]
        exact cgo_map2 _ _ _ fun p _ => by simp [turn_eq, nD, is_within B.toBasics, noteB]
      have hb : big (zipL xs (o.bs.map nD)).length = true := len_big (by rw [zip_ns]; simp; omega)
      simp only [Off.D, nsD] at hc
      simp [f_are_notes_of, Off.D, nsD, ixN, is_tuple B.toBasics, hl', hb, hc, boolsOf_map, allB_map, wNotes, hl]
    · have hl' : ¬ (xs.length : Int) = o.bs.length := by omega
      simp [f_are_notes_of, Off.D, nsD, ixN, is_tuple B.toBasics, hl', wNotes, hl]
  | _ => simp [f_are_notes_of, Off.D, nsD, ixN, is_tuple B.toBasics, wNotes]
theorem is_lot_of (B : LookSt G) (k : Nat) (o : Off) (v : PyData) (hv : ∀ xs, v = .tuple xs → xs.length ≤ 1000) (s : Sto) : callF G (k + 4) "is_lot_of" [.dat o.D, .dat v] s = .ok (.dat (.bool (wLot (o.hp.n - 1) v))) s := by
  rw [cal_of B.is_lot_of rfl]
  simp [f_is_lot_of, Off.D, Play.D, ixN, is_lot B k _ v hv]
def has0 : PyData → Bool
  | .tuple xs => xs.any fun z => PyData.eqv z (.int 0)
  | _ => false
theorem flat_ints : ∀ ns : List Int, allFlat (ns.map .int) = true
  | [] => rfl
  | n :: r => by simp [flat_ints r]
theorem in_lot {m : Int} {v : PyData} (h : wLot m v = true) : inD (.int 0) v = some (has0 v) := by
  cases v with
  | tuple xs =>
    simp only [wLot, Bool.and_eq_true] at h
    obtain ⟨ns, rfl, _⟩ := all_ints h.1
    simp [flat_ints, has0]
  | _ => simp [wLot] at h
def wSt (o : Off) : PyData → Bool
  | .tuple [a, b, c] => wIn 0 (o.hd.n - 1) a && (wNotes false o.bs b && (wLot (o.hp.n - 1) c && has0 c))
  | _ => false
/-- no part has more items than this -/
def slim : PyData → Prop
  | .tuple xs => xs.length ≤ 1000 ∧ ∀ x ∈ xs, ∀ ys, x = .tuple ys → ys.length ≤ 1000
  | _ => True
theorem is_standing_of (B : LookSt G) (k : Nat) {o : Off} (ho : o.bs.length ≤ 2) (v : PyData) (hv : slim v) (s : Sto) : callF G (k + 5) "is_standing_of" [.dat o.D, .dat v] s = .ok (.dat (.bool (wSt o v))) s := by
  rw [cal_of B.is_standing_of rfl]
  match v, hv with
  | .none, _ | .bool _, _ | .int _, _ | .str _, _ | .list _, _ | .dict _, _ => simp [f_is_standing_of, is_tuple B.toBasics, wSt]
  | .tuple [], _ | .tuple [x], _ | .tuple [x, y], _ => simp [f_is_standing_of, is_tuple B.toBasics, wSt]
  | .tuple (x :: y :: z :: w :: r), _ =>
    have e2 : ¬ ((r.length : Int) + 1 + 1 + 1 + 1 = 3) := by omega
    simp [f_is_standing_of, is_tuple B.toBasics, wSt, e2]
  | .tuple [a, b, c], hv =>
    have h1 := fun s => are_notes_of B (k + 1) o ho b s
    have h2 := fun s => is_lot_of B k o c (hv.2 c (by simp)) s
    have h3 := fun s => is_within B.toBasics (k + 2) a 0 (o.hd.n - 1) s
    simp only [Off.D, Play.D] at h1 h2
    cases ha : wIn 0 (o.hd.n - 1) a
    · simp [f_is_standing_of, is_tuple B.toBasics, wSt, ixN, Off.D, Play.D, h3, ha]
    cases hb : wNotes false o.bs b
    · simp [f_is_standing_of, is_tuple B.toBasics, wSt, ixN, Off.D, Play.D, h3, ha, h1, hb]
    cases hc : wLot (o.hp.n - 1) c
    · simp [f_is_standing_of, is_tuple B.toBasics, wSt, ixN, Off.D, Play.D, h3, ha, h1, hb, h2, hc]
    · simp [f_is_standing_of, is_tuple B.toBasics, wSt, ixN, Off.D, Play.D, h3, ha, h1, hb, h2, hc, in_lot hc]
def wCt (o : Off) : PyData → Bool
  | .tuple [a, b, c] => wIn 0 (o.hd.n - 1) a && (wNotes false o.bs b && (match c with
    | .tuple xs => decide (xs.length = o.hp.n) && xs.all (wIn 0 1000000000)
    | _ => false))
  | _ => false
theorem is_counted_any (B : LookSt G) (k : Nat) {o : Off} (ho : o.bs.length ≤ 2) (v : PyData) (hv : slim v) (s : Sto) : callF G (k + 4) "is_counted_any" [.dat o.D, .dat v] s = .ok (.dat (.bool (wCt o v))) s := by
  rw [cal_of B.is_counted_any rfl]
  match v, hv with
  | .none, _ | .bool _, _ | .int _, _ | .str _, _ | .list _, _ | .dict _, _ => simp [f_is_counted_any, is_tuple B.toBasics, wCt]
  | .tuple [], _ | .tuple [x], _ | .tuple [x, y], _ => simp [f_is_counted_any, is_tuple B.toBasics, wCt]
  | .tuple (x :: y :: z :: w :: r), _ =>
    have e2 : ¬ ((r.length : Int) + 1 + 1 + 1 + 1 = 3) := by omega
    simp [f_is_counted_any, is_tuple B.toBasics, wCt, e2]
  | .tuple [a, b, c], hv =>
    have h1 := fun s => are_notes_of B k o ho b s
    have h3 := fun s => is_within B.toBasics (k + 1) a 0 (o.hd.n - 1) s
    simp only [Off.D, Play.D] at h1
    cases ha : wIn 0 (o.hd.n - 1) a
    · simp [f_is_counted_any, is_tuple B.toBasics, wCt, ixN, Off.D, Play.D, h3, ha]
    cases hb : wNotes false o.bs b
    · simp [f_is_counted_any, is_tuple B.toBasics, wCt, ixN, Off.D, Play.D, h3, ha, h1, hb]
    cases c with
    | tuple xs =>
      have hl := hv.2 (.tuple xs) (by simp) xs rfl
      by_cases hn : xs.length = o.hp.n
      · have hn' : (xs.length : Int) = o.hp.n := by omega
        have hc : ∀ w d1 d2 d3, cgo (ETurn (callF G (k + 3)) G (.nm 2) [] (.call "is_within" [(.var 2), (.num 0), (.glob "MOST_COUNT")]) [some (.dat (.tuple [w, d1, d2, d3])), some (.dat (.tuple [a, b, .tuple xs])), none]) xs s = .ok (xs.map fun x => .bool (wIn 0 1000000000 x)) s := fun w d1 d2 d3 =>
          cgo_map _ xs fun x _ => by simp [turn_eq, is_within B.toBasics, glob_eq B.c_count]
        simp [f_is_counted_any, is_tuple B.toBasics, wCt, ixN, Off.D, Play.D, h3, ha, h1, hb, hn', hn, hc, big_of (n := o.hp.n) (by omega), boolsOf_map, allB_map]
      · have hn' : ¬ (xs.length : Int) = o.hp.n := by omega
        simp [f_is_counted_any, is_tuple B.toBasics, wCt, ixN, Off.D, Play.D, h3, ha, h1, hb, hn', hn]
    | _ => simp [f_is_counted_any, is_tuple B.toBasics, wCt, ixN, Off.D, Play.D, h3, ha, h1, hb]
def wGl (o : Off) : PyData → Bool
  | .tuple [a, b, c] => (isNo a || wIn 0 (o.hd.n - 1) a) && (wNotes true o.bs b && wLot (o.hp.n - 1) c)
  | _ => false
theorem is_goal_of (B : Looks G) (k : Nat) {o : Off} (ho : o.bs.length ≤ 2) (v : PyData) (hv : slim v) (s : Sto) : callF G (k + 5) "is_goal_of" [.dat o.D, .dat v] s = .ok (.dat (.bool (wGl o v))) s := by
  rw [cal_of B.is_goal_of rfl]
  match v, hv with
  | .none, _ | .bool _, _ | .int _, _ | .str _, _ | .list _, _ | .dict _, _ => simp [f_is_goal_of, is_tuple B.toBasics, wGl]
  | .tuple [], _ | .tuple [x], _ | .tuple [x, y], _ => simp [f_is_goal_of, is_tuple B.toBasics, wGl]
  | .tuple (x :: y :: z :: w :: r), _ =>
    have e2 : ¬ ((r.length : Int) + 1 + 1 + 1 + 1 = 3) := by omega
    simp [f_is_goal_of, is_tuple B.toBasics, wGl, e2]
  | .tuple [a, b, c], hv =>
    have h2 := fun s => is_lot_of B.toLookSt k o c (hv.2 c (by simp)) s
    have h3 := fun s => is_within B.toBasics (k + 2) a 0 (o.hd.n - 1) s
    have h4 := fun s n => is_tuple B.toBasics (k + 3) b n s
    simp only [Off.D, Play.D] at h2
    by_cases ha : (isNo a || wIn 0 (o.hd.n - 1) a) = true
    · have ha' : isNo a = true ∨ wIn 0 (o.hd.n - 1) a = true := by simpa using ha
      cases b with
      | tuple xs =>
        by_cases hl : xs.length = o.bs.length
        · have hl' : (xs.length : Int) = o.bs.length := by omega
          have hc : cgo (ETurn (callF G (k + 4)) G (.tup [(.nm 2), (.nm 3)]) [] (.or [(.isN (.var 2)), (.call "is_within" [(.var 2), (.num 0), (.bin .sub (.var 3) (.num 1))])]) [some (.dat o.D), some (.dat (.tuple [a, .tuple xs, c])), none, none]) (zipL xs (o.bs.map nD)) s = .ok ((xs.zip o.bs).map fun p => .bool (noteB true p.2 p.1)) s := by
            rw [zip_ns]
            refine cgo_map2 _ _ _ fun p _ => ?_
            cases hp : isNo p.1 <;> simp [turn_eq, nD, isNon_dat, is_within B.toBasics, noteB, hp]
          have hb : big (zipL xs (o.bs.map nD)).length = true := len_big (by rw [zip_ns]; simp; omega)
          simp only [Off.D, Play.D, nsD] at hc
          cases hlot : wLot (o.hp.n - 1) c
          · rcases ha' with ha' | ha' <;> cases hq : isNo a <;> simp_all [f_is_goal_of, is_tuple B.toBasics, wGl, ixN, Off.D, Play.D, nsD, isNon_dat]
          · rcases ha' with ha' | ha' <;> cases hq : isNo a <;> simp_all [f_is_goal_of, is_tuple B.toBasics, wGl, ixN, Off.D, Play.D, nsD, isNon_dat, boolsOf_map, allB_map, wNotes]
        · have hl' : ¬ (xs.length : Int) = o.bs.length := by omega
          rcases ha' with ha' | ha' <;> cases hq : isNo a <;> simp_all [f_is_goal_of, is_tuple B.toBasics, wGl, ixN, Off.D, Play.D, nsD, isNon_dat, wNotes]
      | _ => rcases ha' with ha' | ha' <;> cases hq : isNo a <;> simp_all [f_is_goal_of, is_tuple B.toBasics, wGl, ixN, Off.D, Play.D, nsD, isNon_dat, wNotes]
    · have ha1 : isNo a = false := by
        cases h : isNo a with
        | true => rw [h] at ha; simp at ha
        | false => rfl
      have ha2 : wIn 0 (o.hd.n - 1) a = false := by
        cases h : wIn 0 (o.hd.n - 1) a with
        | true => rw [h] at ha; simp at ha
        | false => rfl
      simp [f_is_goal_of, is_tuple B.toBasics, wGl, ixN, Off.D, Play.D, isNon_dat, h3, ha1, ha2]
def wMv (o : Off) : PyData → Bool
  | .tuple [.str w, x] => if w = Str.ofString "head" then wIn 0 (o.hd.st.length - 1) x else (decide (w = Str.ofString "helper") && wIn 0 (o.hp.st.length - 1) x)
  | _ => false
theorem is_move_of (B : LookMv G) (k : Nat) {o : Off} (v : PyData) (s : Sto) : callF G (k + 3) "is_move_of" [.dat o.D, .dat v] s = .ok (.dat (.bool (wMv o v))) s := by
  rw [cal_of B.is_move_of rfl]
  match v with
  | .none | .bool _ | .int _ | .str _ | .list _ | .dict _ => simp [f_is_move_of, is_tuple B.toBasics, wMv]
  | .tuple [] | .tuple [x] => simp [f_is_move_of, is_tuple B.toBasics, wMv]
  | .tuple (x :: y :: z :: r) =>
    have e2 : ¬ ((r.length : Int) + 1 + 1 + 1 = 2) := by omega
    simp [f_is_move_of, is_tuple B.toBasics, wMv, e2]
  | .tuple [x, y] =>
    cases x <;> simp [f_is_move_of, is_tuple B.toBasics, wMv, ixN]
    rename_i w
    by_cases h : w = Str.ofString "head"
    · simp [h, glob_eq B.c_head, Off.D, Play.D, ixN, is_within B.toBasics]
    · by_cases h2 : w = Str.ofString "helper"
      · have h3 : ¬ Str.ofString "helper" = Str.ofString "head" := by rw [← h2]; exact h
        simp [h2, h3, glob_eq B.c_head, glob_eq B.c_helper, Off.D, Play.D, ixN, is_within B.toBasics]
      · simp [h, h2, ixN, glob_eq B.c_head, glob_eq B.c_helper]
theorem want_office (B : LookMv G) (k : Nat) {o : Off} (ho : o.ok) (s : Sto) : callF G (k + 7) "want_office" [.dat o.D] s = .ok (.dat .none) s := by
  rw [cal_of B.want_office rfl]
  simp [f_want_office, is_office_ok B.toBasics k ho]
end P
end Y
end Z
end

section
set_option maxRecDepth 100000
set_option maxHeartbeats 4000000
/-! What a move does: the program's way, and as such. -/
namespace Z
open PySem
namespace Y
namespace P
def f_notes_behind : Fd := ⟨["deed", "notes"], 2, false, [
    .ife (.cmp .eq (.idx (.var 0) (.num 0)) (.glob "READ")) [.ret (.ife (.cmp .eq (.idx (.var 1) (.idx (.var 0) (.num 1))) (.idx (.var 0) (.num 2))) (.var 1) .non)] [],
    .ife (.cmp .eq (.idx (.var 0) (.num 0)) (.glob "WRITE")) [.ret (.bin .add (.bin .add (.slc (.var 1) .abs (.idx (.var 0) (.num 1))) (.tup [(.idx (.var 0) (.num 2))])) (.slc (.var 1) (.bin .add (.idx (.var 0) (.num 1)) (.num 1)) .abs))] [],
    .ret (.var 1)]⟩
def f_step_of : Fd := ⟨["office", "move"], 2, false, [
    .ret (.ife (.cmp .eq (.idx (.var 1) (.num 0)) (.glob "HEAD")) (.idx (.idx (.idx (.var 0) (.num 2)) (.num 1)) (.idx (.var 1) (.num 1))) (.idx (.idx (.idx (.var 0) (.num 3)) (.num 1)) (.idx (.var 1) (.num 1))))]⟩
def f_lot_with : Fd := ⟨["lot", "state"], 2, false, [
    .ret (.ife (.cmp .inn (.var 1) (.var 0)) (.var 0) (.bf .tuple [(.bf .sorted [(.bin .add (.var 0) (.tup [(.var 1)]))])]))]⟩
def f_begin_of : Fd := ⟨["office"], 1, true, [
    .ret (.tup [(.num 0), (.bin .mul (.tup [(.num 0)]) (.bf .len [(.idx (.var 0) (.num 1))])), (.tup [(.num 0)])])]⟩
def f_behind : Fd := ⟨["office", "standing", "move"], 11, true, [
    .asgT [(.nm 4), (.nm 5), (.nm 6)] (.var 1),
    .asgT [(.nm 7), (.nm 8), (.nm 9), (.nm 10)] (.call "step_of" [(.var 0), (.var 2)]),
    .asg 3 (.call "notes_behind" [(.var 9), (.var 5)]),
    .ife (.isN (.var 3)) [.ret .non] [],
    .ife (.cmp .eq (.idx (.var 2) (.num 0)) (.glob "HEAD")) [.ret (.ife (.cmp .eq (.var 8) (.var 4)) (.tup [(.var 10), (.var 3), (.var 6)]) .non)] [],
    .ret (.ife (.cmp .inn (.var 8) (.var 6)) (.tup [(.var 4), (.var 3), (.call "lot_with" [(.var 6), (.var 10)])]) .non)]⟩
def f_counted_begin : Fd := ⟨["office", "many"], 2, true, [
    .ret (.tup [(.num 0), (.bin .mul (.tup [(.num 0)]) (.bf .len [(.idx (.var 0) (.num 1))])), (.bin .add (.tup [(.var 1)]) (.bin .mul (.tup [(.num 0)]) (.bin .sub (.idx (.idx (.var 0) (.num 3)) (.num 0)) (.num 1))))])]⟩
def f_counted_behind : Fd := ⟨["office", "counted", "move"], 12, true, [
    .asgT [(.nm 5), (.nm 6), (.nm 7)] (.var 1),
    .asgT [(.nm 8), (.nm 9), (.nm 10), (.nm 11)] (.call "step_of" [(.var 0), (.var 2)]),
    .asg 3 (.call "notes_behind" [(.var 10), (.var 6)]),
    .ife (.isN (.var 3)) [.ret .non] [],
    .ife (.cmp .eq (.idx (.var 2) (.num 0)) (.glob "HEAD")) [.ret (.ife (.cmp .eq (.var 9) (.var 5)) (.tup [(.var 11), (.var 3), (.var 7)]) .non)] [],
    .ife (.cmp .eq (.idx (.var 7) (.var 9)) (.num 0)) [.ret .non] [],
    .own 4 (.bf .list [(.var 7)]),
    .setI 4 (.var 9) (.bin .sub (.idx (.ovar 4) (.var 9)) (.num 1)),
    .setI 4 (.var 11) (.bin .add (.idx (.ovar 4) (.var 11)) (.num 1)),
    .ret (.tup [(.var 5), (.var 3), (.bf .tuple [(.ovar 4)])])]⟩
structure MovesB (G : Gam) : Prop where
  notes_behind : G.fns "notes_behind" = some f_notes_behind
  step_of : G.fns "step_of" = some f_step_of
  lot_with : G.fns "lot_with" = some f_lot_with
  behind : G.fns "behind" = some f_behind
  counted_behind : G.fns "counted_behind" = some f_counted_behind
  c_head : G.cst "HEAD" = some (.str "head")
  c_read : G.cst "READ" = some (.str "read")
  c_write : G.cst "WRITE" = some (.str "write")
structure Moves (G : Gam) : Prop extends MovesB G where
  begin_of : G.fns "begin_of" = some f_begin_of
  counted_begin : G.fns "counted_begin" = some f_counted_begin
end P
structure Move where
  hd : Bool
  at_ : Nat
def Move.D (m : Move) : PyData := .tuple [.str (if m.hd then "head" else "helper"), .int m.at_]
def Off.player (o : Off) (hd : Bool) : Play := if hd then o.hd else o.hp
def Move.ok (o : Off) (m : Move) : Prop := m.at_ < (o.player m.hd).st.length
/-- a counted standing -/
structure Ctd where
  st : Nat
  ns : List Nat
  cs : List Nat
def Ctd.D (c : Ctd) : PyData := .tuple [.int c.st, nsD c.ns, nsD c.cs]
structure Ctd.ok (o : Off) (c : Ctd) : Prop where
  st : c.st < o.hd.n
  ns : c.ns.length = o.bs.length
  cs : c.cs.length = o.hp.n
def notesB (d : Deed) (ns : List Nat) : Option (List Nat) := match d with
  | .rest => some ns
  | .read b n => if ns[b]? = some n then some ns else none
  | .write b n => some (ns.set b n)
def oNs : Option (List Nat) → PyData
  | none => .none
  | some l => nsD l
/-- one leaves, one comes -/
def shift (cs : List Nat) (b e : Nat) : Option (List Nat) := match cs[b]? with
  | some (n + 1) => (cs.set b n)[e]?.map fun x => (cs.set b n).set e (x + 1)
  | _ => none
def done (o : Off) (c : Ctd) (m : Move) : Option Ctd := (o.player m.hd).st[m.at_]?.bind fun s => (notesB s.d c.ns).bind fun ns =>
  if m.hd then (if s.b = c.st then some ⟨s.e, ns, c.cs⟩ else none) else (shift c.cs s.b s.e).map fun cs => ⟨c.st, ns, cs⟩
def oC : Option Ctd → PyData
  | none => .none
  | some c => c.D
theorem notesB_len {d : Deed} {ns l : List Nat} (h : notesB d ns = some l) : l.length = ns.length := by
  cases d with
  | rest => cases h; rfl
  | read b n =>
    simp only [notesB] at h
    split at h <;> cases h
    rfl
  | write b n => cases h; simp
theorem shift_len {cs l : List Nat} {b e : Nat} (h : shift cs b e = some l) : l.length = cs.length := by
  unfold shift at h
  split at h
  · obtain ⟨x, _, rfl⟩ := Option.map_eq_some_iff.mp h
    simp
  · cases h
theorem done_ok {o : Off} (ho : o.ok) {c c' : Ctd} (hc : c.ok o) {m : Move} (h : done o c m = some c') : c'.ok o := by
  unfold done at h
  obtain ⟨s, h1, h⟩ := Option.bind_eq_some_iff.mp h
  obtain ⟨ns, h2, h⟩ := Option.bind_eq_some_iff.mp h
  have hn := notesB_len h2
  have hs := List.mem_of_getElem? h1
  split at h
  · rename_i hm
    rw [Off.player, if_pos hm] at hs
    split at h
    · cases h
      exact ⟨(ho.hd.st s hs).e, by rw [← hc.ns]; exact hn, hc.cs⟩
    · cases h
  · obtain ⟨cs, h3, rfl⟩ := Option.map_eq_some_iff.mp h
    exact ⟨hc.st, by rw [← hc.ns]; exact hn, by rw [← hc.cs]; exact shift_len h3⟩
namespace P
variable {G : Gam}
theorem ne_rw2 : ¬ (Str.ofString "read" = Str.ofString "write") := by decide +kernel
theorem ne_wr2 : ¬ (Str.ofString "write" = Str.ofString "read") := by decide +kernel
theorem ne_rest : ¬ (Str.ofString "rest" = Str.ofString "read") := by decide +kernel
theorem ne_rest2 : ¬ (Str.ofString "rest" = Str.ofString "write") := by decide +kernel
theorem ix_ns {ns : List Nat} {b : Nat} (h : b < ns.length) : ((ixN ns.length (b : Int)).bind fun j => Option.map nD ns[j]?) = some (nD ns[b]) := by
  rw [ixN_pos (by omega) (by omega)]
  simp [h]
theorem cut_to (xs : List PyData) (b : Nat) (h : b < xs.length) : cut xs none (some (b : Int)) = xs.take b := by
  have e : sIx xs.length xs.length (some (b : Int)) = b := by
    simp only [sIx]
    rw [if_neg (by omega)]
    omega
  simp only [cut, e]
  simp [sIx]
theorem cut_from (xs : List PyData) (b : Nat) (h : b < xs.length) : cut xs (some ((b : Int) + 1)) none = xs.drop (b + 1) := by
  have e : sIx xs.length 0 (some ((b : Int) + 1)) = b + 1 := by
    simp only [sIx]
    rw [if_neg (by omega)]
    omega
  have e2 : sIx xs.length xs.length none = xs.length := rfl
  simp only [cut, e, e2]
  rw [List.take_of_length_le]
  simp
theorem notes_behind (M : MovesB G) (k : Nat) {bs : List Nat} {d : Deed} (hd : d.ok bs) {ns : List Nat} (hn : ns.length = bs.length) (hl : bs.length ≤ 2) (s : Sto) : callF G (k + 1) "notes_behind" [.dat d.D, .dat (nsD ns)] s = .ok (.dat (oNs (notesB d ns))) s := by
  rw [cal_of M.notes_behind rfl]
  cases d with
  | rest => simp [f_notes_behind, Deed.D, ixN, glob_eq M.c_read, glob_eq M.c_write, ne_rest, ne_rest2, notesB, oNs]
  | read b n =>
    obtain ⟨m, h1, h2⟩ := hd
    have hb : b < ns.length := by rw [hn]; exact (List.getElem?_eq_some_iff.mp h1).1
    have hi := ix_ns hb
    by_cases h : ns[b] = n
    · have h' : (ns[b] : Int) = n := by omega
      simp [f_notes_behind, Deed.D, ixN, nsD, glob_eq M.c_read, notesB, oNs, hb, h, nD]
    · have h' : ¬ (ns[b] : Int) = n := by omega
      simp [f_notes_behind, Deed.D, ixN, nsD, glob_eq M.c_read, notesB, oNs, hb, h, nD]
      omega
  | write b n =>
    obtain ⟨m, h1, h2⟩ := hd
    have hb : b < ns.length := by rw [hn]; exact (List.getElem?_eq_some_iff.mp h1).1
    have hb' : b < (ns.map nD).length := by simpa using hb
    have c1 := cut_to (ns.map nD) b hb'
    have c2 := cut_from (ns.map nD) b hb'
    have hsz : sizeLine = 16777216 := by decide +kernel
    have z1 : ((ns.map nD).take b).length + 1 ≤ sizeLine := by rw [hsz, List.length_take, List.length_map]; omega
    have z2 : ((ns.map nD).take b ++ [PyData.int n]).length + ((ns.map nD).drop (b + 1)).length ≤ sizeLine := by
      rw [hsz, List.length_append, List.length_take, List.length_drop, List.length_map]; simp; omega
    have e : (ns.map nD).take b ++ [PyData.int n] ++ (ns.map nD).drop (b + 1) = (ns.set b n).map nD := by
      rw [List.set_eq_take_append_cons_drop, if_pos hb]
      simp [List.map_take, List.map_drop, nD]
    have key : fin (execs (callF G k) G f_notes_behind.body (start f_notes_behind.n [.dat (Deed.write b n).D, .dat (.tuple (ns.map nD))]) s) = .ok (.dat (.tuple ((ns.map nD).take b ++ [PyData.int n] ++ (ns.map nD).drop (b + 1)))) s := by
      generalize ns.map nD = xs at *
      simp only [List.length_append, List.length_cons, List.length_nil, Nat.zero_add, List.length_take, List.length_drop] at z1 z2
      simp -implicitDefEqProofs [f_notes_behind, Deed.D, ixN, glob_eq M.c_read, glob_eq M.c_write, ne_wr2, c1, c2, z1, z2]
    rw [e] at key
    exact key
theorem ix_map {α : Type} {f : α → PyData} {l : List α} {i : Nat} {a : α} (h : l[i]? = some a) : ((ixN l.length (i : Int)).bind fun j => Option.map f l[j]?) = some (f a) := by
  obtain ⟨h1, h2⟩ := List.getElem?_eq_some_iff.mp h
  rw [ixN_pos (by omega) (by omega)]
  simp [h1, h2]
@[simp] theorem ixl0 (n : Nat) : ixN (n + 1) 0 = some 0 := by simp [ixN] <;> omega
@[simp] theorem ixl1 (n : Nat) : ixN (n + 2) 1 = some 1 := by simp [ixN] <;> omega
@[simp] theorem ixl2 (n : Nat) : ixN (n + 3) 2 = some 2 := by simp [ixN] <;> omega
@[simp] theorem ixl3 (n : Nat) : ixN (n + 4) 3 = some 3 := by simp [ixN] <;> omega
theorem ne_hh : ¬ (Str.ofString "helper" = Str.ofString "head") := by decide +kernel
theorem step_of (M : MovesB G) (k : Nat) {o : Off} {m : Move} {st : Step} (h : (o.player m.hd).st[m.at_]? = some st) (s : Sto) : callF G (k + 1) "step_of" [.dat o.D, .dat m.D] s = .ok (.dat st.D) s := by
  rw [cal_of M.step_of rfl]
  obtain ⟨hd, i⟩ := m
  have hi := ix_map (f := Step.D) h
  cases hd with
  | true =>
    simp only [Off.player, if_true] at hi
    simp -implicitDefEqProofs [f_step_of, Move.D, Off.D, Play.D, glob_eq M.c_head, hi]
  | false =>
    simp only [Off.player, Bool.false_eq_true, if_false] at hi
    simp -implicitDefEqProofs [f_step_of, Move.D, Off.D, Play.D, glob_eq M.c_head, ne_hh, hi]
def cBegin (o : Off) (many : Nat) : Ctd := ⟨0, List.replicate o.bs.length 0, many :: List.replicate (o.hp.n - 1) 0⟩
theorem cBegin_ok {o : Off} (ho : o.ok) (many : Nat) : (cBegin o many).ok o := by
  have h1 := ho.hd.n0
  have h2 := ho.hp.n0
  exact ⟨by simp [cBegin]; omega, by simp [cBegin], by simp [cBegin]; omega⟩
theorem counted_begin_of {fn : Str} (hG : G.fns fn = some f_counted_begin) (k : Nat) {o : Off} (ho : o.ok) (many : Nat) (s : Sto) : callF G (k + 1) fn [.dat o.D, .dat (.int many)] s = .ok (.dat (cBegin o many).D) s := by
  rw [cal_of hG rfl]
  have h1 := ho.l1
  have h2 := ho.hp.n0
  have h3 := ho.hp.n1
  have hsz : sizeLine = 16777216 := by decide +kernel
  obtain ⟨b, hb⟩ : ∃ b : Int, b = o.bs.length := ⟨_, rfl⟩
  obtain ⟨n, hn⟩ : ∃ n : Int, n = o.hp.n := ⟨_, rfl⟩
  have d1 : EV (callF G k) G (.bf .len [(.idx (.var 0) (.num 1))]) [some (.dat o.D), some (.dat (.int many))] s = .ok (.dat (.int b)) s := by rw [hb]; simp [Off.D, nsD, ixN]
  have d2 : EV (callF G k) G (.idx (.idx (.var 0) (.num 3)) (.num 0)) [some (.dat o.D), some (.dat (.int many))] s = .ok (.dat (.int n)) s := by rw [hn]; simp [Off.D, Play.D, ixN]
  have z0 : 0 ≤ b ∧ b ≤ 1000 := by omega
  have z1 : 0 ≤ n - 1 ∧ n - 1 ≤ 1000 := by omega
  have z2 : 1 + (n - 1).toNat ≤ sizeLine := by rw [hsz]; omega
  have e1 : b.toNat = o.bs.length := by omega
  have e2 : (n - 1).toNat = o.hp.n - 1 := by omega
  have e3 : Ctd.D (cBegin o many) = .tuple [.int 0, .tuple (List.replicate b.toNat (.int 0)), .tuple (.int many :: List.replicate (n - 1).toNat (.int 0))] := by
    rw [e1, e2]
    simp [Ctd.D, cBegin, nsD, nD, List.map_replicate]
  rw [e3]
  have z3 : 1 ≤ n := by omega
  have z4 : 1 + (n.toNat - 1) ≤ sizeLine := by rw [hsz]; omega
  simp -implicitDefEqProofs [-v_bf, -v_idx, f_counted_begin, d1, d2, z0, z1, z2, z3, z4]
theorem counted_begin (M : Moves G) (k : Nat) {o : Off} (ho : o.ok) (many : Nat) (s : Sto) : callF G (k + 1) "counted_begin" [.dat o.D, .dat (.int many)] s = .ok (.dat (cBegin o many).D) s := counted_begin_of M.counted_begin k ho many s
theorem isNon_nsD (l : List Nat) : isNon (.dat (nsD l)) = false := rfl
theorem dat_ns (l : List Nat) : nsD l = .tuple (l.map nD) := rfl
theorem x_dec (C : Str → List Z.D → Sto → R Z.D) (G : Gam) {cs : List Nat} {b v : Nat} (h : cs[b]? = some (v + 1)) (a0 a1 a2 a3 a5 a6 a7 a8 a10 a11 : Option Z.D) (s : Sto) :
    exec C G (.setI 4 (.var 9) (.bin .sub (.idx (.ovar 4) (.var 9)) (.num 1))) [a0, a1, a2, a3, some (.own (cs.map nD)), a5, a6, a7, a8, some (.dat (.int b)), a10, a11] s = .fl (.nx [a0, a1, a2, a3, some (.own ((cs.set b v).map nD)), a5, a6, a7, a8, some (.dat (.int b)), a10, a11]) s := by
  have hj : ixN cs.length (b : Int) = some b := by rw [ixN_pos (by omega) (by have := (List.getElem?_eq_some_iff.mp h).1; omega)]; simp
  simp -implicitDefEqProofs [h, hj, nD, List.map_set]
theorem x_inc (C : Str → List Z.D → Sto → R Z.D) (G : Gam) {cs : List Nat} {e x : Nat} (h : cs[e]? = some x) (a0 a1 a2 a3 a5 a6 a7 a8 a9 a10 : Option Z.D) (s : Sto) :
    exec C G (.setI 4 (.var 11) (.bin .add (.idx (.ovar 4) (.var 11)) (.num 1))) [a0, a1, a2, a3, some (.own (cs.map nD)), a5, a6, a7, a8, a9, a10, some (.dat (.int e))] s = .fl (.nx [a0, a1, a2, a3, some (.own ((cs.set e (x + 1)).map nD)), a5, a6, a7, a8, a9, a10, some (.dat (.int e))]) s := by
  have hj : ixN cs.length (e : Int) = some e := by rw [ixN_pos (by omega) (by have := (List.getElem?_eq_some_iff.mp h).1; omega)]; simp
  simp -implicitDefEqProofs [h, hj, nD, List.map_set]
theorem counted_behind (M : MovesB G) (k : Nat) {o : Off} (ho : o.ok) {c : Ctd} (hc : c.ok o) {m : Move} (hm : m.ok o) (s : Sto) : callF G (k + 2) "counted_behind" [.dat o.D, .dat c.D, .dat m.D] s = .ok (.dat (oC (done o c m))) s := by
  rw [cal_of M.counted_behind rfl]
  obtain ⟨st, hst⟩ : ∃ st, (o.player m.hd).st[m.at_]? = some st := ⟨_, List.getElem?_eq_getElem hm⟩
  have hmem := List.mem_of_getElem? hst
  have hs : st.ok o.bs (o.player m.hd).n := by
    unfold Off.player at hmem ⊢
    split at hmem
    · rename_i h; rw [if_pos h]; exact ho.hd.st st hmem
    · rename_i h; rw [if_neg h]; exact ho.hp.st st hmem
  have h1 := fun s => step_of M k hst s
  have h2 := fun s => notes_behind M k hs.d hc.ns ho.l1 s
  obtain ⟨hd, i⟩ := m
  obtain ⟨cst, cns, ccs⟩ := c
  simp only at h2
  cases hn : notesB st.d cns with
  | none =>
    have hdn : done o ⟨cst, cns, ccs⟩ ⟨hd, i⟩ = none := by simp only [done, hst, Option.bind_some, hn, Option.bind_none]
    rw [hn] at h2
    rw [hdn]
    simp -implicitDefEqProofs [f_counted_behind, Ctd.D, h1, Step.D, h2, oNs, oC]
  | some l =>
    rw [hn] at h2
    simp only [oNs] at h2
    cases hd with
    | true =>
      have h1 : ∀ s, callF G (k + 1) "step_of" [.dat o.D, .dat (.tuple [.str "head", .int i])] s = .ok (.dat st.D) s := h1
      by_cases hb : st.b = cst
      · have hdn : done o ⟨cst, cns, ccs⟩ ⟨true, i⟩ = some ⟨st.e, l, ccs⟩ := by simp only [done, hst, Option.bind_some, hn, if_true, hb]
        have hb' : (st.b : Int) = cst := by omega
        rw [hdn]
        simp -implicitDefEqProofs [f_counted_behind, Ctd.D, h1, Step.D, h2, oC, Move.D, glob_eq M.c_head, isNon_nsD, hb]
      · have hdn : done o ⟨cst, cns, ccs⟩ ⟨true, i⟩ = none := by simp only [done, hst, Option.bind_some, hn, if_true, hb, if_false]
        rw [hdn]
        simp -implicitDefEqProofs [f_counted_behind, Ctd.D, h1, Step.D, h2, oC, Move.D, glob_eq M.c_head, isNon_nsD, hb]
        omega
    | false =>
      have h1 : ∀ s, callF G (k + 1) "step_of" [.dat o.D, .dat (.tuple [.str "helper", .int i])] s = .ok (.dat st.D) s := h1
      have hbl : st.b < ccs.length := by rw [hc.cs]; exact hs.b
      have hel : st.e < ccs.length := by rw [hc.cs]; exact hs.e
      have hix : idxD (nsD ccs) (.int st.b) = some (.int ccs[st.b]) := by
        have z := ix_ns hbl
        simp only [nsD, idx_t, List.length_map, List.getElem?_map]
        exact z
      have htl : bfD .list [nsD ccs] = some (.list (ccs.map nD)) := rfl
      cases hv : ccs[st.b] with
      | zero =>
        have hsh : shift ccs st.b st.e = none := by
          unfold shift
          rw [List.getElem?_eq_getElem hbl, hv]
        have hdn : done o ⟨cst, cns, ccs⟩ ⟨false, i⟩ = none := by simp only [done, hst, Option.bind_some, hn, Bool.false_eq_true, if_false, hsh, Option.map_none]
        rw [hv] at hix
        rw [hdn]
        simp -implicitDefEqProofs [f_counted_behind, Ctd.D, h1, Step.D, h2, oC, Move.D, glob_eq M.c_head, ne_hh, isNon_nsD, hix]
      | succ v =>
        have hb1 : ccs[st.b]? = some (v + 1) := by rw [List.getElem?_eq_getElem hbl, hv]
        obtain ⟨x, hx⟩ : ∃ x, (ccs.set st.b v)[st.e]? = some x := ⟨_, List.getElem?_eq_getElem (by simpa using hel)⟩
        have hsh : shift ccs st.b st.e = some ((ccs.set st.b v).set st.e (x + 1)) := by
          unfold shift
          rw [hb1]
          simp only [hx, Option.map_some]
        have hdn : done o ⟨cst, cns, ccs⟩ ⟨false, i⟩ = some ⟨cst, l, (ccs.set st.b v).set st.e (x + 1)⟩ := by simp only [done, hst, Option.bind_some, hn, Bool.false_eq_true, if_false, hsh, Option.map_some]
        have hx1 := fun a0 a1 a2 a3 a5 a6 a7 a8 a10 s => x_dec (callF G (k + 1)) G hb1 a0 a1 a2 a3 a5 a6 a7 a8 a10 (some (.dat (.int st.e))) s
        have hx2 := fun a0 a1 a2 a3 a5 a6 a7 a8 a9 a10 s => x_inc (callF G (k + 1)) G hx a0 a1 a2 a3 a5 a6 a7 a8 a9 a10 s
        have hne : ¬ ((v : Int) + 1 = 0) := by omega
        rw [hv] at hix
        rw [hdn]
        simp -implicitDefEqProofs [-x_setI, -List.map_set, f_counted_behind, Ctd.D, h1, Step.D, h2, oC, Move.D, glob_eq M.c_head, ne_hh, isNon_nsD, hix, htl, hx1, hx2, hne]
        rfl
end P
end Y
end Z
end

section
set_option maxRecDepth 100000
set_option maxHeartbeats 4000000
/-! Walks: rows of moves with counts. -/
namespace Z
open PySem
namespace Y
namespace P
def f_is_list : Fd := ⟨["value"], 1, true, [
    .ret (.isi (.var 0) [.list, .tuple] true)]⟩
def f_walk_by : Fd := ⟨["office", "many", "value"], 7, true, [
    .ife (.or [(.nt (.call "is_list" [(.var 2)])), (.cmp .gt (.bf .len [(.var 2)]) (.glob "MOST_MOVES")), (.nt (.bf .all [(.comp (.call "is_move_of" [(.var 0), (.var 6)]) (.nm 6) .it [(.var 2)] [])]))]) [.ret .non] [],
    .own 3 (.lst [(.call "counted_begin" [(.var 0), (.var 1)])]),
    .fr (.nm 4) .it [(.var 2)] [.asg 5 (.call "counted_behind" [(.var 0), (.idx (.ovar 3) (.neg (.num 1))), (.var 4)]), .ife (.isN (.var 5)) [.ret .non] [], .app 3 (.var 5)],
    .ret (.ovar 3)]⟩
def f_want_helpers : Fd := ⟨["many"], 1, true, [
    .ife (.nt (.call "is_within" [(.var 0), (.num 0), (.glob "MOST_HELPERS")])) [.nev] []]⟩
def f_want_walk : Fd := ⟨["office", "many", "walk"], 3, true, [
    .ife (.isN (.call "walk_by" [(.var 0), (.var 1), (.var 2)])) [.nev] []]⟩
def f_is_walk : Fd := ⟨["office", "many", "value"], 3, true, [
    .exp (.call "want_office" [(.var 0)]),
    .exp (.call "want_helpers" [(.var 1)]),
    .ret (.notN (.call "walk_by" [(.var 0), (.var 1), (.var 2)]))]⟩
def f_along_walk : Fd := ⟨["office", "many", "walk"], 3, true, [
    .exp (.call "want_office" [(.var 0)]),
    .exp (.call "want_helpers" [(.var 1)]),
    .exp (.call "want_walk" [(.var 0), (.var 1), (.var 2)]),
    .ret (.call "walk_by" [(.var 0), (.var 1), (.var 2)])]⟩
structure Walks (G : Gam) : Prop where
  looks : LookMv G
  moves : Moves G
  is_list : G.fns "is_list" = some f_is_list
  walk_by : G.fns "walk_by" = some f_walk_by
  want_helpers : G.fns "want_helpers" = some f_want_helpers
  want_walk : G.fns "want_walk" = some f_want_walk
  is_walk : G.fns "is_walk" = some f_is_walk
  along_walk : G.fns "along_walk" = some f_along_walk
  c_moves : G.cst "MOST_MOVES" = some (.int 2000)
  c_helpers : G.cst "MOST_HELPERS" = some (.int 6)
end P
/-- all on the way -/
def alongC (o : Off) (pre : List Ctd) (c : Ctd) : List Move → Option (List Ctd)
  | [] => some (pre ++ [c])
  | m :: ms => match done o c m with
    | none => none
    | some c' => alongC o (pre ++ [c]) c' ms
def csD : Option (List Ctd) → PyData
  | none => .none
  | some l => .list (l.map Ctd.D)
theorem idx_last {α : Type} (f : α → PyData) (pre : List α) (c : α) : idxD (.list ((pre ++ [c]).map f)) (.int (-1)) = some (f c) := by
  have e : ixN ((pre ++ [c]).map f).length (-1) = some pre.length := by
    simp only [ixN]
    rw [if_neg (by omega), if_pos (by simp; omega)]
    simp
    omega
  rw [idx_l, e]
  simp
/-- what may be walked -/
def itemsD : PyData → Option (List PyData)
  | .list xs => some xs
  | .tuple xs => some xs
  | _ => none
namespace P
variable {G : Gam}
theorem is_list (W : Walks G) (k : Nat) (v : PyData) (s : Sto) : callF G (k + 1) "is_list" [.dat v] s = .ok (.dat (.bool (itemsD v).isSome)) s := by
  rw [cal_of W.is_list rfl]
  cases v <;> simp [f_is_list, itemsD]
theorem wMv_move {o : Off} {v : PyData} (h : wMv o v = true) : ∃ m : Move, v = m.D ∧ m.ok o := by
  unfold wMv at h
  split at h
  · rename_i w x
    split at h
    · rename_i hw
      subst hw
      cases x with
      | int i =>
        have h : 0 ≤ i ∧ i ≤ (o.hd.st.length : Int) - 1 := by simpa [wIn] using h
        refine ⟨⟨true, i.toNat⟩, ?_, ?_⟩
        · simp only [Move.D, if_true, Int.toNat_of_nonneg h.1]
        · simp only [Move.ok, Off.player, if_true]; omega
      | _ => simp [wIn] at h
    · rw [Bool.and_eq_true, decide_eq_true_eq] at h
      obtain ⟨rfl, h⟩ := h
      cases x with
      | int i =>
        have h : 0 ≤ i ∧ i ≤ (o.hp.st.length : Int) - 1 := by simpa [wIn] using h
        refine ⟨⟨false, i.toNat⟩, ?_, ?_⟩
        · simp only [Move.D, Bool.false_eq_true, if_false, Int.toNat_of_nonneg h.1]
        · simp only [Move.ok, Off.player, Bool.false_eq_true, if_false]; omega
      | _ => simp [wIn] at h
  · cases h
theorem wMv_moves {o : Off} : ∀ {xs : List PyData}, xs.all (wMv o) = true → ∃ ms : List Move, xs = ms.map Move.D ∧ ∀ m ∈ ms, m.ok o
  | [], _ => ⟨[], rfl, fun _ h => nomatch h⟩
  | x :: xs, h => by
    rw [List.all_cons, Bool.and_eq_true] at h
    obtain ⟨m, rfl, hm⟩ := wMv_move h.1
    obtain ⟨ms, rfl, hms⟩ := wMv_moves h.2
    exact ⟨m :: ms, rfl, List.forall_mem_cons.mpr ⟨hm, hms⟩⟩
theorem walk_loop (W : Walks G) (k : Nat) {o : Off} (ho : o.ok) (a1 a2 a6 : Option Z.D) (s : Sto) : ∀ (ms : List Move) (hms : ∀ m ∈ ms, m.ok o) (pre : List Ctd) (c : Ctd) (hc : c.ok o) (hl : pre.length + ms.length ≤ 10000) (a4 a5 : Option Z.D),
    fin ((fgo (loopB (callF G (k + 2)) G (.nm 4) [.asg 5 (.call "counted_behind" [(.var 0), (.idx (.ovar 3) (.neg (.num 1))), (.var 4)]), .ife (.isN (.var 5)) [.ret .non] [], .app 3 (.var 5)]) (ms.map Move.D) [some (.dat o.D), a1, a2, some (.own ((pre ++ [c]).map Ctd.D)), a4, a5, a6] s).nxt (execs (callF G (k + 2)) G [.ret (.ovar 3)])) = .ok (.dat (csD (alongC o pre c ms))) s := by
  intro ms
  induction ms with
  | nil =>
    intro _ pre c hc hl a4 a5
    simp -implicitDefEqProofs [fgo, alongC, csD, -List.map_append]
  | cons m ms ih =>
    intro hms pre c hc hl a4 a5
    have hm := hms m (List.mem_cons_self ..)
    have hb := fun s => counted_behind W.moves.toMovesB k ho hc hm s
    have hi := idx_last Ctd.D pre c
    have hsz : sizeLine = 16777216 := by decide +kernel
    simp only [List.map_cons, fgo, alongC]
    cases hd : done o c m with
    | none =>
      simp only [hd, oC] at hb
      generalize (pre ++ [c]).map Ctd.D = xs at *
      simp -implicitDefEqProofs [loopB, hi, hb, csD]
    | some c' =>
      simp only [hd, oC] at hb
      have hc' := done_ok ho hc hd
      have hz : ((pre ++ [c]).map Ctd.D).length < sizeLine := by rw [hsz]; simp at hl ⊢; omega
      have hnx := ih (fun x hx => hms x (List.mem_cons_of_mem _ hx)) (pre ++ [c]) c' hc' (by simp at hl ⊢; omega) (some (.dat m.D)) (some (.dat c'.D))
      have e : (pre ++ [c] ++ [c']).map Ctd.D = (pre ++ [c]).map Ctd.D ++ [c'.D] := by simp
      rw [e] at hnx
      have hno : isNon (.dat c'.D) = false := rfl
      generalize (pre ++ [c]).map Ctd.D = xs at *
      simp -implicitDefEqProofs [loopB, hi, hb, hno, hz]
      exact hnx
end P
def toMove : PyData → Move
  | .tuple [.str w, .int i] => ⟨decide (w = Str.ofString "head"), i.toNat⟩
  | _ => ⟨true, 0⟩
theorem toMove_D (m : Move) : toMove m.D = m := by
  obtain ⟨b, i⟩ := m
  cases b
  · simp [Move.D, toMove, P.ne_hh]
  · simp [Move.D, toMove]
theorem toMoves_D (ms : List Move) : (ms.map Move.D).map toMove = ms := by
  rw [List.map_map]
  exact (List.map_congr_left fun m _ => toMove_D m).trans (List.map_id ms)
/-- the moves that are told -/
def movesD (o : Off) (v : PyData) : Option (List Move) := match itemsD v with
  | some xs => if xs.length ≤ 2000 ∧ xs.all (P.wMv o) = true then some (xs.map toMove) else none
  | none => none
theorem movesD_ok {o : Off} {v : PyData} {ms : List Move} (h : movesD o v = some ms) : itemsD v = some (ms.map Move.D) ∧ (∀ m ∈ ms, m.ok o) ∧ ms.length ≤ 2000 := by
  unfold movesD at h
  split at h
  · rename_i xs hx
    split at h
    · rename_i hc
      obtain ⟨ns, rfl, hn⟩ := P.wMv_moves hc.2
      rw [toMoves_D] at h
      cases h
      exact ⟨hx, hn, by simpa using hc.1⟩
    · cases h
  · cases h
def walkR (o : Off) (many : Nat) (v : PyData) : Option (List Ctd) := (movesD o v).bind fun ms => alongC o [] (P.cBegin o many) ms
namespace P
variable {G : Gam}
theorem moves_all (W : Walks G) (k : Nat) (o : Off) (xs : List PyData) (a1 a2 a3 a4 a5 : Option Z.D) (s : Sto) : cgo (ETurn (callF G (k + 3)) G (.nm 6) [] (.call "is_move_of" [(.var 0), (.var 6)]) [some (.dat o.D), a1, a2, a3, a4, a5, none]) xs s = .ok (xs.map fun x => .bool (wMv o x)) s :=
  cgo_map _ xs fun x _ => by simp -implicitDefEqProofs [turn_eq, is_move_of W.looks k x]
theorem walk_by (W : Walks G) (k : Nat) {o : Off} (ho : o.ok) (many : Nat) (v : PyData) (hv : ∀ xs, itemsD v = some xs → xs.length ≤ 100000) (s : Sto) : callF G (k + 4) "walk_by" [.dat o.D, .dat (.int many), .dat v] s = .ok (.dat (csD (walkR o many v))) s := by
  rw [cal_of W.walk_by rfl]
  have h1 := fun s => is_list W (k + 2) v s
  cases hi : itemsD v with
  | none =>
    rw [hi] at h1
    have hr : walkR o many v = none := by simp only [walkR, movesD, hi, Option.bind_none]
    rw [hr]
    simp -implicitDefEqProofs [f_walk_by, h1, csD]
  | some xs =>
    rw [hi] at h1
    have hx := hv xs hi
    have hlen : lenD [v] = some (.int xs.length) := by cases v <;> simp only [itemsD] at hi <;> cases hi <;> simp
    have hsrc : srcD .it [v] = some xs := by cases v <;> simp only [itemsD] at hi <;> cases hi <;> simp
    have hb : big xs.length = true := big_of (by omega)
    have hma := fun s => moves_all W k o xs (some (.dat (.int many))) (some (.dat v)) none none none s
    by_cases hc : xs.length ≤ 2000
    · have hc' : ¬ ((2000 : Int) < xs.length) := by omega
      cases ha : xs.all (wMv o) with
      | false =>
        have hab : allB (xs.map (wMv o)) = false := by rw [allB_map, ha]
        have hr : walkR o many v = none := by simp only [walkR, movesD, hi, ha, Bool.false_eq_true, and_false, if_false, Option.bind_none]
        rw [hr]
        simp -implicitDefEqProofs [f_walk_by, h1, hlen, hc', glob_eq W.c_moves, hsrc, hb, hma, boolsOf_map, hab, csD]
      | true =>
        have hab : allB (xs.map (wMv o)) = true := by rw [allB_map, ha]
        obtain ⟨ms, e, hms⟩ := wMv_moves ha
        have hr : walkR o many v = alongC o [] (cBegin o many) ms := by
          simp only [walkR, movesD, hi]
          rw [if_pos ⟨hc, ha⟩, e, toMoves_D]; rfl
        rw [hr]
        have hl : ms.length ≤ 2000 := by rw [e] at hc; simpa using hc
        have hcb := fun s => counted_begin W.moves (k + 2) ho many s
        have hw := walk_loop W (k + 1) ho (some (.dat (.int many))) (some (.dat v)) none s ms hms [] (cBegin o many) (cBegin_ok ho many) (by simp; omega) none none
        rw [← e] at hw
        simp only [List.nil_append, List.map_cons, List.map_nil] at hw
        simp -implicitDefEqProofs [f_walk_by, h1, hlen, hc', glob_eq W.c_moves, hsrc, hb, hma, boolsOf_map, hab, hcb]
        exact hw
    · have hc' : ((2000 : Int) < xs.length) := by omega
      have hr : walkR o many v = none := by simp only [walkR, movesD, hi, hc, false_and, if_false, Option.bind_none]
      rw [hr]
      simp -implicitDefEqProofs [f_walk_by, h1, hlen, hc', glob_eq W.c_moves, csD]
def helpersOk (many : Nat) : Prop := many ≤ 6
theorem want_helpers (W : Walks G) (k : Nat) {many : Nat} (hm : many ≤ 6) (s : Sto) : callF G (k + 3) "want_helpers" [.dat (.int many)] s = .ok (.dat .none) s := by
  rw [cal_of W.want_helpers rfl]
  have h : wIn 0 6 (.int many) = true := wIn_nat (by omega) (by omega)
  simp -implicitDefEqProofs [f_want_helpers, glob_eq W.c_helpers, is_within W.looks.toBasics, h]
theorem isNo_cs (r : Option (List Ctd)) : isNo (csD r) = r.isNone := by cases r <;> rfl
theorem is_walk (W : Walks G) (k : Nat) {o : Off} (ho : o.ok) {many : Nat} (hm : many ≤ 6) (v : PyData) (hv : ∀ xs, itemsD v = some xs → xs.length ≤ 100000) (s : Sto) : callF G (k + 8) "is_walk" [.dat o.D, .dat (.int many), .dat v] s = .ok (.dat (.bool (walkR o many v).isSome)) s := by
  rw [cal_of W.is_walk rfl]
  simp -implicitDefEqProofs [f_is_walk, want_office W.looks k ho, want_helpers W (k + 4) hm, walk_by W (k + 3) ho many v hv, isNon_dat, isNo_cs]
theorem along_walk (W : Walks G) (k : Nat) {o : Off} (ho : o.ok) {many : Nat} (hm : many ≤ 6) (v : PyData) (hv : ∀ xs, itemsD v = some xs → xs.length ≤ 100000) {r : List Ctd} (hr : walkR o many v = some r) (s : Sto) : callF G (k + 8) "along_walk" [.dat o.D, .dat (.int many), .dat v] s = .ok (.dat (.list (r.map Ctd.D))) s := by
  rw [cal_of W.along_walk rfl]
  have hw := fun s => walk_by W (k + 3) ho many v hv s
  have hw2 := fun s => walk_by W (k + 2) ho many v hv s
  rw [hr] at hw hw2
  simp only [csD] at hw hw2
  have h2 : ∀ s, callF G (k + 7) "want_walk" [.dat o.D, .dat (.int many), .dat v] s = .ok (.dat .none) s := fun s => by
    rw [cal_of W.want_walk rfl]
    simp -implicitDefEqProofs [f_want_walk, hw2]
  simp -implicitDefEqProofs [f_along_walk, want_office W.looks k ho, want_helpers W (k + 4) hm, h2, hw]
end P
end Y
end Z
end

section
set_option maxRecDepth 100000
set_option maxHeartbeats 4000000
/-! Standings of crowds along moves. -/
namespace Z
open PySem
namespace Y
structure Std where
  st : Nat
  ns : List Nat
  lot : List Nat
def Std.D (c : Std) : PyData := .tuple [.int c.st, nsD c.ns, nsD c.lot]
def insN (x : Nat) : List Nat → List Nat
  | [] => [x]
  | y :: r => if x ≤ y then x :: y :: r else y :: insN x r
def isortN (ns : List Nat) : List Nat := ns.foldr insN []
theorem insN_cast (x : Nat) : ∀ l : List Nat, insL (x : Int) (l.map fun n : Nat => (n : Int)) = (insN x l).map fun n : Nat => (n : Int)
  | [] => rfl
  | y :: r => by
    simp only [List.map_cons, insL, insN]
    by_cases h : x ≤ y
    · rw [if_pos h, if_pos (by omega)]; rfl
    · rw [if_neg h, if_neg (by omega), insN_cast x r]; rfl
theorem isortN_cast : ∀ l : List Nat, isort (l.map fun n : Nat => (n : Int)) = (isortN l).map fun n : Nat => (n : Int)
  | [] => rfl
  | x :: l => by
    have h := isortN_cast l
    unfold isort isortN at h ⊢
    rw [List.map_cons, List.foldr_cons, List.foldr_cons, h, insN_cast]
def lotWith (lot : List Nat) (e : Nat) : List Nat := if e ∈ lot then lot else isortN (lot ++ [e])
def behindS (o : Off) (x : Std) (m : Move) : Option Std := (o.player m.hd).st[m.at_]?.bind fun s => (notesB s.d x.ns).bind fun ns =>
  if m.hd then (if s.b = x.st then some ⟨s.e, ns, x.lot⟩ else none) else (if s.b ∈ x.lot then some ⟨x.st, ns, lotWith x.lot s.e⟩ else none)
def oS : Option Std → PyData
  | none => .none
  | some c => c.D
theorem intsOf_ns (l : List Nat) : intsOf (l.map nD) = some (l.map fun n : Nat => (n : Int)) := by
  have := intsOf_map (fun n : Nat => (n : Int)) l
  exact this
theorem ints_nD (l : List Nat) : (l.map fun n : Nat => (n : Int)).map PyData.int = l.map nD := by rw [List.map_map]; rfl
theorem flat_ns : ∀ l : List Nat, allFlat (l.map nD) = true
  | [] => rfl
  | x :: l => by simp only [List.map_cons, nD, flat_i, flat_ns l]
theorem in_ns (x : Nat) (l : List Nat) : inD (.int x) (nsD l) = some (decide (x ∈ l)) := by
  rw [show nsD l = .tuple (l.map nD) from rfl, inD_int, flat_ns, inK_t]
  congr 1
  rw [Bool.eq_iff_iff, List.any_eq_true, decide_eq_true_eq]
  constructor
  · rintro ⟨z, hz, h⟩
    obtain ⟨n, hn, rfl⟩ := List.mem_map.mp hz
    have : (n : Int) = x := by simpa [nD] using h
    have : n = x := by omega
    rw [← this]; exact hn
  · intro h
    exact ⟨nD x, List.mem_map.mpr ⟨x, h, rfl⟩, by simp [nD]⟩
namespace P
variable {G : Gam}
theorem lot_with (M : MovesB G) (k : Nat) (lot : List Nat) (e : Nat) (hl : lot.length ≤ 100) (s : Sto) : callF G (k + 1) "lot_with" [.dat (nsD lot), .dat (.int e)] s = .ok (.dat (nsD (lotWith lot e))) s := by
  rw [cal_of M.lot_with rfl]
  have hi := in_ns e lot
  have hsz : sizeLine = 16777216 := by decide +kernel
  by_cases h : e ∈ lot
  · simp only [h, decide_true] at hi
    simp -implicitDefEqProofs [f_lot_with, hi, lotWith, h]
  · simp only [h, decide_false] at hi
    have hz : (lot.map nD).length + 1 ≤ sizeLine := by rw [hsz, List.length_map]; omega
    have hb : binD .add (nsD lot) (.tuple [.int e]) = some (nsD (lot ++ [e])) := by
      show binD .add (.tuple (lot.map nD)) (.tuple [.int e]) = _
      rw [bin_addT, if_pos (by simpa using hz)]
      simp [nsD, nD]
    have hs : bfD .sorted [nsD (lot ++ [e])] = some (.list ((isortN (lot ++ [e])).map nD)) := by
      show (intsOf ((lot ++ [e]).map nD)).map (fun ns => PyData.list ((isort ns).map .int)) = _
      rw [intsOf_ns, Option.map_some, isortN_cast, ints_nD]
    have hvf : ∀ d s, vwF .sorted [.dat d] s = some [d] := fun d s => by simp [vwF]
    simp -implicitDefEqProofs [f_lot_with, hi, lotWith, h, hb, hs, hvf, -List.map_append]
    rfl
theorem begin_of (M : Moves G) (k : Nat) {o : Off} (ho : o.ok) (s : Sto) : callF G (k + 1) "begin_of" [.dat o.D] s = .ok (.dat (Std.D ⟨0, List.replicate o.bs.length 0, [0]⟩)) s := by
  rw [cal_of M.begin_of rfl]
  have h1 := ho.l1
  obtain ⟨b, hb⟩ : ∃ b : Int, b = o.bs.length := ⟨_, rfl⟩
  have d1 : EV (callF G k) G (.bf .len [(.idx (.var 0) (.num 1))]) [some (.dat o.D)] s = .ok (.dat (.int b)) s := by rw [hb]; simp [Off.D, nsD, ixN]
  have z0 : 0 ≤ b ∧ b ≤ 1000 := by omega
  have e1 : b.toNat = o.bs.length := by omega
  have e3 : Std.D ⟨0, List.replicate o.bs.length 0, [0]⟩ = .tuple [.int 0, .tuple (List.replicate b.toNat (.int 0)), .tuple [.int 0]] := by
    rw [e1]
    simp [Std.D, nsD, nD, List.map_replicate]
  rw [e3]
  simp -implicitDefEqProofs [-v_bf, f_begin_of, d1, z0]
theorem behind (M : MovesB G) (k : Nat) {o : Off} (ho : o.ok) {c : Std} (hn0 : c.ns.length = o.bs.length) (hl : c.lot.length ≤ 100) {m : Move} (hm : m.ok o) (s : Sto) : callF G (k + 2) "behind" [.dat o.D, .dat c.D, .dat m.D] s = .ok (.dat (oS (behindS o c m))) s := by
  rw [cal_of M.behind rfl]
  obtain ⟨st, hst⟩ : ∃ st, (o.player m.hd).st[m.at_]? = some st := ⟨_, List.getElem?_eq_getElem hm⟩
  have hmem := List.mem_of_getElem? hst
  have hs : st.ok o.bs (o.player m.hd).n := by
    unfold Off.player at hmem ⊢
    split at hmem
    · rename_i h; rw [if_pos h]; exact ho.hd.st st hmem
    · rename_i h; rw [if_neg h]; exact ho.hp.st st hmem
  have h1 := fun s => step_of M k hst s
  have h2 := fun s => notes_behind M k hs.d hn0 ho.l1 s
  obtain ⟨hd, i⟩ := m
  obtain ⟨cst, cns, clot⟩ := c
  simp only at h2 hl
  cases hn : notesB st.d cns with
  | none =>
    have hdn : behindS o ⟨cst, cns, clot⟩ ⟨hd, i⟩ = none := by simp only [behindS, hst, Option.bind_some, hn, Option.bind_none]
    rw [hn] at h2
    rw [hdn]
    simp -implicitDefEqProofs [f_behind, Std.D, h1, Step.D, h2, oNs, oS]
  | some l =>
    rw [hn] at h2
    simp only [oNs] at h2
    cases hd with
    | true =>
      have h1 : ∀ s, callF G (k + 1) "step_of" [.dat o.D, .dat (.tuple [.str "head", .int i])] s = .ok (.dat st.D) s := h1
      by_cases hb : st.b = cst
      · have hdn : behindS o ⟨cst, cns, clot⟩ ⟨true, i⟩ = some ⟨st.e, l, clot⟩ := by simp only [behindS, hst, Option.bind_some, hn, if_true, hb]
        have hb' : (st.b : Int) = cst := by omega
        rw [hdn]
        simp -implicitDefEqProofs [f_behind, Std.D, h1, Step.D, h2, oS, Move.D, glob_eq M.c_head, isNon_nsD, hb]
      · have hdn : behindS o ⟨cst, cns, clot⟩ ⟨true, i⟩ = none := by simp only [behindS, hst, Option.bind_some, hn, if_true, hb, if_false]
        rw [hdn]
        simp -implicitDefEqProofs [f_behind, Std.D, h1, Step.D, h2, oS, Move.D, glob_eq M.c_head, isNon_nsD, hb]
        omega
    | false =>
      have h1 : ∀ s, callF G (k + 1) "step_of" [.dat o.D, .dat (.tuple [.str "helper", .int i])] s = .ok (.dat st.D) s := h1
      have hi := in_ns st.b clot
      have hlw := fun s => lot_with M k clot st.e hl s
      by_cases hb : st.b ∈ clot
      · have hdn : behindS o ⟨cst, cns, clot⟩ ⟨false, i⟩ = some ⟨cst, l, lotWith clot st.e⟩ := by simp only [behindS, hst, Option.bind_some, hn, Bool.false_eq_true, if_false, hb, if_true]
        simp only [hb, decide_true] at hi
        rw [hdn]
        simp -implicitDefEqProofs [f_behind, Std.D, h1, Step.D, h2, oS, Move.D, glob_eq M.c_head, ne_hh, isNon_nsD, hi, hlw]
      · have hdn : behindS o ⟨cst, cns, clot⟩ ⟨false, i⟩ = none := by simp only [behindS, hst, Option.bind_some, hn, Bool.false_eq_true, if_false, hb]
        simp only [hb, decide_false] at hi
        rw [hdn]
        simp -implicitDefEqProofs [f_behind, Std.D, h1, Step.D, h2, oS, Move.D, glob_eq M.c_head, ne_hh, isNon_nsD, hi]
end P
end Y
end Z
end

section
set_option maxRecDepth 100000
set_option maxHeartbeats 4000000
/-! Runs, and the crowd behind a walk. -/
namespace Z
open PySem
namespace Y
namespace P
def f_run_from : Fd := ⟨["office", "standing", "moves"], 6, true, [
    .own 3 (.lst [(.var 1)]),
    .fr (.nm 4) .it [(.var 2)] [.asg 5 (.call "behind" [(.var 0), (.idx (.ovar 3) (.neg (.num 1))), (.var 4)]), .ife (.isN (.var 5)) [.ret .non] [], .app 3 (.var 5)],
    .ret (.ovar 3)]⟩
def f_run_by : Fd := ⟨["office", "value"], 3, true, [
    .ife (.or [(.nt (.call "is_list" [(.var 1)])), (.cmp .gt (.bf .len [(.var 1)]) (.glob "MOST_MOVES")), (.nt (.bf .all [(.comp (.call "is_move_of" [(.var 0), (.var 2)]) (.nm 2) .it [(.var 1)] [])]))]) [.ret .non] [],
    .ret (.call "run_from" [(.var 0), (.call "begin_of" [(.var 0)]), (.bf .list [(.var 1)])])]⟩
def f_crowd_behind : Fd := ⟨["office", "many", "walk"], 3, false, [
    .exp (.call "want_office" [(.var 0)]),
    .exp (.call "want_helpers" [(.var 1)]),
    .exp (.call "want_walk" [(.var 0), (.var 1), (.var 2)]),
    .ret (.idx (.call "run_by" [(.var 0), (.var 2)]) (.neg (.num 1)))]⟩
structure Runs (G : Gam) : Prop where
  walks : Walks G
  run_from : G.fns "run_from" = some f_run_from
  run_by : G.fns "run_by" = some f_run_by
  crowd_behind : G.fns "crowd_behind" = some f_crowd_behind
end P
def alongS (o : Off) (pre : List Std) (c : Std) : List Move → Option (List Std)
  | [] => some (pre ++ [c])
  | m :: ms => match behindS o c m with
    | none => none
    | some c' => alongS o (pre ++ [c]) c' ms
def ssD : Option (List Std) → PyData
  | none => .none
  | some l => .list (l.map Std.D)
theorem insN_perm (x : Nat) : ∀ l : List Nat, (insN x l).Perm (x :: l)
  | [] => .refl _
  | y :: r => by
    simp only [insN]
    split
    · exact .refl _
    · exact ((insN_perm x r).cons y).trans (.swap x y r)
theorem insN_le (x : Nat) : ∀ {l : List Nat}, l.Pairwise (· ≤ ·) → (insN x l).Pairwise (· ≤ ·)
  | [], _ => by simp [insN]
  | y :: r, h => by
    have h := List.pairwise_cons.mp h
    simp only [insN]
    split
    · rename_i hx
      refine List.pairwise_cons.mpr ⟨fun z hz => ?_, List.pairwise_cons.mpr h⟩
      rcases List.mem_cons.mp hz with rfl | hz
      · exact hx
      · have := h.1 z hz; omega
    · refine List.pairwise_cons.mpr ⟨fun z hz => ?_, insN_le x h.2⟩
      rcases List.mem_cons.mp ((insN_perm x r).mem_iff.mp hz) with rfl | hz
      · omega
      · exact h.1 z hz
theorem isortN_perm : ∀ l : List Nat, (isortN l).Perm l
  | [] => .refl _
  | x :: l => (insN_perm x _).trans ((isortN_perm l).cons x)
theorem isortN_le : ∀ l : List Nat, (isortN l).Pairwise (· ≤ ·)
  | [] => List.Pairwise.nil
  | x :: l => insN_le x (isortN_le l)
theorem lt_of_le_nodup : ∀ {l : List Nat}, l.Pairwise (· ≤ ·) → l.Nodup → l.Pairwise (· < ·)
  | [], _, _ => .nil
  | x :: l, h, hn => by
    have h := List.pairwise_cons.mp h
    have hn := List.nodup_cons.mp hn
    refine List.pairwise_cons.mpr ⟨fun z hz => ?_, lt_of_le_nodup h.2 hn.2⟩
    have := h.1 z hz
    have : x ≠ z := fun e => hn.1 (e ▸ hz)
    omega
theorem nodup_of_lt {l : List Nat} (h : l.Pairwise (· < ·)) : l.Nodup := h.imp fun {a b} h => by omega
theorem len_lt : ∀ {l : List Nat} {a n : Nat}, l.Pairwise (· < ·) → (∀ x ∈ l, a ≤ x ∧ x < n) → l.length ≤ n - a
  | [], _, _, _, _ => Nat.zero_le _
  | x :: l, a, n, h, hb => by
    have h := List.pairwise_cons.mp h
    have hx := hb x (List.mem_cons_self ..)
    have := len_lt (a := x + 1) (n := n) h.2 fun z hz => ⟨h.1 z hz, (hb z (List.mem_cons_of_mem _ hz)).2⟩
    simp only [List.length_cons]; omega
theorem lotWith_mem (lot : List Nat) (e z : Nat) : z ∈ lotWith lot e ↔ z ∈ lot ∨ z = e := by
  unfold lotWith
  split
  · rename_i h
    constructor
    · exact .inl
    · rintro (h2 | rfl)
      · exact h2
      · exact h
  · rw [(isortN_perm _).mem_iff]; simp
theorem lotWith_lt {lot : List Nat} (h : lot.Pairwise (· < ·)) (e : Nat) : (lotWith lot e).Pairwise (· < ·) := by
  unfold lotWith
  split
  · exact h
  · rename_i he
    refine lt_of_le_nodup (isortN_le _) ((isortN_perm _).nodup_iff.mpr ?_)
    rw [List.nodup_append]
    exact ⟨nodup_of_lt h, by simp, fun a ha b hb => by rw [List.mem_singleton.mp hb]; exact fun e' => he (e' ▸ ha)⟩
structure Std.ok (o : Off) (c : Std) : Prop where
  ns : c.ns.length = o.bs.length
  lt : c.lot.Pairwise (· < ·)
  lot : ∀ x ∈ c.lot, x < o.hp.n
theorem Std.ok.len {o : Off} (ho : o.ok) {c : Std} (h : c.ok o) : c.lot.length ≤ 100 := by
  have h1 := len_lt (a := 0) h.lt fun x hx => ⟨Nat.zero_le _, h.lot x hx⟩
  have h2 := ho.hp.n1
  omega
theorem behindS_ok {o : Off} (ho : o.ok) {c c' : Std} {m : Move} (hc : c.ok o) (h : behindS o c m = some c') : c'.ok o := by
  unfold behindS at h
  obtain ⟨s, h1, h⟩ := Option.bind_eq_some_iff.mp h
  obtain ⟨ns, h2, h⟩ := Option.bind_eq_some_iff.mp h
  have hl := notesB_len h2
  have hs := List.mem_of_getElem? h1
  split at h
  · split at h
    · cases h
      exact ⟨by rw [← hc.ns]; exact hl, hc.lt, hc.lot⟩
    · cases h
  · rename_i hm
    rw [Off.player, if_neg hm] at hs
    split at h
    · cases h
      refine ⟨by rw [← hc.ns]; exact hl, lotWith_lt hc.lt _, fun x hx => ?_⟩
      rcases (lotWith_mem _ _ _).mp hx with hx | rfl
      · exact hc.lot x hx
      · exact (ho.hp.st s hs).e
    · cases h
def sBegin (o : Off) : Std := ⟨0, List.replicate o.bs.length 0, [0]⟩
namespace P
variable {G : Gam}
theorem run_loop (W : Runs G) (k : Nat) {o : Off} (ho : o.ok) (a1 a2 : Option Z.D) (s : Sto) : ∀ (ms : List Move) (hms : ∀ m ∈ ms, m.ok o) (pre : List Std) (c : Std) (hc : c.ok o) (hl : pre.length + ms.length ≤ 10000) (a4 a5 : Option Z.D),
    fin ((fgo (loopB (callF G (k + 2)) G (.nm 4) [.asg 5 (.call "behind" [(.var 0), (.idx (.ovar 3) (.neg (.num 1))), (.var 4)]), .ife (.isN (.var 5)) [.ret .non] [], .app 3 (.var 5)]) (ms.map Move.D) [some (.dat o.D), a1, a2, some (.own ((pre ++ [c]).map Std.D)), a4, a5] s).nxt (execs (callF G (k + 2)) G [.ret (.ovar 3)])) = .ok (.dat (ssD (alongS o pre c ms))) s := by
  intro ms
  induction ms with
  | nil =>
    intro _ pre c hc hl a4 a5
    simp -implicitDefEqProofs [fgo, alongS, ssD, -List.map_append]
  | cons m ms ih =>
    intro hms pre c hc hl a4 a5
    have hm := hms m (List.mem_cons_self ..)
    have hb := fun s => behind W.walks.moves.toMovesB k ho hc.ns (hc.len ho) hm s
    have hi := idx_last Std.D pre c
    have hsz : sizeLine = 16777216 := by decide +kernel
    simp only [List.map_cons, fgo, alongS]
    cases hd : behindS o c m with
    | none =>
      simp only [hd, oS] at hb
      generalize (pre ++ [c]).map Std.D = xs at *
      simp -implicitDefEqProofs [loopB, hi, hb, ssD]
    | some c' =>
      simp only [hd, oS] at hb
      have hc' := behindS_ok ho hc hd
      have hz : ((pre ++ [c]).map Std.D).length < sizeLine := by rw [hsz]; simp at hl ⊢; omega
      have hnx := ih (fun x hx => hms x (List.mem_cons_of_mem _ hx)) (pre ++ [c]) c' hc' (by simp at hl ⊢; omega) (some (.dat m.D)) (some (.dat c'.D))
      have e : (pre ++ [c] ++ [c']).map Std.D = (pre ++ [c]).map Std.D ++ [c'.D] := by simp
      rw [e] at hnx
      have hno : isNon (.dat c'.D) = false := rfl
      generalize (pre ++ [c]).map Std.D = xs at *
      simp -implicitDefEqProofs [loopB, hi, hb, hno, hz]
      exact hnx
theorem sBegin_ok {o : Off} (ho : o.ok) : (sBegin o).ok o := ⟨by simp [sBegin], by simp [sBegin], fun x hx => by
  have h := ho.hp.n0
  simp only [sBegin, List.mem_singleton] at hx
  omega⟩
theorem run_from (W : Runs G) (k : Nat) {o : Off} (ho : o.ok) (ms : List Move) (hms : ∀ m ∈ ms, m.ok o) (hl : ms.length ≤ 2000) (s : Sto) : callF G (k + 3) "run_from" [.dat o.D, .dat (sBegin o).D, .dat (.list (ms.map Move.D))] s = .ok (.dat (ssD (alongS o [] (sBegin o) ms))) s := by
  rw [cal_of W.run_from rfl]
  have h := run_loop W k ho (some (.dat (sBegin o).D)) (some (.dat (.list (ms.map Move.D)))) s ms hms [] (sBegin o) (sBegin_ok ho) (by simp; omega) none none
  simp only [List.nil_append, List.map_cons, List.map_nil] at h
  simp -implicitDefEqProofs [f_run_from]
  exact h
def runR (o : Off) (v : PyData) : Option (List Std) := (movesD o v).bind fun ms => alongS o [] (sBegin o) ms
theorem run_by (W : Runs G) (k : Nat) {o : Off} (ho : o.ok) (v : PyData) {ms : List Move} (hv : movesD o v = some ms) (s : Sto) : callF G (k + 4) "run_by" [.dat o.D, .dat v] s = .ok (.dat (ssD (alongS o [] (sBegin o) ms))) s := by
  rw [cal_of W.run_by rfl]
  obtain ⟨hi, hms, hl⟩ := movesD_ok hv
  have h1 := fun s => is_list W.walks (k + 2) v s
  rw [hi] at h1
  have hlen : lenD [v] = some (.int (ms.map Move.D).length) := by cases v <;> simp only [itemsD] at hi <;> cases hi <;> simp
  have hsrc : srcD .it [v] = some (ms.map Move.D) := by cases v <;> simp only [itemsD] at hi <;> cases hi <;> simp
  have hlst : bfD .list [v] = some (.list (ms.map Move.D)) := by cases v <;> simp only [itemsD] at hi <;> cases hi <;> rfl
  have hma : cgo (ETurn (callF G (k + 3)) G (.nm 2) [] (.call "is_move_of" [(.var 0), (.var 2)]) [some (.dat o.D), some (.dat v), none]) (ms.map Move.D) s = .ok ((ms.map Move.D).map fun x => .bool (wMv o x)) s :=
    cgo_map _ _ fun x _ => by simp -implicitDefEqProofs [turn_eq, is_move_of W.walks.looks k x]
  have hall : (ms.map Move.D).all (wMv o) = true := by
    unfold movesD at hv
    rw [hi] at hv
    simp only at hv
    split at hv
    · rename_i h; exact h.2
    · cases hv
  have hab : allB ((ms.map Move.D).map (wMv o)) = true := by rw [allB_map, hall]
  have hrun := fun s => run_from W k ho ms hms hl s
  have hbeg : ∀ s, callF G (k + 3) "begin_of" [.dat o.D] s = .ok (.dat (sBegin o).D) s := fun s => begin_of W.walks.moves (k + 2) ho s
  have hl2 : (ms.map Move.D).length ≤ 2000 := by simpa using hl
  generalize ms.map Move.D = xs at *
  have hc' : ¬ ((2000 : Int) < xs.length) := by omega
  simp -implicitDefEqProofs [f_run_by, h1, hlen, hc', glob_eq W.walks.c_moves, hsrc, big_of (n := xs.length) (by omega), hma, boolsOf_map, hab, hbeg, hlst, hrun]
end P
end Y
end Z
end

section
set_option maxRecDepth 100000
set_option maxHeartbeats 4000000
/-! A walk with counts beside the crowd's run. -/
namespace Z
open PySem
namespace Y
/-- where the helpers that move come to -/
def endsH (o : Off) : List Move → List Nat
  | [] => []
  | m :: ms => (if m.hd then [] else match o.hp.st[m.at_]? with
    | some s => [s.e]
    | none => []) ++ endsH o ms
/-- who is there is in the lot -/
def Holds (c : Ctd) (x : Std) : Prop := x.st = c.st ∧ x.ns = c.ns ∧ ∀ (i n : Nat), c.cs[i]? = some (n + 1) → i ∈ x.lot
theorem done_behind {o : Off} {c c' : Ctd} {x : Std} {m : Move} (hm : m.ok o) (h : Holds c x) (hd : done o c m = some c') :
    ∃ x', behindS o x m = some x' ∧ Holds c' x' ∧ x'.lot = (endsH o [m]).foldl lotWith x.lot := by
  obtain ⟨h1, h2, h3⟩ := h
  unfold done at hd
  obtain ⟨s, e1, hd⟩ := Option.bind_eq_some_iff.mp hd
  obtain ⟨ns, e2, hd⟩ := Option.bind_eq_some_iff.mp hd
  obtain ⟨b, i⟩ := m
  cases b with
  | true =>
    rw [if_pos rfl] at hd
    split at hd
    · rename_i hb
      cases hd
      refine ⟨⟨s.e, ns, x.lot⟩, ?_, ⟨rfl, rfl, h3⟩, by simp [endsH]⟩
      simp only [behindS, e1, Option.bind_some, h2, e2, if_true, h1, hb]
    · cases hd
  | false =>
    rw [if_neg (by simp)] at hd
    obtain ⟨cs, e3, rfl⟩ := Option.map_eq_some_iff.mp hd
    have e1' : o.hp.st[i]? = some s := e1
    unfold shift at e3
    split at e3
    · rename_i n hn
      obtain ⟨y, hy, rfl⟩ := Option.map_eq_some_iff.mp e3
      have hb : s.b ∈ x.lot := h3 s.b n hn
      refine ⟨⟨x.st, ns, lotWith x.lot s.e⟩, ?_, ⟨h1, rfl, fun j k hj => ?_⟩, by simp [endsH, e1']⟩
      · simp only [behindS, e1, Option.bind_some, h2, e2, Bool.false_eq_true, if_false, hb, if_true]
      · rw [lotWith_mem]
        by_cases hje : s.e = j
        · exact .inr hje.symm
        · rw [List.getElem?_set_ne hje] at hj
          by_cases hjb : s.b = j
          · rw [← hjb]; exact .inl hb
          · rw [List.getElem?_set_ne hjb] at hj
            exact .inl (h3 j k hj)
    · cases e3
theorem along_behind {o : Off} (ho : o.ok) : ∀ (ms : List Move) (hms : ∀ m ∈ ms, m.ok o) (pre : List Ctd) (c : Ctd) (pre' : List Std) (x : Std) (r : List Ctd), Holds c x → alongC o pre c ms = some r →
    ∃ q cl, r = q ++ [cl] ∧ ∃ q', alongS o pre' x ms = some (q' ++ [⟨cl.st, cl.ns, (endsH o ms).foldl lotWith x.lot⟩])
  | [], _, pre, c, pre', x, r, h, e => by
    cases e
    obtain ⟨h1, h2, _⟩ := h
    refine ⟨pre, c, rfl, pre', ?_⟩
    obtain ⟨xs, xn, xl⟩ := x
    simp only at h1 h2
    simp only [alongS, endsH, List.foldl_nil, h1, h2]
  | m :: ms, hms, pre, c, pre', x, r, h, e => by
    simp only [alongC] at e
    cases hd : done o c m with
    | none => rw [hd] at e; cases e
    | some c' =>
      rw [hd] at e
      obtain ⟨x', e1, h', e2⟩ := done_behind (hms m (List.mem_cons_self ..)) h hd
      obtain ⟨q, cl, e3, q', e4⟩ := along_behind ho ms (fun z hz => hms z (List.mem_cons_of_mem _ hz)) (pre ++ [c]) c' (pre' ++ [x]) x' r h' e
      refine ⟨q, cl, e3, q', ?_⟩
      simp only [alongS, e1, e4]
      have e5 : endsH o (m :: ms) = endsH o [m] ++ endsH o ms := by simp [endsH]
      rw [e5, List.foldl_append, ← e2]
theorem holds_begin {o : Off} (many : Nat) : Holds (P.cBegin o many) (sBegin o) := by
  refine ⟨rfl, rfl, fun i n h => ?_⟩
  simp only [P.cBegin] at h
  cases i with
  | zero => simp [sBegin]
  | succ i =>
    rw [List.getElem?_cons_succ] at h
    obtain ⟨h1, h2⟩ := List.getElem?_eq_some_iff.mp h
    simp at h2
/-- the lot, as a look at all states -/
theorem fold_mem : ∀ (es lot : List Nat) (z : Nat), z ∈ es.foldl lotWith lot ↔ z ∈ lot ∨ z ∈ es
  | [], lot, z => by simp
  | e :: es, lot, z => by
    rw [List.foldl_cons, fold_mem es, lotWith_mem, List.mem_cons]
    constructor
    · rintro ((h | h) | h)
      · exact .inl h
      · exact .inr (.inl h)
      · exact .inr (.inr h)
    · rintro (h | h | h)
      · exact .inl (.inl h)
      · exact .inl (.inr h)
      · exact .inr h
theorem fold_lt : ∀ (es lot : List Nat), lot.Pairwise (· < ·) → (es.foldl lotWith lot).Pairwise (· < ·)
  | [], _, h => h
  | e :: es, _, h => fold_lt es _ (lotWith_lt h e)
theorem lt_sameN : ∀ {l m : List Nat}, l.Pairwise (· < ·) → m.Pairwise (· < ·) → (∀ z, z ∈ l ↔ z ∈ m) → l = m
  | [], [], _, _, _ => rfl
  | [], y :: m, _, _, h => absurd ((h y).mpr (List.mem_cons_self ..)) (by simp)
  | x :: l, [], _, _, h => absurd ((h x).mp (List.mem_cons_self ..)) (by simp)
  | x :: l, y :: m, hl, hm, h => by
    have hl := List.pairwise_cons.mp hl
    have hm := List.pairwise_cons.mp hm
    have e : x = y := by
      rcases List.mem_cons.mp ((h x).mp (List.mem_cons_self ..)) with e | e
      · exact e
      · rcases List.mem_cons.mp ((h y).mpr (List.mem_cons_self ..)) with e2 | e2
        · exact e2.symm
        · have h1 := hm.1 x e
          have h2 := hl.1 y e2
          omega
    subst e
    refine congrArg (x :: ·) (lt_sameN hl.2 hm.2 fun z => ⟨fun hz => ?_, fun hz => ?_⟩)
    · rcases List.mem_cons.mp ((h z).mp (List.mem_cons_of_mem _ hz)) with e | e
      · have := hl.1 z hz; omega
      · exact e
    · rcases List.mem_cons.mp ((h z).mpr (List.mem_cons_of_mem _ hz)) with e | e
      · have := hm.1 z hz; omega
      · exact e
theorem endsH_lt {o : Off} (ho : o.ok) : ∀ (ms : List Move) (e : Nat), e ∈ endsH o ms → e < o.hp.n
  | [], _, h => by simp [endsH] at h
  | m :: ms, e, h => by
    simp only [endsH] at h
    rcases List.mem_append.mp h with h | h
    · split at h
      · simp at h
      · split at h
        · rename_i s hs
          rw [List.mem_singleton] at h
          subst h
          exact (ho.hp.st s (List.mem_of_getElem? hs)).e
        · simp at h
    · exact endsH_lt ho ms e h
theorem lot_look {o : Off} (ho : o.ok) (ms : List Move) : (List.range o.hp.n).filter (fun i => decide (i ∈ 0 :: endsH o ms)) = (endsH o ms).foldl lotWith [0] := by
  refine lt_sameN (List.Pairwise.filter _ List.pairwise_lt_range) (fold_lt _ _ (by simp)) fun z => ?_
  rw [List.mem_filter, List.mem_range, decide_eq_true_eq, fold_mem, List.mem_cons, List.mem_singleton]
  constructor
  · exact fun h => h.2
  · intro h
    refine ⟨?_, h⟩
    rcases h with rfl | h
    · exact ho.hp.n0
    · exact endsH_lt ho ms z h
namespace P
variable {G : Gam}
theorem crowd_behind (W : Runs G) (k : Nat) {o : Off} (ho : o.ok) {many : Nat} (hm : many ≤ 6) (v : PyData) (hv : ∀ xs, itemsD v = some xs → xs.length ≤ 100000) {ms : List Move} (hms : movesD o v = some ms) {q : List Ctd} {cl : Ctd} (hr : walkR o many v = some (q ++ [cl])) (s : Sto) :
    callF G (k + 8) "crowd_behind" [.dat o.D, .dat (.int many), .dat v] s = .ok (.dat (Std.D ⟨cl.st, cl.ns, (endsH o ms).foldl lotWith [0]⟩)) s := by
  rw [cal_of W.crowd_behind rfl]
  obtain ⟨hi, hok, hl⟩ := movesD_ok hms
  have hr2 : alongC o [] (cBegin o many) ms = some (q ++ [cl]) := by
    have h := hr
    unfold walkR at h
    rw [hms] at h
    exact h
  obtain ⟨q2, cl2, e1, q', e2⟩ := along_behind ho ms hok [] (cBegin o many) [] (sBegin o) _ (holds_begin many) hr2
  obtain ⟨rfl, e3⟩ := List.append_inj' e1 rfl
  cases e3
  have hw2 := fun s => walk_by W.walks (k + 2) ho many v hv s
  rw [hr] at hw2
  have h2 : ∀ s, callF G (k + 7) "want_walk" [.dat o.D, .dat (.int many), .dat v] s = .ok (.dat .none) s := fun s => by
    rw [cal_of W.walks.want_walk rfl]
    simp only [csD] at hw2
    simp -implicitDefEqProofs [f_want_walk, hw2]
  have h3 := fun s => run_by W (k + 3) ho v hms s
  rw [e2] at h3
  simp only [ssD] at h3
  have hil := idx_last Std.D q' ⟨cl.st, cl.ns, (endsH o ms).foldl lotWith (sBegin o).lot⟩
  generalize (q' ++ [_]).map Std.D = xs at *
  simp -implicitDefEqProofs [f_crowd_behind, want_office W.walks.looks k ho, want_helpers W.walks (k + 4) hm, h2, h3, hil]
  rfl
end P
end Y
end Z
end

section
set_option maxRecDepth 100000
set_option maxHeartbeats 4000000
/-! One more helper, at state 0; equal data. -/
namespace Z
open PySem
namespace Y
def upL : List Nat → List Nat
  | [] => []
  | x :: r => (x + 1) :: r
def bump (c : Ctd) : Ctd := ⟨c.st, c.ns, upL c.cs⟩
def up0 (i v : Nat) : Nat := match i with
  | 0 => v + 1
  | _ + 1 => v
theorem upL_get : ∀ {cs : List Nat} {i v : Nat}, cs[i]? = some v → (upL cs)[i]? = some (up0 i v)
  | [], i, v, h => by simp at h
  | x :: r, 0, v, h => by
    simp only [List.getElem?_cons_zero, Option.some.injEq] at h
    subst h; rfl
  | x :: r, i + 1, v, h => by
    rw [List.getElem?_cons_succ] at h
    simp only [upL, List.getElem?_cons_succ, h, up0]
theorem upL_set : ∀ (cs : List Nat) (i v : Nat), (upL cs).set i (up0 i v) = upL (cs.set i v)
  | [], _, _ => rfl
  | x :: r, 0, v => rfl
  | x :: r, i + 1, v => rfl
theorem shift_up {cs l : List Nat} {b e : Nat} (h : shift cs b e = some l) : shift (upL cs) b e = some (upL l) := by
  unfold shift at h
  split at h
  · rename_i n hn
    obtain ⟨y, hy, rfl⟩ := Option.map_eq_some_iff.mp h
    have h1 := upL_get hn
    have h2 : (upL cs)[b]? = some (up0 b n + 1) := by
      rw [h1]
      cases b <;> rfl
    have h3 : ((upL cs).set b (up0 b n))[e]? = some (up0 e y) := by
      rw [upL_set]
      exact upL_get hy
    unfold shift
    rw [h2]
    simp only [h3, Option.map_some]
    rw [upL_set]
    have h4 : up0 e y + 1 = up0 e (y + 1) := by cases e <;> rfl
    rw [h4, upL_set]
  · cases h
theorem done_bump {o : Off} {c c' : Ctd} {m : Move} (h : done o c m = some c') : done o (bump c) m = some (bump c') := by
  unfold done at h ⊢
  obtain ⟨s, e1, h⟩ := Option.bind_eq_some_iff.mp h
  obtain ⟨ns, e2, h⟩ := Option.bind_eq_some_iff.mp h
  rw [e1, Option.bind_some]
  have e2' : notesB s.d (bump c).ns = some ns := e2
  rw [e2', Option.bind_some]
  split at h
  · rename_i hm
    split at h
    · rename_i hb
      cases h
      rw [if_pos hm, if_pos (show s.b = (bump c).st from hb)]
      rfl
    · cases h
  · rename_i hm
    obtain ⟨cs, e3, rfl⟩ := Option.map_eq_some_iff.mp h
    rw [if_neg hm]
    have e4 : shift (bump c).cs s.b s.e = some (upL cs) := shift_up e3
    rw [e4]; rfl
theorem along_bump {o : Off} : ∀ (ms : List Move) (pre : List Ctd) (c : Ctd) (r : List Ctd), alongC o pre c ms = some r → alongC o (pre.map bump) (bump c) ms = some (r.map bump)
  | [], pre, c, r, h => by
    cases h
    simp [alongC]
  | m :: ms, pre, c, r, h => by
    simp only [alongC] at h ⊢
    cases hd : done o c m with
    | none => rw [hd] at h; cases h
    | some c' =>
      rw [hd] at h
      rw [done_bump hd]
      have := along_bump ms (pre ++ [c]) c' r h
      rw [List.map_append] at this
      exact this
theorem walk_bump {o : Off} {many : Nat} {v : PyData} {r : List Ctd} (h : walkR o many v = some r) : walkR o (many + 1) v = some (r.map bump) := by
  unfold walkR at h ⊢
  obtain ⟨ms, e, h⟩ := Option.bind_eq_some_iff.mp h
  rw [e, Option.bind_some]
  exact along_bump ms [] _ r h
/-! ### equal data -/
mutual
theorem eqv_refl : ∀ d : PyData, d.canLay0 = true → PyData.eqv d d = true
  | .none, _ => rfl
  | .bool b, _ => by cases b <;> rfl
  | .int i, _ => by simp [PyData.eqv]
  | .str x, _ => by simp [PyData.eqv]
  | .list xs, h => by
    simp only [PyData.eqv]
    exact eqvAll_refl xs (by simpa only [PyData.canLay0] using h)
  | .tuple xs, h => by
    simp only [PyData.eqv]
    exact eqvAll_refl xs (by simpa only [PyData.canLay0] using h)
  | .dict kvs, h => by simp [PyData.canLay0] at h
theorem eqvAll_refl : ∀ xs : List PyData, PyData.canLayAll0 xs = true → PyData.eqvAll xs xs = true
  | [], _ => rfl
  | x :: xs, h => by
    have h : x.canLay0 = true ∧ PyData.canLayAll0 xs = true := by simpa [PyData.canLayAll0] using h
    simp only [PyData.eqvAll, eqv_refl x h.1, eqvAll_refl xs h.2, Bool.and_self]
end
theorem eqD_refl {d : PyData} (h : SeqAt.shaped d = true) : eqD d d = some true := by
  have h1 : d.canLay0 = true := SeqAt.canLay_of_shaped h
  simp only [eqD, h, Bool.and_self, Bool.or_true, if_true, eqv_refl d h1]
end Y
end Z
end

section
set_option maxRecDepth 100000
set_option maxHeartbeats 4000000
/-! What comes along moves, up to the first wrong one. -/
namespace Z
open PySem
namespace Y
section
variable (C : Str → List Z.D → Sto → R Z.D) (G : Gam) (η : Env) (s : Sto)
def kCallo (l : List Ex) (f : Str) (o : Option Fd) (η : Env) (s : Sto) : R Z.D := match o with
  | some fd => (EL C G l η s).bd (callD C f fd)
  | none => .no
def kCallv (l : List Ex) (η : Env) (d : Z.D) (s : Sto) : R Z.D := match d with
  | .fn f => kCallo C G l f (G.fns f) η s
  | _ => .no
@[simp] theorem kCallv_fn (l : List Ex) (f : Str) : kCallv C G l η (.fn f) s = kCallo C G l f (G.fns f) η s := rfl
@[simp] theorem kCallo_s (l : List Ex) (f : Str) (fd : Fd) : kCallo C G l f (some fd) η s = (EL C G l η s).bd (callD C f fd) := rfl
@[simp] theorem callD_eq (f : Str) (fd : Fd) (ds : List Z.D) : callD C f fd ds s = if ds.length = fd.ps.length then C f ds s else .no := rfl
@[simp] theorem v_callv (i : Nat) (l : List Ex) : EV C G (.callv i l) η s = (look η i s).bd (kCallv C G l η) := bd_same fun d s => by
  cases d with
  | fn f =>
    show callO C f (G.fns f) (eXs C G l) η s = kCallo C G l f (G.fns f) η s
    cases G.fns f <;> rfl
  | _ => rfl
def fnrK (x : Str) (o : Option Fd) (s : Sto) : R Z.D := match o with
  | some _ => .ok (.fn x) s
  | none => .no
@[simp] theorem fnrK_s (x : Str) (fd : Fd) : fnrK x (some fd) s = .ok (.fn x) s := rfl
@[simp] theorem v_fnr (x : Str) : EV C G (.fnr x) η s = fnrK x (G.fns x) s := by
  show vFnr G x s = _
  unfold vFnr
  cases G.fns x <;> rfl
end
/-- along a step function, up to the first that isn't let (the begin left out) -/
def goF {α : Type} (f : α → Move → Option α) : α → List Move → List α
  | _, [] => []
  | c, m :: ms => match f c m with
    | none => []
    | some c' => c' :: goF f c' ms
def wrF {α : Type} (f : α → Move → Option α) (c : α) (ms : List Move) : Option Nat := if (goF f c ms).length = ms.length then none else some (goF f c ms).length
theorem goF_len {α : Type} (f : α → Move → Option α) : ∀ (ms : List Move) (c : α), (goF f c ms).length ≤ ms.length
  | [], _ => Nat.le_refl _
  | m :: ms, c => by
    simp only [goF]
    split
    · simp
    · rename_i c' _
      have := goF_len f ms c'
      simp only [List.length_cons]; omega
def oF {α : Type} (D : α → PyData) : Option α → PyData
  | none => .none
  | some c => D c
theorem oC_eq (r : Option Ctd) : oC r = oF Ctd.D r := by cases r <;> rfl
theorem oS_eq (r : Option Std) : oS r = oF Std.D r := by cases r <;> rfl
def wD : Option Nat → PyData
  | none => .none
  | some n => .int n
namespace P
def f_is_count : Fd := ⟨["value"], 1, false, [
    .ret (.an [(.call "is_integer" [(.var 0)]), (.cmp .ge (.var 0) (.num 0))])]⟩
def f_want_many : Fd := ⟨["many"], 1, true, [
    .ife (.nt (.call "is_count" [(.var 0)])) [.nev] []]⟩
def f_want_moves : Fd := ⟨["office", "moves"], 3, true, [
    .ife (.or [(.nt (.call "is_list" [(.var 1)])), (.cmp .gt (.bf .len [(.var 1)]) (.glob "MOST_MOVES")), (.nt (.bf .all [(.comp (.call "is_move_of" [(.var 0), (.var 2)]) (.nm 2) .it [(.var 1)] [])]))]) [.nev] []]⟩
def f_want_walked : Fd := ⟨["office", "many", "moves"], 3, true, [
    .exp (.call "want_office" [(.var 0)]),
    .exp (.call "want_many" [(.var 1)]),
    .ife (.cmp .gt (.var 1) (.glob "MOST_COUNT")) [.nev] [],
    .exp (.call "want_moves" [(.var 0), (.var 2)])]⟩
def f_along : Fd := ⟨["office", "first", "moves", "next_of"], 7, true, [
    .own 4 (.lst [(.var 1)]),
    .fr (.nm 5) .it [(.var 2)] [.asg 6 (.callv 3 [(.var 0), (.idx (.ovar 4) (.neg (.num 1))), (.var 5)]), .ife (.isN (.var 6)) [.brk] [], .app 4 (.var 6)],
    .ret (.ovar 4)]⟩
def f_wrong_place : Fd := ⟨["found", "moves"], 2, true, [
    .ret (.ife (.cmp .gt (.bf .len [(.var 0)]) (.bf .len [(.var 1)])) .non (.bin .sub (.bf .len [(.var 0)]) (.num 1)))]⟩
def f_wrong_of_run : Fd := ⟨["office", "moves"], 2, true, [
    .exp (.call "want_office" [(.var 0)]),
    .exp (.call "want_moves" [(.var 0), (.var 1)]),
    .ret (.call "wrong_place" [(.call "along" [(.var 0), (.call "begin_of" [(.var 0)]), (.var 1), (.fnr "behind")]), (.var 1)])]⟩
def f_wrong_of_walk : Fd := ⟨["office", "many", "moves"], 3, true, [
    .exp (.call "want_walked" [(.var 0), (.var 1), (.var 2)]),
    .ret (.call "wrong_place" [(.call "along" [(.var 0), (.call "counted_begin" [(.var 0), (.var 1)]), (.var 2), (.fnr "counted_behind")]), (.var 2)])]⟩
def f_standings_along : Fd := ⟨["office", "moves"], 2, true, [
    .exp (.call "want_office" [(.var 0)]),
    .exp (.call "want_moves" [(.var 0), (.var 1)]),
    .ret (.call "along" [(.var 0), (.call "begin_of" [(.var 0)]), (.var 1), (.fnr "behind")])]⟩
def f_counted_along : Fd := ⟨["office", "many", "moves"], 3, true, [
    .exp (.call "want_walked" [(.var 0), (.var 1), (.var 2)]),
    .ret (.call "along" [(.var 0), (.call "counted_begin" [(.var 0), (.var 1)]), (.var 2), (.fnr "counted_behind")])]⟩
structure Hands (G : Gam) : Prop where
  looks : LookMv G
  moves : Moves G
  is_list : G.fns "is_list" = some f_is_list
  is_count : G.fns "is_count" = some f_is_count
  want_many : G.fns "want_many" = some f_want_many
  want_moves : G.fns "want_moves" = some f_want_moves
  want_walked : G.fns "want_walked" = some f_want_walked
  along : G.fns "along" = some f_along
  wrong_place : G.fns "wrong_place" = some f_wrong_place
  wrong_of_run : G.fns "wrong_of_run" = some f_wrong_of_run
  wrong_of_walk : G.fns "wrong_of_walk" = some f_wrong_of_walk
  standings_along : G.fns "standings_along" = some f_standings_along
  counted_along : G.fns "counted_along" = some f_counted_along
  c_moves : G.cst "MOST_MOVES" = some (.int 2000)
  c_count : G.cst "MOST_COUNT" = some (.int 1000000000)
variable {G : Gam}
theorem is_list' (H : G.fns "is_list" = some f_is_list) (k : Nat) (v : PyData) (s : Sto) : callF G (k + 1) "is_list" [.dat v] s = .ok (.dat (.bool (itemsD v).isSome)) s := by
  rw [cal_of H rfl]
  cases v <;> simp -implicitDefEqProofs [f_is_list, itemsD]
theorem want_moves (W : Hands G) (k : Nat) {o : Off} {v : PyData} {ms : List Move} (hv : movesD o v = some ms) (s : Sto) : callF G (k + 4) "want_moves" [.dat o.D, .dat v] s = .ok (.dat .none) s := by
  rw [cal_of W.want_moves rfl]
  obtain ⟨hi, hms, hl⟩ := movesD_ok hv
  have h1 := fun s => is_list' W.is_list (k + 2) v s
  rw [hi] at h1
  have hlen : lenD [v] = some (.int (ms.map Move.D).length) := by cases v <;> simp only [itemsD] at hi <;> cases hi <;> simp
  have hsrc : srcD .it [v] = some (ms.map Move.D) := by cases v <;> simp only [itemsD] at hi <;> cases hi <;> simp
  have hma : cgo (ETurn (callF G (k + 3)) G (.nm 2) [] (.call "is_move_of" [(.var 0), (.var 2)]) [some (.dat o.D), some (.dat v), none]) (ms.map Move.D) s = .ok ((ms.map Move.D).map fun x => .bool (wMv o x)) s :=
    cgo_map _ _ fun x _ => by simp -implicitDefEqProofs [turn_eq, is_move_of W.looks k x]
  have hall : (ms.map Move.D).all (wMv o) = true := by
    unfold movesD at hv
    rw [hi] at hv
    simp only at hv
    split at hv
    · rename_i h; exact h.2
    · cases hv
  have hab : allB ((ms.map Move.D).map (wMv o)) = true := by rw [allB_map, hall]
  have hb : big (ms.map Move.D).length = true := big_of (by rw [List.length_map]; omega)
  have hc : ¬ ((2000 : Int) < (ms.map Move.D).length) := by rw [List.length_map]; omega
  generalize ms.map Move.D = xs at *
  simp -implicitDefEqProofs [f_want_moves, h1, hlen, glob_eq W.c_moves, hc, hsrc, hb, hma, boolsOf_map, hab]
theorem want_many (W : Hands G) (k : Nat) (n : Nat) (s : Sto) : callF G (k + 3) "want_many" [.dat (.int n)] s = .ok (.dat .none) s := by
  rw [cal_of W.want_many rfl]
  have h : ∀ s, callF G (k + 2) "is_count" [.dat (.int n)] s = .ok (.dat (.bool true)) s := fun s => by
    rw [cal_of W.is_count rfl]
    have e := fun s => is_integer W.looks.toBasics k (.int n) s
    simp -implicitDefEqProofs [f_is_count, e, isI]
  simp -implicitDefEqProofs [f_want_many, h]
theorem want_walked (W : Hands G) (k : Nat) {o : Off} (ho : o.ok) {n : Nat} (hn : n ≤ 1000000000) {v : PyData} {ms : List Move} (hv : movesD o v = some ms) (s : Sto) : callF G (k + 8) "want_walked" [.dat o.D, .dat (.int n), .dat v] s = .ok (.dat .none) s := by
  rw [cal_of W.want_walked rfl]
  have e1 := fun s => want_office W.looks k ho s
  have e2 := fun s => want_many W (k + 4) n s
  have e3 := fun s => want_moves W (k + 3) hv s
  have hc : ¬ ((1000000000 : Int) < n) := by omega
  simp -implicitDefEqProofs [f_want_walked, e1, e2, e3, glob_eq W.c_count, hc]
section
variable {α : Type} {D : α → PyData} {f : α → Move → Option α} {I : α → Prop} {k : Nat} {fn : Str} {fd : Fd} {o : Off}
theorem along_loop (hfd : G.fns fn = some fd) (hps : fd.ps.length = 3) (hf : ∀ c m s, I c → m.ok o → callF G k fn [.dat o.D, .dat (D c), .dat m.D] s = .ok (.dat (oF D (f c m))) s)
    (hI : ∀ c m c', I c → m.ok o → f c m = some c' → I c') (hno : ∀ c, isNo (D c) = false) (a1 a2 : Option Z.D) (s : Sto) : ∀ (ms : List Move) (hms : ∀ m ∈ ms, m.ok o) (pre : List α) (c : α) (hc : I c) (hl : pre.length + ms.length ≤ 10000) (a5 a6 : Option Z.D),
    ∃ b5 b6, fgo (loopB (callF G k) G (.nm 5) [.asg 6 (.callv 3 [(.var 0), (.idx (.ovar 4) (.neg (.num 1))), (.var 5)]), .ife (.isN (.var 6)) [.brk] [], .app 4 (.var 6)]) (ms.map Move.D) [some (.dat o.D), a1, a2, some (.fn fn), some (.own ((pre ++ [c]).map D)), a5, a6] s = .fl (.nx [some (.dat o.D), a1, a2, some (.fn fn), some (.own ((pre ++ [c] ++ goF f c ms).map D)), b5, b6]) s := by
  intro ms
  induction ms with
  | nil => intro _ pre c hc hl a5 a6; exact ⟨a5, a6, by simp [fgo, goF]⟩
  | cons m ms ih =>
    intro hms pre c hc hl a5 a6
    have hm := hms m (List.mem_cons_self ..)
    have hb := fun s => hf c m s hc hm
    have hi := idx_last D pre c
    have hsz : sizeLine = 16777216 := by decide +kernel
    simp only [List.map_cons, fgo, goF]
    cases hd : f c m with
    | none =>
      simp only [hd, oF] at hb
      refine ⟨some (.dat m.D), some (.dat .none), ?_⟩
      simp only [List.append_nil]
      generalize (pre ++ [c]).map D = xs at *
      generalize o.D = oD at *
      simp -implicitDefEqProofs [loopB, hi, hb, hfd, hps]
    | some c' =>
      simp only [hd, oF] at hb
      have hc' := hI c m c' hc hm hd
      have hz : ((pre ++ [c]).map D).length < sizeLine := by rw [hsz]; simp at hl ⊢; omega
      obtain ⟨b5, b6, hnx⟩ := ih (fun x hx => hms x (List.mem_cons_of_mem _ hx)) (pre ++ [c]) c' hc' (by simp at hl ⊢; omega) (some (.dat m.D)) (some (.dat (D c')))
      refine ⟨b5, b6, ?_⟩
      have e : (pre ++ [c] ++ [c']).map D = (pre ++ [c]).map D ++ [D c'] := by simp
      have e2 : pre ++ [c] ++ [c'] ++ goF f c' ms = pre ++ [c] ++ c' :: goF f c' ms := by simp
      rw [e, e2] at hnx
      have hno' : isNon (.dat (D c')) = false := by rw [isNon_dat]; exact hno c'
      generalize (pre ++ [c] ++ c' :: goF f c' ms).map D = ys at *
      generalize (pre ++ [c]).map D = xs at *
      generalize o.D = oD at *
      simp -implicitDefEqProofs [loopB, hi, hb, hno', hz, hfd, hps]
      exact hnx
theorem along (W : Hands G) (hfd : G.fns fn = some fd) (hps : fd.ps.length = 3) (hf : ∀ c m s, I c → m.ok o → callF G k fn [.dat o.D, .dat (D c), .dat m.D] s = .ok (.dat (oF D (f c m))) s)
    (hI : ∀ c m c', I c → m.ok o → f c m = some c' → I c') (hno : ∀ c, isNo (D c) = false) {v : PyData} {ms : List Move} (hv : movesD o v = some ms) {c : α} (hc : I c) (s : Sto) :
    callF G (k + 1) "along" [.dat o.D, .dat (D c), .dat v, .fn fn] s = .ok (.dat (.list ((c :: goF f c ms).map D))) s := by
  rw [cal_of W.along rfl]
  obtain ⟨hi, hms, hl⟩ := movesD_ok hv
  have hsrc : srcD .it [v] = some (ms.map Move.D) := by cases v <;> simp only [itemsD] at hi <;> cases hi <;> simp
  obtain ⟨b5, b6, e⟩ := along_loop hfd hps hf hI hno (some (.dat (D c))) (some (.dat v)) s ms hms [] c hc (by simp; omega) none none
  simp only [List.nil_append, List.singleton_append] at e
  generalize (c :: goF f c ms).map D = ys at *
  simp only [List.map_cons, List.map_nil] at e
  generalize ms.map Move.D = xs at *
  generalize o.D = oD at *
  simp -implicitDefEqProofs [f_along, hsrc, e]
end
theorem wrong_place (W : Hands G) (k : Nat) {xs : List PyData} {v : PyData} {n m : Nat} (hx : xs.length = n + 1) (hv : lenD [v] = some (.int m)) (hn : n ≤ m) (s : Sto) :
    callF G (k + 1) "wrong_place" [.dat (.list xs), .dat v] s = .ok (.dat (wD (if n = m then none else some n))) s := by
  rw [cal_of W.wrong_place rfl]
  by_cases h : n = m
  · subst h
    have h1 : (n : Int) < n + 1 := by omega
    simp -implicitDefEqProofs [f_wrong_place, hx, hv, h1, wD]
  · have h1 : ¬ (m : Int) < n + 1 := by omega
    simp -implicitDefEqProofs [f_wrong_place, hx, hv, h, h1, wD]
theorem run_along (W : Hands G) (k : Nat) {o : Off} (ho : o.ok) {v : PyData} {ms : List Move} (hv : movesD o v = some ms) (s : Sto) :
    callF G (k + 3) "along" [.dat o.D, .dat (sBegin o).D, .dat v, .fn "behind"] s = .ok (.dat (.list ((sBegin o :: goF (behindS o) (sBegin o) ms).map Std.D))) s :=
  along (D := Std.D) (f := behindS o) (I := Std.ok o) W W.moves.behind rfl (fun c m s hc hm => by rw [← oS_eq]; exact behind W.moves.toMovesB k ho hc.ns (hc.len ho) hm s) (fun c m c' hc hm h => behindS_ok ho hc h) (fun c => rfl) hv (sBegin_ok ho) s
theorem walk_along (W : Hands G) (k : Nat) {o : Off} (ho : o.ok) (n : Nat) {v : PyData} {ms : List Move} (hv : movesD o v = some ms) (s : Sto) :
    callF G (k + 3) "along" [.dat o.D, .dat (cBegin o n).D, .dat v, .fn "counted_behind"] s = .ok (.dat (.list ((cBegin o n :: goF (done o) (cBegin o n) ms).map Ctd.D))) s :=
  along (D := Ctd.D) (f := done o) (I := Ctd.ok o) W W.moves.counted_behind rfl (fun c m s hc hm => by rw [← oC_eq]; exact counted_behind W.moves.toMovesB k ho hc hm s) (fun c m c' hc hm h => done_ok ho hc h) (fun c => rfl) hv (cBegin_ok ho n) s
theorem len_moves {o : Off} {v : PyData} {ms : List Move} (hv : movesD o v = some ms) : lenD [v] = some (.int ms.length) := by
  obtain ⟨hi, _, _⟩ := movesD_ok hv
  cases v <;> simp only [itemsD] at hi <;> cases hi <;> simp
theorem standings_along (W : Hands G) (k : Nat) {o : Off} (ho : o.ok) {v : PyData} {ms : List Move} (hv : movesD o v = some ms) (s : Sto) :
    callF G (k + 8) "standings_along" [.dat o.D, .dat v] s = .ok (.dat (.list ((sBegin o :: goF (behindS o) (sBegin o) ms).map Std.D))) s := by
  rw [cal_of W.standings_along rfl]
  have e1 := fun s => want_office W.looks k ho s
  have e2 := fun s => want_moves W (k + 3) hv s
  have e3 := fun s => run_along W (k + 4) ho hv s
  have e4 : ∀ s, callF G (k + 7) "begin_of" [.dat o.D] s = .ok (.dat (sBegin o).D) s := fun s => begin_of W.moves (k + 6) ho s
  generalize (sBegin o :: goF (behindS o) (sBegin o) ms).map Std.D = ys at *
  generalize (sBegin o).D = bD at *
  generalize o.D = oD at *
  simp -implicitDefEqProofs [f_standings_along, e1, e2, e3, e4, W.moves.behind]
theorem counted_along (W : Hands G) (k : Nat) {o : Off} (ho : o.ok) {n : Nat} (hn : n ≤ 1000000000) {v : PyData} {ms : List Move} (hv : movesD o v = some ms) (s : Sto) :
    callF G (k + 9) "counted_along" [.dat o.D, .dat (.int n), .dat v] s = .ok (.dat (.list ((cBegin o n :: goF (done o) (cBegin o n) ms).map Ctd.D))) s := by
  rw [cal_of W.counted_along rfl]
  have e1 := fun s => want_walked W k ho hn hv s
  have e3 := fun s => walk_along W (k + 5) ho n hv s
  have e4 := fun s => counted_begin W.moves (k + 7) ho n s
  generalize (cBegin o n :: goF (done o) (cBegin o n) ms).map Ctd.D = ys at *
  generalize (cBegin o n).D = bD at *
  generalize o.D = oD at *
  simp -implicitDefEqProofs [f_counted_along, e1, e3, e4, W.moves.counted_behind]
theorem wrong_of_run (W : Hands G) (k : Nat) {o : Off} (ho : o.ok) {v : PyData} {ms : List Move} (hv : movesD o v = some ms) (s : Sto) :
    callF G (k + 8) "wrong_of_run" [.dat o.D, .dat v] s = .ok (.dat (wD (wrF (behindS o) (sBegin o) ms))) s := by
  rw [cal_of W.wrong_of_run rfl]
  have e1 := fun s => want_office W.looks k ho s
  have e2 := fun s => want_moves W (k + 3) hv s
  have e3 := fun s => run_along W (k + 4) ho hv s
  have e4 : ∀ s, callF G (k + 7) "begin_of" [.dat o.D] s = .ok (.dat (sBegin o).D) s := fun s => begin_of W.moves (k + 6) ho s
  have e5 := fun s => wrong_place W (k + 6) (xs := (sBegin o :: goF (behindS o) (sBegin o) ms).map Std.D) (by simp) (len_moves hv) (goF_len (behindS o) ms (sBegin o)) s
  generalize (sBegin o :: goF (behindS o) (sBegin o) ms).map Std.D = ys at *
  generalize (sBegin o).D = bD at *
  generalize o.D = oD at *
  simp -implicitDefEqProofs [f_wrong_of_run, e1, e2, e3, e4, e5, W.moves.behind]
  rfl
theorem wrong_of_walk (W : Hands G) (k : Nat) {o : Off} (ho : o.ok) {n : Nat} (hn : n ≤ 1000000000) {v : PyData} {ms : List Move} (hv : movesD o v = some ms) (s : Sto) :
    callF G (k + 9) "wrong_of_walk" [.dat o.D, .dat (.int n), .dat v] s = .ok (.dat (wD (wrF (done o) (cBegin o n) ms))) s := by
  rw [cal_of W.wrong_of_walk rfl]
  have e1 := fun s => want_walked W k ho hn hv s
  have e3 := fun s => walk_along W (k + 5) ho n hv s
  have e4 := fun s => counted_begin W.moves (k + 7) ho n s
  have e5 := fun s => wrong_place W (k + 7) (xs := (cBegin o n :: goF (done o) (cBegin o n) ms).map Ctd.D) (by simp) (len_moves hv) (goF_len (done o) ms (cBegin o n)) s
  generalize (cBegin o n :: goF (done o) (cBegin o n) ms).map Ctd.D = ys at *
  generalize (cBegin o n).D = bD at *
  generalize o.D = oD at *
  simp -implicitDefEqProofs [f_wrong_of_walk, e1, e3, e4, e5, W.moves.counted_behind]
  rfl
end P
end Y
end Z
end

section
set_option maxRecDepth 100000
set_option maxHeartbeats 4000000
/-! Values bent in one place; walks with a test that draws. -/
namespace Z
open PySem
namespace Y
theorem bulk_sub {xs ys : List PyData} (h : ys.Sublist xs) : PyData.bulkAll ys ≤ PyData.bulkAll xs := by
  induction h with
  | slnil => exact Nat.le_refl _
  | cons a _ ih => simp only [PyData.bulkAll]; omega
  | cons_cons a _ ih => simp only [PyData.bulkAll]; omega
theorem cut_sub (xs : List PyData) (lo hi : Option Int) : (cut xs lo hi).Sublist xs := (List.take_sublist _ _).trans (List.drop_sublist _ _)
theorem bulk_set : ∀ (xs : List PyData) (j : Nat) (h : j < xs.length) (d : PyData), PyData.bulkAll (xs.set j d) + xs[j].bulk = PyData.bulkAll xs + d.bulk
  | x :: xs, 0, _, d => by simp only [List.set_cons_zero, PyData.bulkAll, List.getElem_cons_zero]; omega
  | x :: xs, j + 1, h, d => by
    have := bulk_set xs j (by simpa using h) d
    simp only [List.set_cons_succ, PyData.bulkAll, List.getElem_cons_succ]; omega
/-- good data, so deep at most -/
structure Gd (K : Nat) (d : PyData) : Prop where
  atm : At d
  dep : d.depth ≤ K
theorem Gd.tup {K : Nat} {xs : List PyData} (h : ∀ x ∈ xs, Gd K x) : Gd (K + 1) (.tuple xs) := ⟨.tup fun x hx => (h x hx).atm, by simp only [PyData.depth]; exact Nat.succ_le_succ ((depthAll_iff K xs).mpr fun x hx => (h x hx).dep)⟩
theorem Gd.lst {K : Nat} {xs : List PyData} (h : ∀ x ∈ xs, Gd K x) : Gd (K + 1) (.list xs) := ⟨.lst fun x hx => (h x hx).atm, by simp only [PyData.depth]; exact Nat.succ_le_succ ((depthAll_iff K xs).mpr fun x hx => (h x hx).dep)⟩
theorem Gd.of_tup {K : Nat} {xs : List PyData} (h : Gd (K + 1) (.tuple xs)) : ∀ x ∈ xs, Gd K x := fun x hx => by
  have hd := h.dep
  simp only [PyData.depth] at hd
  exact ⟨h.atm.of_tup x hx, (depthAll_iff K xs).mp (by omega) x hx⟩
theorem Gd.mono {K K' : Nat} {d : PyData} (h : Gd K d) (hk : K ≤ K') : Gd K' d := ⟨h.atm, Nat.le_trans h.dep hk⟩
/-- a walk that may leave out -/
theorem cgo_opt {f : PyData → Sto → R (Option PyData)} {I : Sto → Prop} {P : PyData → Prop} : ∀ (l : List PyData), (∀ x ∈ l, ∀ s, I s → ∃ o s', f x s = .ok o s' ∧ I s' ∧ ∀ y, o = some y → P y) → ∀ s, I s → ∃ ys s', cgo f l s = .ok ys s' ∧ I s' ∧ ys.length ≤ l.length ∧ ∀ y ∈ ys, P y
  | [], _, s, hs => ⟨[], s, rfl, hs, Nat.le_refl _, fun _ h => nomatch h⟩
  | x :: l, h, s, hs => by
    obtain ⟨o, s1, e1, h1, p1⟩ := h x (List.mem_cons_self ..) s hs
    obtain ⟨ys, s2, e2, h2, l2, p2⟩ := cgo_opt l (fun z hz => h z (List.mem_cons_of_mem _ hz)) s1 h1
    cases o with
    | none => exact ⟨ys, s2, by simp only [cgo, e1, R.bd_ok, e2], h2, by simp only [List.length_cons]; omega, p2⟩
    | some y =>
      refine ⟨y :: ys, s2, by simp only [cgo, e1, R.bd_ok, e2], h2, by simp only [List.length_cons]; omega, ?_⟩
      intro z hz
      rcases List.mem_cons.mp hz with rfl | hz
      · exact p1 _ rfl
      · exact p2 z hz
theorem datsOf_map : ∀ l : List PyData, datsOf (l.map .dat) = some l
  | [] => rfl
  | d :: r => by simp [datsOf_map r]
def bentFd (a b : Int) (es : List Ex) : Fd := ⟨["pot", "value"], 5, false, [
    .ife (.an [(.isi (.var 1) [.tuple] false), (.cmp .gt (.bf .len [(.var 1)]) (.num 0)), (.cmp .gt (.call "_law_draw" [(.var 0), (.num a)]) (.num 0))]) [.par [false, false, true] [2, 3, 4] [(.call "_law_draw" [(.var 0), (.bf .len [(.var 1)])]), (.call "_law_draw" [(.var 0), (.num b)]), (.bf .list [(.var 1)])], .ife (.cmp .eq (.var 3) (.num 0)) [.own 4 (.bin .add (.slc (.ovar 4) .abs (.var 2)) (.slc (.ovar 4) (.bin .add (.var 2) (.num 1)) .abs))] [.ife (.cmp .eq (.var 3) (.num 1)) [.own 4 (.bin .add (.ovar 4) (.lst [(.idx (.ovar 4) (.var 2))]))] [.ife (.cmp .eq (.var 3) (.num 2)) [.ret (.ovar 4)] [.setI 4 (.var 2) (.call "_law_bent" [(.var 0), (.idx (.ovar 4) (.var 2))])]]], .ret (.bf .tuple [(.ovar 4)])] [],
    .ret (.call "_law_pick" [(.var 0), (.lst es)])]⟩
structure Bends (G : Gam) (others : List PyData) : Prop extends Draws G where
  bnt : ∃ a b es, G.fns "_law_bent" = some (bentFd a b es) ∧ 0 < a ∧ a < 1000000 ∧ 0 < b ∧ b < 1000000 ∧ ∀ C η s, EL C G es η s = .ok (others.map .dat) s
  ne : others ≠ []
  sz : others.length < 1000000
  gd : ∀ d ∈ others, Ok 1 8 d
theorem Bends.bent {G : Gam} {others : List PyData} (W : Bends G others) : ∀ (K k : Nat) {n : Nat} {s : Sto} (hp : Pot n s) {v : PyData} (hv : Gd K v) (hm : v.bulk ≤ 100000),
    ∃ d s', callF G (k + K + 3) "_law_bent" [.ref n, .dat v] s = .ok (.dat d) s' ∧ Pot n s' ∧ Gd (K + 1) d ∧ d.bulk ≤ 2 * v.bulk + 8 := by
  obtain ⟨wa, wb, wes, hG, wa0, wa1, wb0, wb1, hes⟩ := W.bnt
  have hdt := datsOf_map others
  have hne := W.ne
  have hsz := W.sz
  intro K
  induction K with
  | zero =>
    intro k n s hp v hv hm
    obtain ⟨d, s1, e1, p1, d1⟩ := W.pick hp (xs := others) hne (by omega) k
    have ho := W.gd d d1
    have hd := hv.dep
    refine ⟨d, s1, ?_, p1, ⟨ho.atm, ho.dep⟩, by have := ho.blk; omega⟩
    rw [cal_of hG rfl]
    cases v with
    | tuple xs => simp [PyData.depth] at hd
    | _ => simp [bentFd, hes, hdt, e1]
  | succ K ih =>
    intro k n s hp v hv hm
    have dr : ∀ {s : Sto} (hp : Pot n s) {many : Int} (h0 : 0 < many) (h1 : many < 1073741824), ∃ (j : Int) (s' : Sto), callF G (k + K + 3) "_law_draw" [.ref n, .dat (.int many)] s = .ok (.dat (.int j)) s' ∧ Pot n s' ∧ 0 ≤ j ∧ j < many := fun hp _ h0 h1 => by
      obtain ⟨j, s', e, p', h⟩ := W.drawI hp h0 h1 (k + K + 2)
      exact ⟨j, s', e, p', by omega, h⟩
    have pk : ∀ {s : Sto} (hp : Pot n s), ∃ d s', callF G (k + K + 3) "_law_pick" [.ref n, .dat (.list others)] s = .ok (.dat d) s' ∧ Pot n s' ∧ d ∈ others := fun hp => W.pick hp (xs := others) hne (by omega) (k + K + 1)
    rw [cal_of hG rfl]
    rw [show k + (K + 1) + 2 = k + K + 3 by omega]
    by_cases hx : ∃ ys, v = .tuple ys ∧ 0 < ys.length
    · obtain ⟨ys, rfl, hl⟩ := hx
      have hl' : (0 : Int) < ys.length := by omega
      have hbk : PyData.bulkAll ys ≤ 100000 := by simpa only [PyData.bulk] using hm
      have hlen := len_bulk ys
      have hsl : sizeLine = 16777216 := by decide +kernel
      obtain ⟨a, s1, e1, p1, a0, a1⟩ := dr hp (many := wa) (by omega) (by omega)
      by_cases ha : 0 < a
      · obtain ⟨b, s2, e2, p2, b0, b1⟩ := dr p1 (many := ys.length) (by omega) (by omega)
        obtain ⟨c, s3, e3, p3, c0, c1⟩ := dr p2 (many := wb) (by omega) (by omega)
        have hb : b.toNat < ys.length := by omega
        have hix : ixN ys.length b = some b.toNat := ixN_pos b0 (by omega)
        have hmem : ys[b.toNat] ∈ ys := List.getElem_mem hb
        have hbm := bulk_mem hmem
        by_cases h0 : c = 0
        · have l1 := cut_sub ys none (some b)
          have l2 := cut_sub ys (some (b + 1)) none
          have n1 := bulk_sub l1
          have n2 := bulk_sub l2
          have m1 := l1.length_le
          have m2 := l2.length_le
          have hs : (cut ys none (some b)).length + (cut ys (some (b + 1)) none).length ≤ sizeLine := by omega
          refine ⟨.tuple (cut ys none (some b) ++ cut ys (some (b + 1)) none), s3, by simp [bentFd, hes, hdt, hl, e1, ha, e2, e3, h0, hs], p3, ?_, ?_⟩
          · exact (Gd.tup (K := K) fun x hx => hv.of_tup x (by
              rcases List.mem_append.mp hx with hx | hx
              · exact l1.subset hx
              · exact l2.subset hx)).mono (by omega)
          · simp only [PyData.bulk, bulkAll_app]; omega
        by_cases h1 : c = 1
        · have hs : ys.length + 1 ≤ sizeLine := by omega
          refine ⟨.tuple (ys ++ [ys[b.toNat]]), s3, by simp [bentFd, hes, hdt, hl, e1, ha, e2, e3, h1, hix, hb, hs], p3, ?_, ?_⟩
          · exact (Gd.tup (K := K) fun x hx => hv.of_tup x (by
              rcases List.mem_append.mp hx with hx | hx
              · exact hx
              · rw [List.mem_singleton.mp hx]; exact hmem)).mono (by omega)
          · simp only [PyData.bulk, bulkAll_app, PyData.bulkAll]; omega
        by_cases h2 : c = 2
        · refine ⟨.list ys, s3, by simp [bentFd, hes, hdt, hl, e1, ha, e2, e3, h2], p3, (Gd.lst (K := K) fun x hx => hv.of_tup x hx).mono (by omega), by simp only [PyData.bulk]; omega⟩
        · obtain ⟨d, s4, e4, p4, g4, b4⟩ := ih k p3 (hv.of_tup _ hmem) (by omega)
          refine ⟨.tuple (ys.set b.toNat d), s4, by simp [bentFd, hes, hdt, hl, e1, ha, e2, e3, h0, h1, h2, hix, hb, e4], p4, ?_, ?_⟩
          · refine (Gd.tup (K := K + 1) fun x hx => ?_)
            rcases List.mem_or_eq_of_mem_set hx with hx | rfl
            · exact (hv.of_tup x hx).mono (by omega)
            · exact g4
          · have := bulk_set ys b.toNat hb d
            simp only [PyData.bulk]; omega
      · obtain ⟨d, s2, e2, p2, d1⟩ := pk p1
        have ho := W.gd d d1
        exact ⟨d, s2, by simp [bentFd, hes, hdt, hl, e1, ha, e2], p2, ⟨ho.atm, by have := ho.dep; omega⟩, by have := ho.blk; omega⟩
    · obtain ⟨d, s1, e1, p1, d1⟩ := pk hp
      have ho := W.gd d d1
      refine ⟨d, s1, ?_, p1, ⟨ho.atm, by have := ho.dep; omega⟩, by have := ho.blk; omega⟩
      cases v with
      | tuple xs =>
        cases xs with
        | nil => simp [bentFd, hes, hdt, e1]
        | cons x xs => exact absurd ⟨_, rfl, by simp⟩ hx
      | _ => simp [bentFd, hes, hdt, e1]
end Y
end Z
end

section
set_option maxRecDepth 100000
set_option maxHeartbeats 4000000
/-! Drawn offices, another way. -/
namespace Z
open PySem
namespace Y
namespace P2
def f_law_deed : Fd := ⟨["pot", "boards"], 5, true, [
    .par [false, false] [3, 4] [(.call "_law_draw" [(.var 0), (.num 5)]), (.call "_law_draw" [(.var 0), (.bf .len [(.var 1)])])],
    .asg 2 (.ife (.cmp .gt (.call "_law_draw" [(.var 0), (.num 3)]) (.num 0)) (.call "_law_draw" [(.var 0), (.bf .min [(.num 2), (.idx (.var 1) (.var 4))])]) (.call "_law_draw" [(.var 0), (.idx (.var 1) (.var 4))])),
    .ret (.ife (.cmp .eq (.var 3) (.num 0)) (.tup [(.txt "rest")]) (.tup [(.ife (.cmp .lt (.var 3) (.num 3)) (.txt "read") (.txt "write")), (.var 4), (.var 2)]))]⟩
def f_law_player : Fd := ⟨["pot", "boards", "most"], 7, true, [
    .par [false, true] [4, 5] [(.bin .add (.num 1) (.call "_law_draw" [(.var 0), (.num 3)])), (.lst [])],
    .fr (.nm 3) .rng [(.call "_law_draw" [(.var 0), (.bin .add (.var 2) (.num 1))])] [.asg 6 (.ife (.cmp .eq (.call "_law_draw" [(.var 0), (.num 2)]) (.num 0)) (.num 0) (.call "_law_draw" [(.var 0), (.var 4)])), .app 5 (.tup [(.txt "step"), (.var 6), (.call "_law_deed" [(.var 0), (.var 1)]), (.call "_law_draw" [(.var 0), (.var 4)])])],
    .ret (.tup [(.var 4), (.bf .tuple [(.ovar 5)])])]⟩
def f_law_office : Fd := ⟨["pot", "most"], 3, true, [
    .asg 2 (.call "_law_pick" [(.var 0), (.lst [(.tup [(.num 2)]), (.tup [(.num 2)]), (.tup [(.num 3)]), (.tup [(.num 3)]), (.tup [(.num 1)]), (.tup [(.num 2), (.num 2)])])]),
    .ret (.tup [(.txt "office"), (.var 2), (.call "_law_player" [(.var 0), (.var 2), (.var 1)]), (.call "_law_player" [(.var 0), (.var 2), (.var 1)])])]⟩
end P2
structure DrawnOffices2 (G : Gam) : Prop extends Draws G where
  ded : G.fns "_law_deed" = some P2.f_law_deed
  ply : G.fns "_law_player" = some P2.f_law_player
  off : G.fns "_law_office" = some P2.f_law_office
section
variable {G : Gam}
theorem law_deed2 (W : DrawnOffices2 G) (k : Nat) {n : Nat} {s : Sto} (hp : Pot n s) {bs : List Nat} (h0 : bs ≠ []) (hl : bs.length ≤ 2) (hb : ∀ b ∈ bs, 1 ≤ b ∧ b ≤ 4) :
    ∃ (d : Deed) (s' : Sto), callF G (k + 2) "_law_deed" [.ref n, .dat (nsD bs)] s = .ok (.dat d.D) s' ∧ Pot n s' ∧ d.ok bs := by
  have hl0 : 0 < bs.length := List.length_pos_iff.mpr h0
  rw [cal_of W.ded rfl]
  obtain ⟨a, s1, e1, p1, a1⟩ := W.draw hp (many := 5) (by omega) (by omega) k
  obtain ⟨b, s2, e2, p2, b1⟩ := W.draw p1 (many := bs.length) (by omega) (by omega) k
  obtain ⟨c, s3, e3, p3, c1⟩ := W.draw p2 (many := 3) (by omega) (by omega) k
  have hbb := hb bs[b] (List.getElem_mem b1)
  have hi := idx_ns b1
  have e1 : callF G (k + 1) "_law_draw" [.ref n, .dat (.int 5)] s = .ok (.dat (.int a)) s1 := e1
  have e3 : callF G (k + 1) "_law_draw" [.ref n, .dat (.int 3)] s2 = .ok (.dat (.int c)) s3 := e3
  obtain ⟨y, s4, e4, p4, y1⟩ : ∃ (y : Nat) (s4 : Sto), EV (callF G (k + 1)) G (.ife (.cmp .gt (.call "_law_draw" [(.var 0), (.num 3)]) (.num 0)) (.call "_law_draw" [(.var 0), (.bf .min [(.num 2), (.idx (.var 1) (.var 4))])]) (.call "_law_draw" [(.var 0), (.idx (.var 1) (.var 4))])) [some (.ref n), some (.dat (nsD bs)), none, some (.dat (.int a)), some (.dat (.int b))] s2 = .ok (.dat (.int y)) s4 ∧ Pot n s4 ∧ y < bs[b] := by
    by_cases hc : c = 0
    · obtain ⟨y, s4, e4, p4, y1⟩ := W.draw p3 (many := bs[b]) (by omega) (by omega) k
      exact ⟨y, s4, by simp -implicitDefEqProofs [e3, hc, nsD, hi, e4], p4, y1⟩
    · by_cases h2 : bs[b] < 2
      · obtain ⟨y, s4, e4, p4, y1⟩ := W.draw p3 (many := bs[b]) (by omega) (by omega) k
        have h2' : ((bs[b] : Nat) : Int) < 2 := by omega
        exact ⟨y, s4, by simp -implicitDefEqProofs [e3, hc, nsD, hi, h2', e4], p4, y1⟩
      · obtain ⟨y, s4, e4, p4, y1⟩ := W.draw p3 (many := 2) (by omega) (by omega) k
        have e4 : callF G (k + 1) "_law_draw" [.ref n, .dat (.int 2)] s3 = .ok (.dat (.int y)) s4 := e4
        have h2' : ¬ ((bs[b] : Nat) : Int) < 2 := by omega
        exact ⟨y, s4, by simp -implicitDefEqProofs [e3, hc, nsD, hi, h2', e4], p4, by omega⟩
  have hk : ∃ z, bs[b]? = some z ∧ y < z := ⟨bs[b], List.getElem?_eq_getElem b1, y1⟩
  have x0 : exec (callF G (k + 1)) G (.par [false, false] [3, 4] [(.call "_law_draw" [(.var 0), (.num 5)]), (.call "_law_draw" [(.var 0), (.bf .len [(.var 1)])])]) [some (.ref n), some (.dat (nsD bs)), none, none, none] s = .fl (.nx [some (.ref n), some (.dat (nsD bs)), none, some (.dat (.int a)), some (.dat (.int b))]) s2 := by
    have hln : lenD [nsD bs] = some (.int bs.length) := by simp [nsD]
    simp -implicitDefEqProofs [e1, e2, hln]
  by_cases ha : a = 0
  · refine ⟨.rest, s4, ?_, p4, trivial⟩
    simp only [P2.f_law_deed, start_eq, List.map_cons, List.map_nil, List.length_cons, List.length_nil, Nat.reduceAdd, Nat.reduceSub, List.replicate, List.cons_append, List.nil_append]
    rw [x_cons, x0, RS.nxt_nx, x_cons, x_asg, e4, RS.of_ok]
    simp -implicitDefEqProofs [ha, Deed.D]
  · by_cases ha3 : a < 3
    · refine ⟨.read b y, s4, ?_, p4, hk⟩
      have ha3' : (a : Int) < 3 := by omega
      simp only [P2.f_law_deed, start_eq, List.map_cons, List.map_nil, List.length_cons, List.length_nil, Nat.reduceAdd, Nat.reduceSub, List.replicate, List.cons_append, List.nil_append]
      rw [x_cons, x0, RS.nxt_nx, x_cons, x_asg, e4, RS.of_ok]
      simp -implicitDefEqProofs [ha, ha3', Deed.D]
    · refine ⟨.write b y, s4, ?_, p4, hk⟩
      have ha3' : ¬ (a : Int) < 3 := by omega
      simp only [P2.f_law_deed, start_eq, List.map_cons, List.map_nil, List.length_cons, List.length_nil, Nat.reduceAdd, Nat.reduceSub, List.replicate, List.cons_append, List.nil_append]
      rw [x_cons, x0, RS.nxt_nx, x_cons, x_asg, e4, RS.of_ok]
      simp -implicitDefEqProofs [ha, ha3', Deed.D]
theorem player_loop2 (W : DrawnOffices2 G) (k : Nat) {n : Nat} {bs : List Nat} (h0 : bs ≠ []) (hl : bs.length ≤ 2) (hb : ∀ b ∈ bs, 1 ≤ b ∧ b ≤ 4) {m : Nat} (hm : 1 ≤ m ∧ m ≤ 6) (a2 : Option Z.D) : ∀ (l : List PyData) (acc : List Step) (hacc : ∀ st ∈ acc, st.ok bs m) (hlen : acc.length + l.length ≤ 1000) (a3 a6 : Option Z.D) (s : Sto) (hp : Pot n s),
    ∃ (acc' : List Step) (b3 b6 : Option Z.D) (s' : Sto), fgo (loopB (callF G (k + 2)) G (.nm 3) [.asg 6 (.ife (.cmp .eq (.call "_law_draw" [(.var 0), (.num 2)]) (.num 0)) (.num 0) (.call "_law_draw" [(.var 0), (.var 4)])), .app 5 (.tup [(.txt "step"), (.var 6), (.call "_law_deed" [(.var 0), (.var 1)]), (.call "_law_draw" [(.var 0), (.var 4)])])]) l [some (.ref n), some (.dat (nsD bs)), a2, a3, some (.dat (.int m)), some (.own (acc.map Step.D)), a6] s = .fl (.nx [some (.ref n), some (.dat (nsD bs)), a2, b3, some (.dat (.int m)), some (.own (acc'.map Step.D)), b6]) s' ∧ Pot n s' ∧ (∀ st ∈ acc', st.ok bs m) ∧ acc'.length = acc.length + l.length := by
  intro l
  induction l with
  | nil =>
    intro acc hacc hlen a3 a6 s hp
    exact ⟨acc, a3, a6, s, rfl, hp, hacc, rfl⟩
  | cons d l ih =>
    intro acc hacc hlen a3 a6 s hp
    have hsz : sizeLine = 16777216 := by decide +kernel
    have hz : (acc.map Step.D).length < sizeLine := by rw [hsz, List.length_map]; simp only [List.length_cons] at hlen; omega
    obtain ⟨f, s1, e1, p1, f1⟩ := W.draw hp (many := 2) (by omega) (by omega) (k + 1)
    have e1 : callF G (k + 2) "_law_draw" [.ref n, .dat (.int 2)] s = .ok (.dat (.int f)) s1 := e1
    obtain ⟨b, s2, e2, p2, hb2⟩ : ∃ (b : Nat) (s2 : Sto), EV (callF G (k + 2)) G (.ife (.cmp .eq (.call "_law_draw" [(.var 0), (.num 2)]) (.num 0)) (.num 0) (.call "_law_draw" [(.var 0), (.var 4)])) [some (.ref n), some (.dat (nsD bs)), a2, some (.dat d), some (.dat (.int m)), some (.own (acc.map Step.D)), a6] s = .ok (.dat (.int b)) s2 ∧ Pot n s2 ∧ b < m := by
      by_cases hf : f = 0
      · exact ⟨0, s1, by simp -implicitDefEqProofs [e1, hf], p1, by omega⟩
      · obtain ⟨b, s2, e2, p2, b1⟩ := W.draw p1 (many := m) (by omega) (by omega) (k + 1)
        exact ⟨b, s2, by simp -implicitDefEqProofs [e1, hf, e2], p2, b1⟩
    obtain ⟨dd, s3, e3, p3, hd⟩ := law_deed2 W k p2 h0 hl hb
    obtain ⟨e, s4, e4, p4, he⟩ := W.draw p3 (many := m) (by omega) (by omega) (k + 1)
    obtain ⟨acc', b3, b6, s', e5, p5, q5, l5⟩ := ih (acc ++ [⟨b, dd, e⟩]) (fun st hst => by
      rcases List.mem_append.mp hst with h | h
      · exact hacc st h
      · rw [List.mem_singleton.mp h]; exact ⟨hb2, hd, he⟩) (by simp only [List.length_append, List.length_cons, List.length_nil] at hlen ⊢; omega) (some (.dat d)) (some (.dat (.int b))) s4 p4
    refine ⟨acc', b3, b6, s', ?_, p5, q5, by rw [l5]; simp only [List.length_append, List.length_cons, List.length_nil]; omega⟩
    have e6 : (acc ++ [(⟨b, dd, e⟩ : Step)]).map Step.D = acc.map Step.D ++ [.tuple [.str "step", .int b, dd.D, .int e]] := by simp [Step.D]
    rw [e6] at e5
    simp only [fgo]
    generalize acc.map Step.D = xs at *
    have t : loopB (callF G (k + 2)) G (.nm 3) [.asg 6 (.ife (.cmp .eq (.call "_law_draw" [(.var 0), (.num 2)]) (.num 0)) (.num 0) (.call "_law_draw" [(.var 0), (.var 4)])), .app 5 (.tup [(.txt "step"), (.var 6), (.call "_law_deed" [(.var 0), (.var 1)]), (.call "_law_draw" [(.var 0), (.var 4)])])] d [some (.ref n), some (.dat (nsD bs)), a2, a3, some (.dat (.int m)), some (.own xs), a6] s = .fl (.nx [some (.ref n), some (.dat (nsD bs)), a2, some (.dat d), some (.dat (.int m)), some (.own (xs ++ [.tuple [.str "step", .int b, dd.D, .int e]])), some (.dat (.int b))]) s4 := by
      rw [loopB_eq]
      simp only [bind_nm, List.length_cons, List.length_nil, Nat.reduceAdd, Nat.reduceLT, if_true, loop2_s, List.set_cons_succ, List.set_cons_zero]
      rw [x_cons, x_asg, e2, RS.of_ok]
      simp -implicitDefEqProofs [e3, e4, hz]
    rw [t, turn_nx]
    exact e5
theorem law_player2 (W : DrawnOffices2 G) (k : Nat) {n : Nat} {s : Sto} (hp : Pot n s) {bs : List Nat} (h0 : bs ≠ []) (hl : bs.length ≤ 2) (hb : ∀ b ∈ bs, 1 ≤ b ∧ b ≤ 4) {m : Nat} (hm : m ≤ 12) :
    ∃ (p : Play) (s' : Sto), callF G (k + 3) "_law_player" [.ref n, .dat (nsD bs), .dat (.int m)] s = .ok (.dat p.D) s' ∧ Pot n s' ∧ p.ok bs ∧ p.n ≤ 3 ∧ p.st.length ≤ m := by
  rw [cal_of W.ply rfl]
  obtain ⟨a, s1, e1, p1, a1⟩ := W.draw hp (many := 3) (by omega) (by omega) (k + 1)
  have e1 : callF G (k + 2) "_law_draw" [.ref n, .dat (.int 3)] s = .ok (.dat (.int a)) s1 := e1
  obtain ⟨c, s2, e2, p2, c1⟩ := W.draw p1 (many := m + 1) (by omega) (by omega) (k + 1)
  obtain ⟨ci, hci⟩ : ∃ ci : Int, ci = (c : Int) := ⟨_, rfl⟩
  have e2 : callF G (k + 2) "_law_draw" [.ref n, .dat (.int ((m : Int) + 1))] s1 = .ok (.dat (.int ci)) s2 := by rw [hci]; exact e2
  obtain ⟨acc, b3, b6, s3, e3, p3, q3, l3⟩ := player_loop2 W k h0 hl hb (m := 1 + a) (by omega) (some (.dat (.int m))) (rngL 0 ci.toNat) [] (fun _ h => nomatch h) (by rw [rng_len]; simp; omega) none none s2 p2
  rw [rng_len] at l3
  simp only [List.length_nil, Nat.zero_add] at l3
  refine ⟨⟨1 + a, acc⟩, s3, ?_, p3, ⟨by simp, by simp; omega, by simp; omega, q3⟩, by simp; omega, by simp; omega⟩
  have hr : rngOk 0 ci = true := rng_ok (by omega) (by omega)
  have e4 : ((1 + a : Nat) : Int) = 1 + (a : Int) := by omega
  rw [e4] at e3
  simp only [List.map_nil] at e3
  simp -implicitDefEqProofs [P2.f_law_player, e1, e2, hr, e3, Play.D]
theorem law_office2 (W : DrawnOffices2 G) (k : Nat) {n : Nat} {s : Sto} (hp : Pot n s) {m : Nat} (hm : m ≤ 12) :
    ∃ (o : Off) (s' : Sto), callF G (k + 4) "_law_office" [.ref n, .dat (.int m)] s = .ok (.dat o.D) s' ∧ Pot n s' ∧ o.ok ∧ (∀ b ∈ o.bs, b ≤ 3) ∧ (o.hd.n ≤ 3 ∧ o.hd.st.length ≤ m) ∧ (o.hp.n ≤ 3 ∧ o.hp.st.length ≤ m) := by
  rw [cal_of W.off rfl]
  obtain ⟨d, s1, e1, p1, d1⟩ := W.pick hp (xs := [.tuple [.int 2], .tuple [.int 2], .tuple [.int 3], .tuple [.int 3], .tuple [.int 1], .tuple [.int 2, .int 2]]) (by simp) (by simp) (k + 1)
  obtain ⟨bs, rfl, hb, hl0, hl1⟩ : ∃ bs : List Nat, d = nsD bs ∧ (∀ b ∈ bs, 1 ≤ b ∧ b ≤ 3) ∧ 1 ≤ bs.length ∧ bs.length ≤ 2 := by
    simp only [List.mem_cons, List.not_mem_nil, or_false] at d1
    rcases d1 with rfl | rfl | rfl | rfl | rfl | rfl
    · exact ⟨[2], rfl, by simp, by simp, by simp⟩
    · exact ⟨[2], rfl, by simp, by simp, by simp⟩
    · exact ⟨[3], rfl, by simp, by simp, by simp⟩
    · exact ⟨[3], rfl, by simp, by simp, by simp⟩
    · exact ⟨[1], rfl, by simp, by simp, by simp⟩
    · exact ⟨[2, 2], rfl, by simp, by simp, by simp⟩
  have hb0 : bs ≠ [] := List.length_pos_iff.mp (by omega)
  have hb4 : ∀ b ∈ bs, 1 ≤ b ∧ b ≤ 4 := fun b h => by have := hb b h; omega
  obtain ⟨p, s3, e3, p3, o3, n3⟩ := law_player2 W k p1 hb0 hl1 hb4 hm
  obtain ⟨q, s4, e4, p4, o4, n4⟩ := law_player2 W k p3 hb0 hl1 hb4 hm
  refine ⟨⟨bs, p, q⟩, s4, ?_, p4, ⟨hl0, hl1, hb4, o3, o4⟩, fun b h => (hb b h).2, n3, n4⟩
  simp -implicitDefEqProofs [P2.f_law_office, e1, e3, e4, Off.D]
end
end Y
end Z
end

section
set_option maxRecDepth 100000
set_option maxHeartbeats 4000000
/-! The laws' own counted moves (the second family). -/
namespace Z
open PySem
namespace Y
@[simp] theorem tmpE_eq (i : Nat) (η : Env) : tmpE i η = tmpO i η η[i]? := rfl
@[simp] theorem tmpO_own (i : Nat) (η : Env) (xs : List PyData) : tmpO i η (some (some (.own xs))) = some (η.set i (some (.dat (.list xs)))) := rfl
@[simp] theorem tmpT_s (v : Env → Sto → R Bool) (s : Sto) (η : Env) : tmpT v s (some η) = endT (v η s) := rfl
@[simp] theorem tmpV_s (v : Env → Sto → R Z.D) (s : Sto) (η : Env) : tmpV v s (some η) = endV (v η s) := rfl
@[simp] theorem endT_ok (b : Bool) (s : Sto) : endT (.ok b s) = if flatSto s = true then .ok b s else .no := rfl
@[simp] theorem endV_b (b : Bool) (s : Sto) : endV (.ok (.dat (.bool b)) s) = if flatSto s = true then .ok (.dat (.bool b)) s else .no := rfl
/-- enumerated, each changed -/
def mapE (g : Nat → PyData → PyData) : Nat → List PyData → List PyData
  | _, [] => []
  | k, x :: xs => g k x :: mapE g (k + 1) xs
theorem cgo_enum {f : PyData → Sto → R (Option PyData)} {s : Sto} (g : Nat → PyData → PyData) : ∀ (l : List PyData) (j : Nat), (∀ (k : Nat) x, x ∈ l → f (.tuple [.int k, x]) s = .ok (some (g k x)) s) → cgo f (enumL j l) s = .ok (mapE g j l) s
  | [], _, _ => rfl
  | x :: l, j, h => by
    simp only [enumL, cgo, mapE, h j x (List.mem_cons_self ..), R.bd_ok, cgo_enum g l (j + 1) fun k y hy => h k y (List.mem_cons_of_mem _ hy)]
theorem mapE_get (g : Nat → PyData → PyData) : ∀ (l : List PyData) (j i : Nat), (mapE g j l)[i]? = l[i]?.map (g (j + i))
  | [], _, _ => by simp [mapE]
  | x :: l, j, 0 => by simp [mapE]
  | x :: l, j, i + 1 => by
    simp only [mapE, List.getElem?_cons_succ, mapE_get g l (j + 1) i]
    rw [show j + 1 + i = j + (i + 1) by omega]
theorem enum_len : ∀ (l : List PyData) (j : Nat), (enumL j l).length = l.length
  | [], _ => rfl
  | x :: l, j => by simp only [enumL, List.length_cons, enum_len l (j + 1)]
theorem mapE_set (b n : Nat) (ns : List Nat) : mapE (fun k x => if k = b then .int n else x) 0 (ns.map nD) = (ns.set b n).map nD := by
  refine List.ext_getElem? fun i => ?_
  rw [mapE_get, List.getElem?_map, List.getElem?_map, Nat.zero_add]
  by_cases h : i = b
  · subst h
    simp only [List.getElem?_set_self', if_true]
    cases ns[i]? <;> rfl
  · rw [List.getElem?_set_ne (fun e => h e.symm)]
    simp only [h, if_false]
    cases ns[i]? <;> rfl
def addI (x : PyData) (i : Int) : PyData := match x with
  | .int j => .int (j + i)
  | d => d
theorem mapE_shift {cs l : List Nat} {b e : Nat} (h : shift cs b e = some l) : mapE (fun k x => addI x (-b2i (decide (k = b)) + b2i (decide (k = e)))) 0 (cs.map nD) = l.map nD := by
  unfold shift at h
  split at h
  · rename_i n hn
    obtain ⟨y, hy, rfl⟩ := Option.map_eq_some_iff.mp h
    refine List.ext_getElem? fun i => ?_
    rw [mapE_get, List.getElem?_map, List.getElem?_map, Nat.zero_add]
    by_cases he : i = e
    · subst he
      have hl : i < cs.length := by simpa using (List.getElem?_eq_some_iff.mp hy).1
      rw [List.getElem?_set_self (by simpa using hl)]
      by_cases hb : i = b
      · subst hb
        rw [hn]
        rw [List.getElem?_set_self hl] at hy
        cases hy
        simp [nD, addI, b2i]
      · rw [List.getElem?_set_ne (fun e => hb e.symm)] at hy
        rw [hy]
        simp [nD, addI, b2i, hb]
    · rw [List.getElem?_set_ne (fun e' => he e'.symm)]
      by_cases hb : i = b
      · subst hb
        have hl : i < cs.length := (List.getElem?_eq_some_iff.mp hn).1
        rw [hn, List.getElem?_set_self hl]
        simp [nD, addI, b2i, he]
        omega
      · rw [List.getElem?_set_ne (fun e' => hb e'.symm)]
        cases cs[i]? <;> simp [nD, addI, b2i, he, hb]
  · cases h
namespace P3
def f_law_moves : Fd := ⟨["office"], 3, true, [
    .asg 1 (.comp (.tup [(.txt "head"), (.var 2)]) (.nm 2) .rng [(.bf .len [(.idx (.idx (.var 0) (.num 2)) (.num 1))])] []),
    .ret (.bin .add (.var 1) (.comp (.tup [(.txt "helper"), (.var 2)]) (.nm 2) .rng [(.bf .len [(.idx (.idx (.var 0) (.num 3)) (.num 1))])] []))]⟩
def f_law_notes : Fd := ⟨["deed", "notes"], 4, false, [
    .ife (.cmp .eq (.idx (.var 0) (.num 0)) (.txt "rest")) [.ret (.var 1)] [],
    .ife (.cmp .eq (.idx (.var 0) (.num 0)) (.txt "read")) [.ret (.ife (.cmp .eq (.idx (.var 1) (.idx (.var 0) (.num 1))) (.idx (.var 0) (.num 2))) (.var 1) .non)] [],
    .ret (.bf .tuple [(.comp (.ife (.cmp .eq (.var 2) (.idx (.var 0) (.num 1))) (.idx (.var 0) (.num 2)) (.var 3)) (.tup [(.nm 2), (.nm 3)]) .enum [(.var 1)] [])])]⟩
def f_law_begin : Fd := ⟨["office", "many"], 4, true, [
    .ret (.tup [(.num 0), (.bf .tuple [(.comp (.num 0) (.nm 2) .it [(.idx (.var 0) (.num 1))] [])]), (.bf .tuple [(.comp (.ife (.cmp .eq (.var 3) (.num 0)) (.var 1) (.num 0)) (.nm 3) .rng [(.idx (.idx (.var 0) (.num 3)) (.num 0))] [])])])]⟩
def f_law_done : Fd := ⟨["office", "counted", "move"], 13, true, [
    .asgT [(.nm 4), (.nm 5), (.nm 6)] (.var 1),
    .asgT [(.nm 7), (.nm 8), (.nm 9), (.nm 10)] (.ife (.cmp .eq (.idx (.var 2) (.num 0)) (.txt "head")) (.idx (.idx (.idx (.var 0) (.num 2)) (.num 1)) (.idx (.var 2) (.num 1))) (.idx (.idx (.idx (.var 0) (.num 3)) (.num 1)) (.idx (.var 2) (.num 1)))),
    .asg 3 (.call "_law_notes" [(.var 9), (.var 5)]),
    .ife (.or [(.isN (.var 3)), (.an [(.cmp .eq (.idx (.var 2) (.num 0)) (.txt "head")), (.cmp .ne (.var 8) (.var 4))]), (.an [(.cmp .eq (.idx (.var 2) (.num 0)) (.txt "helper")), (.cmp .lt (.idx (.var 6) (.var 8)) (.num 1))])]) [.ret .non] [],
    .ife (.cmp .eq (.idx (.var 2) (.num 0)) (.txt "head")) [.ret (.tup [(.var 10), (.var 3), (.var 6)])] [],
    .ret (.tup [(.var 4), (.var 3), (.bf .tuple [(.comp (.bin .add (.bin .sub (.var 12) (.bf .int [(.cmp .eq (.var 11) (.var 8))])) (.bf .int [(.cmp .eq (.var 11) (.var 10))])) (.tup [(.nm 11), (.nm 12)]) .enum [(.var 6)] [])])])]⟩
def f_law_along : Fd := ⟨["office", "many", "moves"], 6, true, [
    .own 3 (.lst [(.call "_law_begin" [(.var 0), (.var 1)])]),
    .fr (.nm 4) .it [(.var 2)] [.asg 5 (.call "_law_done" [(.var 0), (.idx (.ovar 3) (.neg (.num 1))), (.var 4)]), .ife (.isN (.var 5)) [.ret .non] [], .app 3 (.var 5)],
    .ret (.ovar 3)]⟩
def f_law_walk : Fd := ⟨["pot", "office", "many", "most"], 9, true, [
    .par [false, true] [5, 6] [(.call "_law_begin" [(.var 1), (.var 2)]), (.lst [])],
    .fr (.nm 4) .rng [(.call "_law_draw" [(.var 0), (.bin .add (.var 3) (.num 1))])] [.asg 7 (.comp (.var 8) (.nm 8) .it [(.call "_law_moves" [(.var 1)])] [(.notN (.call "_law_done" [(.var 1), (.var 5), (.var 8)]))]), .ife (.cmp .ne (.var 7) (.lst [])) [.app 6 (.call "_law_pick" [(.var 0), (.var 7)]), .asg 5 (.call "_law_done" [(.var 1), (.var 5), (.idx (.ovar 6) (.neg (.num 1)))])] []],
    .ret (.ovar 6)]⟩
end P3
structure LawCounts (G : Gam) : Prop extends Draws G where
  mvs : G.fns "_law_moves" = some P3.f_law_moves
  nts : G.fns "_law_notes" = some P3.f_law_notes
  bgn : G.fns "_law_begin" = some P3.f_law_begin
  dne : G.fns "_law_done" = some P3.f_law_done
def allMoves (o : Off) : List Move := (List.range o.hd.st.length).map (fun i => ⟨true, i⟩) ++ (List.range o.hp.st.length).map (fun i => ⟨false, i⟩)
theorem allMoves_ok {o : Off} : ∀ m ∈ allMoves o, m.ok o := by
  intro m hm
  rcases List.mem_append.mp hm with h | h
  · obtain ⟨i, hi, rfl⟩ := List.mem_map.mp h
    simpa [Move.ok, Off.player] using hi
  · obtain ⟨i, hi, rfl⟩ := List.mem_map.mp h
    simpa [Move.ok, Off.player] using hi
section
variable {G : Gam}
theorem rng_moves (b : Bool) (n : Nat) : (rngL 0 n).map (fun x => PyData.tuple [.str (if b then "head" else "helper"), x]) = ((List.range n).map fun i => (⟨b, i⟩ : Move)).map Move.D := by
  rw [rngL, List.map_map, List.map_map]
  refine List.map_congr_left fun i _ => ?_
  simp [Move.D]
theorem law_moves (W : LawCounts G) (k : Nat) {o : Off} (ho : o.ok) (s : Sto) : callF G (k + 1) "_law_moves" [.dat o.D] s = .ok (.dat (.list ((allMoves o).map Move.D))) s := by
  rw [cal_of W.mvs rfl]
  have h1 := ho.hd.l
  have h2 := ho.hp.l
  obtain ⟨c, hc⟩ : ∃ c : Int, c = o.hd.st.length := ⟨_, rfl⟩
  obtain ⟨d, hd⟩ : ∃ c : Int, c = o.hp.st.length := ⟨_, rfl⟩
  have hD : EV (callF G k) G (.bf .len [(.idx (.idx (.var 0) (.num 2)) (.num 1))]) [some (.dat o.D), none, none] s = .ok (.dat (.int c)) s := by rw [hc]; simp [Off.D, Play.D, ixN]
  have hE : ∀ x, EV (callF G k) G (.bf .len [(.idx (.idx (.var 0) (.num 3)) (.num 1))]) [some (.dat o.D), x, none] s = .ok (.dat (.int d)) s := fun x => by rw [hd]; simp [Off.D, Play.D, ixN]
  have cc : cgo (ETurn (callF G k) G (.nm 2) [] (.tup [(.txt "head"), (.var 2)]) [some (.dat o.D), none, none]) (rngL 0 c.toNat) s = .ok ((rngL 0 c.toNat).map fun x => .tuple [.str "head", x]) s := cgo_map _ _ fun x _ => by simp [turn_eq]
  have cd : ∀ y, cgo (ETurn (callF G k) G (.nm 2) [] (.tup [(.txt "helper"), (.var 2)]) [some (.dat o.D), y, none]) (rngL 0 d.toNat) s = .ok ((rngL 0 d.toNat).map fun x => .tuple [.str "helper", x]) s := fun y => cgo_map _ _ fun x _ => by simp [turn_eq]
  have r1 : rngOk 0 c = true := rng_ok (by omega) (by omega)
  have r2 : rngOk 0 d = true := rng_ok (by omega) (by omega)
  have hz : (rngL 0 c.toNat).length + (rngL 0 d.toNat).length ≤ sizeLine := by
    have : sizeLine = 16777216 := by decide +kernel
    rw [rng_len, rng_len]; omega
  have e1 := rng_moves true c.toNat
  have e2 := rng_moves false d.toNat
  simp only [if_true, Bool.false_eq_true, if_false] at e1 e2
  have e3 : (allMoves o).map Move.D = ((rngL 0 c.toNat).map fun x => PyData.tuple [.str "head", x]) ++ ((rngL 0 d.toNat).map fun x => PyData.tuple [.str "helper", x]) := by
    rw [e1, e2, allMoves, List.map_append, hc, hd]; rfl
  rw [e3]
  simp -implicitDefEqProofs [-v_bf, P3.f_law_moves, hD, hE, r1, r2, big_rng (n := c.toNat) (by omega), big_rng (n := d.toNat) (by omega), cc, cd, hz]
theorem law_notes_of (hG : G.fns "_law_notes" = some P3.f_law_notes) (k : Nat) {bs : List Nat} {d : Deed} (hd : d.ok bs) {ns : List Nat} (hn : ns.length = bs.length) (hl : bs.length ≤ 2) (s : Sto) : callF G (k + 1) "_law_notes" [.dat d.D, .dat (nsD ns)] s = .ok (.dat (oNs (notesB d ns))) s := by
  rw [cal_of hG rfl]
  cases d with
  | rest => simp -implicitDefEqProofs [P3.f_law_notes, Deed.D, notesB, oNs]
  | read b n =>
    obtain ⟨m, h1, h2⟩ := hd
    have hb : b < ns.length := by rw [hn]; exact (List.getElem?_eq_some_iff.mp h1).1
    have hi := idx_ns hb
    have n1 : ¬ (Str.ofString "read" = Str.ofString "rest") := by decide +kernel
    by_cases h : ns[b] = n
    · simp -implicitDefEqProofs [P3.f_law_notes, Deed.D, nsD, n1, notesB, oNs, hb, h, hi]
    · have h' : ¬ (ns[b] : Int) = n := by omega
      simp -implicitDefEqProofs [P3.f_law_notes, Deed.D, nsD, n1, notesB, oNs, hb, h, hi]
      omega
  | write b n =>
    obtain ⟨m, h1, h2⟩ := hd
    have n1 : ¬ (Str.ofString "write" = Str.ofString "rest") := by decide +kernel
    have n2 : ¬ (Str.ofString "write" = Str.ofString "read") := by decide +kernel
    have hc := cgo_enum (f := ETurn (callF G k) G (.tup [(.nm 2), (.nm 3)]) [] (.ife (.cmp .eq (.var 2) (.idx (.var 0) (.num 1))) (.idx (.var 0) (.num 2)) (.var 3)) [some (.dat (.tuple [.str "write", .int b, .int n])), some (.dat (.tuple (ns.map nD))), none, none]) (s := s) (fun k x => if k = b then .int n else x) (ns.map nD) 0 (fun j x hx => by
      by_cases h : j = b
      · simp -implicitDefEqProofs [turn_eq, h]
      · have h' : ¬ (j : Int) = b := by omega
        simp -implicitDefEqProofs [turn_eq, h, h'])
    rw [mapE_set] at hc
    have hb : big (enumL 0 (ns.map nD)).length = true := by rw [enum_len, List.length_map]; exact P.big_of (by omega)
    have e : oNs (notesB (.write b n) ns) = .tuple ((ns.set b n).map nD) := rfl
    rw [e]
    generalize (ns.set b n).map nD = ys at *
    simp -implicitDefEqProofs [P3.f_law_notes, Deed.D, nsD, n1, n2, hb, hc]
theorem law_notes (W : LawCounts G) (k : Nat) {bs : List Nat} {d : Deed} (hd : d.ok bs) {ns : List Nat} (hn : ns.length = bs.length) (hl : bs.length ≤ 2) (s : Sto) : callF G (k + 1) "_law_notes" [.dat d.D, .dat (nsD ns)] s = .ok (.dat (oNs (notesB d ns))) s := law_notes_of W.nts k hd hn hl s
def ifZ (many : Nat) : PyData → PyData
  | .int i => if i = 0 then .int many else .int 0
  | d => d
theorem law_begin (W : LawCounts G) (k : Nat) {o : Off} (ho : o.ok) (many : Nat) (s : Sto) : callF G (k + 1) "_law_begin" [.dat o.D, .dat (.int many)] s = .ok (.dat (P.cBegin o many).D) s := by
  rw [cal_of W.bgn rfl]
  have h1 := ho.l1
  have h2 := ho.hp.n0
  have h3 := ho.hp.n1
  obtain ⟨n, hn⟩ : ∃ n : Int, n = o.hp.n := ⟨_, rfl⟩
  have d1 : EV (callF G k) G (.idx (.var 0) (.num 1)) [some (.dat o.D), some (.dat (.int many)), none, none] s = .ok (.dat (.tuple (o.bs.map nD))) s := by simp [Off.D, nsD, ixN]
  have d2 : EV (callF G k) G (.idx (.idx (.var 0) (.num 3)) (.num 0)) [some (.dat o.D), some (.dat (.int many)), none, none] s = .ok (.dat (.int n)) s := by rw [hn]; simp [Off.D, Play.D, ixN]
  have c1 : cgo (ETurn (callF G k) G (.nm 2) [] (.num 0) [some (.dat o.D), some (.dat (.int many)), none, none]) (o.bs.map nD) s = .ok ((o.bs.map nD).map fun _ => .int 0) s := cgo_map _ _ fun x _ => by simp [turn_eq]
  have c2 : cgo (ETurn (callF G k) G (.nm 3) [] (.ife (.cmp .eq (.var 3) (.num 0)) (.var 1) (.num 0)) [some (.dat o.D), some (.dat (.int many)), none, none]) (rngL 0 n.toNat) s = .ok ((rngL 0 n.toNat).map (ifZ many)) s := cgo_map _ _ fun x hx => by
    obtain ⟨i, _, rfl⟩ := List.mem_map.mp hx
    by_cases h : i = 0
    · simp [turn_eq, h, ifZ]
    · simp [turn_eq, h, ifZ]
  have r : rngOk 0 n = true := rng_ok (by omega) (by omega)
  have e1 : (o.bs.map nD).map (fun _ => PyData.int 0) = (List.replicate o.bs.length 0).map nD := by
    rw [List.map_map, List.map_replicate]
    exact List.map_const' ..
  have e2 : (rngL 0 n.toNat).map (ifZ many) = (many :: List.replicate (o.hp.n - 1) 0).map nD := by
    have e : n.toNat = o.hp.n - 1 + 1 := by omega
    rw [e, rngL, List.range_succ_eq_map, List.map_map, List.map_cons, List.map_map, List.map_cons, List.map_replicate]
    refine congr (congrArg List.cons ?_) ?_
    · simp [nD, ifZ]
    · rw [List.eq_replicate_iff]
      refine ⟨by simp, fun x hx => ?_⟩
      obtain ⟨i, _, rfl⟩ := List.mem_map.mp hx
      simp [nD, ifZ]
      omega
  rw [e1] at c1
  rw [e2] at c2
  have hb := P.big_of (n := o.bs.length) (by omega)
  have hb2 := big_rng (n := n.toNat) (by omega)
  rw [show (P.cBegin o many).D = .tuple [.int 0, .tuple ((List.replicate o.bs.length 0).map nD), .tuple ((many :: List.replicate (o.hp.n - 1) 0).map nD)] from rfl]
  generalize (List.replicate o.bs.length 0).map nD = ys at *
  generalize (many :: List.replicate (o.hp.n - 1) 0).map nD = zs at *
  have hb : big (o.bs.map nD).length = true := by rw [List.length_map]; exact hb
  generalize o.bs.map nD = xs at *
  simp -implicitDefEqProofs [-v_idx, P3.f_law_begin, d1, d2, c1, c2, r, hb, hb2]
end
end Y
end Z
end

section
set_option maxRecDepth 100000
set_option maxHeartbeats 4000000
/-! The laws' own moves (the first family), with dicts. -/
namespace Z
open PySem
namespace Y
section
variable (C : Str → List Z.D → Sto → R Z.D) (G : Gam) (η : Env) (s : Sto)
def lookCO (o : Option (Option Z.D)) (s : Sto) : R (Bool × List (PyData × PyData)) := match o with
  | some (some (.odc m kvs)) => .ok (m, kvs) s
  | some (some (.fdc m kvs)) => .ok (m, kvs) s
  | _ => .no
@[simp] theorem lookC_eq (i : Nat) : lookC η i s = lookCO η[i]? s := rfl
@[simp] theorem lookCO_s (m : Bool) (kvs : List (PyData × PyData)) : lookCO (some (some (.odc m kvs))) s = .ok (m, kvs) s := rfl
@[simp] theorem lookCO_f (m : Bool) (kvs : List (PyData × PyData)) : lookCO (some (some (.fdc m kvs))) s = .ok (m, kvs) s := rfl
def kDget2 (kvs : Bool × List (PyData × PyData)) (y : Z.D) (s : Sto) : R Z.D := oD ((datOf y).bind (getM kvs)) s
def kDget (a : Ex) (η : Env) (kvs : Bool × List (PyData × PyData)) (s : Sto) : R Z.D := (EV C G a η s).bd (kDget2 kvs)
@[simp] theorem kDget2_eq (kvs : Bool × List (PyData × PyData)) (y : Z.D) : kDget2 kvs y s = oD ((datOf y).bind (getM kvs)) s := rfl
@[simp] theorem kDget_eq (a : Ex) (kvs : Bool × List (PyData × PyData)) : kDget C G a η kvs s = (EV C G a η s).bd (kDget2 kvs) := rfl
@[simp] theorem v_dget (i : Nat) (a : Ex) : EV C G (.dget i a) η s = (lookC η i s).bd (kDget C G a η) := bd_same fun kvs s => bd_same fun y s => by
  simp only [kDget2]
  cases datOf y with
  | none => rfl
  | some y =>
    simp only [R.opt_some, R.bd_ok, Option.bind_some]
    cases getM kvs y <;> rfl
def kDlen (kvs : Bool × List (PyData × PyData)) (s : Sto) : R Z.D := (R.opt (lenM kvs) s).bd fun n s => .ok (.dat (.int n)) s
@[simp] theorem kDlen_eq (kvs : List (PyData × PyData)) : kDlen (false, kvs) s = .ok (.dat (.int kvs.length)) s := rfl
@[simp] theorem v_dlen (i : Nat) : EV C G (.dlen i) η s = (lookC η i s).bd kDlen := rfl
def kDic (m : Bool) (ds : List Z.D) (s : Sto) : R (List (PyData × PyData)) := R.opt ((datsOf ds).bind (dicsD m)) s
@[simp] theorem kDic_eq (m : Bool) (ds : List Z.D) : kDic m ds s = R.opt ((datsOf ds).bind (dicsD m)) s := rfl
@[simp] theorem putC_eq (m : Bool) (i : Nat) (kvs : List (PyData × PyData)) : putC m i η kvs s = if i < η.length then .fl (.nx (η.set i (some (.odc m kvs)))) s else .no := rfl
@[simp] theorem x_odc (m : Bool) (i : Nat) (e : Ex) : exec C G (.odc m i e) η s = RS.of η ((EL C G [e] η s).bd (kDic m)) (putC m i η) := by
  simp only [exec]
  have h : vDic m (eXs C G [e]) η s = (EL C G [e] η s).bd (kDic m) := bd_same fun ds s => by
    simp only [kDic]
    cases datsOf ds <;> rfl
  rw [h]
def chgCO (v : Nat) (k d : PyData) (η : Env) (o : Option (Option Z.D)) (s : Sto) : RS := match o with
  | some (some (.odc m kvs)) => if isKeyM m k = true ∧ kvs.length < sizeLine then .fl (.nx (η.set v (some (.odc m (putKd kvs k d))))) s else .no
  | _ => .no
@[simp] theorem chgC_eq (v : Nat) (k d : PyData) : chgC v k d η s = chgCO v k d η η[v]? s := rfl
@[simp] theorem chgCO_s (m : Bool) (v : Nat) (k d : PyData) (kvs : List (PyData × PyData)) : chgCO v k d η (some (some (.odc m kvs))) s = if isKeyM m k = true ∧ kvs.length < sizeLine then .fl (.nx (η.set v (some (.odc m (putKd kvs k d))))) s else .no := rfl
@[simp] theorem isKey_i (i : Int) : isKeyM false (.int i) = true := rfl
@[simp] theorem getM_f (kvs : List (PyData × PyData)) (i : Int) : getM (false, kvs) (.int i) = getK kvs (.int i) := rfl
@[simp] theorem getM_t (kvs : List (PyData × PyData)) (x : Str) : getM (false, kvs) (.str x) = getK kvs (.str x) := rfl
def dset5 (v : Nat) (η : Env) (d : PyData) (o : Option PyData) (s : Sto) : RS := match o with
  | some k => chgC v k d η s
  | none => .no
def kDset4 (v : Nat) (η : Env) (d : PyData) (k : Z.D) (s : Sto) : RS := dset5 v η d (datOf k) s
def kDset3 (v : Nat) (k : Ex) (η : Env) (d : PyData) (_ : Bool × List (PyData × PyData)) (s : Sto) : RS := RS.of η (EV C G k η s) (kDset4 v η d)
def dset2 (v : Nat) (k : Ex) (η : Env) (o : Option PyData) (s : Sto) : RS := match o with
  | some d => RS.of η (lookC η v s) (kDset3 C G v k η d)
  | none => .no
def kDset1 (v : Nat) (k : Ex) (η : Env) (d : Z.D) (s : Sto) : RS := dset2 C G v k η (datOf d) s
@[simp] theorem dset5_s (v : Nat) (d k : PyData) : dset5 v η d (some k) s = chgC v k d η s := rfl
@[simp] theorem kDset4_eq (v : Nat) (d : PyData) (k : Z.D) : kDset4 v η d k s = dset5 v η d (datOf k) s := rfl
@[simp] theorem kDset3_eq (v : Nat) (k : Ex) (d : PyData) (kvs : Bool × List (PyData × PyData)) : kDset3 C G v k η d kvs s = RS.of η (EV C G k η s) (kDset4 v η d) := rfl
@[simp] theorem dset2_s (v : Nat) (k : Ex) (d : PyData) : dset2 C G v k η (some d) s = RS.of η (lookC η v s) (kDset3 C G v k η d) := rfl
@[simp] theorem kDset1_eq (v : Nat) (k : Ex) (d : Z.D) : kDset1 C G v k η d s = dset2 C G v k η (datOf d) s := rfl
@[simp] theorem x_dset (v : Nat) (k e : Ex) : exec C G (.dset v k e) η s = RS.of η (EV C G e η s) (kDset1 C G v k η) := by
  simp only [exec]
  refine of_same fun d s => ?_
  simp only [kDset1]
  cases datOf d with
  | none => rfl
  | some d =>
    simp only [R.opt_some, RS.of_ok, dset2_s]
    refine of_same fun _ s => of_same fun k s => ?_
    simp only [kDset4]
    cases datOf k <;> rfl
def kSset (x : Z.D) (s : Sto) : R Z.D := oD ((datOf x).bind ssetD) s
@[simp] theorem kSset_eq (x : Z.D) : kSset x s = oD ((datOf x).bind ssetD) s := rfl
@[simp] theorem v_sset4 (a : Ex) : EV C G (.sset a) η s = (EV C G a η s).bd kSset := bd_same fun x s => by
  simp only [kSset]
  cases datOf x with
  | none => rfl
  | some x =>
    simp only [R.opt_some, R.bd_ok, Option.bind_some]
    cases ssetD x <;> rfl
end
/-! dicts of a list, by places -/
def kvE : Nat → List PyData → List (PyData × PyData)
  | _, [] => []
  | j, x :: r => (.int j, x) :: kvE (j + 1) r
theorem prs_enum : ∀ (xs : List PyData) (j : Nat), prsD false (enumL j xs) = some (kvE j xs)
  | [], _ => rfl
  | x :: xs, j => by
    show (prD false (.tuple [.int j, x])).bind _ = _
    simp only [prD, isKeyM, isKey, if_true, Option.bind_some, prs_enum xs (j + 1), Option.map_some, kvE]
theorem kvE_len : ∀ (xs : List PyData) (j : Nat), (kvE j xs).length = xs.length
  | [], _ => rfl
  | x :: xs, j => by simp only [kvE, List.length_cons, kvE_len xs (j + 1)]
theorem kvE_get : ∀ (xs : List PyData) (j i : Nat), getK (kvE j xs) (.int ((j + i : Nat) : Int)) = xs[i]?
  | [], _, _ => rfl
  | x :: xs, j, 0 => by simp [kvE, getK, sameK]
  | x :: xs, j, i + 1 => by
    have h := kvE_get xs (j + 1) i
    rw [show j + 1 + i = j + (i + 1) by omega] at h
    have hne : ¬ (j : Int) = ((j + (i + 1) : Nat) : Int) := by omega
    simp only [kvE, getK, sameK, hne, decide_false, Bool.false_eq_true, if_false, h, List.getElem?_cons_succ]
theorem kvE_sub (v : PyData) : ∀ (xs : List PyData) (j i : Nat), (kvE j xs).map (subK (.int ((j + i : Nat) : Int)) v) = kvE j (xs.set i v)
  | [], _, _ => rfl
  | x :: xs, j, 0 => by
    have h : ∀ (ys : List PyData) (l : Nat), j < l → (kvE l ys).map (subK (.int ((j : Nat) : Int)) v) = kvE l ys := by
      intro ys
      induction ys with
      | nil => intros; rfl
      | cons y ys ih =>
        intro l hl
        have hne : ¬ (l : Int) = ((j : Nat) : Int) := by omega
        simp only [kvE, List.map_cons, ih (l + 1) (by omega), subK, sameK, hne, decide_false, Bool.false_eq_true, if_false]
    have e := h xs (j + 1) (by omega)
    simp only [kvE, List.map_cons, List.set_cons_zero, Nat.add_zero, e, subK, sameK, decide_true, if_true]
  | x :: xs, j, i + 1 => by
    have h := kvE_sub v xs (j + 1) i
    rw [show j + 1 + i = j + (i + 1) by omega] at h
    have hne : ¬ (j : Int) = ((j + (i + 1) : Nat) : Int) := by omega
    simp only [kvE, List.map_cons, List.set_cons_succ, h, subK, sameK, hne, decide_false, Bool.false_eq_true, if_false]
theorem kvE_put {xs : List PyData} {i : Nat} (hi : i < xs.length) (v : PyData) : putKd (kvE 0 xs) (.int (i : Int)) v = kvE 0 (xs.set i v) := by
  have h1 := kvE_get xs 0 i
  have h2 := kvE_sub v xs 0 i
  rw [Nat.zero_add] at h1 h2
  unfold putKd
  rw [h1, List.getElem?_eq_getElem hi]
  exact h2
theorem kvE_snoc (x : PyData) : ∀ (xs : List PyData) (j : Nat), kvE j (xs ++ [x]) = kvE j xs ++ [(.int ((j + xs.length : Nat) : Int), x)]
  | [], j => rfl
  | y :: xs, j => by
    have h := kvE_snoc x xs (j + 1)
    rw [show j + 1 + xs.length = j + (xs.length + 1) by omega] at h
    simp only [List.cons_append, kvE, h, List.length_cons]
theorem mrg_enum : ∀ (ys xs : List PyData), mrgD (kvE 0 xs) (kvE xs.length ys) = kvE 0 (xs ++ ys)
  | [], xs => by simp [kvE, mrgD]
  | y :: ys, xs => by
    have h1 := kvE_get xs 0 xs.length
    rw [Nat.zero_add, List.getElem?_eq_none (Nat.le_refl _)] at h1
    have h2 : putKd (kvE 0 xs) (.int (xs.length : Int)) y = kvE 0 (xs ++ [y]) := by
      unfold putKd
      rw [h1, kvE_snoc, Nat.zero_add]
      rfl
    have h3 := mrg_enum ys (xs ++ [y])
    rw [List.length_append, List.length_singleton, List.append_assoc, List.singleton_append] at h3
    simp only [kvE, mrgD, h2, h3]
theorem dic_enum (xs : List PyData) : dicsD false [.list (enumL 0 xs)] = some (kvE 0 xs) := by
  have h := mrg_enum xs []
  simp only [dicsD, dictD, prs_enum, Option.map_some]
  exact congrArg some h
theorem cgo_get {f : PyData → Sto → R (Option PyData)} {s : Sto} (ys : List PyData) (h : ∀ (i : Nat) (hi : i < ys.length), f (.int (i : Int)) s = .ok (some ys[i]) s) : cgo f (rngL 0 ys.length) s = .ok ys s := by
  have e := cgo_map (f := f) (s := s) (fun d => match d with | .int i => ys.getD i.toNat .none | _ => .none) (rngL 0 ys.length) (fun x hx => by
    obtain ⟨i, hi, rfl⟩ := List.mem_map.mp hx
    have hi := List.mem_range.mp hi
    rw [show (0 : Int) + (i : Int) = i by omega, h i hi]
    simp only [Int.toNat_natCast]
    rw [List.getD_eq_getElem?_getD, List.getElem?_eq_getElem hi]
    rfl)
  rw [e]
  congr 1
  refine List.ext_getElem? fun i => ?_
  rw [rngL, List.map_map, List.getElem?_map]
  by_cases hi : i < ys.length
  · rw [List.getElem?_range hi, List.getElem?_eq_getElem hi]
    simp [List.getD_eq_getElem?_getD, hi]
  · rw [List.getElem?_eq_none (by simpa using hi), List.getElem?_eq_none (by omega)]
    rfl
namespace P4
def f_law_moves : Fd := ⟨["office"], 2, true, [
    .ret (.bin .add (.comp (.tup [(.txt "head"), (.var 1)]) (.nm 1) .rng [(.bf .len [(.idx (.idx (.var 0) (.num 2)) (.num 1))])] []) (.comp (.tup [(.txt "helper"), (.var 1)]) (.nm 1) .rng [(.bf .len [(.idx (.idx (.var 0) (.num 3)) (.num 1))])] []))]⟩
def f_law_behind : Fd := ⟨["office", "standing", "move"], 5, true, [
    .asg 3 (.idx (.idx (.idx (.var 0) (.ife (.cmp .eq (.idx (.var 2) (.num 0)) (.txt "head")) (.num 2) (.num 3))) (.num 1)) (.idx (.var 2) (.num 1))),
    .asg 4 (.call "_law_notes" [(.idx (.var 3) (.num 2)), (.idx (.var 1) (.num 1))]),
    .ife (.isN (.var 4)) [.ret .non] [],
    .ife (.cmp .eq (.idx (.var 2) (.num 0)) (.txt "head")) [.ret (.ife (.cmp .eq (.idx (.var 1) (.num 0)) (.idx (.var 3) (.num 1))) (.tup [(.idx (.var 3) (.num 3)), (.var 4), (.idx (.var 1) (.num 2))]) .non)] [],
    .ret (.ife (.cmp .inn (.idx (.var 3) (.num 1)) (.idx (.var 1) (.num 2))) (.tup [(.idx (.var 1) (.num 0)), (.var 4), (.bf .tuple [(.sset (.bin .add (.idx (.var 1) (.num 2)) (.tup [(.idx (.var 3) (.num 3))])))])]) .non)]⟩
def f_law_counted : Fd := ⟨["office", "counted", "move"], 8, true, [
    .asg 3 (.idx (.idx (.idx (.var 0) (.ife (.cmp .eq (.idx (.var 2) (.num 0)) (.txt "head")) (.num 2) (.num 3))) (.num 1)) (.idx (.var 2) (.num 1))),
    .asg 4 (.call "_law_notes" [(.idx (.var 3) (.num 2)), (.idx (.var 1) (.num 1))]),
    .ife (.isN (.var 4)) [.ret .non] [],
    .ife (.cmp .eq (.idx (.var 2) (.num 0)) (.txt "head")) [.ret (.ife (.cmp .eq (.idx (.var 1) (.num 0)) (.idx (.var 3) (.num 1))) (.tup [(.idx (.var 3) (.num 3)), (.var 4), (.idx (.var 1) (.num 2))]) .non)] [],
    .ife (.cmp .eq (.idx (.idx (.var 1) (.num 2)) (.idx (.var 3) (.num 1))) (.num 0)) [.ret .non] [],
    .odc false 5 (.comp (.tup [(.var 6), (.var 7)]) (.tup [(.nm 6), (.nm 7)]) .enum [(.idx (.var 1) (.num 2))] []),
    .dset 5 (.idx (.var 3) (.num 1)) (.bin .sub (.dget 5 (.idx (.var 3) (.num 1))) (.num 1)),
    .dset 5 (.idx (.var 3) (.num 3)) (.bin .add (.dget 5 (.idx (.var 3) (.num 3))) (.num 1)),
    .ret (.tup [(.idx (.var 1) (.num 0)), (.var 4), (.bf .tuple [(.comp (.dget 5 (.var 6)) (.nm 6) .rng [(.dlen 5)] [])])])]⟩
def f_law_first : Fd := ⟨["office"], 1, true, [
    .ret (.tup [(.num 0), (.bin .mul (.tup [(.num 0)]) (.bf .len [(.idx (.var 0) (.num 1))])), (.tup [(.num 0)])])]⟩
def f_law_first_counted : Fd := ⟨["office", "many"], 2, true, [
    .ret (.tup [(.num 0), (.bin .mul (.tup [(.num 0)]) (.bf .len [(.idx (.var 0) (.num 1))])), (.bin .add (.tup [(.var 1)]) (.bin .mul (.tup [(.num 0)]) (.bin .sub (.idx (.idx (.var 0) (.num 3)) (.num 0)) (.num 1))))])]⟩
end P4
structure LawHands (G : Gam) : Prop extends Draws G where
  mvs : G.fns "_law_moves" = some P4.f_law_moves
  nts : G.fns "_law_notes" = some P3.f_law_notes
  bhd : G.fns "_law_behind" = some P4.f_law_behind
  cnt : G.fns "_law_counted" = some P4.f_law_counted
  fst : G.fns "_law_first" = some P4.f_law_first
end Y
end Z
end

section
set_option maxRecDepth 100000
set_option maxHeartbeats 4000000
/-! A law's own counted move. -/
namespace Z
open PySem
namespace Y
section
variable {G : Gam}
theorem law_done (W : LawCounts G) (k : Nat) {o : Off} (ho : o.ok) {c : Ctd} (hc : c.ok o) {m : Move} (hm : m.ok o) (s : Sto) : callF G (k + 2) "_law_done" [.dat o.D, .dat c.D, .dat m.D] s = .ok (.dat (oC (done o c m))) s := by
  rw [cal_of W.dne rfl]
  obtain ⟨st, hst⟩ : ∃ st, (o.player m.hd).st[m.at_]? = some st := ⟨_, List.getElem?_eq_getElem hm⟩
  have hmem := List.mem_of_getElem? hst
  have hs : st.ok o.bs (o.player m.hd).n := by
    unfold Off.player at hmem ⊢
    split at hmem
    · rename_i h; rw [if_pos h]; exact ho.hd.st st hmem
    · rename_i h; rw [if_neg h]; exact ho.hp.st st hmem
  have h2 := fun s => law_notes W k hs.d hc.ns ho.l1 s
  obtain ⟨hd, i⟩ := m
  obtain ⟨cst, cns, ccs⟩ := c
  simp only at h2
  have hi := P.ix_map (f := Step.D) hst
  cases hd with
  | true =>
    simp only [Off.player, if_true] at hi
    cases hn : notesB st.d cns with
    | none =>
      have hdn : done o ⟨cst, cns, ccs⟩ ⟨true, i⟩ = none := by simp only [done, hst, Option.bind_some, hn, Option.bind_none]
      rw [hn] at h2
      rw [hdn]
      simp -implicitDefEqProofs [P3.f_law_done, Ctd.D, Move.D, Off.D, Play.D, Step.D, hi, h2, oNs, oC]
    | some l =>
      rw [hn] at h2
      simp only [oNs] at h2
      by_cases hb : st.b = cst
      · have hdn : done o ⟨cst, cns, ccs⟩ ⟨true, i⟩ = some ⟨st.e, l, ccs⟩ := by simp only [done, hst, Option.bind_some, hn, if_true, hb]
        have n1 : ¬ (Str.ofString "head" = Str.ofString "helper") := by decide +kernel
        rw [hdn]
        simp -implicitDefEqProofs [P3.f_law_done, Ctd.D, Move.D, Off.D, Play.D, Step.D, hi, h2, oC, P.isNon_nsD, hb, n1]
      · have hdn : done o ⟨cst, cns, ccs⟩ ⟨true, i⟩ = none := by simp only [done, hst, Option.bind_some, hn, if_true, hb, if_false]
        have hb' : ¬ (st.b : Int) = cst := by omega
        rw [hdn]
        simp -implicitDefEqProofs [P3.f_law_done, Ctd.D, Move.D, Off.D, Play.D, Step.D, hi, h2, oC, P.isNon_nsD, hb, hb']
  | false =>
    simp only [Off.player, Bool.false_eq_true, if_false] at hi
    have hbl : st.b < ccs.length := by rw [hc.cs]; exact hs.b
    have hel : st.e < ccs.length := by rw [hc.cs]; exact hs.e
    cases hn : notesB st.d cns with
    | none =>
      have hdn : done o ⟨cst, cns, ccs⟩ ⟨false, i⟩ = none := by simp only [done, hst, Option.bind_some, hn, Option.bind_none]
      rw [hn] at h2
      rw [hdn]
      simp -implicitDefEqProofs [P3.f_law_done, Ctd.D, Move.D, Off.D, Play.D, Step.D, hi, h2, oNs, oC, P.ne_hh]
    | some l =>
      rw [hn] at h2
      simp only [oNs] at h2
      have hix : idxD (nsD ccs) (.int st.b) = some (.int ccs[st.b]) := by
        simp only [nsD, idx_t, List.length_map, List.getElem?_map]
        exact idx_ns hbl
      cases hv : ccs[st.b] with
      | zero =>
        have hsh : shift ccs st.b st.e = none := by
          unfold shift
          rw [List.getElem?_eq_getElem hbl, hv]
        have hdn : done o ⟨cst, cns, ccs⟩ ⟨false, i⟩ = none := by simp only [done, hst, Option.bind_some, hn, Bool.false_eq_true, if_false, hsh, Option.map_none]
        rw [hv] at hix
        rw [hdn]
        simp -implicitDefEqProofs [P3.f_law_done, Ctd.D, Move.D, Off.D, Play.D, Step.D, hi, h2, oC, P.ne_hh, P.isNon_nsD, hix]
      | succ v =>
        have hb1 : ccs[st.b]? = some (v + 1) := by rw [List.getElem?_eq_getElem hbl, hv]
        obtain ⟨x, hx⟩ : ∃ x, (ccs.set st.b v)[st.e]? = some x := ⟨_, List.getElem?_eq_getElem (by simpa using hel)⟩
        have hsh : shift ccs st.b st.e = some ((ccs.set st.b v).set st.e (x + 1)) := by
          unfold shift
          rw [hb1]
          simp only [hx, Option.map_some]
        have hdn : done o ⟨cst, cns, ccs⟩ ⟨false, i⟩ = some ⟨cst, l, (ccs.set st.b v).set st.e (x + 1)⟩ := by simp only [done, hst, Option.bind_some, hn, Bool.false_eq_true, if_false, hsh, Option.map_some]
        have hme := mapE_shift hsh
        have hcc : ∀ a0 a1 a2 a3 a4 a5 a6 a7 a9 s, cgo (ETurn (callF G (k + 1)) G (.tup [(.nm 11), (.nm 12)]) [] (.bin .add (.bin .sub (.var 12) (.bf .int [(.cmp .eq (.var 11) (.var 8))])) (.bf .int [(.cmp .eq (.var 11) (.var 10))])) [a0, a1, a2, a3, a4, a5, a6, a7, some (.dat (.int st.b)), a9, some (.dat (.int st.e)), none, none]) (enumL 0 (ccs.map nD)) s = .ok (((ccs.set st.b v).set st.e (x + 1)).map nD) s := fun a0 a1 a2 a3 a4 a5 a6 a7 a9 s => by
          rw [← hme]
          refine cgo_enum _ _ _ fun j y hy => ?_
          obtain ⟨z, _, rfl⟩ := List.mem_map.mp hy
          have q1 : (decide ((j : Int) = (st.b : Int))) = decide (j = st.b) := decide_eq_decide.mpr (by omega)
          have q2 : (decide ((j : Int) = (st.e : Int))) = decide (j = st.e) := decide_eq_decide.mpr (by omega)
          simp -implicitDefEqProofs [turn_eq, addI, nD, q1, q2]
          omega
        have hbe : big (enumL 0 (ccs.map nD)).length = true := by
          have h3 : ccs.length = o.hp.n := hc.cs
          have h4 := ho.hp.n1
          rw [enum_len, List.length_map]; exact P.big_of (by omega)
        have hne : ¬ ((v : Int) + 1 < 1) := by omega
        rw [hv] at hix
        rw [hdn]
        show _ = R.ok (D.dat (.tuple [.int cst, nsD l, .tuple (((ccs.set st.b v).set st.e (x + 1)).map nD)])) s
        generalize ((ccs.set st.b v).set st.e (x + 1)).map nD = zs at *
        have hsr : srcD .enum [nsD ccs] = some (enumL 0 (ccs.map nD)) := rfl
        simp -implicitDefEqProofs [P3.f_law_done, Ctd.D, Move.D, Off.D, Play.D, Step.D, hi, h2, oC, P.ne_hh, P.isNon_nsD, hix, hne, hsr, hbe, hcc]
end
end Y
end Z
end

section
set_option maxRecDepth 100000
set_option maxHeartbeats 4000000
/-! The laws' own moves (the first family): what they come to. -/
namespace Z
open PySem
namespace Y
section
variable {G : Gam}
theorem law_moves4 (W : LawHands G) (k : Nat) {o : Off} (ho : o.ok) (s : Sto) : callF G (k + 1) "_law_moves" [.dat o.D] s = .ok (.dat (.list ((allMoves o).map Move.D))) s := by
  rw [cal_of W.mvs rfl]
  have h1 := ho.hd.l
  have h2 := ho.hp.l
  obtain ⟨c, hc⟩ : ∃ c : Int, c = o.hd.st.length := ⟨_, rfl⟩
  obtain ⟨d, hd⟩ : ∃ c : Int, c = o.hp.st.length := ⟨_, rfl⟩
  have hD : EV (callF G k) G (.bf .len [(.idx (.idx (.var 0) (.num 2)) (.num 1))]) [some (.dat o.D), none] s = .ok (.dat (.int c)) s := by rw [hc]; simp [Off.D, Play.D, ixN]
  have hE : EV (callF G k) G (.bf .len [(.idx (.idx (.var 0) (.num 3)) (.num 1))]) [some (.dat o.D), none] s = .ok (.dat (.int d)) s := by rw [hd]; simp [Off.D, Play.D, ixN]
  have cc : cgo (ETurn (callF G k) G (.nm 1) [] (.tup [(.txt "head"), (.var 1)]) [some (.dat o.D), none]) (rngL 0 c.toNat) s = .ok ((rngL 0 c.toNat).map fun x => .tuple [.str "head", x]) s := cgo_map _ _ fun x _ => by simp [turn_eq]
  have cd : cgo (ETurn (callF G k) G (.nm 1) [] (.tup [(.txt "helper"), (.var 1)]) [some (.dat o.D), none]) (rngL 0 d.toNat) s = .ok ((rngL 0 d.toNat).map fun x => .tuple [.str "helper", x]) s := cgo_map _ _ fun x _ => by simp [turn_eq]
  have r1 : rngOk 0 c = true := rng_ok (by omega) (by omega)
  have r2 : rngOk 0 d = true := rng_ok (by omega) (by omega)
  have hz : (rngL 0 c.toNat).length + (rngL 0 d.toNat).length ≤ sizeLine := by
    have : sizeLine = 16777216 := by decide +kernel
    rw [rng_len, rng_len]; omega
  have e1 := rng_moves true c.toNat
  have e2 := rng_moves false d.toNat
  simp only [if_true, Bool.false_eq_true, if_false] at e1 e2
  have e3 : (allMoves o).map Move.D = ((rngL 0 c.toNat).map fun x => PyData.tuple [.str "head", x]) ++ ((rngL 0 d.toNat).map fun x => PyData.tuple [.str "helper", x]) := by
    rw [e1, e2, allMoves, List.map_append, hc, hd]; rfl
  rw [e3]
  simp -implicitDefEqProofs [-v_bf, P4.f_law_moves, hD, hE, r1, r2, big_rng (n := c.toNat) (by omega), big_rng (n := d.toNat) (by omega), cc, cd, hz]
theorem law_first4 (W : LawHands G) (k : Nat) {o : Off} (ho : o.ok) (s : Sto) : callF G (k + 1) "_law_first" [.dat o.D] s = .ok (.dat (sBegin o).D) s := by
  rw [cal_of W.fst rfl]
  have h1 := ho.l1
  obtain ⟨b, hb⟩ : ∃ b : Int, b = o.bs.length := ⟨_, rfl⟩
  have d1 : EV (callF G k) G (.bf .len [(.idx (.var 0) (.num 1))]) [some (.dat o.D)] s = .ok (.dat (.int b)) s := by rw [hb]; simp [Off.D, nsD, ixN]
  have z0 : 0 ≤ b ∧ b ≤ 1000 := by omega
  have e1 : b.toNat = o.bs.length := by omega
  have e3 : (sBegin o).D = .tuple [.int 0, .tuple (List.replicate b.toNat (.int 0)), .tuple [.int 0]] := by
    rw [e1]
    simp [sBegin, Std.D, nsD, nD, List.map_replicate]
  rw [e3]
  simp -implicitDefEqProofs [-v_bf, P4.f_law_first, d1, z0]
theorem sset_lot {lot : List Nat} (h : lot.Pairwise (· < ·)) (hl : lot.length ≤ 50) (e : Nat) : ssetD (.tuple ((lot.map nD) ++ [.int e])) = some (.list ((lotWith lot e).map nD)) := by
  have e1 : lot.map nD ++ [.int e] = (lot ++ [e]).map nD := by simp [nD]
  rw [e1]
  show ((intsOf ((lot ++ [e]).map nD)).bind fun ns => if ns.length < 63 then some (PyData.list ((uniq ns).map .int)) else none) = _
  rw [intsOf_ns, Option.bind_some, if_pos (by simp; omega), ← ints_nD (lotWith lot e)]
  congr 2
  refine congrArg (List.map PyData.int) (lt_same (uniq_lt _) ?_ fun z => ?_)
  · have := lotWith_lt h e
    rw [List.pairwise_map]
    exact this.imp fun {a b} h => by omega
  · rw [uniq_mem, List.mem_map, List.mem_map]
    constructor
    · rintro ⟨n, hn, rfl⟩
      exact ⟨n, (lotWith_mem _ _ _).mpr (by simpa using hn), rfl⟩
    · rintro ⟨n, hn, rfl⟩
      exact ⟨n, by simpa using (lotWith_mem _ _ _).mp hn, rfl⟩
theorem law_behind4 (W : LawHands G) (k : Nat) {o : Off} (ho : o.ok) {c : Std} (hc : c.ok o) {m : Move} (hm : m.ok o) (s : Sto) : callF G (k + 2) "_law_behind" [.dat o.D, .dat c.D, .dat m.D] s = .ok (.dat (oF Std.D (behindS o c m))) s := by
  rw [cal_of W.bhd rfl]
  obtain ⟨st, hst⟩ : ∃ st, (o.player m.hd).st[m.at_]? = some st := ⟨_, List.getElem?_eq_getElem hm⟩
  have hmem := List.mem_of_getElem? hst
  have hs : st.ok o.bs (o.player m.hd).n := by
    unfold Off.player at hmem ⊢
    split at hmem
    · rename_i h; rw [if_pos h]; exact ho.hd.st st hmem
    · rename_i h; rw [if_neg h]; exact ho.hp.st st hmem
  have h2 := fun s => law_notes_of W.nts k hs.d hc.ns ho.l1 s
  have hlen := hc.len ho
  have hlt := hc.lt
  have hln : c.lot.length ≤ 6 := by
    have h1 := len_lt (a := 0) hc.lt fun x hx => ⟨Nat.zero_le _, hc.lot x hx⟩
    have h3 := ho.hp.n1
    omega
  obtain ⟨hd, i⟩ := m
  obtain ⟨cst, cns, clot⟩ := c
  simp only at h2 hlen hlt hln
  have hi := P.ix_map (f := Step.D) hst
  cases hd with
  | true =>
    simp only [Off.player, if_true] at hi
    cases hn : notesB st.d cns with
    | none =>
      have hdn : behindS o ⟨cst, cns, clot⟩ ⟨true, i⟩ = none := by simp only [behindS, hst, Option.bind_some, hn, Option.bind_none]
      rw [hn] at h2
      rw [hdn]
      simp -implicitDefEqProofs [P4.f_law_behind, Std.D, Move.D, Off.D, Play.D, Step.D, hi, h2, oNs, oF]
    | some l =>
      rw [hn] at h2
      simp only [oNs] at h2
      by_cases hb : st.b = cst
      · have hdn : behindS o ⟨cst, cns, clot⟩ ⟨true, i⟩ = some ⟨st.e, l, clot⟩ := by simp only [behindS, hst, Option.bind_some, hn, if_true, hb]
        rw [hdn]
        simp -implicitDefEqProofs [P4.f_law_behind, Std.D, Move.D, Off.D, Play.D, Step.D, hi, h2, oF, P.isNon_nsD, hb]
      · have hdn : behindS o ⟨cst, cns, clot⟩ ⟨true, i⟩ = none := by simp only [behindS, hst, Option.bind_some, hn, if_true, hb, if_false]
        have hb' : ¬ (cst : Int) = st.b := by omega
        rw [hdn]
        simp -implicitDefEqProofs [P4.f_law_behind, Std.D, Move.D, Off.D, Play.D, Step.D, hi, h2, oF, P.isNon_nsD, hb, hb']
  | false =>
    simp only [Off.player, Bool.false_eq_true, if_false] at hi
    cases hn : notesB st.d cns with
    | none =>
      have hdn : behindS o ⟨cst, cns, clot⟩ ⟨false, i⟩ = none := by simp only [behindS, hst, Option.bind_some, hn, Option.bind_none]
      rw [hn] at h2
      rw [hdn]
      simp -implicitDefEqProofs [P4.f_law_behind, Std.D, Move.D, Off.D, Play.D, Step.D, hi, h2, oNs, oF, P.ne_hh]
    | some l =>
      rw [hn] at h2
      simp only [oNs] at h2
      have hin := in_ns st.b clot
      by_cases hb : st.b ∈ clot
      · have hdn : behindS o ⟨cst, cns, clot⟩ ⟨false, i⟩ = some ⟨cst, l, lotWith clot st.e⟩ := by simp only [behindS, hst, Option.bind_some, hn, Bool.false_eq_true, if_false, hb, if_true]
        simp only [hb, decide_true] at hin
        have hss := sset_lot hlt (by omega) st.e
        have hsz : sizeLine = 16777216 := by decide +kernel
        have hz : (clot.map nD).length + 1 ≤ sizeLine := by rw [hsz, List.length_map]; omega
        have hba : binD .add (nsD clot) (.tuple [.int st.e]) = some (.tuple (clot.map nD ++ [.int st.e])) := by
          show binD .add (.tuple (clot.map nD)) (.tuple [.int st.e]) = _
          rw [bin_addT, if_pos (by simpa using hz)]
        rw [hdn]
        show _ = R.ok (D.dat (.tuple [.int cst, nsD l, .tuple ((lotWith clot st.e).map nD)])) s
        generalize (lotWith clot st.e).map nD = zs at *
        generalize clot.map nD ++ [.int st.e] = xs at *
        simp -implicitDefEqProofs [P4.f_law_behind, Std.D, Move.D, Off.D, Play.D, Step.D, hi, h2, oF, P.ne_hh, P.isNon_nsD, hin, hss, hba]
      · have hdn : behindS o ⟨cst, cns, clot⟩ ⟨false, i⟩ = none := by simp only [behindS, hst, Option.bind_some, hn, Bool.false_eq_true, if_false, hb]
        simp only [hb, decide_false] at hin
        rw [hdn]
        simp -implicitDefEqProofs [P4.f_law_behind, Std.D, Move.D, Off.D, Play.D, Step.D, hi, h2, oF, P.ne_hh, P.isNon_nsD, hin]
theorem law_counted4 (W : LawHands G) (k : Nat) {o : Off} (ho : o.ok) {c : Ctd} (hc : c.ok o) {m : Move} (hm : m.ok o) (s : Sto) : callF G (k + 2) "_law_counted" [.dat o.D, .dat c.D, .dat m.D] s = .ok (.dat (oF Ctd.D (done o c m))) s := by
  rw [cal_of W.cnt rfl]
  obtain ⟨st, hst⟩ : ∃ st, (o.player m.hd).st[m.at_]? = some st := ⟨_, List.getElem?_eq_getElem hm⟩
  have hmem := List.mem_of_getElem? hst
  have hs : st.ok o.bs (o.player m.hd).n := by
    unfold Off.player at hmem ⊢
    split at hmem
    · rename_i h; rw [if_pos h]; exact ho.hd.st st hmem
    · rename_i h; rw [if_neg h]; exact ho.hp.st st hmem
  have h2 := fun s => law_notes_of W.nts k hs.d hc.ns ho.l1 s
  obtain ⟨hd, i⟩ := m
  obtain ⟨cst, cns, ccs⟩ := c
  simp only at h2
  have hi := P.ix_map (f := Step.D) hst
  cases hd with
  | true =>
    simp only [Off.player, if_true] at hi
    cases hn : notesB st.d cns with
    | none =>
      have hdn : done o ⟨cst, cns, ccs⟩ ⟨true, i⟩ = none := by simp only [done, hst, Option.bind_some, hn, Option.bind_none]
      rw [hn] at h2
      rw [hdn]
      simp -implicitDefEqProofs [P4.f_law_counted, Ctd.D, Move.D, Off.D, Play.D, Step.D, hi, h2, oNs, oF]
    | some l =>
      rw [hn] at h2
      simp only [oNs] at h2
      by_cases hb : st.b = cst
      · have hdn : done o ⟨cst, cns, ccs⟩ ⟨true, i⟩ = some ⟨st.e, l, ccs⟩ := by simp only [done, hst, Option.bind_some, hn, if_true, hb]
        rw [hdn]
        simp -implicitDefEqProofs [P4.f_law_counted, Ctd.D, Move.D, Off.D, Play.D, Step.D, hi, h2, oF, P.isNon_nsD, hb]
      · have hdn : done o ⟨cst, cns, ccs⟩ ⟨true, i⟩ = none := by simp only [done, hst, Option.bind_some, hn, if_true, hb, if_false]
        have hb' : ¬ (cst : Int) = st.b := by omega
        rw [hdn]
        simp -implicitDefEqProofs [P4.f_law_counted, Ctd.D, Move.D, Off.D, Play.D, Step.D, hi, h2, oF, P.isNon_nsD, hb, hb']
  | false =>
    simp only [Off.player, Bool.false_eq_true, if_false] at hi
    have hbl : st.b < ccs.length := by rw [hc.cs]; exact hs.b
    have hel : st.e < ccs.length := by rw [hc.cs]; exact hs.e
    cases hn : notesB st.d cns with
    | none =>
      have hdn : done o ⟨cst, cns, ccs⟩ ⟨false, i⟩ = none := by simp only [done, hst, Option.bind_some, hn, Option.bind_none]
      rw [hn] at h2
      rw [hdn]
      simp -implicitDefEqProofs [P4.f_law_counted, Ctd.D, Move.D, Off.D, Play.D, Step.D, hi, h2, oNs, oF, P.ne_hh]
    | some l =>
      rw [hn] at h2
      simp only [oNs] at h2
      have hix : idxD (nsD ccs) (.int st.b) = some (.int ccs[st.b]) := by
        simp only [nsD, idx_t, List.length_map, List.getElem?_map]
        exact idx_ns hbl
      cases hv : ccs[st.b] with
      | zero =>
        have hsh : shift ccs st.b st.e = none := by
          unfold shift
          rw [List.getElem?_eq_getElem hbl, hv]
        have hdn : done o ⟨cst, cns, ccs⟩ ⟨false, i⟩ = none := by simp only [done, hst, Option.bind_some, hn, Bool.false_eq_true, if_false, hsh, Option.map_none]
        rw [hv] at hix
        rw [hdn]
        simp -implicitDefEqProofs [P4.f_law_counted, Ctd.D, Move.D, Off.D, Play.D, Step.D, hi, h2, oF, P.ne_hh, P.isNon_nsD, hix]
      | succ v =>
        have hb1 : ccs[st.b]? = some (v + 1) := by rw [List.getElem?_eq_getElem hbl, hv]
        obtain ⟨x, hx⟩ : ∃ x, (ccs.set st.b v)[st.e]? = some x := ⟨_, List.getElem?_eq_getElem (by simpa using hel)⟩
        have hsh : shift ccs st.b st.e = some ((ccs.set st.b v).set st.e (x + 1)) := by
          unfold shift
          rw [hb1]
          simp only [hx, Option.map_some]
        have hdn : done o ⟨cst, cns, ccs⟩ ⟨false, i⟩ = some ⟨cst, l, (ccs.set st.b v).set st.e (x + 1)⟩ := by simp only [done, hst, Option.bind_some, hn, Bool.false_eq_true, if_false, hsh, Option.map_some]
        have hne : ¬ ((v : Int) + 1 = 0) := by omega
        rw [hv] at hix
        rw [hdn]
        have hsr : srcD .enum [nsD ccs] = some (enumL 0 (ccs.map nD)) := rfl
        have hsz : sizeLine = 16777216 := by decide +kernel
        have h6 := ho.hp.n1
        have hcl : ccs.length = o.hp.n := hc.cs
        have hbe : big (enumL 0 (ccs.map nD)).length = true := by rw [enum_len, List.length_map]; exact P.big_of (by omega)
        have hcc : ∀ a0 a1 a2 a3 a4 a5 s, cgo (ETurn (callF G (k + 1)) G (.tup [(.nm 6), (.nm 7)]) [] (.tup [(.var 6), (.var 7)]) [a0, a1, a2, a3, a4, a5, none, none]) (enumL 0 (ccs.map nD)) s = .ok (enumL 0 (ccs.map nD)) s := fun a0 a1 a2 a3 a4 a5 s => by
          have e := cgo_enum (f := ETurn (callF G (k + 1)) G (.tup [(.nm 6), (.nm 7)]) [] (.tup [(.var 6), (.var 7)]) [a0, a1, a2, a3, a4, a5, none, none]) (s := s) (fun j x => .tuple [.int j, x]) (ccs.map nD) 0 (fun j x _ => by simp -implicitDefEqProofs [turn_eq])
          rw [e]
          congr 1
          generalize ccs.map nD = ys
          have h : ∀ (ys : List PyData) (j : Nat), mapE (fun j x => PyData.tuple [.int j, x]) j ys = enumL j ys := fun ys => by
            induction ys with
            | nil => intro _; rfl
            | cons y ys ih => intro j; simp only [mapE, enumL, ih]
          exact h ys 0
        have hdic := dic_enum (ccs.map nD)
        have hg1 : getK (kvE 0 (ccs.map nD)) (.int st.b) = some (.int ((v : Int) + 1)) := by
          have h := kvE_get (ccs.map nD) 0 st.b
          rw [Nat.zero_add] at h
          rw [h, List.getElem?_map, hb1]
          rfl
        have hp1 : putKd (kvE 0 (ccs.map nD)) (.int st.b) (.int v) = kvE 0 ((ccs.set st.b v).map nD) := by
          rw [kvE_put (by simpa using hbl), List.map_set]
          rfl
        have hg2 : getK (kvE 0 ((ccs.set st.b v).map nD)) (.int st.e) = some (.int x) := by
          have h := kvE_get ((ccs.set st.b v).map nD) 0 st.e
          rw [Nat.zero_add] at h
          rw [h, List.getElem?_map, hx]
          rfl
        have hp2 : putKd (kvE 0 ((ccs.set st.b v).map nD)) (.int st.e) (.int ((x : Int) + 1)) = kvE 0 (((ccs.set st.b v).set st.e (x + 1)).map nD) := by
          have e : ((ccs.set st.b v).set st.e (x + 1)).map nD = ((ccs.set st.b v).map nD).set st.e (nD (x + 1)) := List.map_set
          rw [kvE_put (by simpa using hel), e]
          rfl
        have hl1 : (kvE 0 (ccs.map nD)).length < sizeLine := by rw [kvE_len, List.length_map, hsz]; omega
        have hl2 : (kvE 0 ((ccs.set st.b v).map nD)).length < sizeLine := by rw [kvE_len, List.length_map, List.length_set, hsz]; omega
        have hl3 : (kvE 0 (((ccs.set st.b v).set st.e (x + 1)).map nD)).length = o.hp.n := by rw [kvE_len, List.length_map, List.length_set, List.length_set, hcl]
        have hcd : ∀ a0 a1 a2 a3 a4 a7 s, cgo (ETurn (callF G (k + 1)) G (.nm 6) [] (.dget 5 (.var 6)) [a0, a1, a2, a3, a4, some (.odc false (kvE 0 (((ccs.set st.b v).set st.e (x + 1)).map nD))), none, a7]) (rngL 0 o.hp.n) s = .ok (((ccs.set st.b v).set st.e (x + 1)).map nD) s := fun a0 a1 a2 a3 a4 a7 s => by
          have hln : (((ccs.set st.b v).set st.e (x + 1)).map nD).length = o.hp.n := by rw [List.length_map, List.length_set, List.length_set, hcl]
          have e := cgo_get (f := ETurn (callF G (k + 1)) G (.nm 6) [] (.dget 5 (.var 6)) [a0, a1, a2, a3, a4, some (.odc false (kvE 0 (((ccs.set st.b v).set st.e (x + 1)).map nD))), none, a7]) (s := s) (((ccs.set st.b v).set st.e (x + 1)).map nD) (fun j hj => by
            have h := kvE_get (((ccs.set st.b v).set st.e (x + 1)).map nD) 0 j
            rw [Nat.zero_add, List.getElem?_eq_getElem hj] at h
            generalize ((ccs.set st.b v).set st.e (x + 1)).map nD = ys at *
            simp -implicitDefEqProofs [turn_eq, h])
          rw [hln] at e
          exact e
        show _ = R.ok (D.dat (.tuple [.int cst, nsD l, .tuple (((ccs.set st.b v).set st.e (x + 1)).map nD)])) s
        obtain ⟨N, hN⟩ : ∃ N : Int, N = o.hp.n := ⟨_, rfl⟩
        have hrg : rngOk 0 N = true := rng_ok (by omega) (by omega)
        have hNt : N.toNat = o.hp.n := by omega
        have hbr := big_rng (n := N.toNat) (by omega)
        rw [← hNt] at hcd
        have hl3 : ((kvE 0 (((ccs.set st.b v).set st.e (x + 1)).map nD)).length : Int) = N := by rw [hl3, hN]
        generalize kvE 0 (((ccs.set st.b v).set st.e (x + 1)).map nD) = k3 at *
        generalize kvE 0 ((ccs.set st.b v).map nD) = k2 at *
        generalize kvE 0 (ccs.map nD) = k1 at *
        generalize ((ccs.set st.b v).set st.e (x + 1)).map nD = zs at *
        generalize enumL 0 (ccs.map nD) = es at *
        simp -implicitDefEqProofs [P4.f_law_counted, Ctd.D, Move.D, Off.D, Play.D, Step.D, hi, h2, oF, P.ne_hh, P.isNon_nsD, hix, hne, hsr, hbe, hcc, hdic, hg1, hp1, hg2, hp2, hl1, hl2, hl3, hrg, hbr, hcd]
end
end Y
end Z
end

section
set_option maxRecDepth 100000
set_option maxHeartbeats 4000000
/-! A law's own walks. -/
namespace Z
open PySem
namespace Y
structure LawWalks (G : Gam) : Prop extends LawCounts G where
  alg : G.fns "_law_along" = some P3.f_law_along
  wlk : G.fns "_law_walk" = some P3.f_law_walk
section
variable {G : Gam}
theorem law_along_loop (W : LawCounts G) (k : Nat) {o : Off} (ho : o.ok) (a1 a2 : Option Z.D) (s : Sto) : ∀ (ms : List Move) (hms : ∀ m ∈ ms, m.ok o) (pre : List Ctd) (c : Ctd) (hc : c.ok o) (hl : pre.length + ms.length ≤ 10000) (a4 a5 : Option Z.D),
    fin ((fgo (loopB (callF G (k + 2)) G (.nm 4) [.asg 5 (.call "_law_done" [(.var 0), (.idx (.ovar 3) (.neg (.num 1))), (.var 4)]), .ife (.isN (.var 5)) [.ret .non] [], .app 3 (.var 5)]) (ms.map Move.D) [some (.dat o.D), a1, a2, some (.own ((pre ++ [c]).map Ctd.D)), a4, a5] s).nxt (execs (callF G (k + 2)) G [.ret (.ovar 3)])) = .ok (.dat (csD (alongC o pre c ms))) s := by
  intro ms
  induction ms with
  | nil =>
    intro _ pre c hc hl a4 a5
    simp -implicitDefEqProofs [fgo, alongC, csD, -List.map_append]
  | cons m ms ih =>
    intro hms pre c hc hl a4 a5
    have hm := hms m (List.mem_cons_self ..)
    have hb := fun s => law_done W k ho hc hm s
    have hi := idx_last Ctd.D pre c
    have hsz : sizeLine = 16777216 := by decide +kernel
    simp only [List.map_cons, fgo, alongC]
    cases hd : done o c m with
    | none =>
      simp only [hd, oC] at hb
      generalize (pre ++ [c]).map Ctd.D = xs at *
      simp -implicitDefEqProofs [loopB, hi, hb, csD]
    | some c' =>
      simp only [hd, oC] at hb
      have hc' := done_ok ho hc hd
      have hz : ((pre ++ [c]).map Ctd.D).length < sizeLine := by rw [hsz]; simp at hl ⊢; omega
      have hnx := ih (fun x hx => hms x (List.mem_cons_of_mem _ hx)) (pre ++ [c]) c' hc' (by simp at hl ⊢; omega) (some (.dat m.D)) (some (.dat c'.D))
      have e : (pre ++ [c] ++ [c']).map Ctd.D = (pre ++ [c]).map Ctd.D ++ [c'.D] := by simp
      rw [e] at hnx
      have hno : isNon (.dat c'.D) = false := rfl
      generalize (pre ++ [c]).map Ctd.D = xs at *
      simp -implicitDefEqProofs [loopB, hi, hb, hno, hz]
      exact hnx
theorem law_along (W : LawWalks G) (k : Nat) {o : Off} (ho : o.ok) (many : Nat) {v : PyData} {ms : List Move} (hi : itemsD v = some (ms.map Move.D)) (hms : ∀ m ∈ ms, m.ok o) (hl : ms.length ≤ 2000) (s : Sto) : callF G (k + 3) "_law_along" [.dat o.D, .dat (.int many), .dat v] s = .ok (.dat (csD (alongC o [] (P.cBegin o many) ms))) s := by
  rw [cal_of W.alg rfl]
  have hsrc : srcD .it [v] = some (ms.map Move.D) := by cases v <;> simp only [itemsD] at hi <;> cases hi <;> simp
  have hcb := fun s => law_begin W.toLawCounts (k + 1) ho many s
  have hw := law_along_loop W.toLawCounts k ho (some (.dat (.int many))) (some (.dat v)) s ms hms [] (P.cBegin o many) (P.cBegin_ok ho many) (by simp; omega) none none
  simp only [List.nil_append, List.map_cons, List.map_nil] at hw
  generalize ms.map Move.D = xs at *
  simp -implicitDefEqProofs [P3.f_law_along, hsrc, hcb]
  exact hw
/-! drawn walks -/
theorem move_shaped {m : Move} (h : m.at_ ≤ 100) : Ok 1 9 m.D := by
  have h1 : Ok 1 14 m.D := (Ok.tup (k := 0) (n := 6) (xs := [.str (if m.hd then "head" else "helper"), .int m.at_]) (by
    simp only [List.forall_mem_cons]
    refine ⟨?_, gd_int (by omega) (by omega), fun _ h => nomatch h⟩
    cases m.hd
    · exact gd_w (by decide +kernel) (by decide +kernel)
    · exact gd_w (by decide +kernel) (by decide +kernel))).mono (by omega) (by simp)
  refine ⟨h1.atm, h1.dep, ?_⟩
  simp only [Move.D, PyData.bulk, PyData.bulkAll]
  cases m.hd <;> decide +kernel
theorem eq_nil_move (ms : List Move) (h : ∀ m ∈ ms, m.at_ ≤ 100) : eqD (.list (ms.map Move.D)) (.list []) = some (ms.isEmpty) := by
  have h1 : SeqAt.shaped (.list (ms.map Move.D)) = true := by
    have h2 : Ok 2 (10 * (ms.map Move.D).length) (.list (ms.map Move.D)) := Ok.lst (k := 1) (n := 9) fun x hx => by
      obtain ⟨m, hm, rfl⟩ := List.mem_map.mp hx
      exact move_shaped (h m hm)
    exact shaped_of h2 (by omega)
  have h2 : SeqAt.shaped (.list []) = true := by decide +kernel
  simp only [eqD, h1, h2, Bool.and_self, Bool.or_true, if_true]
  cases ms <;> simp [PyData.eqv, PyData.eqvAll]
theorem alongC_app {o : Off} : ∀ (ms : List Move) (pre : List Ctd) (c c' : Ctd) (q : List Ctd) (m : Move) (c2 : Ctd), alongC o pre c ms = some (q ++ [c']) → done o c' m = some c2 → alongC o pre c (ms ++ [m]) = some (q ++ [c'] ++ [c2])
  | [], pre, c, c', q, m, c2, h, hd => by
    simp only [alongC, Option.some.injEq] at h
    obtain ⟨h1, h⟩ := List.append_inj' h rfl
    cases h
    simp only [List.nil_append, alongC, hd, h1]
  | x :: ms, pre, c, c', q, m, c2, h, hd => by
    simp only [List.cons_append, alongC] at h ⊢
    cases hx : done o c x with
    | none => rw [hx] at h; cases h
    | some y =>
      rw [hx] at h
      exact alongC_app ms (pre ++ [c]) y c' q m c2 h hd
theorem ok_at {o : Off} (ho : o.ok) {m : Move} (h : m.ok o) : m.at_ ≤ 100 := by
  have h1 := ho.hd.l
  have h2 := ho.hp.l
  unfold Move.ok Off.player at h
  split at h <;> omega
theorem law_walk_loop (W : LawWalks G) (k : Nat) {o : Off} (ho : o.ok) (many : Nat) {n : Nat} (a2 a3 : Option Z.D) : ∀ (l : List PyData) (ms : List Move) (hms : ∀ m ∈ ms, m.ok o) (q : List Ctd) (c : Ctd) (hc : c.ok o) (ha : alongC o [] (P.cBegin o many) ms = some (q ++ [c])) (hl : ms.length + l.length ≤ 10000) (a4 a7 : Option Z.D) (s : Sto) (hp : Pot n s),
    ∃ (ms' : List Move) (q' : List Ctd) (c' : Ctd) (b4 b5 b7 : Option Z.D) (s' : Sto), fgo (loopB (callF G (k + 3)) G (.nm 4) [.asg 7 (.comp (.var 8) (.nm 8) .it [(.call "_law_moves" [(.var 1)])] [(.notN (.call "_law_done" [(.var 1), (.var 5), (.var 8)]))]), .ife (.cmp .ne (.var 7) (.lst [])) [.app 6 (.call "_law_pick" [(.var 0), (.var 7)]), .asg 5 (.call "_law_done" [(.var 1), (.var 5), (.idx (.ovar 6) (.neg (.num 1)))])] []]) l [some (.ref n), some (.dat o.D), a2, a3, a4, some (.dat c.D), some (.own (ms.map Move.D)), a7, none] s = .fl (.nx [some (.ref n), some (.dat o.D), a2, a3, b4, b5, some (.own (ms'.map Move.D)), b7, none]) s' ∧ Pot n s' ∧ (∀ m ∈ ms', m.ok o) ∧ ms'.length ≤ ms.length + l.length ∧ alongC o [] (P.cBegin o many) ms' = some (q' ++ [c']) := by
  intro l
  induction l with
  | nil =>
    intro ms hms q c hc ha hl a4 a7 s hp
    exact ⟨ms, q, c, a4, _, a7, s, rfl, hp, hms, by simp, ha⟩
  | cons d l ih =>
    intro ms hms q c hc ha hl a4 a7 s hp
    have hsz : sizeLine = 16777216 := by decide +kernel
    have hz : (ms.map Move.D).length < sizeLine := by rw [hsz, List.length_map]; simp only [List.length_cons] at hl; omega
    have hmv := fun s => law_moves W.toLawCounts (k + 2) ho s
    have hcc : ∀ b4 b7 s, cgo (ETurn (callF G (k + 3)) G (.nm 8) [(.notN (.call "_law_done" [(.var 1), (.var 5), (.var 8)]))] (.var 8) [some (.ref n), some (.dat o.D), a2, a3, b4, some (.dat c.D), some (.own (ms.map Move.D)), b7, none]) ((allMoves o).map Move.D) s = .ok ((((allMoves o).filter fun m => (done o c m).isSome)).map Move.D) s := fun b4 b7 s => by
      have h := cgo_if (f := ETurn (callF G (k + 3)) G (.nm 8) [(.notN (.call "_law_done" [(.var 1), (.var 5), (.var 8)]))] (.var 8) [some (.ref n), some (.dat o.D), a2, a3, b4, some (.dat c.D), some (.own (ms.map Move.D)), b7, none]) (s := s) (fun x => (done o c (toMove x)).isSome) id ((allMoves o).map Move.D) (fun x hx => by
        obtain ⟨m, hm, rfl⟩ := List.mem_map.mp hx
        have hdn := fun s => law_done W.toLawCounts (k + 1) ho hc (allMoves_ok m hm) s
        rw [toMove_D]
        generalize ms.map Move.D = xs
        cases hd : done o c m with
        | none =>
          simp only [hd, oC] at hdn
          simp -implicitDefEqProofs [turn_eq, hdn]
        | some c' =>
          simp only [hd, oC] at hdn
          have hno : isNon (.dat c'.D) = false := rfl
          simp -implicitDefEqProofs [turn_eq, hdn, hno])
      rw [h, List.filter_map, List.map_id]
      congr 2
      refine List.filter_congr fun m _ => ?_
      simp only [Function.comp_apply, toMove_D]
    have hla : (allMoves o).length ≤ 24 := by
      have h1 := ho.hd.l
      have h2 := ho.hp.l
      simp only [allMoves, List.length_append, List.length_map, List.length_range]; omega
    have hsome : ∀ m ∈ (allMoves o).filter (fun m => (done o c m).isSome), m.ok o ∧ (done o c m).isSome = true := fun m hm => by
      have := List.mem_filter.mp hm
      exact ⟨allMoves_ok m this.1, this.2⟩
    have hfl := List.length_filter_le (fun m => (done o c m).isSome) (allMoves o)
    generalize (allMoves o).filter (fun m => (done o c m).isSome) = fs at *
    have hen := eq_nil_move fs fun m hm => ok_at ho (hsome m hm).1
    have hbig : big ((allMoves o).map Move.D).length = true := by rw [List.length_map]; exact P.big_of (by omega)
    have hbig2 : big (allMoves o).length = true := P.big_of (by omega)
    simp only [fgo]
    cases hfs : fs with
    | nil =>
      subst hfs
      obtain ⟨ms', q', c', b4, b5, b7, s', e, p', h1, h2, h3⟩ := ih ms hms q c hc ha (by simp at hl ⊢; omega) (some (.dat d)) (some (.dat (.list []))) s hp
      refine ⟨ms', q', c', b4, b5, b7, s', ?_, p', h1, by simp at h2 ⊢; omega, h3⟩
      have t : loopB (callF G (k + 3)) G (.nm 4) [.asg 7 (.comp (.var 8) (.nm 8) .it [(.call "_law_moves" [(.var 1)])] [(.notN (.call "_law_done" [(.var 1), (.var 5), (.var 8)]))]), .ife (.cmp .ne (.var 7) (.lst [])) [.app 6 (.call "_law_pick" [(.var 0), (.var 7)]), .asg 5 (.call "_law_done" [(.var 1), (.var 5), (.idx (.ovar 6) (.neg (.num 1)))])] []] d [some (.ref n), some (.dat o.D), a2, a3, a4, some (.dat c.D), some (.own (ms.map Move.D)), a7, none] s = .fl (.nx [some (.ref n), some (.dat o.D), a2, a3, some (.dat d), some (.dat c.D), some (.own (ms.map Move.D)), some (.dat (.list [])), none]) s := by
        simp only [List.map_nil, List.isEmpty_nil] at hen hcc
        generalize ms.map Move.D = xs at *
        generalize (allMoves o).map Move.D = ys at *
        simp -implicitDefEqProofs [loopB, hmv, hbig, hcc, hen]
      rw [t, turn_nx]
      exact e
    | cons f0 fr =>
      obtain ⟨d0, s1, e1, p1, d1⟩ := W.toDraws.pick hp (xs := fs.map Move.D) (by rw [hfs]; simp) (by rw [List.length_map]; omega) (k + 1)
      obtain ⟨m, hm, rfl⟩ := List.mem_map.mp d1
      obtain ⟨hmo, hms2⟩ := hsome m hm
      obtain ⟨c2, hd⟩ := Option.isSome_iff_exists.mp hms2
      have hdn := fun s => law_done W.toLawCounts (k + 1) ho hc hmo s
      simp only [hd, oC] at hdn
      have hc2 := done_ok ho hc hd
      obtain ⟨ms', q', c', b4, b5, b7, s', e, p', h1, h2, h3⟩ := ih (ms ++ [m]) (fun x hx => by
        rcases List.mem_append.mp hx with h | h
        · exact hms x h
        · rw [List.mem_singleton.mp h]; exact hmo) (q ++ [c]) c2 hc2 (alongC_app ms [] _ c q m c2 ha hd) (by simp at hl ⊢; omega) (some (.dat d)) (some (.dat (.list (fs.map Move.D)))) s1 p1
      refine ⟨ms', q', c', b4, b5, b7, s', ?_, p', h1, by simp at h2 ⊢; omega, h3⟩
      have e2 : (ms ++ [m]).map Move.D = ms.map Move.D ++ [m.D] := by simp
      have hil := idx_last (fun x : PyData => x) (ms.map Move.D) m.D
      simp only [List.map_append, List.map_cons, List.map_nil, List.map_id'] at hil
      have hil : idxD (.list (ms.map Move.D ++ [m.D])) (.int (-1)) = some m.D := hil
      have hne : fs.isEmpty = false := by rw [hfs]; rfl
      rw [hne] at hen
      rw [e2] at e
      have t : loopB (callF G (k + 3)) G (.nm 4) [.asg 7 (.comp (.var 8) (.nm 8) .it [(.call "_law_moves" [(.var 1)])] [(.notN (.call "_law_done" [(.var 1), (.var 5), (.var 8)]))]), .ife (.cmp .ne (.var 7) (.lst [])) [.app 6 (.call "_law_pick" [(.var 0), (.var 7)]), .asg 5 (.call "_law_done" [(.var 1), (.var 5), (.idx (.ovar 6) (.neg (.num 1)))])] []] d [some (.ref n), some (.dat o.D), a2, a3, a4, some (.dat c.D), some (.own (ms.map Move.D)), a7, none] s = .fl (.nx [some (.ref n), some (.dat o.D), a2, a3, some (.dat d), some (.dat c2.D), some (.own (ms.map Move.D ++ [m.D])), some (.dat (.list (fs.map Move.D))), none]) s1 := by
        generalize ms.map Move.D = xs at *
        generalize (allMoves o).map Move.D = ys at *
        generalize fs.map Move.D = zs at *
        simp -implicitDefEqProofs [-idx_l, loopB, hmv, hbig, hcc, hen, e1, hdn, hz, hil]
      rw [t, turn_nx]
      exact e
theorem law_walk (W : LawWalks G) (k : Nat) {o : Off} (ho : o.ok) (many : Nat) {n : Nat} {m : Nat} (hm : m ≤ 1000) (s : Sto) (hp : Pot n s) :
    ∃ (ms : List Move) (q : List Ctd) (c : Ctd) (s' : Sto), callF G (k + 4) "_law_walk" [.ref n, .dat o.D, .dat (.int many), .dat (.int m)] s = .ok (.dat (.list (ms.map Move.D))) s' ∧ Pot n s' ∧ (∀ m ∈ ms, m.ok o) ∧ ms.length ≤ m ∧ alongC o [] (P.cBegin o many) ms = some (q ++ [c]) := by
  rw [cal_of W.wlk rfl]
  obtain ⟨j, s1, e1, p1, j1⟩ := W.toDraws.draw hp (many := m + 1) (by omega) (by omega) (k + 2)
  obtain ⟨ji, hji⟩ : ∃ ji : Int, ji = (j : Int) := ⟨_, rfl⟩
  have e1 : callF G (k + 3) "_law_draw" [.ref n, .dat (.int ((m : Int) + 1))] s = .ok (.dat (.int ji)) s1 := by rw [hji]; exact e1
  obtain ⟨ms', q', c', b4, b5, b7, s', e, p', h1, h2, h3⟩ := law_walk_loop W k ho many (some (.dat (.int many))) (some (.dat (.int m))) (rngL 0 ji.toNat) [] (fun _ h => nomatch h) [] (P.cBegin o many) (P.cBegin_ok ho many) rfl (by rw [rng_len]; simp; omega) none none s1 p1
  rw [rng_len] at h2
  refine ⟨ms', q', c', s', ?_, p', h1, by simp at h2; omega, h3⟩
  have hr : rngOk 0 ji = true := rng_ok (by omega) (by omega)
  have hcb := fun s => law_begin W.toLawCounts (k + 2) ho many s
  simp only [List.map_nil] at e
  generalize ms'.map Move.D = zs at *
  simp -implicitDefEqProofs [P3.f_law_walk, hcb, e1, hr, e]
end
end Y
end Z
end

section
set_option maxRecDepth 100000
set_option maxHeartbeats 4000000
/-! How large counted standings are. -/
namespace Z
open PySem
namespace Y
structure Ctd.le (n : Nat) (c : Ctd) : Prop where
  st : c.st ≤ n
  ns : ∀ x ∈ c.ns, x ≤ n
  cs : ∀ x ∈ c.cs, x ≤ n
theorem Ctd.le.mono {n m : Nat} {c : Ctd} (h : c.le n) (hn : n ≤ m) : c.le m :=
  ⟨Nat.le_trans h.st hn, fun x hx => Nat.le_trans (h.ns x hx) hn, fun x hx => Nat.le_trans (h.cs x hx) hn⟩
theorem mem_set_le {l : List Nat} {n i v : Nat} (h : ∀ x ∈ l, x ≤ n) (hv : v ≤ n) : ∀ x ∈ l.set i v, x ≤ n := fun x hx => by
  rcases List.mem_or_eq_of_mem_set hx with h1 | h1
  · exact h x h1
  · omega
theorem notesB_le {bs : List Nat} (hb : ∀ b ∈ bs, b ≤ 4) {d : Deed} (hd : d.ok bs) {n : Nat} (hn : 4 ≤ n) {ns l : List Nat} (h : notesB d ns = some l) (hs : ∀ x ∈ ns, x ≤ n) : ∀ x ∈ l, x ≤ n := by
  cases d with
  | rest => cases h; exact hs
  | read b v =>
    simp only [notesB] at h
    split at h <;> cases h
    exact hs
  | write b v =>
    cases h
    obtain ⟨m, h1, h2⟩ := hd
    have := hb m (List.mem_of_getElem? h1)
    exact mem_set_le hs (by omega)
theorem shift_le {cs l : List Nat} {b e n : Nat} (h : shift cs b e = some l) (hs : ∀ x ∈ cs, x ≤ n) : ∀ x ∈ l, x ≤ n + 1 := by
  unfold shift at h
  split at h
  · rename_i v hv
    obtain ⟨x, hx, rfl⟩ := Option.map_eq_some_iff.mp h
    have h1 := hs _ (List.mem_of_getElem? hv)
    have h2 : ∀ y ∈ cs.set b v, y ≤ n := mem_set_le hs (by omega)
    have h3 := h2 _ (List.mem_of_getElem? hx)
    exact mem_set_le (fun y hy => by have := h2 y hy; omega) (by omega)
  · cases h
theorem done_le {o : Off} (ho : o.ok) {n : Nat} (hn : 6 ≤ n) {c c' : Ctd} (hc : c.le n) {m : Move} (h : done o c m = some c') : c'.le (n + 1) := by
  unfold done at h
  obtain ⟨s, h1, h⟩ := Option.bind_eq_some_iff.mp h
  obtain ⟨ns, h2, h⟩ := Option.bind_eq_some_iff.mp h
  have hs := List.mem_of_getElem? h1
  have hb : ∀ b ∈ o.bs, b ≤ 4 := fun b hb => (ho.bs b hb).2
  split at h
  · rename_i hm
    rw [Off.player, if_pos hm] at hs
    have hk := ho.hd.st s hs
    have hl := notesB_le hb hk.d (by omega) h2 hc.ns
    split at h
    · cases h
      have e1 := hk.e
      have e2 := ho.hd.n1
      exact ⟨by show s.e ≤ n + 1; omega, fun x hx => by have := hl x hx; omega, fun x hx => by have := hc.cs x hx; omega⟩
    · cases h
  · rename_i hm
    rw [Off.player, if_neg hm] at hs
    have hk := ho.hp.st s hs
    have hl := notesB_le hb hk.d (by omega) h2 hc.ns
    obtain ⟨cs, h3, rfl⟩ := Option.map_eq_some_iff.mp h
    exact ⟨by have := hc.st; show c.st ≤ n + 1; omega, fun x hx => by have := hl x hx; omega, shift_le h3 hc.cs⟩
theorem along_le {o : Off} (ho : o.ok) : ∀ (ms : List Move) (n : Nat) (hn : 6 ≤ n) (pre : List Ctd) (c : Ctd) (hp : ∀ x ∈ pre, x.le n) (hc : c.le n) {r : List Ctd}, alongC o pre c ms = some r → r.length = pre.length + 1 + ms.length ∧ ∀ x ∈ r, x.le (n + ms.length)
  | [], n, hn, pre, c, hp, hc, r, h => by
    simp only [alongC, Option.some.injEq] at h
    subst h
    refine ⟨by simp, fun x hx => ?_⟩
    rcases List.mem_append.mp hx with h1 | h1
    · exact hp x h1
    · rw [List.mem_singleton.mp h1]; exact hc
  | m :: ms, n, hn, pre, c, hp, hc, r, h => by
    simp only [alongC] at h
    cases hd : done o c m with
    | none => rw [hd] at h; cases h
    | some y =>
      rw [hd] at h
      obtain ⟨h1, h2⟩ := along_le ho ms (n + 1) (by omega) (pre ++ [c]) y (fun x hx => by
        rcases List.mem_append.mp hx with h3 | h3
        · exact (hp x h3).mono (by omega)
        · rw [List.mem_singleton.mp h3]; exact hc.mono (by omega)) (done_le ho hn hc hd) h
      refine ⟨by simp at h1 ⊢; omega, fun x hx => (h2 x hx).mono (by simp; omega)⟩
theorem begin_le (o : Off) {many : Nat} (hm : many ≤ 6) : (P.cBegin o many).le 6 := by
  refine ⟨by simp [P.cBegin], fun x hx => ?_, fun x hx => ?_⟩
  · have := (List.mem_replicate.mp hx).2; omega
  · rcases List.mem_cons.mp hx with h | h
    · omega
    · have := (List.mem_replicate.mp h).2; omega
theorem ok_nsB {bs : List Nat} (hb : ∀ b ∈ bs, b ≤ 999999999999) : Ok 1 bs.length (nsD bs) := by
  refine (Ok.tup (k := 0) (n := 0) fun x hx => ?_).mono (by omega) (by simp)
  obtain ⟨b, h, rfl⟩ := List.mem_map.mp hx
  have := hb b h
  exact gd_int (by omega) (by omega)
theorem ctd_gd {o : Off} (ho : o.ok) {c : Ctd} (hc : c.ok o) {n : Nat} (hn : n ≤ 999999999999) (h : c.le n) : Ok 2 21 c.D := by
  have h1 := ho.l1
  have h2 := ho.hp.n1
  have h3 := hc.ns
  have h4 := hc.cs
  refine (Ok.tup (k := 1) (n := 6) ?_).mono (by omega) (by simp)
  simp only [List.forall_mem_cons]
  have := h.st
  exact ⟨gd_int (by omega) (by omega), (ok_nsB fun b hb => by have := h.ns b hb; omega).mono (by omega) (by omega), (ok_nsB fun b hb => by have := h.cs b hb; omega).mono (by omega) (by omega), fun _ h => nomatch h⟩
theorem along_ok {o : Off} (ho : o.ok) : ∀ (ms : List Move) (pre : List Ctd) (c : Ctd) (hp : ∀ x ∈ pre, x.ok o) (hc : c.ok o) {r : List Ctd}, alongC o pre c ms = some r → ∀ x ∈ r, x.ok o
  | [], pre, c, hp, hc, r, h => by
    simp only [alongC, Option.some.injEq] at h
    subst h
    intro x hx
    rcases List.mem_append.mp hx with h1 | h1
    · exact hp x h1
    · rw [List.mem_singleton.mp h1]; exact hc
  | m :: ms, pre, c, hp, hc, r, h => by
    simp only [alongC] at h
    cases hd : done o c m with
    | none => rw [hd] at h; cases h
    | some y =>
      rw [hd] at h
      exact along_ok ho ms (pre ++ [c]) y (fun x hx => by
        rcases List.mem_append.mp hx with h3 | h3
        · exact hp x h3
        · rw [List.mem_singleton.mp h3]; exact hc) (done_ok ho hc hd) h
theorem ctds_gd {o : Off} (ho : o.ok) {many : Nat} (hm : many ≤ 6) {ms : List Move} (hl : ms.length ≤ 900000) {r : List Ctd} (h : alongC o [] (P.cBegin o many) ms = some r) : Ok 3 (22 * r.length) (.list (r.map Ctd.D)) ∧ r.length = ms.length + 1 := by
  obtain ⟨h1, h2⟩ := along_le ho ms 6 (by omega) [] _ (fun _ h => nomatch h) (begin_le o hm) h
  have h3 := along_ok ho ms [] _ (fun _ h => nomatch h) (P.cBegin_ok ho many) h
  refine ⟨(Ok.lst (k := 2) (n := 21) fun x hx => ?_).mono (by omega) (by simp), by simp at h1; omega⟩
  obtain ⟨c, hc, rfl⟩ := List.mem_map.mp hx
  exact ctd_gd ho (h3 c hc) (n := 6 + ms.length) (by omega) (h2 c hc)
theorem two_gd {k n : Nat} {x y : PyData} (hx : Ok k n x) (hy : Ok k n y) : Ok (k + 1) ((n + 1) * 2) (.list [x, y]) := (Ok.lst (k := k) (n := n) (xs := [x, y]) fun z hz => by
  simp only [List.mem_cons, List.not_mem_nil, or_false] at hz
  rcases hz with rfl | rfl
  · exact hx
  · exact hy).mono (by omega) (by simp)
open P
theorem wMv_D {o : Off} {m : Move} (ho : o.ok) (h : m.ok o) : wMv o m.D = true := by
  obtain ⟨hd, i⟩ := m
  cases hd with
  | true =>
    have h : i < o.hd.st.length := h
    simp [wMv, Move.D, wIn]; omega
  | false =>
    have h : i < o.hp.st.length := h
    simp [wMv, Move.D, wIn, ne_hh]; omega
theorem movesD_of {o : Off} (ho : o.ok) {v : PyData} {ms : List Move} (hv : itemsD v = some (ms.map Move.D)) (hms : ∀ m ∈ ms, m.ok o) (hl : ms.length ≤ 2000) : movesD o v = some ms := by
  have ha : (ms.map Move.D).all (wMv o) = true := by
    rw [List.all_eq_true]
    intro x hx
    obtain ⟨m, hm, rfl⟩ := List.mem_map.mp hx
    exact wMv_D ho (hms m hm)
  simp only [movesD, hv]
  rw [if_pos ⟨by rw [List.length_map]; omega, ha⟩, toMoves_D]
theorem moves_gd {ms : List Move} (h : ∀ m ∈ ms, m.at_ ≤ 100) : Ok 2 (10 * ms.length) (.list (ms.map Move.D)) :=
  (Ok.lst (k := 1) (n := 9) fun x hx => by
    obtain ⟨m, hm, rfl⟩ := List.mem_map.mp hx
    exact move_shaped (h m hm)).mono (by omega) (by simp)
theorem lot_gd {o : Off} (ho : o.ok) {ms : List Move} {c : Ctd} {n : Nat} (hn : n ≤ 999999999999) (hok : c.ok o) (hc : c.le n) : Ok 2 21 (Std.D ⟨c.st, c.ns, (endsH o ms).foldl lotWith [0]⟩) := by
  have h1 := ho.l1
  have h2 := ho.hp.n1
  have h0 := ho.hp.n0
  have h3 := hok.ns
  have h5 : ∀ x ∈ (endsH o ms).foldl lotWith [0], 0 ≤ x ∧ x < o.hp.n := fun x hx => by
    rcases (fold_mem _ _ _).mp hx with h | h
    · rw [List.mem_singleton.mp h]; omega
    · exact ⟨by omega, endsH_lt ho ms x h⟩
  have h6 := len_lt (fold_lt (endsH o ms) [0] (by simp)) h5
  refine (Ok.tup (k := 1) (n := 6) ?_).mono (by omega) (by simp)
  simp only [List.forall_mem_cons]
  have := hc.st
  exact ⟨gd_int (by omega) (by omega), (ok_nsB fun b hb => by have := hc.ns b hb; omega).mono (by omega) (by omega), (ok_nsB fun b hb => by have := h5 b hb; omega).mono (by omega) (by omega), fun _ h => nomatch h⟩
structure Std.le (n : Nat) (c : Std) : Prop where
  st : c.st ≤ n
  ns : ∀ x ∈ c.ns, x ≤ n
theorem behindS_le {o : Off} (ho : o.ok) {c c' : Std} (hc : c.le 6) {m : Move} (h : behindS o c m = some c') : c'.le 6 := by
  unfold behindS at h
  obtain ⟨s, h1, h⟩ := Option.bind_eq_some_iff.mp h
  obtain ⟨ns, h2, h⟩ := Option.bind_eq_some_iff.mp h
  have hs := List.mem_of_getElem? h1
  have hb : ∀ b ∈ o.bs, b ≤ 4 := fun b hb => (ho.bs b hb).2
  split at h
  · rename_i hm
    rw [Off.player, if_pos hm] at hs
    have hk := ho.hd.st s hs
    have hl := notesB_le hb hk.d (by omega) h2 hc.ns
    split at h
    · cases h
      have e1 := hk.e
      have e2 := ho.hd.n1
      exact ⟨by show s.e ≤ 6; omega, hl⟩
    · cases h
  · rename_i hm
    rw [Off.player, if_neg hm] at hs
    have hk := ho.hp.st s hs
    have hl := notesB_le hb hk.d (by omega) h2 hc.ns
    split at h
    · cases h
      exact ⟨hc.st, hl⟩
    · cases h
theorem std_gd {o : Off} (ho : o.ok) {c : Std} (hok : c.ok o) (hc : c.le 6) : Ok 2 21 c.D := by
  have h1 := ho.l1
  have h2 := ho.hp.n1
  have h3 := hok.ns
  have h6 := len_lt (a := 0) hok.lt fun x hx => ⟨Nat.zero_le _, hok.lot x hx⟩
  refine (Ok.tup (k := 1) (n := 6) ?_).mono (by omega) (by simp)
  simp only [List.forall_mem_cons]
  have := hc.st
  exact ⟨gd_int (by omega) (by omega), (ok_nsB fun b hb => by have := hc.ns b hb; omega).mono (by omega) (by omega), (ok_nsB fun b hb => by have := hok.lot b hb; omega).mono (by omega) (by omega), fun _ h => nomatch h⟩
theorem sBegin_le (o : Off) : (sBegin o).le 6 := ⟨by simp [sBegin], fun x hx => by have := (List.mem_replicate.mp hx).2; omega⟩
/-- all along -/
theorem goF_all {α : Type} {f : α → Move → Option α} {I : α → Prop} {o : Off} (hI : ∀ c m c', I c → m.ok o → f c m = some c' → I c') : ∀ (ms : List Move) (hms : ∀ m ∈ ms, m.ok o) (c : α), I c → ∀ x ∈ goF f c ms, I x
  | [], _, c, hc, x, hx => by cases hx
  | m :: ms, hms, c, hc, x, hx => by
    simp only [goF] at hx
    cases hd : f c m with
    | none => rw [hd] at hx; cases hx
    | some c' =>
      rw [hd] at hx
      have hc' := hI c m c' hc (hms m (List.mem_cons_self ..)) hd
      rcases List.mem_cons.mp hx with rfl | hx
      · exact hc'
      · exact goF_all hI ms (fun x hx => hms x (List.mem_cons_of_mem _ hx)) c' hc' x hx
theorem goS_gd {o : Off} (ho : o.ok) {ms : List Move} (hms : ∀ m ∈ ms, m.ok o) : Ok 3 (22 * (ms.length + 1)) (.list ((sBegin o :: goF (behindS o) (sBegin o) ms).map Std.D)) := by
  have h := goF_all (f := behindS o) (I := fun c => c.ok o ∧ c.le 6) (fun c m c' hc _ h => ⟨behindS_ok ho hc.1 h, behindS_le ho hc.2 h⟩) ms hms (sBegin o) ⟨P.sBegin_ok ho, sBegin_le o⟩
  have hl := goF_len (behindS o) ms (sBegin o)
  refine (Ok.lst (k := 2) (n := 21) fun x hx => ?_).mono (by omega) (by simp; omega)
  obtain ⟨c, hc, rfl⟩ := List.mem_map.mp hx
  rcases List.mem_cons.mp hc with rfl | hc
  · exact std_gd ho (P.sBegin_ok ho) (sBegin_le o)
  · exact std_gd ho (h c hc).1 (h c hc).2
theorem goC_le {o : Off} (ho : o.ok) : ∀ (ms : List Move) (n : Nat) (hn : 6 ≤ n) (c : Ctd) (hc : c.le n), ∀ x ∈ goF (done o) c ms, x.le (n + ms.length)
  | [], n, hn, c, hc, x, hx => by cases hx
  | m :: ms, n, hn, c, hc, x, hx => by
    simp only [goF] at hx
    cases hd : done o c m with
    | none => rw [hd] at hx; cases hx
    | some c' =>
      rw [hd] at hx
      have hc' := done_le ho hn hc hd
      rcases List.mem_cons.mp hx with rfl | hx
      · exact hc'.mono (by simp only [List.length_cons]; omega)
      · exact (goC_le ho ms (n + 1) (by omega) c' hc' x hx).mono (by simp only [List.length_cons]; omega)
theorem begin_leN (o : Off) (many : Nat) : (P.cBegin o many).le (many + 6) := by
  refine ⟨by simp [P.cBegin], fun x hx => ?_, fun x hx => ?_⟩
  · have := (List.mem_replicate.mp hx).2; omega
  · rcases List.mem_cons.mp hx with h | h
    · omega
    · have := (List.mem_replicate.mp h).2; omega
theorem goC_gd {o : Off} (ho : o.ok) {ms : List Move} (hms : ∀ m ∈ ms, m.ok o) {n : Nat} (hn : n + ms.length ≤ 10000000000) : Ok 3 (22 * (ms.length + 1)) (.list ((P.cBegin o n :: goF (done o) (P.cBegin o n) ms).map Ctd.D)) := by
  have h1 := goF_all (f := done o) (I := fun c => c.ok o) (fun c m c' hc _ h => done_ok ho hc h) ms hms (P.cBegin o n) (P.cBegin_ok ho n)
  have h2 := goC_le ho ms (n + 6) (by omega) _ (begin_leN o n)
  have hl := goF_len (done o) ms (P.cBegin o n)
  refine (Ok.lst (k := 2) (n := 21) fun x hx => ?_).mono (by omega) (by simp; omega)
  obtain ⟨c, hc, rfl⟩ := List.mem_map.mp hx
  rcases List.mem_cons.mp hc with rfl | hc
  · exact ctd_gd ho (P.cBegin_ok ho n) (n := n + 6) (by omega) (begin_leN o n)
  · exact ctd_gd ho (h1 c hc) (n := n + 6 + ms.length) (by omega) (h2 c hc)
/-- more helpers are wrong no sooner; a walk's moves are a run's -/
theorem go_bump {o : Off} : ∀ (ms : List Move) (c : Ctd), (goF (done o) c ms).length ≤ (goF (done o) (bump c) ms).length
  | [], _ => Nat.le_refl _
  | m :: ms, c => by
    simp only [goF]
    cases hd : done o c m with
    | none => simp
    | some c' =>
      rw [done_bump hd]
      simp only [List.length_cons]
      have := go_bump (o := o) ms c'
      omega
theorem bump_begin (o : Off) (n : Nat) : bump (P.cBegin o n) = P.cBegin o (n + 1) := rfl
theorem go_next (o : Off) (n : Nat) (ms : List Move) : (goF (done o) (P.cBegin o n) ms).length ≤ (goF (done o) (P.cBegin o (n + 1)) ms).length := by
  have := go_bump (o := o) ms (P.cBegin o n)
  rwa [bump_begin] at this
theorem go_holds {o : Off} : ∀ (ms : List Move) (hms : ∀ m ∈ ms, m.ok o) (c : Ctd) (x : Std), Holds c x → (goF (done o) c ms).length ≤ (goF (behindS o) x ms).length
  | [], _, _, _, _ => Nat.le_refl _
  | m :: ms, hms, c, x, h => by
    simp only [goF]
    cases hd : done o c m with
    | none => simp
    | some c' =>
      obtain ⟨x', e, h', _⟩ := done_behind (hms m (List.mem_cons_self ..)) h hd
      rw [e]
      simp only [List.length_cons]
      have := go_holds ms (fun x hx => hms x (List.mem_cons_of_mem _ hx)) c' x' h'
      omega
theorem go_most {o : Off} (n : Nat) {ms : List Move} (hms : ∀ m ∈ ms, m.ok o) : (goF (done o) (P.cBegin o n) ms).length ≤ (goF (behindS o) (sBegin o) ms).length := go_holds ms hms _ _ (holds_begin n)
end Y
end Z
end

section
set_option maxRecDepth 100000
set_option maxHeartbeats 4000000
/-! What is let, what comes, errors heard. -/
namespace Z
open PySem
namespace Y
section
variable (C : Str → List Z.D → Sto → R Z.D) (G : Gam) (η : Env) (s : Sto)
@[simp] theorem v_hear (h : Str) (a : Ex) : EV C G (.hear h a) η s = hearR (G.hrs h) (EV C G a η s) := rfl
@[simp] theorem hearR_ok (h : HdK) (d : Z.D) : hearR (some h) (.ok d s) = .ok d s := rfl
@[simp] theorem hearR_er (h : HdK) (x : Er) : hearR (some h) (.er x s) = if x.cls = h.cls ∧ x.fs.isEmpty = true then .ok (.dat h.ret) s else .no := rfl
@[simp] theorem x_rse (x : Str) : Z.exec C G (.rse x) η s = .er ⟨x, []⟩ η s := by simp only [exec]
@[simp] theorem nxt_er (x : Er) (f : Env → Sto → RS) : RS.nxt (.er x η s) f = .er x η s := rfl
@[simp] theorem fin_er (x : Er) : fin (.er x η s) = .er x s := rfl
def kRg (t : Bool) (x : Z.D) (s : Sto) : R Z.D := oD ((intOf x).bind (rgD t 0)) s
@[simp] theorem kRg_i (t : Bool) (i : Int) : kRg t (.dat (.int i)) s = oD (rgD t 0 i) s := rfl
@[simp] theorem v_rg1 (t : Bool) (a : Ex) : EV C G (.rg1 t a) η s = (EV C G a η s).bd (kRg t) := bd_same fun x s => by
  simp only [kRg]
  cases intOf x with
  | none => rfl
  | some i =>
    simp only [R.opt_some, R.bd_ok, Option.bind_some]
    cases rgD t 0 i <;> rfl
end
namespace P6
def f_want_standing : Fd := ⟨["office", "standing"], 2, true, [
    .ife (.nt (.call "is_standing_of" [(.var 0), (.var 1)])) [.nev] []]⟩
def f_want_counted : Fd := ⟨["office", "counted"], 2, true, [
    .ife (.nt (.call "is_counted_any" [(.var 0), (.var 1)])) [.nev] []]⟩
def f_want_move : Fd := ⟨["office", "move"], 2, true, [
    .ife (.nt (.call "is_move_of" [(.var 0), (.var 1)])) [.nev] []]⟩
def f_moves_of : Fd := ⟨["office"], 3, true, [
    .asg 1 (.comp (.tup [(.glob "HEAD"), (.var 2)]) (.nm 2) .rng [(.bf .len [(.idx (.idx (.var 0) (.num 2)) (.num 1))])] []),
    .ret (.bin .add (.var 1) (.comp (.tup [(.txt "helper"), (.var 2)]) (.nm 2) .rng [(.bf .len [(.idx (.idx (.var 0) (.num 3)) (.num 1))])] []))]⟩
def f_next_ones : Fd := ⟨["office", "standing"], 5, true, [
    .own 2 (.lst []),
    .fr (.nm 3) .it [(.call "moves_of" [(.var 0)])] [.asg 4 (.call "behind" [(.var 0), (.var 1), (.var 3)]), .ife (.notN (.var 4)) [.app 2 (.tup [(.var 3), (.var 4)])] []],
    .ret (.ovar 2)]⟩
def f_counted_next : Fd := ⟨["office", "counted"], 5, true, [
    .own 2 (.lst []),
    .fr (.nm 3) .it [(.call "moves_of" [(.var 0)])] [.asg 4 (.call "counted_behind" [(.var 0), (.var 1), (.var 3)]), .ife (.notN (.var 4)) [.app 2 (.tup [(.var 3), (.var 4)])] []],
    .ret (.ovar 2)]⟩
def f_let_moves : Fd := ⟨["office", "standing"], 4, true, [
    .exp (.call "want_office" [(.var 0)]),
    .exp (.call "want_standing" [(.var 0), (.var 1)]),
    .ret (.comp (.var 2) (.tup [(.nm 2), (.nm 3)]) .it [(.call "next_ones" [(.var 0), (.var 1)])] [])]⟩
def f_let_counted : Fd := ⟨["office", "counted"], 4, true, [
    .exp (.call "want_office" [(.var 0)]),
    .exp (.call "want_counted" [(.var 0), (.var 1)]),
    .ret (.comp (.var 2) (.tup [(.nm 2), (.nm 3)]) .it [(.call "counted_next" [(.var 0), (.var 1)])] [])]⟩
def f_behind_move : Fd := ⟨["office", "standing", "move"], 4, false, [
    .exp (.call "want_office" [(.var 0)]),
    .exp (.call "want_standing" [(.var 0), (.var 1)]),
    .exp (.call "want_move" [(.var 0), (.var 2)]),
    .asg 3 (.call "behind" [(.var 0), (.var 1), (.var 2)]),
    .ife (.isN (.var 3)) [.rse "NotLet"] [],
    .ret (.var 3)]⟩
def f_behind_counted : Fd := ⟨["office", "counted", "move"], 4, false, [
    .exp (.call "want_office" [(.var 0)]),
    .exp (.call "want_counted" [(.var 0), (.var 1)]),
    .exp (.call "want_move" [(.var 0), (.var 2)]),
    .asg 3 (.call "counted_behind" [(.var 0), (.var 1), (.var 2)]),
    .ife (.isN (.var 3)) [.rse "NotLet"] [],
    .ret (.var 3)]⟩
end P6
structure LetHands (G : Gam) : Prop where
  looks : P.LookSt G
  moves : P.MovesB G
  want_standing : G.fns "want_standing" = some P6.f_want_standing
  want_counted : G.fns "want_counted" = some P6.f_want_counted
  want_move : G.fns "want_move" = some P6.f_want_move
  moves_of : G.fns "moves_of" = some P6.f_moves_of
  next_ones : G.fns "next_ones" = some P6.f_next_ones
  counted_next : G.fns "counted_next" = some P6.f_counted_next
  let_moves : G.fns "let_moves" = some P6.f_let_moves
  let_counted : G.fns "let_counted" = some P6.f_let_counted
  behind_move : G.fns "behind_move" = some P6.f_behind_move
  behind_counted : G.fns "behind_counted" = some P6.f_behind_counted
/-- notes of an office -/
def notesIn (o : Off) (ns : List Nat) : Prop := ns.length = o.bs.length ∧ ∀ p ∈ ns.zip o.bs, p.1 < p.2
structure Std.fine (o : Off) (c : Std) : Prop where
  ok : c.ok o
  st : c.st < o.hd.n
  ns : notesIn o c.ns
  z : 0 ∈ c.lot
structure Ctd.fine (o : Off) (c : Ctd) : Prop where
  ok : c.ok o
  ns : notesIn o c.ns
  cs : ∀ x ∈ c.cs, x ≤ 1000000000
theorem wNotes_of {o : Off} {ns : List Nat} (h : notesIn o ns) : P.wNotes false o.bs (nsD ns) = true := by
  unfold nsD
  simp only [P.wNotes, List.length_map, h.1, decide_true, Bool.true_and]
  rw [List.all_eq_true]
  intro p hp
  have e : (ns.map nD).zip o.bs = (ns.zip o.bs).map fun p => (nD p.1, p.2) := by
    rw [List.zip_map_left]
    rfl
  rw [e] at hp
  obtain ⟨q, hq, rfl⟩ := List.mem_map.mp hp
  have := h.2 q hq
  simp only [P.noteB, Bool.false_and, Bool.false_or]
  exact wIn_nat (by omega) (by omega)
theorem wLot_of {o : Off} {lot : List Nat} (h1 : lot.Pairwise (· < ·)) (h2 : ∀ x ∈ lot, x < o.hp.n) : P.wLot (o.hp.n - 1) (nsD lot) = true := by
  unfold nsD
  simp only [P.wLot, Bool.and_eq_true]
  refine ⟨?_, ?_⟩
  · rw [List.all_eq_true]
    intro x hx
    obtain ⟨n, hn, rfl⟩ := List.mem_map.mp hx
    have := h2 n hn
    exact wIn_nat (by omega) (by omega)
  · simp only [P.isR, intsOf_ns]
    rw [P.rise_lt, List.pairwise_map]
    exact h1.imp fun {a b} h => by omega
theorem has0_of {lot : List Nat} (h : 0 ∈ lot) : P.has0 (nsD lot) = true := by
  unfold nsD
  simp only [P.has0, List.any_eq_true, List.mem_map]
  exact ⟨_, ⟨0, h, rfl⟩, by simp [nD, PyData.eqv]⟩
theorem wSt_of {o : Off} {c : Std} (h : c.fine o) : P.wSt o c.D = true := by
  have h1 := h.st
  simp only [Std.D, P.wSt, Bool.and_eq_true]
  exact ⟨wIn_nat (by omega) (by omega), wNotes_of h.ns, wLot_of h.ok.lt h.ok.lot, has0_of h.z⟩
theorem slim3 {a : Nat} {l m : List Nat} (h1 : l.length ≤ 1000) (h2 : m.length ≤ 1000) : P.slim (.tuple [.int a, nsD l, nsD m]) := by
  refine ⟨by simp, fun x hx ys e => ?_⟩
  simp only [List.mem_cons, List.not_mem_nil, or_false] at hx
  rcases hx with rfl | rfl | rfl
  · cases e
  · cases e; simpa using h1
  · cases e; simpa using h2
theorem wCt_of {o : Off} {c : Ctd} (h : c.fine o) : P.wCt o c.D = true := by
  have h1 := h.ok.st
  simp only [Ctd.D, nsD, P.wCt, Bool.and_eq_true]
  refine ⟨wIn_nat (by omega) (by omega), wNotes_of h.ns, decide_eq_true (by rw [List.length_map]; exact h.ok.cs), ?_⟩
  rw [List.all_eq_true]
  intro x hx
  obtain ⟨n, hn, rfl⟩ := List.mem_map.mp hx
  have := h.cs n hn
  exact wIn_nat (by omega) (by omega)
section
variable {G : Gam}
theorem want_standing (W : LetHands G) (k : Nat) {o : Off} (ho : o.ok) {c : Std} (h : c.fine o) (s : Sto) : callF G (k + 6) "want_standing" [.dat o.D, .dat c.D] s = .ok (.dat .none) s := by
  rw [cal_of W.want_standing rfl]
  have hl := h.ok.len ho
  have e := fun s => P.is_standing_of W.looks k ho.l1 c.D (slim3 (by have := h.ok.ns; have := ho.l1; omega) (by omega)) s
  rw [wSt_of h] at e
  generalize c.D = cD at *
  generalize o.D = oD at *
  simp [P6.f_want_standing, e]
theorem want_counted (W : LetHands G) (k : Nat) {o : Off} (ho : o.ok) {c : Ctd} (h : c.fine o) (s : Sto) : callF G (k + 5) "want_counted" [.dat o.D, .dat c.D] s = .ok (.dat .none) s := by
  rw [cal_of W.want_counted rfl]
  have e := fun s => P.is_counted_any W.looks k ho.l1 c.D (slim3 (by have := h.ok.ns; have := ho.l1; omega) (by have := h.ok.cs; have := ho.hp.n1; omega)) s
  rw [wCt_of h] at e
  generalize c.D = cD at *
  generalize o.D = oD at *
  simp [P6.f_want_counted, e]
theorem want_move (W : LetHands G) (k : Nat) {o : Off} (ho : o.ok) {m : Move} (h : m.ok o) (s : Sto) : callF G (k + 4) "want_move" [.dat o.D, .dat m.D] s = .ok (.dat .none) s := by
  rw [cal_of W.want_move rfl]
  have e := fun s => P.is_move_of W.looks.toLookMv k (o := o) m.D s
  rw [wMv_D ho h] at e
  generalize m.D = mD at *
  generalize o.D = oD at *
  simp [P6.f_want_move, e]
/-- what comes, or the error -/
def orNot {α : Type} (D : α → PyData) (s : Sto) : Option α → R Z.D
  | some c => .ok (.dat (D c)) s
  | none => .er ⟨"NotLet", []⟩ s
theorem behind_move (W : LetHands G) (k : Nat) {o : Off} (ho : o.ok) {c : Std} (h : c.fine o) {m : Move} (hm : m.ok o) (s : Sto) : callF G (k + 8) "behind_move" [.dat o.D, .dat c.D, .dat m.D] s = orNot Std.D s (behindS o c m) := by
  rw [cal_of W.behind_move rfl]
  have e1 := fun s => P.want_office W.looks.toLookMv k ho s
  have e2 := fun s => want_standing W (k + 1) ho h s
  have e3 := fun s => want_move W (k + 3) ho hm s
  have e4 := fun s => P.behind W.moves (k + 5) ho h.ok.ns (h.ok.len ho) hm s
  cases hb : behindS o c m with
  | none =>
    simp only [hb, oS] at e4
    generalize c.D = cD at *
    generalize m.D = mD at *
    generalize o.D = oD at *
    simp -implicitDefEqProofs [P6.f_behind_move, e1, e2, e3, e4, orNot]
  | some c' =>
    simp only [hb, oS] at e4
    have hno : isNon (.dat c'.D) = false := rfl
    simp only [orNot]
    generalize c.D = cD at *
    generalize c'.D = dD at *
    generalize m.D = mD at *
    generalize o.D = oD at *
    simp -implicitDefEqProofs [P6.f_behind_move, e1, e2, e3, e4, hno]
theorem behind_counted (W : LetHands G) (k : Nat) {o : Off} (ho : o.ok) {c : Ctd} (h : c.fine o) {m : Move} (hm : m.ok o) (s : Sto) : callF G (k + 8) "behind_counted" [.dat o.D, .dat c.D, .dat m.D] s = orNot Ctd.D s (done o c m) := by
  rw [cal_of W.behind_counted rfl]
  have e1 := fun s => P.want_office W.looks.toLookMv k ho s
  have e2 := fun s => want_counted W (k + 2) ho h s
  have e3 := fun s => want_move W (k + 3) ho hm s
  have e4 := fun s => P.counted_behind W.moves (k + 5) ho h.ok hm s
  cases hb : done o c m with
  | none =>
    simp only [hb, oC] at e4
    generalize c.D = cD at *
    generalize m.D = mD at *
    generalize o.D = oD at *
    simp -implicitDefEqProofs [P6.f_behind_counted, e1, e2, e3, e4, orNot]
  | some c' =>
    simp only [hb, oC] at e4
    have hno : isNon (.dat c'.D) = false := rfl
    simp only [orNot]
    generalize c.D = cD at *
    generalize c'.D = dD at *
    generalize m.D = mD at *
    generalize o.D = oD at *
    simp -implicitDefEqProofs [P6.f_behind_counted, e1, e2, e3, e4, hno]
end
end Y
end Z
end

section
set_option maxRecDepth 100000
set_option maxHeartbeats 4000000
/-! All that is let. -/
namespace Z
open PySem
namespace Y
open P
section
variable {G : Gam}
theorem moves_of (W : LetHands G) (k : Nat) {o : Off} (ho : o.ok) (s : Sto) : callF G (k + 1) "moves_of" [.dat o.D] s = .ok (.dat (.list ((allMoves o).map Move.D))) s := by
  rw [cal_of W.moves_of rfl]
  have h1 := ho.hd.l
  have h2 := ho.hp.l
  obtain ⟨c, hc⟩ : ∃ c : Int, c = o.hd.st.length := ⟨_, rfl⟩
  obtain ⟨d, hd⟩ : ∃ c : Int, c = o.hp.st.length := ⟨_, rfl⟩
  have hD : ∀ a, EV (callF G k) G (.bf .len [(.idx (.idx (.var 0) (.num 2)) (.num 1))]) [some (.dat o.D), a, none] s = .ok (.dat (.int c)) s := fun a => by rw [hc]; simp [Off.D, Play.D, ixN]
  have hE : ∀ a, EV (callF G k) G (.bf .len [(.idx (.idx (.var 0) (.num 3)) (.num 1))]) [some (.dat o.D), a, none] s = .ok (.dat (.int d)) s := fun a => by rw [hd]; simp [Off.D, Play.D, ixN]
  have gh := W.moves.c_head
  have cc : ∀ a, cgo (ETurn (callF G k) G (.nm 2) [] (.tup [(.glob "HEAD"), (.var 2)]) [some (.dat o.D), a, none]) (rngL 0 c.toNat) s = .ok ((rngL 0 c.toNat).map fun x => .tuple [.str "head", x]) s := fun a => cgo_map _ _ fun x _ => by simp [turn_eq, glob_eq gh]
  have cd : ∀ a, cgo (ETurn (callF G k) G (.nm 2) [] (.tup [(.txt "helper"), (.var 2)]) [some (.dat o.D), a, none]) (rngL 0 d.toNat) s = .ok ((rngL 0 d.toNat).map fun x => .tuple [.str "helper", x]) s := fun a => cgo_map _ _ fun x _ => by simp [turn_eq]
  have r1 : rngOk 0 c = true := rng_ok (by omega) (by omega)
  have r2 : rngOk 0 d = true := rng_ok (by omega) (by omega)
  have hz : (rngL 0 c.toNat).length + (rngL 0 d.toNat).length ≤ sizeLine := by
    have : sizeLine = 16777216 := by decide +kernel
    rw [rng_len, rng_len]; omega
  have e1 := rng_moves true c.toNat
  have e2 := rng_moves false d.toNat
  simp only [if_true, Bool.false_eq_true, if_false] at e1 e2
  have e3 : (allMoves o).map Move.D = ((rngL 0 c.toNat).map fun x => PyData.tuple [.str "head", x]) ++ ((rngL 0 d.toNat).map fun x => PyData.tuple [.str "helper", x]) := by
    rw [e1, e2, allMoves, List.map_append, hc, hd]; rfl
  rw [e3]
  simp -implicitDefEqProofs [-v_bf, P6.f_moves_of, hD, hE, r1, r2, big_rng (n := c.toNat) (by omega), big_rng (n := d.toNat) (by omega), cc, cd, hz]
abbrev nextB (fn : Str) : List Sm := [.asg 4 (.call fn [(.var 0), (.var 1), (.var 3)]), .ife (.notN (.var 4)) [.app 2 (.tup [(.var 3), (.var 4)])] []]
def pairs {α : Type} (D : α → PyData) (f : Move → Option α) (l : List Move) : List PyData := (l.filter fun m => (f m).isSome).map fun m => .tuple [m.D, oF D (f m)]
theorem next_loop {α : Type} {D : α → PyData} {f : Move → Option α} {fn : Str} {k : Nat} {o : Off} {c : PyData} (hf : ∀ m, m.ok o → ∀ s, callF G k fn [.dat o.D, .dat c, .dat m.D] s = .ok (.dat (oF D (f m))) s) (hno : ∀ c, isNo (D c) = false) (s : Sto) :
    ∀ (l : List Move) (hl : ∀ m ∈ l, m.ok o) (acc : List PyData) (hz : acc.length + l.length ≤ 10000) (a3 a4 : Option Z.D), ∃ b3 b4, fgo (loopB (callF G k) G (.nm 3) (nextB fn)) (l.map Move.D) [some (.dat o.D), some (.dat c), some (.own acc), a3, a4] s = .fl (.nx [some (.dat o.D), some (.dat c), some (.own (acc ++ pairs D f l)), b3, b4]) s
  | [], _, acc, _, a3, a4 => ⟨a3, a4, by simp [fgo, pairs]⟩
  | m :: l, hl, acc, hz, a3, a4 => by
    have hm := hf m (hl m List.mem_cons_self)
    have hsz : sizeLine = 16777216 := by decide +kernel
    have hz' : acc.length < sizeLine := by rw [hsz]; simp at hz; omega
    simp only [List.map_cons, fgo]
    cases hfm : f m with
    | none =>
      simp only [hfm, oF] at hm
      obtain ⟨b3, b4, e⟩ := next_loop hf hno s l (fun x hx => hl x (List.mem_cons_of_mem _ hx)) acc (by simp at hz; omega) (some (.dat m.D)) (some (.dat .none))
      refine ⟨b3, b4, ?_⟩
      have ep : pairs D f (m :: l) = pairs D f l := by simp [pairs, hfm]
      rw [ep]
      have t : loopB (callF G k) G (.nm 3) (nextB fn) m.D [some (.dat o.D), some (.dat c), some (.own acc), a3, a4] s = .fl (.nx [some (.dat o.D), some (.dat c), some (.own acc), some (.dat m.D), some (.dat .none)]) s := by
        generalize m.D = mD at *
        generalize o.D = oD at *
        simp -implicitDefEqProofs [loopB, nextB, hm]
      rw [t, turn_nx]
      exact e
    | some c' =>
      simp only [hfm, oF] at hm
      obtain ⟨b3, b4, e⟩ := next_loop hf hno s l (fun x hx => hl x (List.mem_cons_of_mem _ hx)) (acc ++ [.tuple [m.D, D c']]) (by simp at hz ⊢; omega) (some (.dat m.D)) (some (.dat (D c')))
      refine ⟨b3, b4, ?_⟩
      have ep : acc ++ pairs D f (m :: l) = (acc ++ [.tuple [m.D, D c']]) ++ pairs D f l := by simp [pairs, hfm, oF]
      rw [ep]
      have hno' : isNon (.dat (D c')) = false := by rw [isNon_dat]; exact hno c'
      have t : loopB (callF G k) G (.nm 3) (nextB fn) m.D [some (.dat o.D), some (.dat c), some (.own acc), a3, a4] s = .fl (.nx [some (.dat o.D), some (.dat c), some (.own (acc ++ [.tuple [m.D, D c']])), some (.dat m.D), some (.dat (D c'))]) s := by
        generalize m.D = mD at *
        generalize o.D = oD at *
        generalize D c' = dD at *
        simp -implicitDefEqProofs [loopB, nextB, hm, hz', hno']
      rw [t, turn_nx]
      exact e
/-- the moves that are let -/
def letsS (o : Off) (c : Std) : List Move := (allMoves o).filter fun m => (behindS o c m).isSome
def letsC (o : Off) (c : Ctd) : List Move := (allMoves o).filter fun m => (done o c m).isSome
theorem all_len {o : Off} (ho : o.ok) : (allMoves o).length ≤ 24 := by
  have h1 := ho.hd.l
  have h2 := ho.hp.l
  simp only [allMoves, List.length_append, List.length_map, List.length_range]; omega
theorem next_ones (W : LetHands G) (k : Nat) {o : Off} (ho : o.ok) {c : Std} (h : c.fine o) (s : Sto) : callF G (k + 3) "next_ones" [.dat o.D, .dat c.D] s = .ok (.dat (.list (pairs Std.D (behindS o c) (allMoves o)))) s := by
  rw [cal_of W.next_ones rfl]
  have e1 := fun s => moves_of W (k + 1) ho s
  obtain ⟨b3, b4, e⟩ := next_loop (G := G) (D := Std.D) (f := behindS o c) (fn := "behind") (k := k + 2) (o := o) (c := c.D) (fun m hm s => by
    have := P.behind W.moves k ho h.ok.ns (h.ok.len ho) hm s
    rw [oS_eq] at this
    exact this) (fun _ => rfl) s (allMoves o) (fun m hm => allMoves_ok m hm) [] (by have := all_len ho; simp; omega) none none
  rw [List.nil_append] at e
  simp only [nextB] at e
  generalize pairs Std.D (behindS o c) (allMoves o) = ps at *
  generalize (allMoves o).map Move.D = ms at *
  generalize c.D = cD at *
  generalize o.D = oD at *
  simp -implicitDefEqProofs [P6.f_next_ones, e1, e]
theorem counted_next (W : LetHands G) (k : Nat) {o : Off} (ho : o.ok) {c : Ctd} (h : c.fine o) (s : Sto) : callF G (k + 3) "counted_next" [.dat o.D, .dat c.D] s = .ok (.dat (.list (pairs Ctd.D (done o c) (allMoves o)))) s := by
  rw [cal_of W.counted_next rfl]
  have e1 := fun s => moves_of W (k + 1) ho s
  obtain ⟨b3, b4, e⟩ := next_loop (G := G) (D := Ctd.D) (f := done o c) (fn := "counted_behind") (k := k + 2) (o := o) (c := c.D) (fun m hm s => by
    have := P.counted_behind W.moves k ho h.ok hm s
    rw [oC_eq] at this
    exact this) (fun _ => rfl) s (allMoves o) (fun m hm => allMoves_ok m hm) [] (by have := all_len ho; simp; omega) none none
  rw [List.nil_append] at e
  simp only [nextB] at e
  generalize pairs Ctd.D (done o c) (allMoves o) = ps at *
  generalize (allMoves o).map Move.D = ms at *
  generalize c.D = cD at *
  generalize o.D = oD at *
  simp -implicitDefEqProofs [P6.f_counted_next, e1, e]
theorem pairs_len {α : Type} {D : α → PyData} {f : Move → Option α} {l : List Move} : (pairs D f l).length ≤ l.length := by
  unfold pairs
  rw [List.length_map]
  exact List.length_filter_le _ _
/-- the first ones of pairs -/
theorem pairs_fst {α : Type} {D : α → PyData} {f : Move → Option α} {l : List Move} {C : Str → List Z.D → Sto → R Z.D} {G : Gam} {η : Env} {s : Sto} (h : ∀ x y s, ETurn C G (.tup [(.nm 2), (.nm 3)]) [] (.var 2) η (.tuple [x, y]) s = .ok (some x) s) :
    cgo (ETurn C G (.tup [(.nm 2), (.nm 3)]) [] (.var 2) η) (pairs D f l) s = .ok ((l.filter fun m => (f m).isSome).map Move.D) s :=
  P.cgo_map2 (fun m => .tuple [m.D, oF D (f m)]) Move.D _ fun m _ => h _ _ _
theorem let_moves (W : LetHands G) (k : Nat) {o : Off} (ho : o.ok) {c : Std} (h : c.fine o) (s : Sto) : callF G (k + 8) "let_moves" [.dat o.D, .dat c.D] s = .ok (.dat (.list ((letsS o c).map Move.D))) s := by
  rw [cal_of W.let_moves rfl]
  have e1 := fun s => P.want_office W.looks.toLookMv k ho s
  have e2 := fun s => want_standing W (k + 1) ho h s
  have e3 := fun s => next_ones W (k + 4) ho h s
  have e4 : ∀ a b s, cgo (ETurn (callF G (k + 7)) G (.tup [(.nm 2), (.nm 3)]) [] (.var 2) [some (.dat a), some (.dat b), none, none]) (pairs Std.D (behindS o c) (allMoves o)) s = .ok ((letsS o c).map Move.D) s := fun a b s => pairs_fst fun x y s => by simp [turn_eq]
  have hb : big (pairs Std.D (behindS o c) (allMoves o)).length = true := big_of (by have := pairs_len (D := Std.D) (f := behindS o c) (l := allMoves o); have := all_len ho; omega)
  generalize pairs Std.D (behindS o c) (allMoves o) = ps at *
  generalize (letsS o c).map Move.D = ms at *
  generalize c.D = cD at *
  generalize o.D = oD at *
  simp -implicitDefEqProofs [P6.f_let_moves, e1, e2, e3, e4, hb]
theorem let_counted (W : LetHands G) (k : Nat) {o : Off} (ho : o.ok) {c : Ctd} (h : c.fine o) (s : Sto) : callF G (k + 8) "let_counted" [.dat o.D, .dat c.D] s = .ok (.dat (.list ((letsC o c).map Move.D))) s := by
  rw [cal_of W.let_counted rfl]
  have e1 := fun s => P.want_office W.looks.toLookMv k ho s
  have e2 := fun s => want_counted W (k + 2) ho h s
  have e3 := fun s => counted_next W (k + 4) ho h s
  have e4 : ∀ a b s, cgo (ETurn (callF G (k + 7)) G (.tup [(.nm 2), (.nm 3)]) [] (.var 2) [some (.dat a), some (.dat b), none, none]) (pairs Ctd.D (done o c) (allMoves o)) s = .ok ((letsC o c).map Move.D) s := fun a b s => pairs_fst fun x y s => by simp [turn_eq]
  have hb : big (pairs Ctd.D (done o c) (allMoves o)).length = true := big_of (by have := pairs_len (D := Ctd.D) (f := done o c) (l := allMoves o); have := all_len ho; omega)
  generalize pairs Ctd.D (done o c) (allMoves o) = ps at *
  generalize (letsC o c).map Move.D = ms at *
  generalize c.D = cD at *
  generalize o.D = oD at *
  simp -implicitDefEqProofs [P6.f_let_counted, e1, e2, e3, e4, hb]
end
end Y
end Z
end

section
set_option maxRecDepth 100000
set_option maxHeartbeats 4000000
namespace Z
open PySem
namespace K12
open Y Y.P
abbrev G : Gam := TX.gam
theorem basics : Basics G where
  is_integer := by kernel_rfl
  is_within := by kernel_rfl
  is_tuple := by kernel_rfl
  is_deed := by kernel_rfl
  is_step := by kernel_rfl
  is_player := by kernel_rfl
  is_office_any := by kernel_rfl
  c_rest := by kernel_rfl
  c_read := by kernel_rfl
  c_write := by kernel_rfl
  c_step := by kernel_rfl
  c_states := by kernel_rfl
  c_steps := by kernel_rfl
  c_boards := by kernel_rfl
  c_notes := by kernel_rfl
  c_office := by kernel_rfl
theorem lookmv : LookMv G where
  toBasics := basics
  is_move_of := by kernel_rfl
  want_office := by kernel_rfl
  c_head := by kernel_rfl
  c_helper := by kernel_rfl
theorem looks : LookSt G where
  toLookMv := lookmv
  are_rising := by kernel_rfl
  is_lot := by kernel_rfl
  are_notes_of := by kernel_rfl
  is_lot_of := by kernel_rfl
  is_standing_of := by kernel_rfl
  is_counted_any := by kernel_rfl
  c_count := by kernel_rfl
theorem moves : MovesB G where
  notes_behind := by kernel_rfl
  step_of := by kernel_rfl
  lot_with := by kernel_rfl
  behind := by kernel_rfl
  counted_behind := by kernel_rfl
  c_head := by kernel_rfl
  c_read := by kernel_rfl
  c_write := by kernel_rfl
theorem lets : LetHands G where
  looks := looks
  moves := moves
  want_standing := by kernel_rfl
  want_counted := by kernel_rfl
  want_move := by kernel_rfl
  moves_of := by kernel_rfl
  next_ones := by kernel_rfl
  counted_next := by kernel_rfl
  let_moves := by kernel_rfl
  let_counted := by kernel_rfl
  behind_move := by kernel_rfl
  behind_counted := by kernel_rfl
theorem draws : Draws G where
  drw := ⟨39373, 733, 2147483587, 2147483563, 29, by kernel_rfl, by decide +kernel⟩
  pck := by kernel_rfl
theorem drawn : DrawnOffices G where
  toDraws := draws
  stp := by kernel_rfl
  ply := by kernel_rfl
  off := by kernel_rfl
theorem lhands : LawHands G where
  toDraws := draws
  mvs := by kernel_rfl
  nts := by kernel_rfl
  bhd := by kernel_rfl
  cnt := by kernel_rfl
  fst := by kernel_rfl
theorem g_law : G.fns "law" = some lawFd := by kernel_rfl
theorem g_law_pot : G.fns "_law_pot" = some (potFd 751 1567 2147483549 40693 1871 1567 2147483563) := by kernel_rfl
theorem g_law_first_counted : G.fns "_law_first_counted" = some f_counted_begin := by kernel_rfl
theorem g_law_standing : G.fns "_law_standing" = some Z.f_law_standing := by kernel_rfl
theorem g_law_counts : G.fns "_law_counts" = some Z.f_law_counts := by kernel_rfl
theorem g_law_standing_right : G.fns "_law_standing_right" = some Z.f_law_standing_right := by kernel_rfl
theorem g_law_counted_right : G.fns "_law_counted_right" = some Z.f_law_counted_right := by kernel_rfl
theorem g_law_right : G.fns "_law_right" = some Z.f_law_right := by kernel_rfl
theorem g_heard : G.hrs "_law_heard" = some ⟨"NotLet", "not let", "StateError"⟩ := by kernel_rfl
end K12
end Z
end

section
set_option maxRecDepth 100000
set_option maxHeartbeats 4000000
namespace Z
open PySem
namespace K12
open Y Y.P
/-- a walk that keeps some, and all that must be kept -/
theorem cgo_sub {f : PyData → Sto → R (Option PyData)} {I : Sto → Prop} {must : PyData → Prop} : ∀ (l : List PyData), (∀ x ∈ l, ∀ s, I s → ∃ o s', f x s = .ok o s' ∧ I s' ∧ (o = some x ∨ (o = none ∧ ¬ must x))) → ∀ s, I s → ∃ ys s', cgo f l s = .ok ys s' ∧ I s' ∧ ys.Sublist l ∧ ∀ x ∈ l, must x → x ∈ ys
  | [], _, s, hs => ⟨[], s, rfl, hs, List.Sublist.refl _, fun x h => nomatch h⟩
  | x :: l, h, s, hs => by
    obtain ⟨o, s1, e1, h1, p1⟩ := h x List.mem_cons_self s hs
    obtain ⟨ys, s2, e2, h2, l2, p2⟩ := cgo_sub l (fun z hz => h z (List.mem_cons_of_mem _ hz)) s1 h1
    rcases p1 with rfl | ⟨rfl, hn⟩
    · refine ⟨x :: ys, s2, by simp only [cgo, e1, R.bd_ok, e2], h2, l2.cons₂ x, fun z hz hm => ?_⟩
      rcases List.mem_cons.mp hz with rfl | hz
      · exact List.mem_cons_self
      · exact List.mem_cons_of_mem _ (p2 z hz hm)
    · refine ⟨ys, s2, by simp only [cgo, e1, R.bd_ok, e2], h2, l2.cons x, fun z hz hm => ?_⟩
      rcases List.mem_cons.mp hz with rfl | hz
      · exact absurd hm hn
      · exact p2 z hz hm
theorem notes_draw (k : Nat) {n : Nat} (η : Env) (hη : ∀ s C x, ETurn C G (.nm 4) [] (.call "_law_draw" [(.var 0), (.var 4)]) η x s = (C "_law_draw" [.ref n, .dat x] s).bd fun d s => (R.opt (datOf d) s).bd fun d s => .ok (some d) s) :
    ∀ (bs : List Nat) (hb : ∀ b ∈ bs, 1 ≤ b ∧ b ≤ 4) (s : Sto) (hp : Pot n s), ∃ (ns : List Nat) (s' : Sto), cgo (ETurn (callF G (k + 1)) G (.nm 4) [] (.call "_law_draw" [(.var 0), (.var 4)]) η) (bs.map nD) s = .ok (ns.map nD) s' ∧ Pot n s' ∧ ns.length = bs.length ∧ ∀ p ∈ ns.zip bs, p.1 < p.2
  | [], _, s, hp => ⟨[], s, rfl, hp, rfl, fun p h => nomatch h⟩
  | b :: bs, hb, s, hp => by
    have hb0 := hb b List.mem_cons_self
    obtain ⟨j, s1, e, p1, hj⟩ := draws.draw hp (many := b) (by omega) (by omega) k
    obtain ⟨ns, s2, e2, p2, l2, q2⟩ := notes_draw k η hη bs (fun x hx => hb x (List.mem_cons_of_mem _ hx)) s1 p1
    refine ⟨j :: ns, s2, ?_, p2, by simp [l2], fun p hp => ?_⟩
    · simp only [List.map_cons, cgo]
      rw [hη, nD, e]
      simp only [R.bd_ok, datOf, R.opt_some, e2]
      rfl
    · rw [List.zip_cons_cons] at hp
      rcases List.mem_cons.mp hp with rfl | hp
      · exact hj
      · exact q2 p hp
theorem law_standing (k : Nat) {n : Nat} {s : Sto} (hp : Pot n s) {o : Off} (ho : o.ok) :
    ∃ (c : Std) (s' : Sto), callF G (k + 3) "_law_standing" [.ref n, .dat o.D] s = .ok (.dat c.D) s' ∧ Pot n s' ∧ c.fine o := by
  rw [cal_of g_law_standing rfl]
  have h0 := ho.hd.n0
  have h1 := ho.hd.n1
  have h2 := ho.hp.n0
  have h3 := ho.hp.n1
  have h4 := ho.l1
  obtain ⟨c, hc⟩ : ∃ c : Int, c = o.hp.n := ⟨_, rfl⟩
  obtain ⟨ys, s1, e1, p1, l1, q1⟩ := cgo_sub (f := ETurn (callF G (k + 2)) G (.nm 3) [(.or [(.cmp .eq (.var 3) (.num 0)), (.cmp .eq (.call "_law_draw" [(.var 0), (.num 2)]) (.num 0))])] (.var 3) [some (.ref n), some (.dat o.D), none, none, none]) (I := Pot n) (must := fun y => y = .int 0) (rngL 0 c.toNat)
    (fun x hx s hs => by
      obtain ⟨i, hi, rfl⟩ := List.mem_map.mp hx
      obtain ⟨j, s', e, p', hj⟩ := draws.draw hs (many := 2) (by omega) (by omega) (k + 1)
      have e : callF G (k + 2) "_law_draw" [.ref n, .dat (.int 2)] s = .ok (.dat (.int j)) s' := e
      by_cases h : i = 0
      · subst h
        exact ⟨some (.int 0), s, by simp [turn_eq], hs, .inl (by simp)⟩
      · by_cases h' : j = 0
        · subst h'
          exact ⟨some (.int i), s', by simp at e; simp [turn_eq, h, e], p', .inl (by simp)⟩
        · exact ⟨none, s', by simp [turn_eq, h, e, h'], p', .inr ⟨rfl, by simp [h]⟩⟩) s hp
  have er : rngL 0 c.toNat = (List.range o.hp.n).map nD := by
    rw [hc]
    simp [rngL, nD]
  rw [er] at l1 q1
  obtain ⟨lot, sl, rfl⟩ := List.sublist_map_iff.mp l1
  have hz : 0 ∈ lot := by
    obtain ⟨x, hx, e⟩ := List.mem_map.mp (q1 (.int 0) (List.mem_map.mpr ⟨0, List.mem_range.mpr (by omega), rfl⟩) rfl)
    have : x = 0 := by
      unfold nD at e
      simpa using e
    rw [← this]; exact hx
  obtain ⟨a, s2, e2, p2, a1⟩ := draws.draw p1 (many := o.hd.n) (by omega) (by omega) (k + 1)
  obtain ⟨ns, s3, e3, p3, l3, q3⟩ := notes_draw (k + 1) [some (.ref n), some (.dat o.D), some (.dat (.tuple (lot.map nD))), none, none] (fun s C x => by simp [turn_eq]; rfl) o.bs ho.bs s2 p2
  refine ⟨⟨a, ns, lot⟩, s3, ?_, p3, ⟨⟨l3, List.pairwise_lt_range.sublist sl, fun x hx => List.mem_range.mp (sl.subset hx)⟩, a1, ⟨l3, q3⟩, hz⟩⟩
  have hr : rngOk 0 c = true := rng_ok (by omega) (by omega)
  have hb : big (o.bs.map nD).length = true := len_big (by simp; omega)
  have hD : EV (callF G (k + 2)) G (.idx (.idx (.var 1) (.num 3)) (.num 0)) [some (.ref n), some (.dat o.D), none, none, none] s = .ok (.dat (.int c)) s := by rw [hc]; simp [Off.D, Play.D, ixN]
  have hD2 : ∀ x s, EV (callF G (k + 2)) G (.idx (.idx (.var 1) (.num 2)) (.num 0)) [some (.ref n), some (.dat o.D), x, none, none] s = .ok (.dat (.int o.hd.n)) s := fun x s => by simp [Off.D, Play.D, ixN]
  have hD3 : ∀ x s, EV (callF G (k + 2)) G (.idx (.var 1) (.num 1)) [some (.ref n), some (.dat o.D), x, none, none] s = .ok (.dat (nsD o.bs)) s := fun x s => by simp [Off.D, ixN]
  simp [-v_idx, Z.f_law_standing, hD, hD2, hD3, hr, big_rng (n := c.toNat) (by omega), e1, e2, e3, nsD, big_of (n := o.bs.length) (by omega), Std.D]
theorem law_counts (k : Nat) {n : Nat} {s : Sto} (hp : Pot n s) {o : Off} (ho : o.ok) :
    ∃ (c : Ctd) (s' : Sto), callF G (k + 4) "_law_counts" [.ref n, .dat o.D] s = .ok (.dat c.D) s' ∧ Pot n s' ∧ c.fine o := by
  rw [cal_of g_law_counts rfl]
  have h0 := ho.hd.n0
  have h1 := ho.hd.n1
  have h2 := ho.hp.n0
  have h3 := ho.hp.n1
  have h4 := ho.l1
  obtain ⟨c, hc⟩ : ∃ c : Int, c = o.hp.n := ⟨_, rfl⟩
  have hpw : binD .pow (.int 10) (.int 9) = some (.int 1000000000) := by simp [binD]
  obtain ⟨ys, s1, e1, p1, l1, q1⟩ := cgo_st (f := ETurn (callF G (k + 3)) G (.nm 3) [] (.call "_law_pick" [(.var 0), (.lst [(.num 0), (.num 0), (.num 1), (.num 2), (.bin .pow (.num 10) (.num 9))])]) [some (.ref n), some (.dat o.D), none, none, none]) (I := Pot n) (P := fun y => ∃ x : Nat, y = nD x ∧ x ≤ 1000000000) (rngL 0 c.toNat)
    (fun x _ s hs => by
      obtain ⟨d, s', e, p', hd⟩ := draws.pick hs (xs := [.int 0, .int 0, .int 1, .int 2, .int 1000000000]) (by simp) (by simp) (k + 1)
      have e : callF G (k + 3) "_law_pick" [.ref n, .dat (.list [.int 0, .int 0, .int 1, .int 2, .int 1000000000])] s = .ok (.dat d) s' := e
      refine ⟨d, s', by simp [turn_eq, hpw, e], p', ?_⟩
      simp only [List.mem_cons, List.not_mem_nil, or_false] at hd
      rcases hd with rfl | rfl | rfl | rfl | rfl
      · exact ⟨0, rfl, by omega⟩
      · exact ⟨0, rfl, by omega⟩
      · exact ⟨1, rfl, by omega⟩
      · exact ⟨2, rfl, by omega⟩
      · exact ⟨1000000000, rfl, by omega⟩) s hp
  rw [rng_len] at l1
  obtain ⟨cs, rfl, hcs, hn⟩ := drawn_all q1
  have l5 : cs.length = o.hp.n := by
    simp only [List.length_map] at l1
    omega
  obtain ⟨a, s2, e2, p2, a1⟩ := draws.draw p1 (many := o.hd.n) (by omega) (by omega) (k + 2)
  obtain ⟨ns, s3, e3, p3, l3, q3⟩ := notes_draw (k + 2) [some (.ref n), some (.dat o.D), some (.dat (.tuple (cs.map nD))), none, none] (fun s C x => by simp [turn_eq]; rfl) o.bs ho.bs s2 p2
  refine ⟨⟨a, ns, cs⟩, s3, ?_, p3, ⟨⟨a1, l3, l5⟩, ⟨l3, q3⟩, hcs⟩⟩
  have hr : rngOk 0 c = true := rng_ok (by omega) (by omega)
  have hb : big (o.bs.map nD).length = true := len_big (by simp; omega)
  have hD : EV (callF G (k + 3)) G (.idx (.idx (.var 1) (.num 3)) (.num 0)) [some (.ref n), some (.dat o.D), none, none, none] s = .ok (.dat (.int c)) s := by rw [hc]; simp [Off.D, Play.D, ixN]
  have hD2 : ∀ x s, EV (callF G (k + 3)) G (.idx (.idx (.var 1) (.num 2)) (.num 0)) [some (.ref n), some (.dat o.D), x, none, none] s = .ok (.dat (.int o.hd.n)) s := fun x s => by simp [Off.D, Play.D, ixN]
  have hD3 : ∀ x s, EV (callF G (k + 3)) G (.idx (.var 1) (.num 1)) [some (.ref n), some (.dat o.D), x, none, none] s = .ok (.dat (nsD o.bs)) s := fun x s => by simp [Off.D, ixN]
  simp [-v_idx, Z.f_law_counts, hD, hD2, hD3, hr, big_rng (n := c.toNat) (by omega), e1, e2, e3, nsD, big_of (n := o.bs.length) (by omega), Ctd.D]
end K12
end Z
end

section
set_option maxRecDepth 100000
set_option maxHeartbeats 4000000
namespace Z
open PySem
namespace K12
open Y Y.P
/-- what is heard -/
def lateD {α : Type} (D : α → PyData) : Option α → PyData
  | some c => D c
  | none => .list [.str "not let", .bool true]
abbrev hd : HdK := ⟨"NotLet", "not let", "StateError"⟩
theorem hear_or {α : Type} (D : α → PyData) (x : Option α) (s : Sto) : hearR (some hd) (orNot D s x) = .ok (.dat (lateD D x)) s := by
  cases x with
  | none => rfl
  | some c => rfl
theorem late_gd {α : Type} {D : α → PyData} {x : Option α} (h : ∀ c, x = some c → Ok 2 21 (D c)) : Ok 2 21 (lateD D x) := by
  cases x with
  | none => exact (Ok.lst (k := 0) (n := 7) (xs := [.str "not let", .bool true]) (by
      simp only [List.forall_mem_cons]
      exact ⟨gd_w (by decide +kernel) (by decide +kernel), gd_bl true, fun _ h => nomatch h⟩)).mono (by omega) (by simp)
  | some c => exact h c rfl
abbrev heardB (own fn : Str) (st : Str) (m l so : Nat) : List Sm := [.asg l (.call own [(.var 1), (.var 2), (.var m)]), .asg l (.ife (.isN (.var l)) (.lst [(.txt "not let"), (.bl true)]) (.var l)), .own so (.lst [(.hear "_law_heard" (.call fn [(.var 1), (.var 2), (.var m)]))]), .app so (.hear "_law_heard" (.callk fn [] [(.var m), (.var 2), (.var 1)] ["move", st, "office"] [2, 1, 0])), .ife (.cmp .ne (.bf .repr [(.ovar so)]) (.bf .repr [(.lst [(.var l), (.var l)])])) [.ret (.bl false)] []]
section
variable {α : Type} {D : α → PyData} {x : Option α} {k : Nat} {o : Off} {c : PyData} {m : Y.Move}
/-- one move: own hand and the head's say the same -/
theorem turn_s (h1 : ∀ s, callF G k "_law_behind" [.dat o.D, .dat c, .dat m.D] s = .ok (.dat (oF D x)) s) (h2 : ∀ s, callF G k "behind_move" [.dat o.D, .dat c, .dat m.D] s = orNot D s x) (hno : ∀ c, isNo (D c) = false) (hx : ∀ c, x = some c → Ok 2 21 (D c))
    (a0 a3 a4 a5 a6 a7 a8 a9 a10 : Option Z.D) (s : Sto) : loopB (callF G k) G (.nm 5) (heardB "_law_behind" "behind_move" "standing" 5 9 10) m.D [a0, some (.dat o.D), some (.dat c), a3, a4, a5, a6, a7, a8, a9, a10] s =
      .fl (.nx [a0, some (.dat o.D), some (.dat c), a3, a4, some (.dat m.D), a6, a7, a8, some (.dat (lateD D x)), some (.own [lateD D x, lateD D x])]) s := by
  have g := late_gd hx
  have r := reprOk_of (two_gd g g)
  have hh := fun s => hear_or D x s
  have hsz : 1 < sizeLine := by decide +kernel
  cases x with
  | none =>
    simp only [oF, orNot] at h1 h2 hh
    simp only [lateD] at hh r ⊢
    generalize m.D = mD at *
    generalize o.D = oD at *
    simp -implicitDefEqProofs [loopB, heardB, h1, h2, hh, r, g_heard, hsz]
  | some c' =>
    simp only [oF, orNot] at h1 h2 hh
    simp only [lateD] at hh r ⊢
    have hno' : isNon (.dat (D c')) = false := by rw [isNon_dat]; exact hno c'
    generalize m.D = mD at *
    generalize o.D = oD at *
    generalize D c' = dD at *
    simp -implicitDefEqProofs [loopB, heardB, h1, h2, hh, r, hno', g_heard, hsz]
theorem turn_c (h1 : ∀ s, callF G k "_law_counted" [.dat o.D, .dat c, .dat m.D] s = .ok (.dat (oF D x)) s) (h2 : ∀ s, callF G k "behind_counted" [.dat o.D, .dat c, .dat m.D] s = orNot D s x) (hno : ∀ c, isNo (D c) = false) (hx : ∀ c, x = some c → Ok 2 21 (D c))
    (a0 a3 a4 a5 a6 a7 a8 a9 a10 a11 a12 a13 : Option Z.D) (s : Sto) : loopB (callF G k) G (.nm 6) (heardB "_law_counted" "behind_counted" "counted" 6 10 11) m.D [a0, some (.dat o.D), some (.dat c), a3, a4, a5, a6, a7, a8, a9, a10, a11, a12, a13] s =
      .fl (.nx [a0, some (.dat o.D), some (.dat c), a3, a4, a5, some (.dat m.D), a7, a8, a9, some (.dat (lateD D x)), some (.own [lateD D x, lateD D x]), a12, a13]) s := by
  have g := late_gd hx
  have r := reprOk_of (two_gd g g)
  have hh := fun s => hear_or D x s
  have hsz : 1 < sizeLine := by decide +kernel
  cases x with
  | none =>
    simp only [oF, orNot] at h1 h2 hh
    simp only [lateD] at hh r ⊢
    generalize m.D = mD at *
    generalize o.D = oD at *
    simp -implicitDefEqProofs [loopB, heardB, h1, h2, hh, r, g_heard, hsz]
  | some c' =>
    simp only [oF, orNot] at h1 h2 hh
    simp only [lateD] at hh r ⊢
    have hno' : isNon (.dat (D c')) = false := by rw [isNon_dat]; exact hno c'
    generalize m.D = mD at *
    generalize o.D = oD at *
    generalize D c' = dD at *
    simp -implicitDefEqProofs [loopB, heardB, h1, h2, hh, r, hno', g_heard, hsz]
end
theorem notes_le {o : Off} (ho : o.ok) {ns : List Nat} (h : notesIn o ns) : ∀ x ∈ ns, x ≤ 6 := fun x hx => by
  obtain ⟨i, hi, rfl⟩ := List.mem_iff_getElem.mp hx
  have hi2 : i < o.bs.length := by rw [← h.1]; exact hi
  have := h.2 (ns[i], o.bs[i]) (by
    rw [← List.getElem_zip (l := ns) (l' := o.bs) (h := by simp; omega)]
    exact List.getElem_mem _)
  have := ho.bs _ (List.getElem_mem hi2)
  simp only at *
  omega
theorem fine_le {o : Off} (ho : o.ok) {c : Std} (h : c.fine o) : c.le 6 := ⟨by have := h.st; have := ho.hd.n1; omega, notes_le ho h.ns⟩
theorem loop_s {k : Nat} {o : Off} (ho : o.ok) {c : Std} (h : c.fine o) (a0 a3 a4 a6 a7 a8 : Option Z.D) (s : Sto) : ∀ (ms : List Y.Move) (hms : ∀ m ∈ ms, m.ok o) (a5 a9 a10 : Option Z.D), ∃ b5 b9 b10, fgo (loopB (callF G (k + 8)) G (.nm 5) (heardB "_law_behind" "behind_move" "standing" 5 9 10)) (ms.map Move.D) [a0, some (.dat o.D), some (.dat c.D), a3, a4, a5, a6, a7, a8, a9, a10] s =
      .fl (.nx [a0, some (.dat o.D), some (.dat c.D), a3, a4, b5, a6, a7, a8, b9, b10]) s
  | [], _, a5, a9, a10 => ⟨a5, a9, a10, rfl⟩
  | m :: ms, hms, a5, a9, a10 => by
    have hm := hms m List.mem_cons_self
    have hle := fine_le ho h
    have t := turn_s (D := Std.D) (x := behindS o c m) (k := k + 8) (fun s => law_behind4 lhands (k + 6) ho h.ok hm s) (fun s => behind_move lets k ho h hm s) (fun _ => rfl) (fun c' e => std_gd ho (behindS_ok ho h.ok e) (behindS_le ho hle e)) a0 a3 a4 a5 a6 a7 a8 a9 a10 s
    obtain ⟨b5, b9, b10, e⟩ := loop_s ho h a0 a3 a4 a6 a7 a8 s ms (fun x hx => hms x (List.mem_cons_of_mem _ hx)) (some (.dat m.D)) (some (.dat (lateD Std.D (behindS o c m)))) (some (.own [lateD Std.D (behindS o c m), lateD Std.D (behindS o c m)]))
    refine ⟨b5, b9, b10, ?_⟩
    simp only [List.map_cons, fgo]
    rw [t, turn_nx]
    exact e
/-- the standing with every state in its lot -/
def wide (o : Off) (c : Std) : Std := ⟨c.st, c.ns, List.range o.hp.n⟩
theorem wide_fine {o : Off} (ho : o.ok) {c : Std} (h : c.fine o) : (wide o c).fine o :=
  ⟨⟨h.ok.ns, List.pairwise_lt_range, fun x hx => List.mem_range.mp hx⟩, h.st, h.ns, List.mem_range.mpr (by have := ho.hp.n0; omega)⟩
theorem lets_mono {o : Off} {c d : Std} (h1 : d.st = c.st) (h2 : d.ns = c.ns) (h3 : ∀ x ∈ c.lot, x ∈ d.lot) {m : Y.Move} (h : (behindS o c m).isSome = true) : (behindS o d m).isSome = true := by
  obtain ⟨c', h⟩ := Option.isSome_iff_exists.mp h
  unfold behindS at h ⊢
  obtain ⟨s, e1, h⟩ := Option.bind_eq_some_iff.mp h
  obtain ⟨ns, e2, h⟩ := Option.bind_eq_some_iff.mp h
  rw [e1, Option.bind_some, h2, e2, Option.bind_some]
  split at h
  · rename_i hm
    rw [if_pos hm]
    split at h
    · rename_i hb
      rw [if_pos (by rw [h1]; exact hb)]; rfl
    · cases h
  · rename_i hm
    rw [if_neg hm]
    split at h
    · rename_i hb
      rw [if_pos (h3 _ hb)]; rfl
    · cases h
theorem in_moves {o : Off} (ho : o.ok) {ms : List Y.Move} (hms : ∀ m ∈ ms, m.ok o) {m : Y.Move} (hm : m ∈ ms) : inD m.D (.list (ms.map Move.D)) = some true := by
  have g := moves_gd (ms := ms) fun m hm => ok_at ho (hms m hm)
  have h1 : SeqAt.shaped (.list (ms.map Move.D)) = true := shaped_of g
  have h2 : SeqAt.shaped m.D = true := shaped_of (move_shaped (ok_at ho (hms m hm)))
  have e := eqD_refl h2
  unfold eqD at e
  rw [if_pos (by rw [h2]; simp)] at e
  simp only [inD, h1, h2, Bool.and_self, Bool.or_true, if_true]
  congr 1
  rw [List.any_eq_true]
  exact ⟨m.D, List.mem_map.mpr ⟨m, hm, rfl⟩, by simpa using e⟩
theorem wide_ev (k : Nat) {o : Off} (ho : o.ok) (c : Std) (a0 : Z.D) (a3 a4 a5 a6 a7 a8 a9 a10 : Option Z.D) (s : Sto) : EV (callF G k) G (.bin .add (.slc (.var 2) .abs (.num 2)) (.tup [(.rg1 true (.idx (.idx (.var 1) (.num 3)) (.num 0)))])) [some a0, some (.dat o.D), some (.dat c.D), a3, a4, a5, a6, a7, a8, a9, a10] s = .ok (.dat (wide o c).D) s := by
  have h1 := ho.hp.n1
  obtain ⟨n, hn⟩ : ∃ n : Int, n = o.hp.n := ⟨_, rfl⟩
  have hr : rngOk 0 n = true := rng_ok (by omega) (by omega)
  have hg : rgD true 0 n = some (nsD (List.range o.hp.n)) := by
    unfold rgD
    rw [if_pos hr, hn]
    simp [rngL, nsD]
    exact fun _ _ => rfl
  have hi : ∀ x, EV (callF G k) G (.idx (.idx (.var 1) (.num 3)) (.num 0)) [some a0, some (.dat o.D), x, a3, a4, a5, a6, a7, a8, a9, a10] s = .ok (.dat (.int n)) s := fun x => by rw [hn]; simp [Off.D, Play.D, ixN]
  have hc2 : ∀ x y z : PyData, cut [x, y, z] none (some 2) = [x, y] := fun _ _ _ => rfl
  have hz2 : 3 ≤ sizeLine := by decide +kernel
  simp only [Std.D, wide]
  generalize nsD (List.range o.hp.n) = rD at *
  generalize nsD c.ns = nD' at *
  generalize nsD c.lot = lD at *
  generalize o.D = oD at *
  simp -implicitDefEqProofs [-v_idx, hi, hg, hc2, hz2]
theorem law_standing_right (k : Nat) {o : Off} (ho : o.ok) {c : Std} (h : c.fine o) (a0 : Z.D) (ha : a0.isOwn = false) (s : Sto) (hs : flatSto s = true) :
    callF G (k + 9) "_law_standing_right" [a0, .dat o.D, .dat c.D] s = .ok (.dat (.bool true)) s := by
  rw [cal_of g_law_standing_right rfl]
  have hle := fine_le ho h
  have e1 := fun s => law_moves4 lhands (k + 7) ho s
  have e2 := fun s => let_moves lets k ho h s
  have e3 := fun s => let_moves lets k ho (wide_fine ho h) s
  have hl := all_len ho
  have hlS : (letsS o c).length ≤ 24 := Nat.le_trans (List.length_filter_le _ _) hl
  have hS : ∀ m ∈ letsS o c, m.ok o := fun m hm => allMoves_ok m (List.mem_filter.mp hm).1
  have hSW : ∀ m ∈ letsS o (wide o c), m.ok o := fun m hm => allMoves_ok m (List.mem_filter.mp hm).1
  have hsub : ∀ m ∈ letsS o c, m ∈ letsS o (wide o c) := fun m hm => by
    obtain ⟨q1, q2⟩ := List.mem_filter.mp hm
    exact List.mem_filter.mpr ⟨q1, lets_mono (c := c) (d := wide o c) rfl rfl (fun x hx => List.mem_range.mpr (h.ok.lot x hx)) q2⟩
  have hat : ∀ m ∈ letsS o c, m.at_ ≤ 100 := fun m hm => ok_at ho (hS m hm)
  have g0 := moves_gd hat
  have r0 : reprOk (.list [o.D, c.D]) = true := reprOk_of (two_gd (ok_offD ho) ((std_gd ho h.ok hle).mono (by omega) (by omega)))
  have r1 : reprOk (.list [.list ((letsS o c).map Move.D), .list ((letsS o c).map Move.D)]) = true := reprOk_of (two_gd g0 g0) (by omega) (by omega)
  have r2 : reprOk (.list ((letsS o c).map Move.D)) = true := reprOk_of g0 (by omega) (by omega)
  have hbig : big ((allMoves o).map Move.D).length = true := by rw [List.length_map]; exact big_of (by omega)
  have hbig2 : big ((letsS o c).map Move.D).length = true := by rw [List.length_map]; exact big_of (by omega)
  have hsz : sizeLine = 16777216 := by decide +kernel
  have hz : ((letsS o c).map Move.D).length < sizeLine := by rw [hsz, List.length_map]; omega
  have hcc : ∀ a3 a4 a5 a6 a7 a8 a9 a10 s, cgo (ETurn (callF G (k + 8)) G (.nm 5) [(.notN (.call "_law_behind" [(.var 1), (.var 2), (.var 5)]))] (.var 5) [some a0, some (.dat o.D), some (.dat c.D), a3, a4, a5, a6, a7, a8, a9, a10]) ((allMoves o).map Move.D) s = .ok ((letsS o c).map Move.D) s := fun a3 a4 a5 a6 a7 a8 a9 a10 s => by
    have h := cgo_if (f := ETurn (callF G (k + 8)) G (.nm 5) [(.notN (.call "_law_behind" [(.var 1), (.var 2), (.var 5)]))] (.var 5) [some a0, some (.dat o.D), some (.dat c.D), a3, a4, a5, a6, a7, a8, a9, a10]) (s := s) (fun x => (behindS o c (toMove x)).isSome) id ((allMoves o).map Move.D) (fun x hx => by
      obtain ⟨m, hm, rfl⟩ := List.mem_map.mp hx
      have hdn := fun s => law_behind4 lhands (k + 6) ho h.ok (allMoves_ok m hm) s
      rw [toMove_D]
      generalize (allMoves o).map Move.D = ys
      cases hd : behindS o c m with
      | none =>
        simp only [hd, oF] at hdn
        simp -implicitDefEqProofs [turn_eq, hdn]
      | some c' =>
        simp only [hd, oF] at hdn
        have hno : isNon (.dat c'.D) = false := rfl
        simp -implicitDefEqProofs [turn_eq, hdn, hno])
    rw [h, List.filter_map, List.map_id]
    congr 2
    refine List.filter_congr fun m _ => ?_
    simp only [Function.comp_apply, toMove_D]
  have hin : ∀ a3 a4 a5 a7 a8 a9 a10 s, cgo (ETurn (callF G (k + 8)) G (.nm 5) [] (.cmp .inn (.var 5) (.call "let_moves" [(.var 1), (.var 6)])) [some a0, some (.dat o.D), some (.dat c.D), a3, a4, a5, some (.dat (wide o c).D), a7, a8, a9, a10]) ((letsS o c).map Move.D) s = .ok (((letsS o c).map Move.D).map fun _ => .bool true) s := fun a3 a4 a5 a7 a8 a9 a10 s => cgo_map _ _ fun x hx => by
    obtain ⟨m, hm, rfl⟩ := List.mem_map.mp hx
    have := in_moves ho hSW (hsub m hm)
    generalize (letsS o (wide o c)).map Move.D = ys at *
    generalize (wide o c).D = wD at *
    generalize o.D = oD at *
    generalize c.D = cD at *
    simp -implicitDefEqProofs [turn_eq, e3, this]
  have hall : boolsOf (((letsS o c).map Move.D).map fun _ => PyData.bool true) = some (((letsS o c).map Move.D).map fun _ => true) := boolsOf_map (fun _ => true) _
  have hallt : allB (((letsS o c).map Move.D).map fun _ => true) = true := by rw [allB_map]; simp
  obtain ⟨b5, b9, b10, e4⟩ := loop_s (k := k) ho h (some a0) (some (.dat (.list ((letsS o c).map Move.D)))) (some (.own ((letsS o c).map Move.D))) none (some (.dat (.list ((allMoves o).map Move.D)))) (some (.dat (.str (PyData.list [o.D, c.D]).shown))) s (allMoves o) (fun m hm => allMoves_ok m hm) none none none
  have hw := fun a3 a4 a5 a6 a7 a8 a9 a10 s => wide_ev (k + 8) ho c a0 a3 a4 a5 a6 a7 a8 a9 a10 s
  simp only [heardB] at e4
  generalize (letsS o c).map Move.D = ds at *
  generalize (allMoves o).map Move.D = ms at *
  generalize (wide o c).D = wD at *
  generalize c.D = cD at *
  generalize o.D = oD at *
  simp -implicitDefEqProofs [-v_bin, Z.f_law_standing_right, e1, e2, hcc, r0, r1, r2, e4, hw, hin, hall, hallt, hz, hbig, hbig2, hs]
end K12
end Z
end

section
set_option maxRecDepth 100000
set_option maxHeartbeats 4000000
namespace Z
open PySem
namespace K12
open Y Y.P
theorem cfine_le {o : Off} (ho : o.ok) {c : Ctd} (h : c.fine o) : c.le 1000000000 :=
  ⟨by have := h.ok.st; have := ho.hd.n1; omega, fun x hx => by have := notes_le ho h.ns x hx; omega, h.cs⟩
theorem loop_c {k : Nat} {o : Off} (ho : o.ok) {c : Ctd} (h : c.fine o) (a0 a3 a4 a5 a7 a8 a9 a12 a13 : Option Z.D) (s : Sto) : ∀ (ms : List Y.Move) (hms : ∀ m ∈ ms, m.ok o) (a6 a10 a11 : Option Z.D), ∃ b6 b10 b11, fgo (loopB (callF G (k + 8)) G (.nm 6) (heardB "_law_counted" "behind_counted" "counted" 6 10 11)) (ms.map Move.D) [a0, some (.dat o.D), some (.dat c.D), a3, a4, a5, a6, a7, a8, a9, a10, a11, a12, a13] s =
      .fl (.nx [a0, some (.dat o.D), some (.dat c.D), a3, a4, a5, b6, a7, a8, a9, b10, b11, a12, a13]) s
  | [], _, a6, a10, a11 => ⟨a6, a10, a11, rfl⟩
  | m :: ms, hms, a6, a10, a11 => by
    have hm := hms m List.mem_cons_self
    have hle := cfine_le ho h
    have t := turn_c (D := Ctd.D) (x := done o c m) (k := k + 8) (fun s => law_counted4 lhands (k + 6) ho h.ok hm s) (fun s => behind_counted lets k ho h hm s) (fun _ => rfl) (fun c' e => ctd_gd ho (done_ok ho h.ok e) (by omega) (done_le ho (by omega) hle e)) a0 a3 a4 a5 a6 a7 a8 a9 a10 a11 a12 a13 s
    obtain ⟨b6, b10, b11, e⟩ := loop_c ho h a0 a3 a4 a5 a7 a8 a9 a12 a13 s ms (fun x hx => hms x (List.mem_cons_of_mem _ hx)) (some (.dat m.D)) (some (.dat (lateD Ctd.D (done o c m)))) (some (.own [lateD Ctd.D (done o c m), lateD Ctd.D (done o c m)]))
    refine ⟨b6, b10, b11, ?_⟩
    simp only [List.map_cons, fgo]
    rw [t, turn_nx]
    exact e
/-- the states in which helpers are, and 0 -/
def lotN : Nat → List Nat → List Nat
  | _, [] => []
  | j, x :: r => if 0 < x ∨ j = 0 then j :: lotN (j + 1) r else lotN (j + 1) r
theorem lotN_mem : ∀ (xs : List Nat) (j i : Nat), i ∈ lotN j xs → j ≤ i ∧ i < j + xs.length
  | [], _, _, h => nomatch h
  | x :: r, j, i, h => by
    unfold lotN at h
    split at h
    · rcases List.mem_cons.mp h with rfl | h
      · simp
      · have := lotN_mem r (j + 1) i h
        simp only [List.length_cons]; omega
    · have := lotN_mem r (j + 1) i h
      simp only [List.length_cons]; omega
theorem lotN_lt : ∀ (xs : List Nat) (j : Nat), (lotN j xs).Pairwise (· < ·)
  | [], _ => .nil
  | x :: r, j => by
    unfold lotN
    split
    · exact .cons (fun i hi => by have := lotN_mem r (j + 1) i hi; omega) (lotN_lt r (j + 1))
    · exact lotN_lt r (j + 1)
theorem lotN_has : ∀ (xs : List Nat) (j i n : Nat), xs[i]? = some (n + 1) → j + i ∈ lotN j xs
  | [], _, _, _, h => by simp at h
  | x :: r, j, 0, n, h => by
    simp at h
    subst h
    unfold lotN
    rw [if_pos (by omega)]
    exact List.mem_cons_self
  | x :: r, j, i + 1, n, h => by
    have := lotN_has r (j + 1) i n (by simpa using h)
    rw [show j + 1 + i = j + (i + 1) by omega] at this
    unfold lotN
    split
    · exact List.mem_cons_of_mem _ this
    · exact this
theorem lotN_0 {xs : List Nat} (h : xs ≠ []) : 0 ∈ lotN 0 xs := by
  cases xs with
  | nil => exact absurd rfl h
  | cons x r =>
    unfold lotN
    rw [if_pos (.inr rfl)]
    exact List.mem_cons_self
theorem cgo_lot {f : PyData → Sto → R (Option PyData)} {s : Sto} (h : ∀ i x : Nat, f (.tuple [.int i, nD x]) s = .ok (if 0 < x ∨ i = 0 then some (nD i) else none) s) : ∀ (xs : List Nat) (j : Nat), cgo f (enumL j (xs.map nD)) s = .ok ((lotN j xs).map nD) s
  | [], _ => rfl
  | x :: r, j => by
    simp only [List.map_cons, enumL, cgo]
    rw [h j x, R.bd_ok, cgo_lot h r (j + 1), R.bd_ok]
    by_cases hc : 0 < x ∨ j = 0
    · rw [show lotN j (x :: r) = j :: lotN (j + 1) r from if_pos hc, if_pos hc]; rfl
    · rw [show lotN j (x :: r) = lotN (j + 1) r from if_neg hc, if_neg hc]
def crowd (c : Ctd) : Std := ⟨c.st, c.ns, lotN 0 c.cs⟩
theorem crowd_fine {o : Off} (ho : o.ok) {c : Ctd} (h : c.fine o) : (crowd c).fine o := by
  have h1 := h.ok.cs
  have h2 := ho.hp.n0
  refine ⟨⟨h.ok.ns, lotN_lt _ _, fun x hx => ?_⟩, h.ok.st, h.ns, lotN_0 fun e => ?_⟩
  · have := lotN_mem c.cs 0 x hx
    omega
  · rw [e] at h1
    simp at h1; omega
theorem crowd_holds (c : Ctd) : Holds c (crowd c) := ⟨rfl, rfl, fun i n e => by
  have := lotN_has c.cs 0 i n e
  rwa [Nat.zero_add] at this⟩
/-- a helper whose end may take one more -/
def more (o : Off) (c : Ctd) (m : Y.Move) : Bool := m.hd || match o.hp.st[m.at_]? with
  | some st => match c.cs[st.e]? with
    | some x => decide (x < 1000000000)
    | none => false
  | none => false
theorem more_ev (k : Nat) {o : Off} (ho : o.ok) {c : Ctd} (h : c.fine o) {m : Y.Move} (hm : m.ok o) (a0 a3 a4 a5 a6 a7 a8 a9 a10 a11 a12 a13 : Option Z.D) (s : Sto) :
    ETurn (callF G k) G (.nm 6) [(.or [(.cmp .eq (.idx (.var 6) (.num 0)) (.txt "head")), (.cmp .lt (.idx (.idx (.var 2) (.num 2)) (.idx (.idx (.idx (.idx (.var 1) (.num 3)) (.num 1)) (.idx (.var 6) (.num 1))) (.num 3))) (.bin .pow (.num 10) (.num 9)))])] (.var 6) [a0, some (.dat o.D), some (.dat c.D), a3, a4, a5, a6, a7, a8, a9, a10, a11, a12, a13] m.D s = .ok (if more o c m = true then some m.D else none) s := by
  have hpw : binD .pow (.int 10) (.int 9) = some (.int 1000000000) := by simp [binD]
  obtain ⟨b, i⟩ := m
  cases b with
  | true => simp [turn_eq, Move.D, more]
  | false =>
    have hi : i < o.hp.st.length := hm
    have hk := ho.hp.st _ (List.getElem_mem hi)
    have he : (o.hp.st[i]).e < c.cs.length := by rw [h.ok.cs]; exact hk.e
    have e1 : more o c ⟨false, i⟩ = decide (c.cs[(o.hp.st[i]).e] < 1000000000) := by simp [more, hi, he]
    rw [e1]
    by_cases hlt : c.cs[(o.hp.st[i]).e] < 1000000000
    · have hlt' : (c.cs[(o.hp.st[i]).e] : Int) < 1000000000 := by omega
      simp [turn_eq, Move.D, Off.D, Play.D, Ctd.D, Step.D, nsD, nD, hi, he, hpw, ne_hh, hlt, hlt', ixN]
    · have hlt' : ¬ (c.cs[(o.hp.st[i]).e] : Int) < 1000000000 := by omega
      simp [turn_eq, Move.D, Off.D, Play.D, Ctd.D, Step.D, nsD, nD, hi, he, hpw, ne_hh, hlt, hlt', ixN]
end K12
end Z
end

section
set_option maxRecDepth 100000
set_option maxHeartbeats 4000000
namespace Z
open PySem
namespace K12
open Y Y.P
abbrev E14 := Option Z.D
theorem crowd_ev (k : Nat) {o : Off} (c : Ctd) (a0 a3 a4 a5 a6 a8 a9 a10 a11 a12 a13 : E14) (s : Sto) : EV (callF G k) G (.bin .add (.slc (.var 2) .abs (.num 2)) (.tup [(.var 7)])) [a0, some (.dat o.D), some (.dat c.D), a3, a4, a5, a6, some (.dat (nsD (lotN 0 c.cs))), a8, a9, a10, a11, a12, a13] s = .ok (.dat (crowd c).D) s := by
  have hc2 : ∀ x y z : PyData, cut [x, y, z] none (some 2) = [x, y] := fun _ _ _ => rfl
  have hz2 : 3 ≤ sizeLine := by decide +kernel
  simp only [Std.D, Ctd.D, crowd]
  generalize nsD (lotN 0 c.cs) = rD at *
  generalize nsD c.ns = nD' at *
  generalize nsD c.cs = lD at *
  generalize o.D = oD at *
  simp -implicitDefEqProofs [hc2, hz2]
theorem law_counted_right (k : Nat) {o : Off} (ho : o.ok) {c : Ctd} (h : c.fine o) (a0 : Z.D) (ha : a0.isOwn = false) (s : Sto) (hs : flatSto s = true) :
    callF G (k + 9) "_law_counted_right" [a0, .dat o.D, .dat c.D] s = .ok (.dat (.bool true)) s := by
  rw [cal_of g_law_counted_right rfl]
  have hle := cfine_le ho h
  have e1 := fun s => law_moves4 lhands (k + 7) ho s
  have e2 := fun s => let_counted lets k ho h s
  have e3 := fun s => let_moves lets k ho (crowd_fine ho h) s
  have hl := all_len ho
  have hlS : (letsC o c).length ≤ 24 := Nat.le_trans (List.length_filter_le _ _) hl
  have hS : ∀ m ∈ letsC o c, m.ok o := fun m hm => allMoves_ok m (List.mem_filter.mp hm).1
  have hSW : ∀ m ∈ letsS o (crowd c), m.ok o := fun m hm => allMoves_ok m (List.mem_filter.mp hm).1
  have hsub : ∀ m ∈ letsC o c, m ∈ letsS o (crowd c) := fun m hm => by
    obtain ⟨q1, q2⟩ := List.mem_filter.mp hm
    obtain ⟨c', q3⟩ := Option.isSome_iff_exists.mp q2
    obtain ⟨x', q4, _⟩ := done_behind (allMoves_ok m q1) (crowd_holds c) q3
    exact List.mem_filter.mpr ⟨q1, by rw [q4]; rfl⟩
  have hat : ∀ m ∈ letsC o c, m.at_ ≤ 100 := fun m hm => ok_at ho (hS m hm)
  have g0 := moves_gd hat
  have r0 : reprOk (.list [o.D, c.D]) = true := reprOk_of (two_gd (ok_offD ho) ((ctd_gd ho h.ok (by omega) hle).mono (by omega) (by omega)))
  have r1 : reprOk (.list [.list ((letsC o c).map Move.D), .list ((letsC o c).map Move.D)]) = true := reprOk_of (two_gd g0 g0) (by omega) (by omega)
  have r2 : reprOk (.list ((letsC o c).map Move.D)) = true := reprOk_of g0 (by omega) (by omega)
  have hbig : big ((allMoves o).map Move.D).length = true := by rw [List.length_map]; exact big_of (by omega)
  have hbig2 : big ((letsC o c).map Move.D).length = true := by rw [List.length_map]; exact big_of (by omega)
  have hsz : sizeLine = 16777216 := by decide +kernel
  have hz : ((letsC o c).map Move.D).length < sizeLine := by rw [hsz, List.length_map]; omega
  obtain ⟨ms, hms⟩ : ∃ ms, ms = (allMoves o).filter (more o c) := ⟨_, rfl⟩
  have hmk : ∀ m ∈ ms, m.ok o := fun m hm => allMoves_ok m (List.mem_filter.mp (hms ▸ hm)).1
  have hmm : ∀ a3 a4 a5 a6 a7 a8 a9 a10 a11 a12 a13 s, cgo (ETurn (callF G (k + 8)) G (.nm 6) [(.or [(.cmp .eq (.idx (.var 6) (.num 0)) (.txt "head")), (.cmp .lt (.idx (.idx (.var 2) (.num 2)) (.idx (.idx (.idx (.idx (.var 1) (.num 3)) (.num 1)) (.idx (.var 6) (.num 1))) (.num 3))) (.bin .pow (.num 10) (.num 9)))])] (.var 6) [some a0, some (.dat o.D), some (.dat c.D), a3, a4, a5, a6, a7, a8, a9, a10, a11, a12, a13]) ((allMoves o).map Move.D) s = .ok (ms.map Move.D) s := fun a3 a4 a5 a6 a7 a8 a9 a10 a11 a12 a13 s => by
    have h := cgo_if (f := ETurn (callF G (k + 8)) G (.nm 6) [(.or [(.cmp .eq (.idx (.var 6) (.num 0)) (.txt "head")), (.cmp .lt (.idx (.idx (.var 2) (.num 2)) (.idx (.idx (.idx (.idx (.var 1) (.num 3)) (.num 1)) (.idx (.var 6) (.num 1))) (.num 3))) (.bin .pow (.num 10) (.num 9)))])] (.var 6) [some a0, some (.dat o.D), some (.dat c.D), a3, a4, a5, a6, a7, a8, a9, a10, a11, a12, a13]) (s := s) (fun x => more o c (toMove x)) id ((allMoves o).map Move.D) (fun x hx => by
      obtain ⟨m, hm, rfl⟩ := List.mem_map.mp hx
      rw [toMove_D]
      exact more_ev (k + 8) ho h (allMoves_ok m hm) (some a0) a3 a4 a5 a6 a7 a8 a9 a10 a11 a12 a13 s)
    rw [h, List.filter_map, List.map_id, hms]
    congr 2
    refine List.filter_congr fun m _ => ?_
    simp only [Function.comp_apply, toMove_D]
  have hcc : ∀ a3 a4 a5 a6 a7 a8 a9 a10 a11 a12 a13 s, cgo (ETurn (callF G (k + 8)) G (.nm 6) [(.notN (.call "_law_counted" [(.var 1), (.var 2), (.var 6)]))] (.var 6) [some a0, some (.dat o.D), some (.dat c.D), a3, a4, a5, a6, a7, a8, a9, a10, a11, a12, a13]) ((allMoves o).map Move.D) s = .ok ((letsC o c).map Move.D) s := fun a3 a4 a5 a6 a7 a8 a9 a10 a11 a12 a13 s => by
    have h := cgo_if (f := ETurn (callF G (k + 8)) G (.nm 6) [(.notN (.call "_law_counted" [(.var 1), (.var 2), (.var 6)]))] (.var 6) [some a0, some (.dat o.D), some (.dat c.D), a3, a4, a5, a6, a7, a8, a9, a10, a11, a12, a13]) (s := s) (fun x => (done o c (toMove x)).isSome) id ((allMoves o).map Move.D) (fun x hx => by
      obtain ⟨m, hm, rfl⟩ := List.mem_map.mp hx
      have hdn := fun s => law_counted4 lhands (k + 6) ho h.ok (allMoves_ok m hm) s
      rw [toMove_D]
      generalize (allMoves o).map Move.D = ys
      cases hd : done o c m with
      | none =>
        simp only [hd, oF] at hdn
        simp -implicitDefEqProofs [turn_eq, hdn]
      | some c' =>
        simp only [hd, oF] at hdn
        have hno : isNon (.dat c'.D) = false := rfl
        simp -implicitDefEqProofs [turn_eq, hdn, hno])
    rw [h, List.filter_map, List.map_id]
    congr 2
    refine List.filter_congr fun m _ => ?_
    simp only [Function.comp_apply, toMove_D]
  have hin : ∀ a3 a4 a5 a6 a7 a9 a10 a11 a12 a13 s, cgo (ETurn (callF G (k + 8)) G (.nm 6) [] (.cmp .inn (.var 6) (.var 8)) [some a0, some (.dat o.D), some (.dat c.D), a3, a4, a5, a6, a7, some (.dat (.list ((letsS o (crowd c)).map Move.D))), a9, a10, a11, a12, a13]) ((letsC o c).map Move.D) s = .ok (((letsC o c).map Move.D).map fun _ => .bool true) s := fun a3 a4 a5 a6 a7 a9 a10 a11 a12 a13 s => cgo_map _ _ fun x hx => by
    obtain ⟨m, hm, rfl⟩ := List.mem_map.mp hx
    have := in_moves ho hSW (hsub m hm)
    generalize (letsS o (crowd c)).map Move.D = ys at *
    generalize o.D = oD at *
    generalize c.D = cD at *
    simp -implicitDefEqProofs [turn_eq, this]
  have hall : boolsOf (((letsC o c).map Move.D).map fun _ => PyData.bool true) = some (((letsC o c).map Move.D).map fun _ => true) := boolsOf_map (fun _ => true) _
  have hallt : allB (((letsC o c).map Move.D).map fun _ => true) = true := by rw [allB_map]; simp
  obtain ⟨b6, b10, b11, e4⟩ := loop_c (k := k) ho h (some a0) (some (.dat (.list (ms.map Move.D)))) (some (.dat (.list ((letsC o c).map Move.D)))) (some (.own ((letsC o c).map Move.D))) none none (some (.dat (.str (PyData.list [o.D, c.D]).shown))) none none s ms hmk none none none
  have hix : ∀ a3 a4 a5 a6 a7 a8 a9 a10 a11 a12 a13 s, EV (callF G (k + 8)) G (.idx (.var 2) (.num 2)) [some a0, some (.dat o.D), some (.dat c.D), a3, a4, a5, a6, a7, a8, a9, a10, a11, a12, a13] s = .ok (.dat (.tuple (c.cs.map nD))) s := fun a3 a4 a5 a6 a7 a8 a9 a10 a11 a12 a13 s => by
    simp only [Ctd.D, nsD]
    generalize o.D = oD at *
    generalize c.cs.map nD = xs at *
    generalize c.ns.map nD = ys at *
    simp -implicitDefEqProofs
  have hsr : srcD .enum [.tuple (c.cs.map nD)] = some (enumL 0 (c.cs.map nD)) := rfl
  have hlt : ∀ a3 a4 a5 a6 a7 a8 a9 a10 a11 s, cgo (ETurn (callF G (k + 8)) G (.tup [(.nm 12), (.nm 13)]) [(.or [(.cmp .gt (.var 13) (.num 0)), (.cmp .eq (.var 12) (.num 0))])] (.var 12) [some a0, some (.dat o.D), some (.dat c.D), a3, a4, a5, a6, a7, a8, a9, a10, a11, none, none]) (enumL 0 (c.cs.map nD)) s = .ok ((lotN 0 c.cs).map nD) s := fun a3 a4 a5 a6 a7 a8 a9 a10 a11 s => cgo_lot (fun i x => by
    by_cases h1 : 0 < x
    · have h1' : (0 : Int) < x := by omega
      simp [turn_eq, nD, h1, h1']
    · have h1' : ¬ (0 : Int) < x := by omega
      by_cases h2 : i = 0
      · subst h2
        simp [turn_eq, nD, h1, h1']
      · simp [turn_eq, nD, h1, h1', h2]) c.cs 0
  have hbe : big (enumL 0 (c.cs.map nD)).length = true := by
    rw [enum_len, List.length_map]
    exact big_of (by have := h.ok.cs; have := ho.hp.n1; omega)
  have hw := fun a3 a4 a5 a6 a8 a9 a10 a11 a12 a13 s => crowd_ev (k + 8) (o := o) c (some a0) a3 a4 a5 a6 a8 a9 a10 a11 a12 a13 s
  simp only [nsD] at hw
  simp only [heardB] at e4
  generalize (letsC o c).map Move.D = ds at *
  generalize (letsS o (crowd c)).map Move.D = ws at *
  generalize (allMoves o).map Move.D = as at *
  generalize ms.map Move.D = xs at *
  generalize enumL 0 (c.cs.map nD) = es at *
  generalize c.cs.map nD = cL at *
  generalize (lotN 0 c.cs).map nD = lL at *
  generalize (crowd c).D = wD at *
  generalize c.D = cD at *
  generalize o.D = oD at *
  simp -implicitDefEqProofs [-v_bin, -v_idx, Z.f_law_counted_right, e1, e2, e3, hmm, hcc, r0, r1, r2, e4, hix, hsr, hlt, hbe, hw, hin, hall, hallt, hz, hbig, hbig2, hs]
end K12
end Z
end

section
set_option maxRecDepth 100000
set_option maxHeartbeats 4000000
namespace Z
open PySem
namespace K12
open Y Y.P
theorem zeros_in {o : Off} (ho : o.ok) : notesIn o (List.replicate o.bs.length 0) := ⟨by simp, fun p hp => by
  have h1 := (List.mem_replicate.mp (List.of_mem_zip hp).1).2
  have h2 := (ho.bs _ (List.of_mem_zip hp).2).1
  omega⟩
theorem begin_fine {o : Off} (ho : o.ok) : (sBegin o).fine o := ⟨sBegin_ok ho, ho.hd.n0, zeros_in ho, List.mem_cons_self⟩
theorem cbegin_fine {o : Off} (ho : o.ok) {n : Nat} (hn : n ≤ 1000000000) : (cBegin o n).fine o := ⟨cBegin_ok ho n, zeros_in ho, fun x hx => by
  simp only [cBegin, List.mem_cons] at hx
  rcases hx with rfl | hx
  · exact hn
  · have := (List.mem_replicate.mp hx).2
    omega⟩
abbrev rightB : List Sm := [.ife (.or [(.nt (.call "_law_standing_right" [(.var 0), (.var 1), (.call "_law_standing" [(.var 0), (.var 1)])])), (.nt (.call "_law_counted_right" [(.var 0), (.var 1), (.call "_law_counts" [(.var 0), (.var 1)])]))]) [.ret (.bl false)] []]
theorem right_loop (k : Nat) {o : Off} (ho : o.ok) {n : Nat} : ∀ (l : List PyData) (a2 : Option Z.D) (s : Sto) (hp : Pot n s),
    ∃ b2 s', fgo (loopB (callF G (k + 9)) G (.nm 2) rightB) l [some (.ref n), some (.dat o.D), a2] s = .fl (.nx [some (.ref n), some (.dat o.D), b2]) s' ∧ Pot n s'
  | [], a2, s, hp => ⟨a2, s, rfl, hp⟩
  | d :: l, a2, s, hp => by
    obtain ⟨c, s1, e1, p1, hc⟩ := law_standing (k + 6) hp ho
    have e2 := law_standing_right k ho hc (.ref n) rfl s1 p1.all.flat
    obtain ⟨q, s2, e3, p2, hq⟩ := law_counts (k + 5) p1 ho
    have e4 := law_counted_right k ho hq (.ref n) rfl s2 p2.all.flat
    obtain ⟨b2, s3, e5, p3⟩ := right_loop k ho l (some (.dat d)) s2 p2
    refine ⟨b2, s3, ?_, p3⟩
    simp only [fgo]
    have e1 : callF G (k + 9) "_law_standing" [.ref n, .dat o.D] s = .ok (.dat c.D) s1 := e1
    have e3 : callF G (k + 9) "_law_counts" [.ref n, .dat o.D] s1 = .ok (.dat q.D) s2 := e3
    have t : loopB (callF G (k + 9)) G (.nm 2) rightB d [some (.ref n), some (.dat o.D), a2] s = .fl (.nx [some (.ref n), some (.dat o.D), some (.dat d)]) s2 := by
      generalize c.D = cD at *
      generalize q.D = qD at *
      generalize o.D = oD at *
      simp -implicitDefEqProofs [loopB, rightB, e1, e2, e3, e4]
    rw [t, turn_nx]
    exact e5
theorem law_right {n : Nat} {s : Sto} (hp : Pot n s) : ∃ s', callF G 11 "_law_right" [.ref n] s = .ok (.dat (.bool true)) s' ∧ Pots s' := by
  obtain ⟨o, s1, e1, p1, ho, _⟩ := law_office drawn 5 hp (m := 5) (by omega)
  obtain ⟨b2, s2, e2, p2⟩ := right_loop 1 ho (rngL 0 3) none s1 p1
  have e3 := fun s => law_first4 lhands 9 ho s
  have e4 := law_standing_right 1 ho (begin_fine ho) (.ref n) rfl s2 p2.all.flat
  obtain ⟨j, s4, e5, p4, hj⟩ := draws.draw p2 (many := 3) (by omega) (by omega) 9
  have e6 := fun s => counted_begin_of g_law_first_counted 9 ho j s
  have e7 := law_counted_right 1 ho (cbegin_fine ho (n := j) (by omega)) (.ref n) rfl s4 p4.all.flat
  have hr : rngOk 0 3 = true := by decide +kernel
  have e1 : callF G 10 "_law_office" [.ref n, .dat (.int 5)] s = .ok (.dat o.D) s1 := e1
  have e5 : callF G 10 "_law_draw" [.ref n, .dat (.int 3)] s2 = .ok (.dat (.int j)) s4 := e5
  simp only [rightB] at e2
  refine ⟨s4, ?_, p4.all⟩
  rw [cal_of g_law_right rfl]
  generalize (sBegin o).D = bD at *
  generalize (cBegin o j).D = cD at *
  generalize o.D = oD at *
  simp -implicitDefEqProofs [Z.f_law_right, e1, e2, e3, e4, e5, e6, e7, hr]
end K12
theorem good : TX.Good (11 + 1) "law" := fun ns _ => Y.law_all K12.g_law K12.g_law_pot (by decide +kernel) (fun n s hp => K12.law_right hp) ns
end Z
end

set_option maxRecDepth 100000
set_option maxHeartbeats 0
namespace Z
open PySem PySem.Spec PyProof.Rows L2
theorem bnds : ∀ d ∈ TX.dds, TX.Bnds d := by
  intro d hd
  have hd : d ∈ [df_is_integer, df_is_within, df_is_tuple, df_are_rising, df_is_lot, df_is_deed, df_is_step, df_is_player, df_is_office_any, df_are_notes_of, df_is_lot_of, df_is_standing_of, df_is_move_of, df_want_office, df_want_standing, df_want_move, df_notes_behind, df_step_of, df_moves_of, df_lot_with, df_behind, df_next_ones, df_counted_behind, df_counted_next, df_is_counted_any, df_want_counted, df_let_moves, df_let_counted, df_behind_move, df_behind_counted, df_law_pot, df_law_draw, df_law_pick, df_law_step, df_law_player, df_law_office, df_law_notes, df_law_moves, df_law_behind, df_law_counted, df_law_first, df_law_first_counted, df_law_standing, df_law_counts, df_law_standing_right, df_law_counted_right, df_law_right, df_law] := hd
  simp only [List.mem_cons, List.not_mem_nil, or_false] at hd
  rcases hd with rfl | rfl | rfl | rfl | rfl | rfl | rfl | rfl | rfl | rfl | rfl | rfl | rfl | rfl | rfl | rfl | rfl | rfl | rfl | rfl | rfl | rfl | rfl | rfl | rfl | rfl | rfl | rfl | rfl | rfl | rfl | rfl | rfl | rfl | rfl | rfl | rfl | rfl | rfl | rfl | rfl | rfl | rfl | rfl | rfl | rfl | rfl | rfl
  · exact bf_is_integer
  · exact bf_is_within
  · exact bf_is_tuple
  · exact bf_are_rising
  · exact bf_is_lot
  · exact bf_is_deed
  · exact bf_is_step
  · exact bf_is_player
  · exact bf_is_office_any
  · exact bf_are_notes_of
  · exact bf_is_lot_of
  · exact bf_is_standing_of
  · exact bf_is_move_of
  · exact bf_want_office
  · exact bf_want_standing
  · exact bf_want_move
  · exact bf_notes_behind
  · exact bf_step_of
  · exact bf_moves_of
  · exact bf_lot_with
  · exact bf_behind
  · exact bf_next_ones
  · exact bf_counted_behind
  · exact bf_counted_next
  · exact bf_is_counted_any
  · exact bf_want_counted
  · exact bf_let_moves
  · exact bf_let_counted
  · exact bf_behind_move
  · exact bf_behind_counted
  · exact bf_law_pot
  · exact bf_law_draw
  · exact bf_law_pick
  · exact bf_law_step
  · exact bf_law_player
  · exact bf_law_office
  · exact bf_law_notes
  · exact bf_law_moves
  · exact bf_law_behind
  · exact bf_law_counted
  · exact bf_law_first
  · exact bf_law_first_counted
  · exact bf_law_standing
  · exact bf_law_counts
  · exact bf_law_standing_right
  · exact bf_law_counted_right
  · exact bf_law_right
  · exact bf_law
end Z
open PySem PySem.W PySem.Calls PyProof.Rows
theorem PySem.Challenge.cw_boardcrowds_k12_whole_moves_by_hand_holds : PySem.Challenge.rw_boardcrowds_k12_whole_moves_by_hand.Holds := by
  w_on; o_law
  refine HandSHeadRun.head_any (r := Z.Rw) (q := view Z.Rw.prog [77]) (H := Z.hk) (ob := Z.ob) (M := 4000) (loose := Z.loose) (d := HandSHeadRun.topDef Z.Rw.prog 77) (kwd := []) Z.ob_eq
    (by kernel_rfl) (fun s => by kernel_rfl) Z.run (by kernel_rfl) (by kernel_rfl) (by kernel_rfl) (by rfl) (by first | assumption | decide +kernel) (by decide +kernel) ⟨rfl, rfl, rfl, rfl, rfl, by decide +kernel⟩ ?hw ?hc
  case hw => w_witness2
  case hc => exact Z.walkZ (T := Z.TX) (l := PySem.Challenge.rw_boardcrowds_k12_whole_moves_by_hand) (k := 11) (z := Z.df_law) rfl rfl (by kernel_rfl) ⟨rfl, by decide, by decide⟩ (law := "law") (by kernel_rfl) rfl rfl rfl Z.chk_all Z.chk_kb Z.chk_cs Z.bnds Z.chk_hh Z.bhs Z.chk_l Z.good
